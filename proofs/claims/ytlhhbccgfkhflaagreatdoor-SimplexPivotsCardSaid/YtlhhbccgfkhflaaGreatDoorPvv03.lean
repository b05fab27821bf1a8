/-
 Steps of held regions,in short words.
-/
import Derived.Test.YtlhhbccgfkhflaaGreatDoorPvv02
import Derived.Test.YtlhhbccgfkhflaaGreatDoorProg
namespace Go.Proofs.YtlhhbccgfkhflaaGreatDoor
open Go.RowKit
set_option linter.unusedVariables false
set_option maxRecDepth 100000
set_option maxHeartbeats 8000000
open _root_.Go.Lib renaming hid → k
open _root_.Nat renaming le_refl → p, lt_or_ge → E, zero_le → F, mul_le_mul_right → H
open _root_.List renaming getD_eq_getElem?_getD → G
open _root_.Go renaming World → o, Calls → t
open _root_.Go.RowKit renaming Below → f, Hid → e
open _root_.Go.Proofs.Tryz renaming prog → q
variable {L M M' l : List Nat} {U A s b c c' g x r top u u2 v1 d : Int} {V hi C i j lo' m n : Nat} {z D : Value}
theorem bel {a:Prop} (h:a:=by(repeat(first|exact _root_.Go.RowKit.Below.refl _ _|assumption|refine zvh ?_ _|refine ypv ?_|refine yey ?_ ?_ _ _ _|refine ypx ?_ (by omega)|refine C6 ?_ (by assumption)));(first|done|fail)):a:=h
theorem bW (w w':o) (h:f w.heap.size w w':=by exact bel):e (f w.heap.size w w'):=h
section
variable {P : Program} {ops : Array Oper} {Q : Exit → Act → o → Prop} {md : Region.Mode} {S : o → Prop} {y : Oper} {v : Value} {B : Nat} {listed : Array Bool} {a : Act} {w : o}
theorem tT (i:Nat) (s:Tmp) (h:wpAnyH P md ops Q S B (listed.setIfInBounds i true) (a.put (some s) v) w) (hi:ops[i]? =some y:=by rfl) (hd:y.dst=some s:=by rfl) (f:Region.noSelect ops=true:=by kernel_rfl) (hf:Region.free md ops listed i=true:=by kernel_rfl)
 (hr:(Region.ready md ops listed).contains i=true:=by kernel_rfl) (g:Region.wanted y (yielded ops a.tmps)=true:=by rfl) (b:∀c a w,Q (.panic c) (a.put (some s) v) w->Q (.panic c) a w:=by exact fun _ _ _ h=>h)
 (j:∀w,S w->(execOp a.eval y).run P w= .ok (.value v) w:=by(intro w e;(try dsimp only at e);go_simp;(try(with_reducible rfl)))) (d:S w:=by assumption):wpAnyH P md ops Q S (B+1) listed a w:=ynf (some s) hi hd f hf hr g b j d h
theorem tU (i:Nat) (s:Tmp) (h:wpAnyH P md ops Q S B (listed.setIfInBounds i true) (a.put (some s) undef) w) (hi:ops[i]? =some y:=by rfl) (hd:y.dst=some s:=by rfl) (e:Region.noSelect ops=true:=by kernel_rfl) (hf:Region.free md ops listed i=true:=by kernel_rfl)
 (hr:(Region.ready md ops listed).contains i=true:=by kernel_rfl) (f:Region.wanted y (yielded ops a.tmps)=false:=by rfl) (b:∀c a w,Q (.panic c) (a.put (some s) undef) w->Q (.panic c) a w:=by exact fun _ _ _ h=>h) (d:S w:=by assumption):wpAnyH P md ops Q S (B+1) listed a w:=yng (some s) hi hd e hf hr f b d h
theorem sT (i:Nat) (s:Tmp) {q:Prop} (l:q) (hi:ops[i]? =some y:=by rfl) (hd:y.dst=some s:=by rfl) (g:Region.noSelect ops=true:=by kernel_rfl) (hf:Region.free md ops listed i=true:=by kernel_rfl)
 (hr:(Region.ready md ops listed).contains i=true:=by kernel_rfl) (j:Region.wanted y (yielded ops a.tmps)=true:=by rfl) (b:∀c a w,Q (.panic c) (a.put (some s) v) w->Q (.panic c) a w:=by exact fun _ _ _ h=>h)
 (k:∀w,S w->(execOp a.eval y).run P w= .ok (.value v) w:=by(intro w e;(try dsimp only at e);go_simp;(try(with_reducible rfl)))) (d:S w:=by assumption)
 (h:q->wpAnyH P md ops Q S B (listed.setIfInBounds i true) (a.put (some s) v) w:=by(intro f;simp only[Act.put,_root_.List.setIfInBounds_toArray,_root_.List.set_cons_zero,_root_.List.set_cons_succ];exact f)):wpAnyH P md ops Q S (B+1) listed a w:=ynf (some s) hi hd g hf hr j b k d (h l)
theorem sU (i:Nat) (s:Tmp) {q:Prop} (j:q) (hi:ops[i]? =some y:=by rfl) (hd:y.dst=some s:=by rfl) (f:Region.noSelect ops=true:=by kernel_rfl) (hf:Region.free md ops listed i=true:=by kernel_rfl)
 (hr:(Region.ready md ops listed).contains i=true:=by kernel_rfl) (g:Region.wanted y (yielded ops a.tmps)=false:=by rfl) (b:∀c a w,Q (.panic c) (a.put (some s) undef) w->Q (.panic c) a w:=by exact fun _ _ _ h=>h) (d:S w:=by assumption)
 (h:q->wpAnyH P md ops Q S B (listed.setIfInBounds i true) (a.put (some s) undef) w:=by(intro e;simp only[Act.put,_root_.List.setIfInBounds_toArray,_root_.List.set_cons_zero,_root_.List.set_cons_succ];exact e)):wpAnyH P md ops Q S (B+1) listed a w:=yng (some s) hi hd f hf hr g b d (h j)
end
theorem zz1453:(Tryz.prog.info? 140).map (fun i=>(i.zero,i.size,i.bytes))=some (some (.int .u32 0),1,4):=by kernel_rfl
theorem U9:ElT q 28 140 (.int .u32 0) 4:=⟨Tryz.underlying28,info_parts zz1453,rfl⟩
theorem yqy (A B:Option Addr) (c d:Nat) (a b:List Nat) (w:o) (lo hi lo' C:Nat) (ha:Lo a) (E:Lo b) (N:a.length<=maxLen) (O:b.length<=maxLen) (L:SV w lo hi A (C8 .u32 a)) (M:SV w lo' C B (C8 .u32 b))
 (r:Int) (l:a.length<b.length->r= -1) (m:b.length<a.length->r=1) (I:a.length=b.length->r=X6 (val a) (val b)):
 t q 159 #[.slice A a.length c,.slice B b.length d] w fun J w'=>J= .returned (.int .i64 r)/\Dr w w':=by
 unfold maxLen at N O;have v:=k ha;clear ha;have z:=k E;clear E;have D:=k I;clear I;rcases Nat.lt_trichotomy a.length b.length with h|h|h
 ·have g:=k (l h);clear l m;go_in;go_wp2;go_ret;exact⟨J0 g.out.symm,Dr.refl w⟩
 ·have g:=k (D.out h);clear l m D;have T:(((a.length:Int)) !=(b.length:Int))=false:=(by simp[h]);have j:=k h;have K:a.length<=b.length:=og;have S:b.length<=a.length:=og;clear h;go_in;go_wp2;go_loopw [5] (fun i wr=>∃f:Nat,f<=a.length/\i= .int .i64 ((f:Int)-1)/\Dr w wr/\e (a.drop f=b.drop f)) (fun i _=>(intOf i+1).toNat);case atStart=>exact⟨a.length,p _,rfl,Dr.refl w,by rw[List.drop_length,j.out,List.drop_length];rfl⟩
  case round=>
   obtain⟨f,H,rfl,⟨n,rfl⟩,hd⟩:=hrel;rcases f with _|f
   ·go_wp2;go_ret;refine⟨J0 ?_,(Dr.refl w).drewN n⟩;have:=hd.out;simp only[List.drop_zero] at this;rw[g.out,zzn (by rw[this])]
   ·obtain⟨ba,oa,rfl,_,_,F⟩:=L (M5 H);obtain⟨bb,ob,rfl,_,_,G⟩:=M (M5 (Nat.le_trans H K));obtain⟨x,s,U,V⟩:=znn (j:=f) F og;obtain⟨y,u,W,X⟩:=znn (j:=f) G og;clear F G;rw[show(((f+1:Nat):Int)-1)=(f:Int) from by omega];go_wp2;go_quiet (fail);go_wp2
    ·go_ret;refine⟨J0 ?_,((Dr.refl w).drewN n).drewN _⟩;have P:x<y:=(by assumption);rw[g.out,zqz (zzw v.out z.out j.out og hd.out (znu s u))]
    ·go_quiet (fail);go_wp2
     ·go_ret;refine⟨J0 ?_,(((Dr.refl w).drewN n).drewN _).drewN _⟩;have P:y<x:=(by assumption);rw[g.out,ztm (zzw z.out v.out j.out.symm og hd.out.symm (znu s u))]
     ·go_roundw;(case rel=>have Q:y<=x:=(by assumption);have R:x<=y:=(by assumption);exact⟨f,by omega,rfl,⟨_,rfl⟩,k (ygv j.out og hd.out (znu s u))⟩);case measure=>simp[intOf]
 ·have g:=k (m h);clear l m;go_in;go_wp2;go_ret;exact⟨J0 g.out.symm,Dr.refl w⟩
theorem zsu {w:o} {x y lo:Nat} (ha:IsN w lo hi z x) (a:IsN w lo' C D y):
 t q 159 #[z,D] w fun b w'=>b= .returned (.int .i64 (X6 x y))/\Dr w w':=by
 have e:=ha.length_le;have f:=a.length_le;obtain⟨A,c,rfl,_,_,g⟩:=ha;obtain⟨B,d,rfl,_,_,i⟩:=a;refine yqy A B c d (A9 x) (A9 y) w _ _ _ _ (M4 x) (M4 y) e f g i _ ?_ ?_ ?_
 ·intro h;exact zqz (zyq h)
 ·intro h;exact ztm (zyq h)
 ·intro _;rw[R7,R7]
theorem yno {w:o} {lo c:Nat} {A:Option Addr} (d:Lo l) (i:l.length<=c) (f:c<=maxLen) (a:m<=l.length) (g:∀j,m<=j->j<l.length->l.getD j 0=0)
 (e:m=0\/l.getD (m-1) 0≠0) (b:SV w lo hi A (C8 .u32 l)):IsN w lo hi (.slice A m c) (val l):=by
 have h:=yec d a g e;refine⟨A,c,?_,?_,f,?_⟩
 ·rw[h,List.length_take,Nat.min_eq_left a]
 ·rw[h,List.length_take];omega
 ·rw[h,zxj];exact b.take m
theorem zwy (A:Option Addr) (c:Nat) (l:List Nat) (w:o) (lo hi:Nat) (y:Lo l) (B:l.length<=c) (z:c<=maxLen) (b:SV w lo hi A (C8 .u32 l)):
 t q 184 #[.slice A l.length c] w fun I w'=>(∃v,I= .returned v/\IsN w lo hi v (val l))/\w=w':=by
 have h:=k z;unfold maxLen at z;have g:=k y;clear y;go_in;go_wp2;go_loop [0] (fun s=>∃m:Nat,m<=l.length/\s= .slice A m c/\e (∀j,m<=j->j<l.length->l.getD j 0=0)) (fun s=>match s with| .slice _ m _=>m|_=>0);case atStart=>exact⟨l.length,p _,rfl,k (by intro j n r;omega)⟩
 case round=>
  obtain⟨m,C,rfl,d⟩:=hrel;rcases m with _|m
  ·go_wp2;go_ret;exact⟨⟨_,rfl,yno g.out B h.out (F _) d.out (.inl rfl) b⟩,rfl⟩
  ·obtain⟨ba,oa,rfl,_,_,u⟩:=b (M5 C);obtain⟨x,D,K,L⟩:=znn (j:=m) u og;clear u;by_cases i:x=0
   ·subst i;go_wp2;go_round
    case rel=>exact⟨m,by omega,rfl,k (by
     intro j n r;rcases Nat.eq_or_lt_of_le n with a|a
     ·subst a;have:=D.out;omega
     ·exact d.out j a r)⟩
    case measure=>simp
   ·have J:(x==0)=false:=(by simpa using i);go_wp2;go_ret;exact⟨⟨_,rfl,yno g.out B h.out C d.out (.inr (by have:=D.out;simp only[Nat.add_sub_cancel];omega)) b⟩,rfl⟩
theorem ynp {w:o} {lo:Nat} (ha:IsL .u32 w lo hi z l) (e:Lo l):
 t q 184 #[z] w fun a w'=>(∃v,a= .returned v/\IsN w lo hi v (val l))/\w=w':=by obtain⟨A,c,rfl,hc,d,b⟩:=ha;exact zwy A c l w lo hi e hc d b
theorem znv (w:o):
 t q 130 #[] w fun a w'=>(∃v,a= .returned v/\IsN w' w.heap.size w'.heap.size v 1)/\f w.heap.size w w':=by go_in;go_wp2;go_ret;refine⟨⟨_,rfl,?_⟩,(Below.refl _ _).alloc (p _) _⟩;have h:=ybp .u32 w 140 [1] (by simp[maxLen]);unfold IsN;rw[zkf,World.size_alloc];exact h
theorem zpm {w:o} {x lo:Nat} (ha:IsN w lo hi z x) (h:(A9 x).length<=4294967296):
 t q 128 #[z] w fun a w'=>(∃v,a= .returned v/\IsN w' w.heap.size w'.heap.size v x)/\f w.heap.size w w':=by obtain⟨A,c,rfl,hc,g,b⟩:=ha;go_in;go_wp2_with (at_builtin;refine yej U9 rfl _ _ rfl rfl (Own.nil _ _ _) rfl (zmh _ _) b (yap _ _) (by simp only[List.length_nil];omega) (p _) ?_;intro v1 j e d i);go_ret;exact⟨⟨_,rfl,Own.isL (by simpa using e)⟩,d⟩
theorem zlc (a:IntKind) (l:List Nat) (x:Nat) (y:Int) (h:y=(x:Int)):C8 a l++[.int a y]=C8 a (l++[x]):=by subst h;simp[C8]
theorem ycr (w:o) (n:Nat) (A:n<=18446744073709551615):
 t q 190 #[.int .u64 (n:Int)] w fun s w'=>(∃v,s= .returned v/\IsN w' w.heap.size w'.heap.size v n)/\f w.heap.size w w':=by
 generalize d:w.heap.size=B;have r:=k d;clear d;go_in;go_wp2;go_loopw [0,3] (fun x v wr=>∃m:Nat,∃l:List Nat,x= .int .u64 (m:Int)/\m<=n/\Own wr B 140 v (C8 .u32 l)/\f B w wr/\l.length+(A9 m).length<=5/\e (l++A9 m=A9 n)) (fun x _ _=>(intOf x).toNat);case atStart=>refine⟨n,[],rfl,p _,Own.nil _ _ _,Below.refl _ _,?_,rfl⟩;rw[List.length_nil,Nat.zero_add,lim_len_le];simp[pw];omega
 case round=>
  obtain⟨m,l,rfl,z,i,a,h,g⟩:=hrel;have u:B<=wr.heap.size:=(by have:=a.size;have:=r.out;omega);by_cases b:m=0
  ·subst b;go_wp2;go_ret;have:=g.out;rw[N6,List.append_nil] at this;subst this;exact⟨⟨_,rfl,Own.isL i⟩,a⟩
  ·go_wp2_with (at_builtin;refine zlk U9 rfl _ _ rfl rfl i rfl rfl (by rw[zmh];omega) u ?_;intro v1 D j y C);go_roundw
   case rel=>
    rw[zlc .u32 l (m%1000000000) _ og] at j;have c:=zpb b;refine⟨m/1000000000,l++[m%1000000000],by go_num,by omega,j,a.trans y,?_,?_⟩
    ·rw[c] at h;simp only[List.length_append,List.length_cons,List.length_nil] at h⊢;omega
    ·have:=g.out;rw[c] at this;rw[<-this,List.append_assoc];rfl
   case measure=>simp[intOf];omega
theorem ycq (w:o) (n:Int) (b:0<=n) (c:n<=18446744073709551615):
 t q 190 #[.int .u64 n] w fun a w'=>(∃v,a= .returned v/\IsN w' w.heap.size w'.heap.size v n.toNat)/\f w.heap.size w w':=by obtain⟨m,rfl⟩:=Int.eq_ofNat_of_zero_le b;exact ycr w m og
theorem zrw (n:Nat):Lo (List.replicate n 0):=by intro x a;rw[List.mem_replicate] at a;omega
theorem zz1423 (A B:Option Addr) (c d:Nat) (a b:List Nat) (w:o) (lo hi lo' C:Nat) (aa:hi<=w.heap.size) (ab:C<=w.heap.size) (ha:Lo a) (J:Lo b) (ah:a.length<=4294967296) (Z:b.length<=a.length) (P:val b<=val a)
 (W:SV w lo hi A (C8 .u32 a)) (X:SV w lo' C B (C8 .u32 b)):
 t q 188 #[.slice A a.length c,.slice B b.length d] w fun H w'=>(∃v,H= .returned v/\IsN w' w.heap.size w'.heap.size v (val a-val b))/\f w.heap.size w w':=by
 have S:=k ha;clear ha;have T:=k J;clear J;have U:=k P;clear P;go_in;go_wp2_with (at_make;refine ztq U9 rfl _ _ rfl a.length rfl rfl rfl rfl og ?_;intro j aC I ae Y af)
 go_loopw [6,15] (fun V i wr=>∃g:Nat,∃L:List Nat,∃h:Int,g<=a.length/\i= .int .i64 (g:Int)/\V= .int .i64 h/\0<=h/\h<=1/\Row wr j 140 (C8 .u32 L)/\f j w wr/\e (wr.heap.size=j+1)/\
  e (L.length=a.length/\Lo L/\(val (L.take g):Int)=val (a.take g)-val (b.take g)+h*pw g)) (fun _ i _=>a.length-(intOf i).toNat)
 case atStart=>exact⟨0,_,0,F _,rfl,rfl,by omega,by omega,ae,Y,af,by simp,zrw _,by simp[val]⟩
 case round=>
  obtain⟨g,L,h,al,rfl,rfl,ai,aj,hr,l,m,hrel⟩:=hrel;have G:f w.heap.size w wr:=(by have:=I.out;subst this;exact l);rcases E g a.length with s|ak
  ·obtain⟨ba,oa,rfl,_,_,K⟩:=(W.below G aa) (M5 (j:=g) s);obtain⟨x,u,an,ao,aq⟩:=W4 (j:=g) S.out K s;clear K;obtain⟨z,ay,az,aA⟩:=hr.num (i:=g) (by rw[hrel.out.1];exact s);have aB:=hr.frozen g;have r:e (g<L.length):=(by rw[hrel.out.1];exact s);rcases E g b.length with O|N
   ·obtain⟨bb,ob,rfl,_,_,M⟩:=(X.below G ab) (M5 (j:=g) O);obtain⟨y,Q,ar,au,av⟩:=W4 (j:=g) T.out M O;clear M;rcases Int.lt_or_le (x-h-y) 0 with ac|ad
    ·go_wp2;go_roundw
     case rel=>
      exact⟨g+1,L.set g (x-h-y+1000000000).toNat,1,by omega,by go_num,rfl,by omega,by omega,hr.setNum g _ _ og,l.setCell (p _) _,by have:=m.out;simpa[e,World.setCell] using this,
       by rw[List.length_set];exact hrel.out.1,W5 hrel.out.2.1 og,zzs r.out u.out Q.out og og hrel.out.2.2⟩
     case measure=>simp[intOf];omega
    ·go_wp2;go_roundw
     case rel=>
      exact⟨g+1,L.set g (x-h-y).toNat,0,by omega,by go_num,rfl,by omega,by omega,hr.setNum g _ _ og,l.setCell (p _) _,by have:=m.out;simpa[e,World.setCell] using this,
       by rw[List.length_set];exact hrel.out.1,W5 hrel.out.2.1 og,zzs r.out u.out Q.out og og hrel.out.2.2⟩
     case measure=>simp[intOf];omega
   ·rcases Int.lt_or_le (x-h) 0 with ac|ad
    ·go_wp2;go_roundw
     case rel=>
      exact⟨g+1,L.set g (x-h+1000000000).toNat,1,by omega,by go_num,rfl,by omega,by omega,hr.setNum g _ _ og,l.setCell (p _) _,by have:=m.out;simpa[e,World.setCell] using this,
       by rw[List.length_set];exact hrel.out.1,W5 hrel.out.2.1 og,zzs (y:=0) r.out u.out (by rw[zmj N];rfl) og og hrel.out.2.2⟩
     case measure=>simp[intOf];omega
    ·go_wp2;go_roundw
     case rel=>
      exact⟨g+1,L.set g (x-h).toNat,0,by omega,by go_num,rfl,by omega,by omega,hr.setNum g _ _ og,l.setCell (p _) _,by have:=m.out;simpa[e,World.setCell] using this,
       by rw[List.length_set];exact hrel.out.1,W5 hrel.out.2.1 og,zzs (y:=0) r.out u.out (by rw[zmj N];rfl) og og hrel.out.2.2⟩
     case measure=>simp[intOf];omega
  ·obtain rfl:g=a.length:=og;have D:=hrel.out.1;have hv:=ymx D rfl Z hrel.out.2.1 og U.out hrel.out.2.2;have hlo:=hrel.out.2.1;have ag:=hrel;clear hrel;have n:e (Row wr j 140 (C8 .u32 L)/\val L=val a-val b/\L.length=a.length):=⟨hr,hv,D⟩;have R:=k hlo;clear hv hlo hr D;go_wp2_with fail;rw[<-n.out.2.2];refine(zwy _ _ L wr j (j+1) R.out (p _) (by have:=n.out.2.2;unfold maxLen;omega) n.out.1.sv).mono ?_;rintro H aD ⟨⟨v,rfl,hv⟩,rfl⟩;go_wp2_with fail;go_ret;refine⟨⟨_,rfl,?_⟩,G⟩;rw[<-n.out.2.1];exact hv.wide (oh I) (oh m)
theorem ymy {w:o} {x y lo:Nat} (ha:IsN w lo hi z x) (i:IsN w lo' C D y) (j:hi<=w.heap.size) (k:C<=w.heap.size) (a:y<=x) (l:(A9 x).length<=4294967296):
 t q 188 #[z,D] w fun b w'=>(∃v,b= .returned v/\IsN w' w.heap.size w'.heap.size v (x-y))/\f w.heap.size w w':=by obtain⟨A,c,rfl,_,_,e⟩:=ha;obtain⟨B,d,rfl,_,_,g⟩:=i;have h:=zz1423 A B c d (A9 x) (A9 y) w _ _ _ _ j k (M4 x) (M4 y) l (W9 a) (by rw[R7,R7];exact a) e g;rw[R7,R7] at h;exact h
theorem yxe (A B:Option Addr) (c d:Nat) (a b:List Nat) (w:o) (lo hi lo' C:Nat) (ae:hi<=w.heap.size) (af:C<=w.heap.size) (ha:Lo a) (P:Lo b) (au:a.length<=4294967296) (ay:b.length<=4294967296)
 (aa:SV w lo hi A (C8 .u32 a)) (ab:SV w lo' C B (C8 .u32 b)):
 t q 160 #[.slice A a.length c,.slice B b.length d] w fun n w'=>(∃v,n= .returned v/\IsN w' w.heap.size w'.heap.size v (val a*val b))/\f w.heap.size w w':=by
 have X:=k ha;clear ha;have Y:=k P;clear P;rcases Nat.eq_zero_or_pos a.length with O|O
 ·have n:a=[]:=List.eq_nil_of_length_eq_zero O;subst n;go_in;go_wp2;go_ret;exact⟨⟨_,rfl,by rw[val,Nat.zero_mul,IsN,N6];exact IsL.nil⟩,Below.refl _ _⟩
 have av:((a.length:Int)==0)=false:=beq_eq_false_iff_ne.2 og;rcases Nat.eq_zero_or_pos b.length with Q|Q
 ·have n:b=[]:=List.eq_nil_of_length_eq_zero Q;subst n;go_in;go_wp2;go_ret;exact⟨⟨_,rfl,by rw[show val ([]:List Nat)=0 from rfl,Nat.mul_zero,IsN,N6];exact IsL.nil⟩,Below.refl _ _⟩
 have az:((b.length:Int)==0)=false:=beq_eq_false_iff_ne.2 og;go_in;go_wp2_with (at_make;refine ztq U9 rfl _ _ rfl (a.length+b.length) rfl rfl rfl rfl og ?_;intro h aJ I ag ac W)
 go_loopw [29] (fun i wr=>∃g:Nat,∃L:List Nat,g<=a.length/\i= .int .i64 (g:Int)/\Row wr h 140 (C8 .u32 L)/\f h w wr/\e (wr.heap.size=h+1)/\
  e (L.length=a.length+b.length/\Lo L/\(∀j,g+b.length<=j->L.getD j 0=0)/\val L=val (a.take g)*val b)) (fun i _=>a.length-(intOf i).toNat)
 case atStart=>exact⟨0,_,F _,rfl,ag,ac,W,by simp,zrw _,fun j _=>by rw[G,List.getElem?_replicate];split<;>rfl,by rw[ynv,Nat.zero_mul];exact zzz (fun x J=>(List.mem_replicate.1 J).2)⟩
 case round=>
  obtain⟨g,L,aE,rfl,hr,m,r,hrel⟩:=hrel;have u:f w.heap.size w wr:=(by have:=I.out;subst this;exact m);rcases E g a.length with U|aB
  ·obtain⟨ba,oa,rfl,_,_,R⟩:=(aa.below u ae) (M5 (j:=g) U);obtain⟨x,J,ah,ai,aj⟩:=W4 (j:=g) X.out R U;clear R;have D:=hrel;clear hrel;obtain⟨aL,rfl⟩:=nm (wr:o);go_wp2
   go_loopw [9,39] (fun Z i N=>∃j:Nat,∃M:List Nat,∃l:Int,j<=b.length/\i= .int .i64 (j:Int)/\Z= .int .u64 l/\0<=l/\l<=999999999/\Row N h 140 (C8 .u32 M)/\f h w N/\e (N.heap.size=h+1)/\
    e (M.length=a.length+b.length/\Lo M/\(∀j,g+b.length<=j->M.getD j 0=0)/\(val M:Int)+l*pw (g+j)=val L+x*pw g*val (b.take j))) (fun _ i _=>b.length-(intOf i).toNat)
   case atStart=>exact⟨0,L,0,F _,rfl,rfl,by omega,by omega,hr,m,r,D.out.1,D.out.2.1,D.out.2.2.1,by simp[val]⟩
   case round=>
    clear hr m u r aj;obtain⟨j,M,l,aC,rfl,rfl,ad,aA,hr,m,r,hrel⟩:=hrel;have u:f w.heap.size w wr:=(by have:=I.out;subst this;exact m);have H:e (g+b.length<M.length):=(by rw[hrel.out.1];unfold e;omega);rcases E j b.length with T|aD
    ·obtain⟨bb,ob,rfl,_,_,S⟩:=(ab.below u af) (M5 (j:=j) T);obtain⟨y,ak,al,an,aI⟩:=W4 (j:=j) Y.out S T;clear S;obtain⟨z,V,ao,W,aq⟩:=hr.lo hrel.out.2.1 (i:=g+j) (oh H);have ar:=hr.frozen (g+j);have K:=zpq ah ai al an;have aG:=K.1;have aH:=K.2;clear K;go_wp2;go_roundw
     case rel=>
      exact⟨j+1,M.set (g+j) (x*y+z+l-(x*y+z+l)/1000000000*1000000000).toNat,(x*y+z+l)/1000000000,by omega,by go_num,rfl,by omega,by omega,hr.setNum (g+j) _ _ og,m.setCell (p _) _,
       by have:=r.out;simpa[e,World.setCell] using this,by rw[List.length_set];exact hrel.out.1,W5 hrel.out.2.1 og,fun i hi=>by rw[getD_set_ne og];exact hrel.out.2.2.1 i hi,
       yjl (oh H) ak.out V.out rfl rfl og hrel.out.2.2.2⟩
     case measure=>simp[intOf];omega
    ·obtain rfl:j=b.length:=og;obtain⟨z,V,ao,aq⟩:=hr.num (i:=g+b.length) H.out;have ar:=hr.frozen (g+b.length);go_wp2;go_roundw
     case rel=>
      exact⟨g+1,M.set (g+b.length) l.toNat,by omega,by go_num,hr.setNum (g+b.length) _ _ og,m.setCell (p _) _,
       by have:=r.out;simpa[e,World.setCell] using this,by rw[List.length_set];exact hrel.out.1,W5 hrel.out.2.1 og,fun i hi=>by rw[getD_set_ne og];exact hrel.out.2.2.1 i og,
       yjk rfl H.out J.out (hrel.out.2.2.1 _ (p _)) ad D.out.2.2.2 hrel.out.2.2.2⟩
     case measure=>simp[intOf];omega
  ·obtain rfl:g=a.length:=og;have s:e (Row wr h 140 (C8 .u32 L)/\val L=val a*val b/\L.length=a.length+b.length/\Lo L):=⟨hr,by have:=hrel.out.2.2.2;rw[zki (p _)] at this;exact this,hrel.out.1,hrel.out.2.1⟩;clear hr hrel;go_wp2_with fail;rw[<-s.out.2.2.1];refine(zwy _ _ L wr h (h+1) s.out.2.2.2 (p _) (by have:=s.out.2.2.1;unfold maxLen;omega) s.out.1.sv).mono ?_;rintro n aK ⟨⟨v,rfl,hv⟩,rfl⟩;go_wp2_with fail;go_ret;refine⟨⟨_,rfl,?_⟩,u⟩;rw[<-s.out.2.1];exact hv.wide (oh I) (oh r)
theorem znt {w:o} {x y lo:Nat} (ha:IsN w lo hi z x) (g:IsN w lo' C D y) (i:hi<=w.heap.size) (j:C<=w.heap.size) (k:(A9 x).length<=4294967296) (l:(A9 y).length<=4294967296):
 t q 160 #[z,D] w fun a w'=>(∃v,a= .returned v/\IsN w' w.heap.size w'.heap.size v (x*y))/\f w.heap.size w w':=by obtain⟨A,c,rfl,_,_,b⟩:=ha;obtain⟨B,d,rfl,_,_,e⟩:=g;have h:=yxe A B c d (A9 x) (A9 y) w _ _ _ _ i j (M4 x) (M4 y) k l b e;rw[R7,R7] at h;exact h
theorem zz1412 (A:Option Addr) (c:Nat) (a:List Nat) (b:Int) (w:o) (lo hi:Nat) (J:hi<=w.heap.size) (ha:Lo a) (U:a.length<=4294967296) (V:1<=b) (y:b<=999999999)
 (I:SV w lo hi A (C8 .u32 a)):
 t q 195 #[.slice A a.length c,.int .u32 b] w fun s w'=>(∃v,s= .returned (.tuple #[v,.int .u32 ((val a%b.toNat:Nat):Int)])/\IsN w' w.heap.size w'.heap.size v (val a/b.toNat))/\f w.heap.size w w':=by
 have H:=k ha;clear ha;go_in;go_wp2_with (at_make;refine ztq U9 rfl _ _ rfl a.length rfl rfl rfl rfl og ?_;intro g ac u O y S)
 go_loopw [7,8] (fun T i wr=>∃d:Nat,∃L:List Nat,∃r:Int,d<=a.length/\i= .int .i64 ((d:Int)-1)/\T= .int .u64 r/\0<=r/\r<=b-1/\Row wr g 140 (C8 .u32 L)/\f g w wr/\e (wr.heap.size=g+1)/\
  e (L.length=a.length/\Lo L/\(val (a.drop d):Int)=val (L.drop d)*b+r)) (fun _ i _=>(intOf i+1).toNat)
 case atStart=>exact⟨a.length,_,0,p _,rfl,rfl,by omega,by omega,O,y,S,by simp,zrw _,by simp[val]⟩
 case round=>
  obtain⟨d,L,r,l,rfl,rfl,m,F,hr,B,G,hrel⟩:=hrel;have C:f w.heap.size w wr:=(by have:=u.out;subst this;exact B);rcases d with _|d
  ·have E:=yml og m F hrel.out.2.2;have j:e (Row wr g 140 (C8 .u32 L)/\L.length=a.length/\Lo L):=⟨hr,hrel.out.1,hrel.out.2.1⟩;have n:=k E;clear hr hrel E;go_wp2_with fail;rw[<-j.out.2.1];refine(zwy _ _ L wr g (g+1) j.out.2.2 (p _) (by have:=j.out.2.1;unfold maxLen;omega) j.out.1.sv).mono ?_;rintro s ad ⟨⟨v,rfl,hv⟩,rfl⟩;go_wp2_with fail;go_ret2;refine⟨⟨v,?_,?_⟩,C⟩
   ·rw[<-n.out.2,Int.toNat_of_nonneg m];rfl
   ·rw[<-n.out.1];exact hv.wide (oh u) (oh G)
  ·obtain⟨ba,oa,rfl,_,_,D⟩:=(I.below C J) (M5 (j:=d) l);obtain⟨x,P,Q,R,X⟩:=W4 (j:=d) H.out D l;clear D;obtain⟨z,Y,Z,aa⟩:=hr.num (i:=d) (by rw[hrel.out.1];exact l);have ab:=hr.frozen d;have h:=ymk m F Q R;have K:=h.1;have W:=h.2.1;have M:=h.2.2.1;have N:=h.2.2.2;clear h;rw[show(((d+1:Nat):Int)-1)=(d:Int) from by omega];go_wp2;go_roundw
   case rel=>
    exact⟨d,L.set d ((r*1000000000+x)/b).toNat,(r*1000000000+x)%b,by omega,rfl,rfl,M,N,hr.setNum d _ _ og,B.setCell (p _) _,by have:=G.out;simpa[e,World.setCell] using this,
     by rw[List.length_set];exact hrel.out.1,W5 hrel.out.2.1 og,ymn l hrel.out.1 P.out K hrel.out.2.2⟩
   case measure=>simp[intOf]
theorem ymm {w:o} {x lo:Nat} (ha:IsN w lo hi z x) (k:hi<=w.heap.size) (l:(A9 x).length<=4294967296) (i:1<=b) (j:b<=999999999):
 t q 195 #[z,.int .u32 b] w fun a w'=>(∃v r,a= .returned (.tuple #[v,.int .u32 r])/\0<=r/\r<=999999999/\e (r.toNat=x%b.toNat)/\IsN w' w.heap.size w'.heap.size v (x/b.toNat))/\f w.heap.size w w':=by obtain⟨A,c,rfl,_,_,d⟩:=ha;have h:=zz1412 A c (A9 x) b w _ _ k (M4 x) l i j d;rw[R7] at h;refine h.mono ?_;rintro a w' ⟨⟨v,rfl,hv⟩,g⟩;exact⟨⟨v,_,rfl,by omega,by have:=Nat.mod_lt x (show 0<b.toNat by omega);omega,rfl,hv⟩,g⟩
theorem zz1443 (A:Option Addr) (c:Nat) (a:List Nat) (x:Int) (n:Nat) (w:o) (lo hi:Nat) (U:hi<=w.heap.size) (ha:Lo a) (Q:a.length<=n) (ae:n<=8589934592) (J:0<=x) (W:x<=999999999) (C:val a*x.toNat<pw n)
 (P:SV w lo hi A (C8 .u32 a)):
 t q 196 #[.slice A a.length c,.int .u64 x,.int .i64 (n:Int)] w fun O w'=>(∃g L,O= .returned (.slice (some ⟨g,0,none⟩) n n)/\w.heap.size<=g/\Row w' g 140 (C8 .u32 L)/\L.length=n/\Lo L/\val L=val a*x.toNat)/\f w.heap.size w w':=by
 have K:=k ha;clear ha;have M:=k C;clear C;go_in;go_wp2_with (at_make;refine ztq U9 rfl _ _ rfl n rfl rfl rfl rfl og ?_;intro j ao u V R ak)
 go_loopw [8,14] (fun N i wr=>∃b:Nat,∃L:List Nat,∃d:Int,b<=n/\i= .int .i64 (b:Int)/\N= .int .u64 d/\0<=d/\d<=999999999/\Row wr j 140 (C8 .u32 L)/\f j w wr/\
  e (L.length=n/\Lo L/\(val (L.take b):Int)+d*pw b=val (a.take b)*x)) (fun _ i _=>n-(intOf i).toNat)
 case atStart=>exact⟨0,_,0,F _,rfl,rfl,by omega,by omega,V,R,by simp,zrw _,by simp[val]⟩
 case round=>
  obtain⟨b,L,d,ad,rfl,rfl,S,ab,hr,r,hrel⟩:=hrel;have v:f w.heap.size w wr:=(by have:=u.out;subst this;exact r);rcases E b n with I|ac
  ·obtain⟨z,ai,aj,al⟩:=hr.num (i:=b) (by rw[hrel.out.1];exact I);have an:=hr.frozen b;have D:e (b<L.length):=(by rw[hrel.out.1];exact I);rcases E b a.length with G|T
   ·obtain⟨ba,oa,rfl,_,_,B⟩:=(P.below v U) (M5 (j:=b) G);obtain⟨y,X,Y,Z,ah⟩:=W4 (j:=b) K.out B G;clear B;have s:=zpq Y Z J W;have af:=s.1;have ag:=s.2;clear s;go_wp2;go_roundw
    case rel=>
     exact⟨b+1,L.set b ((d+y*x)%1000000000).toNat,(d+y*x)/1000000000,by omega,by go_num,rfl,by omega,by omega,hr.setNum b _ _ og,r.setCell (p _) _,
      by rw[List.length_set];exact hrel.out.1,W5 hrel.out.2.1 og,ynl D.out X.out og og hrel.out.2.2⟩
    case measure=>simp[intOf];omega
   ·go_wp2;go_roundw
    case rel=>
     exact⟨b+1,L.set b (d%1000000000).toNat,d/1000000000,by omega,by go_num,rfl,by omega,by omega,hr.setNum b _ _ og,r.setCell (p _) _,
      by rw[List.length_set];exact hrel.out.1,W5 hrel.out.2.1 og,ynl (y:=0) D.out (by rw[zmj T];rfl) og og hrel.out.2.2⟩
    case measure=>simp[intOf];omega
  ·obtain rfl:b=n:=og;go_wp2;go_ret;refine⟨⟨j,L,rfl,by have:=u.out;omega,hr,hrel.out.1,hrel.out.2.1,?_⟩,v⟩;have h:=hrel.out.2.2;rw[zki (Nat.le_of_eq hrel.out.1),zki Q] at h;obtain⟨m,rfl⟩:=Int.eq_ofNat_of_zero_le J;obtain⟨y,rfl⟩:=Int.eq_ofNat_of_zero_le S;have hf:=M.out;simp only[Int.toNat_natCast] at hf⊢;have aa:val L+y*pw b=val a*m:=(by apply Int.ofNat_inj.1;simpa using h);rcases Nat.eq_zero_or_pos y with l|l
   ·subst l;omega
   ·have:=H (pw b) l;omega
theorem ynj {w:o} {x lo:Nat} {a b:Int} (ha:IsN w lo hi z x) (l:hi<=w.heap.size) (n:Nat) (p:b=(n:Int)) (r:(A9 x).length<=n) (m:n<=8589934592) (i:0<=a) (j:a<=999999999) (k:x*a.toNat<pw n):
 t q 196 #[z,.int .u64 a,.int .i64 b] w fun d w'=>(∃g L,d= .returned (.slice (some ⟨g,0,none⟩) n n)/\w.heap.size<=g/\Row w' g 140 (C8 .u32 L)/\L.length=n/\Lo L/\val L=x*a.toNat)/\f w.heap.size w w':=by subst p;obtain⟨A,c,rfl,_,_,e⟩:=ha;have h:=zz1443 A c (A9 x) a n w _ _ l (M4 x) r m i j (by rw[R7];exact k) e;rw[R7] at h;exact h
theorem zne {a:Int} (h:a<=b) (hc:0<=c):a*c<=b*c:=Int.mul_le_mul_of_nonneg_right h hc
theorem ytk {V Q:Int} (a:0<Q) (f:0<=s) (m:A<Q) (h:0<=d) (o:u2<=999999999) (n:0<=g) (hg:top<(g+1)*v1)
 (c:U=(top*1000000000+u2)*Q+A) (e:V=(v1*1000000000+d)*Q+s):U<(g+1)*V:=by have i:U<(top*1000000000+u2+1)*Q:=(by rw[c,Int.add_mul (top*1000000000+u2) 1 Q];omega);have b:top*1000000000+u2+1<=((g+1)*v1)*1000000000:=og;have j:=zne b (Int.le_of_lt a);have k:(g+1)*V=(g+1)*v1*1000000000*Q+(g+1)*(d*Q+s):=(by rw[e];grind);have l:0<=(g+1)*(d*Q+s):=Int.mul_nonneg og (Int.add_nonneg (Int.mul_nonneg h (Int.le_of_lt a)) f);omega
theorem yti {V:Int} (a:0<=V) (h:U<V*1000000000) (hg:1000000000<=g):U<g*V:=by have:=zne hg a;have b:1000000000*V=V*1000000000:=Int.mul_comm _ _;omega
theorem ytm {V Q:Int} (b:0<Q) (f:0<=s) (n:A<Q) (i:0<=g) (o:g*v1+r=top) (h:r*1000000000+u2<g*d)
 (c:U=(top*1000000000+u2)*Q+A) (e:V=(v1*1000000000+d)*Q+s):U<g*V:=by have j:U<(top*1000000000+u2+1)*Q:=(by rw[c,Int.add_mul (top*1000000000+u2) 1 Q];omega);have a:top*1000000000+u2+1<=g*v1*1000000000+g*d:=og;have k:=zne a (Int.le_of_lt b);have l:g*V=(g*v1*1000000000+g*d)*Q+g*s:=(by rw[e];grind);have m:0<=g*s:=Int.mul_nonneg i f;omega
theorem ytl {V Q:Int} (a:0<Q) (o:s<Q) (m:0<=A) (u:d<=999999999) (c:0<=u2) (t:1<=v1) (q:g*v1+r=top) (hr:1000000000<=r) (p:U<V*1000000000)
 (b:U=(top*1000000000+u2)*Q+A) (n:V=(v1*1000000000+d)*Q+s):g<=999999999:=by
 have f:V<(v1*1000000000+1000000000)*Q:=(by have h:=zne (show v1*1000000000+d+1<=v1*1000000000+1000000000 by omega) (Int.le_of_lt a);rw[Int.add_mul (v1*1000000000+d) 1 Q] at h;omega);have i:top*1000000000*Q<=U:=by rw[b,Int.add_mul];have:=Int.mul_nonneg c (Int.le_of_lt a);omega
 have j:top<v1*1000000000+1000000000:=by
  rcases Int.lt_or_le top (v1*1000000000+1000000000) with h|h
  ·exact h
  ·have k:=zne (zne h (by omega:(0:Int)<=1000000000)) (Int.le_of_lt a);have e:(v1*1000000000+1000000000)*1000000000*Q=(v1*1000000000+1000000000)*Q*1000000000:=(by grind);omega
 rcases Int.lt_or_le g 1000000000 with h|h
 ·omega
 ·have l:=zne h (by omega:0<=v1);omega
theorem ytj {V Q:Int} (a:0<Q) (f:s<Q) (i:0<=s) (u:0<=A) (k:0<=d) (l:d<=999999999) (w:0<=u2) (x:1<=v1) (j:0<=g) (hg:g<=999999999) (v:g*v1+r=top)
 (h:1000000000<=r\/g*d<=r*1000000000+u2) (t:U=(top*1000000000+u2)*Q+A) (b:V=(v1*1000000000+d)*Q+s):g*V<=U+V:=by
 have e:g*v1*1000000000+g*d<=top*1000000000+u2:=by
  rcases h with h|h
  ·have:=(zpq j hg k l).2;omega
  ·omega
 have n:=zne e (Int.le_of_lt a);have o:g*V=(g*v1*1000000000+g*d)*Q+g*s:=(by rw[b];grind);have p:g*s<=1000000000*Q:=(by have c:=zne hg i;have m:=Int.mul_le_mul_of_nonneg_left (Int.le_of_lt f) (by omega:(0:Int)<=999999999);omega);have q:1000000000*Q<=V:=(by rw[b];have c:=zne (show 1000000000<=v1*1000000000+d by omega) (Int.le_of_lt a);omega);omega
theorem zxw {v:List Nat} {x y:Int} (b:i<M'.length) (e:x=(M.getD i 0:Nat)) (f:y=(v.getD i 0:Nat)) (hr:r=x-(g*y+c)+c'*1000000000) (d:0<=r)
 (h:(val (M'.take i):Int)=val (M.take i)-g*val (v.take i)+c*pw i):
 (val ((M'.set i r.toNat).take (i+1)):Int)=val (M.take (i+1))-g*val (v.take (i+1))+c'*pw (i+1):=by rw[zuy b,val_take_succ' M,val_take_succ' v,zkg];have a:((r.toNat:Nat):Int)=r:=Int.toNat_of_nonneg d;simp only[Int.natCast_add,Int.natCast_mul,a,<-f,<-e];rw[h];subst hr;generalize (val (M.take i):Int)=V at*;generalize (val (v.take i):Int)=j at*;generalize (pw i:Int)=P at*;grind
theorem zxg {v:List Nat} {x y:Int} (b:i<M'.length) (e:x=(M.getD i 0:Nat)) (f:y=(v.getD i 0:Nat)) (hr:r=x+y+c-c'*1000000000) (d:0<=r)
 (h:(val (M'.take i):Int)+c*pw i=val (M.take i)+val (v.take i)):
 (val ((M'.set i r.toNat).take (i+1)):Int)+c'*pw (i+1)=val (M.take (i+1))+val (v.take (i+1)):=by rw[zuy b,val_take_succ' M,val_take_succ' v,zkg];have a:((r.toNat:Nat):Int)=r:=Int.toNat_of_nonneg d;simp only[Int.natCast_add,Int.natCast_mul,a,<-f,<-e];subst hr;generalize (val (M.take i):Int)=V at*;generalize (val (v.take i):Int)=g at*;generalize (pw i:Int)=P at*;grind
theorem yax {U g R:Nat} (h:U=g*V+R) (a:R<V):U/V=g/\U%V=R:=by
 have b:0<V:=og;subst h;constructor
 ·rw[Nat.mul_comm,Nat.mul_add_div b,Nat.div_eq_of_lt a,Nat.add_zero]
 ·rw[Nat.mul_comm,Nat.mul_add_mod,Nat.mod_eq_of_lt a]
theorem ygn {U:Nat} {m0 P:Int} (i:(U:Int)=m0+P*u) (k:x=m0-g*V+c*P) (b:0<=x) (p:x<P) (q:c<=u) (o:(V:Int)<=P) (j:0<=g) (hg:(U:Int)<(g+1)*V):
 U/V=g.toNat/\((U%V:Nat):Int)=x:=by
 have e:(U:Int)-g*V=x+(u-c)*P:=(by rw[i,k];grind);have l:(u-c)*P<P:=by rw[Int.add_mul,Int.one_mul] at hg;omega
 have f:u=c:=by
  rcases Int.lt_or_le u (c+1) with h|h
  ·omega
  ·have m:=zne (show 1<=u-c by omega) (show 0<=P by omega);omega
 rw[f,Int.sub_self,Int.zero_mul,Int.add_zero] at e;have n:x<V:=(by rw[Int.add_mul,Int.one_mul] at hg;omega);have d:U=g.toNat*V+x.toNat:=(by apply Int.ofNat_inj.1;simp only[Int.natCast_add,Int.natCast_mul];rw[Int.toNat_of_nonneg j,Int.toNat_of_nonneg b];omega);have a:=yax d og;refine⟨a.1,?_⟩;rw[a.2];exact Int.toNat_of_nonneg b
theorem ygo {U:Nat} {m0 P:Int} (d:(U:Int)=m0+P*u) (e:x=m0-g*V+c*P) (j:x<P) (k:u<c) (b:0<P) (i:0<=g):1<=g:=by
 have a:(U:Int)-g*V=x+(u-c)*P:=(by rw[d,e];grind);have f:(u-c)*P<=-P:=(by have:=zne (show u-c<=-1 by omega) (Int.le_of_lt b);omega);rcases Int.lt_or_le g 1 with h|h
 ·have:g=0:=og;subst this;rw[Int.zero_mul] at a;omega
 ·exact h
theorem ygm {U:Nat} {m0 b P a:Int} (o:(U:Int)=m0+P*u) (q:x=m0-g*V+c*P) (A:x<P) (B:u<c) (w:(V:Int)<=P) (y:0<=g) (hg:g*V<=U+V)
 (r:b+a*P=x+V) (j:0<=b) (z:b<P):
 1<=g/\U/V=(g-1).toNat/\((U%V:Nat):Int)=b:=by
 have l:(U:Int)-g*V=x+(u-c)*P:=(by rw[o,q];grind);have e:0<P:=og;have s:(u-c)*P<=-P:=by have:=zne (show u-c<=-1 by omega) (Int.le_of_lt e);omega
 have p:1<=g:=by
  rcases Int.lt_or_le g 1 with h|h
  ·have:g=0:=og;subst this;rw[Int.zero_mul] at l;omega
  ·exact h
 have m:(U:Int)-(g-1)*V=b+(a+u-c)*P:=(by have d:(g-1)*(V:Int)=g*V-V:=(by rw[Int.sub_mul,Int.one_mul]);have k:(a+u-c)*P=a*P+(u-c)*P:=(by rw[<-Int.add_mul];congr 1;omega);rw[d,k];omega);have t:0<=(U:Int)-(g-1)*V:=(by rw[Int.sub_mul,Int.one_mul];omega);have v:(U:Int)-(g-1)*V<V:=by rw[Int.sub_mul,Int.one_mul];omega
 have n:a+u-c=0:=by
  rcases Int.lt_or_le (a+u-c) 0 with h|h
  ·have:=zne (show a+u-c<=-1 by omega) (Int.le_of_lt e);omega
  ·rcases Int.lt_or_le (a+u-c) 1 with f|f
   ·omega
   ·have:=zne f (Int.le_of_lt e);omega
 rw[n,Int.zero_mul,Int.add_zero] at m;have d:U=(g-1).toNat*V+b.toNat:=(by apply Int.ofNat_inj.1;simp only[Int.natCast_add,Int.natCast_mul];rw[Int.toNat_of_nonneg (by omega:0<=g-1),Int.toNat_of_nonneg j];omega);have i:=yax d og;refine⟨p,i.1,?_⟩;rw[i.2];exact Int.toNat_of_nonneg j
theorem zzy (h:l.length=n+1):val l=val (l.take n)+pw n*l.getD n 0:=by rw[<-yeh og,List.take_of_length_le og]
theorem zz1462 (h:l.length=n+2):val l=(l.getD (n+1) 0*1000000000+l.getD n 0)*pw n+val (l.take n):=by rw[<-zki (Nat.le_of_eq h),val_take_succ' l (n+1),val_take_succ' l n,zkg];grind
theorem zz1461 (h:l.length=n+3):val l=((l.getD (n+2) 0*1000000000+l.getD (n+1) 0)*1000000000+l.getD n 0)*pw n+val (l.take n):=by rw[<-zki (Nat.le_of_eq h),val_take_succ' l (n+2),val_take_succ' l (n+1),val_take_succ' l n];simp only[zkg];grind
theorem zzx (h:l.length=n+1):val (l.set n 0)=val (l.take n):=by rw[zzy (n:=n) (by simpa using h),List.take_set_of_le (p n)];rw[G,List.getElem?_set_self og];simp
theorem zz1407 {P S:List Nat} {x:Nat} (h:i<M.length):(P++M++S).set (P.length+i) x=P++M.set i x++S:=by rw[List.append_assoc,List.append_assoc,List.set_append_right _ _ og,Nat.add_sub_cancel_left,List.set_append_left _ _ h]
theorem yul {P S:List Nat} (h:i<M.length):(P++M++S).getD (P.length+i) 0=M.getD i 0:=by rw[List.append_assoc,G,List.getElem?_append_right og,Nat.add_sub_cancel_left,List.getElem?_append_left h,G]
theorem ytq {b:List Nat} {a:Int} (n:Lo b) (p:b.length=m+2) (j:a=(b.getD (m+1) 0:Nat)) (q:1<=a) (u:a<=999999999):
 1<=1000000000/(a+1)/\1000000000/(a+1)<=999999999/\val b*(1000000000/(a+1)).toNat<pw (m+2):=by have f:1<=1000000000/(a+1):=(Int.le_ediv_iff_mul_le og).2 og;have g:1000000000/(a+1)<=999999999:=(by have:=Int.ediv_lt_of_lt_mul (a:=1000000000) (b:=1000000000) (c:=a+1) og og;omega);refine⟨f,g,?_⟩;have i:(a+1)*(1000000000/(a+1))<=1000000000:=Int.mul_ediv_self_le og;generalize hF:1000000000/(a+1)=e at*;obtain⟨d,rfl⟩:=Int.eq_ofNat_of_zero_le (show 0<=e by omega);simp only[Int.toNat_natCast];subst j;generalize o:b.getD (m+1) 0=c at*;have k:(c+1)*d<=1000000000:=(by have:(((c+1)*d:Nat):Int)<=1000000000:=(by simpa using i);omega);have l:val b<(c+1)*pw (m+1):=(by rw[zzy p,o];have h:=zmf (zmy n (m+1));rw[List.length_take,Nat.min_eq_left og] at h;rw[Nat.add_mul,Nat.one_mul,Nat.mul_comm (pw (m+1)) c];omega);have r:val b*d<(c+1)*pw (m+1)*d:=Nat.mul_lt_mul_of_pos_right l og;have s:(c+1)*pw (m+1)*d=(c+1)*d*pw (m+1):=(by rw[Nat.mul_right_comm]);have t:=H (pw (m+1)) k;rw[zkg (m+1)];omega
theorem ynn {v:List Nat} (hv:Lo v) (c:v.length=m+2) (h:pw (m+1)<=val v):1<=v.getD (m+1) 0:=by
 rcases Nat.eq_zero_or_pos (v.getD (m+1) 0) with a|a
 ·rw[zzy c,a,Nat.mul_zero,Nat.add_zero] at h;have b:=zmf (zmy hv (m+1));rw[List.length_take,Nat.min_eq_left og] at b;omega
 ·exact a
theorem ygq (hlo:Lo L) (f:j+n+1<=L.length) (e:V<=pw n) (h:val (L.drop (j+1))<V):
 val ((L.drop j).take (n+1))<V*1000000000/\val (L.drop (j+n+1))=0/\val L=val (L.take j)+pw j*val ((L.drop j).take (n+1)):=by
 have d:val (L.drop (j+1))=val ((L.drop (j+1)).take n)+pw n*val (L.drop (j+n+1)):=by have:=zqm (L.drop (j+1)) n (by simp;omega);rw[List.drop_drop,show j+1+n=j+n+1 by omega] at this;exact this
 have b:val (L.drop (j+n+1))=0:=by
  rcases Nat.eq_zero_or_pos (val (L.drop (j+n+1))) with a|a
  ·exact a
  ·have:=Nat.mul_le_mul_left (pw n) a;omega
 have c:val (L.drop j)=val ((L.drop j).take (n+1)):=(by have:=zqm (L.drop j) (n+1) (by simp;omega);rw[List.drop_drop,show j+(n+1)=j+n+1 by omega,b,Nat.mul_zero,Nat.add_zero] at this;exact this);refine⟨?_,b,?_⟩
 ·rw[<-c,zsj og];have:=zpc hlo j;omega
 ·rw[<-c];exact zqm L j og
theorem ysi (P a r V v q:Nat):P+a*r+V*(v+a*q)=P+a*(r+V*q)+V*v:=by grind
theorem ysk {Lq:List Nat} {X:Nat} (hlo:Lo L) (i:j+n+1<=L.length) (e:V<=pw n) (f:0<V) (h:val (L.drop (j+1))<V) (c:val M'=val ((L.drop j).take (n+1))%V) (o:M'.length=n+1)
 (l:j<Lq.length) (m:Lq.getD j 0=0) (g:val L+V*val Lq=X):
 val ((L.take j++M'++L.drop (j+n+1)).drop j)<V/\val (L.take j++M'++L.drop (j+n+1))+V*val (Lq.set j (val ((L.drop j).take (n+1))/V))=X:=by
 have a:=ygq hlo i e h;have k:(L.take j).length=j:=(by rw[List.length_take,Nat.min_eq_left og]);have p:=Nat.mod_lt (val ((L.drop j).take (n+1))) f;constructor
 ·rw[List.append_assoc,List.drop_append_of_le_length og,List.drop_of_length_le og,List.nil_append,zny,a.2.1,c];omega
 ·rw[List.append_assoc,zny,zny,a.2.1,k,Nat.mul_zero,Nat.add_zero,c];have b:=yeg (x:=val ((L.drop j).take (n+1))/V) l;rw[m,Nat.mul_zero,Nat.add_zero] at b;rw[b,<-g,a.2.2];have d:=Nat.mod_add_div (val ((L.drop j).take (n+1))) V;rw[ysi,d]
theorem yso (L:List Nat) (i:Nat) (h:i<=L.length):val (L.drop i)*pw i<=val L:=by rw[zqm L i h,Nat.mul_comm (pw i)];omega
theorem ysj {a x y b:Nat} (i:L.length=m+2+a+1) (f:val L=x*b) (g:x<pw (m+2+a)) (h:pw (m+1)<=y) (hF:0<b):val (L.drop (a+1))<y*b:=by have c:=yso L (a+1) og;rw[f] at c;have d:x*b<pw (m+1)*b*pw (a+1):=(by have:=Nat.mul_lt_mul_of_pos_right g hF;rw[show m+2+a=(m+1)+(a+1) by omega,zwh] at this;rw[Nat.mul_right_comm];exact this);have e:=Nat.lt_of_mul_lt_mul_right (Nat.lt_of_le_of_lt c d);exact Nat.lt_of_lt_of_le e (H b h)
theorem ygp {a b q u f:Nat} (hf:0<f) (d:u<b*f) (h:u+b*f*q=a*f):q=a/b/\u/f=a%b:=by have c:=yax (U:=a*f) (V:=b*f) (g:=q) (R:=u) (by rw[<-h,Nat.mul_comm q];omega) d;rw[Nat.mul_div_mul_right _ _ hf] at c;rw[Nat.mul_mod_mul_right] at c;exact⟨c.1.symm,by rw[<-c.2,Nat.mul_div_cancel _ hf]⟩
end Go.Proofs.YtlhhbccgfkhflaaGreatDoor
