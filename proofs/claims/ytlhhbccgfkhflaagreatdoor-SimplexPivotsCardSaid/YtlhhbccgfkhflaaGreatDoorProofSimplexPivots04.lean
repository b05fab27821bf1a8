/-
 Package simplex's tables,f a program:pivots,a e c,both loops d to b end,a numbers stay small.
-/
import Derived.Test.YtlhhbccgfkhflaaGreatDoorProofSimplexPivots03
namespace Go.Proofs.YtlhhbccgfkhflaaGreatDoor
set_option linter.unusedVariables false
open Go.RowKit
set_option maxRecDepth 100000
set_option maxHeartbeats 8000000
open _root_.Nat renaming le_refl → d, le_trans → z, lt_of_lt_of_le → C, lt_or_ge → g, lt_succ_self → u
open _root_.List renaming getD_eq_getElem?_getD → q, getElem?_eq_getElem → s, getElem?_map → v
open _root_.Go renaming World → p
variable {M b c i j k o r top : Nat} {e : Int} {f : Nat → Int} {key sc : Nat → Nat} {l : List Nat}
structure TB where
 A:Nat->Nat->Int
 d:Nat
 bas:List Nat
 oth:List Nat
def V9 (t:TB) (r c:Nat):TB:=⟨zng t.A t.d r c,(t.A r c).natAbs,t.bas.set r (t.oth.getD c 0),t.oth.set c (t.bas.getD r 0)⟩
def uc (sc:Nat->Nat) (n:Nat) (o:Nat->Nat) (j:Nat):Rat:=if j<n then((sc (o j):Nat):Rat) else 1
def ur (sc:Nat->Nat) (top m:Nat) (b:Nat->Nat) (i:Nat):Rat:=if i<m then((sc (b i):Nat):Rat) else((top:Nat):Rat)
def L6 (sc:Nat->Nat) (top m n:Nat) (t:TB):Dic:=
 ⟨fun i=>t.bas.getD i 0,fun j=>t.oth.getD j 0,fun i j=>if i<=m/\j<=n then(t.A i j:Rat)*((t.d:Int):Rat)⁻¹*uc sc n (fun j=>t.oth.getD j 0) j*(ur sc top m (fun i=>t.bas.getD i 0) i)⁻¹ else 0⟩
theorem zrn {a:Nat} (h:r<l.length):(fun i=>(l.set r a).getD i 0)=N5 (fun i=>l.getD i 0) r a:=by
 funext i;unfold N5;rw[q,List.getElem?_set];by_cases e:i=r
 ·rw[if_pos e.symm,if_pos h,if_pos e];rfl
 ·rw[if_neg (Ne.symm e),if_neg e];show _=l.getD i 0;rw[q]
theorem zuu {x:Nat} (h:0<x):((x:Nat):Rat)≠0:=zwb (d:=x) h
theorem zz1454 (a:∀b,0<sc b) (n:Nat) (o:Nat->Nat) (j:Nat):uc sc n o j≠0:=by
 unfold uc;split
 ·exact zuu (a _)
 ·decide
theorem zz1456 (a:∀d,0<sc d) (c:0<top) (m:Nat) (b:Nat->Nat) (i:Nat):ur sc top m b i≠0:=by
 unfold ur;split
 ·exact zuu (a _)
 ·exact zuu c
theorem zub {a b:Rat} (h:a*b=1):a⁻¹=b:=by
 have ha:a≠0:=fun e=>(by rw[e,Rat.zero_mul] at h;exact absurd h (by decide));have c:=Rat.mul_inv_cancel _ ha
 calc a⁻¹=a⁻¹*(a*b):=by rw[h,Rat.mul_one]
  _=b:=by rw[<-Rat.mul_assoc,Rat.mul_comm a⁻¹,c,Rat.one_mul]
theorem ybo {a:Rat} (h:a≠0):a⁻¹≠0:=fun e=>by have b:=Rat.mul_inv_cancel _ h;rw[e,Rat.mul_zero] at b;exact absurd b (by decide)
section
variable {m n : Nat} {t : TB} {B O : Nat → RV}
theorem ygi (M:∀ag,0<sc ag) (an:0<top) (h:Cram (m+1) n t.A t.d B O) (G:t.bas.length=m) (J:t.oth.length=n) (hr:r<m) (hc:c<n) (K:t.A r c≠0):
 L6 sc top m n (V9 t r c)=zkj (L6 sc top m n t) r c:=by
 obtain⟨g,u⟩:=nm ((t.A r c:Rat):Rat);obtain⟨D,hD⟩:=nm (((t.d:Int):Rat));have X:D≠0:=(by rw[hD];exact zwb h.d0);have L:g≠0:=(by rw[u];intro e;exact K (Rat.intCast_inj.1 (by rw[e];rfl)));obtain⟨v,E⟩:=nm ((((t.A r c).natAbs:Int):Rat):Rat)
 have ab:∀i j,i<=m->j<=n->(zng t.A t.d r c i j:Rat)*v⁻¹=(zlh t.A t.d r c i j:Rat)*g⁻¹:=by
  intro i j _ _;unfold zng;rcases Int.lt_or_le (t.A r c) 0 with z|z
  ·have e:v= -g:=(by rw[E,u,<-Rat.intCast_neg];congr 1;omega);have Q:v⁻¹= -g⁻¹:=zub (by rw[e];have:=Rat.mul_inv_cancel _ L;grind);rw[if_pos z,Q,Rat.intCast_neg];grind
  ·have e:v=g:=(by rw[E,u];congr 1;omega);rw[if_neg og,e]
 have Y:=(h.piv (show r<m+1 by omega) hc K).2;have al:=Rat.mul_inv_cancel _ L;have aj:=Rat.mul_inv_cancel _ X;have U:(L6 sc top m n (V9 t r c)).bas=(zkj (L6 sc top m n t) r c).bas:=zrn (by rw[G];exact hr);have T:(L6 sc top m n (V9 t r c)).oth=(zkj (L6 sc top m n t) r c).oth:=zrn (by rw[J];exact hc)
 have R:(L6 sc top m n (V9 t r c)).D=(zkj (L6 sc top m n t) r c).D:=by
  funext i j;show(if i<=m/\j<=n then(zng t.A t.d r c i j:Rat)*(((t.A r c).natAbs:Int):Rat)⁻¹*uc sc n (fun j=>(t.oth.set c (t.bas.getD r 0)).getD j 0) j*(ur sc top m (fun i=>(t.bas.set r (t.oth.getD c 0)).getD i 0) i)⁻¹ else 0)=F0 (L6 sc top m n t).D r c i j;rw[zrn (l:=t.bas) (by rw[G];exact hr),zrn (l:=t.oth) (by rw[J];exact hc),<-E];(have k:∀i j,i<=m->j<=n->(L6 sc top m n t).D i j=(t.A i j:Rat)*D⁻¹*uc sc n (fun j=>t.oth.getD j 0) j*(ur sc top m (fun i=>t.bas.getD i 0) i)⁻¹:=fun i j q s=>by show(if i<=m/\j<=n then _ else _)=_;rw[if_pos ⟨q,s⟩,hD]);have p:∀i j,¬(i<=m/\j<=n)->(L6 sc top m n t).D i j=0:=fun i j a=>if_neg a;have A:uc sc n (fun j=>t.oth.getD j 0) c=((sc (t.oth.getD c 0):Nat):Rat):=if_pos hc;have C:ur sc top m (fun i=>t.bas.getD i 0) r=((sc (t.bas.getD r 0):Nat):Rat):=if_pos hr;have F:uc sc n (N5 (fun j=>t.oth.getD j 0) c (t.bas.getD r 0)) c=((sc (t.bas.getD r 0):Nat):Rat):=(by unfold uc;rw[if_pos hc,zoo]);have P:ur sc top m (N5 (fun i=>t.bas.getD i 0) r (t.oth.getD c 0)) r=((sc (t.oth.getD c 0):Nat):Rat):=(by unfold ur;rw[if_pos hr,zoo]);have N:∀j,j≠c->uc sc n (N5 (fun j=>t.oth.getD j 0) c (t.bas.getD r 0)) j=uc sc n (fun j=>t.oth.getD j 0) j:=fun j s=>(by unfold uc;rw[zop _ _ s]);have af:∀i,i≠r->ur sc top m (N5 (fun i=>t.bas.getD i 0) r (t.oth.getD c 0)) i=ur sc top m (fun i=>t.bas.getD i 0) i:=fun i q=>(by unfold ur;rw[zop _ _ q]);obtain⟨e,H⟩:=nm (((sc (t.oth.getD c 0):Nat):Rat));obtain⟨l,I⟩:=nm (((sc (t.bas.getD r 0):Nat):Rat));have Z:e≠0:=(by rw[H];exact zuu (M _));have aa:l≠0:=(by rw[I];exact zuu (M _));have heq:=Rat.mul_inv_cancel _ Z;have ak:=Rat.mul_inv_cancel _ aa;rw[<-H] at A P;rw[<-I] at C F;have ac:(L6 sc top m n t).D r c=g*D⁻¹*e*l⁻¹:=(by rw[k r c og og,A,C,u]);have hinv:((L6 sc top m n t).D r c)⁻¹=g⁻¹*D*e⁻¹*l:=(by rw[ac];refine zub ?_;grind);unfold F0;rw[hinv];by_cases a:i<=m/\j<=n
  ·rw[if_pos a,ab i j a.1 a.2];by_cases f:i=r
   ·subst f;rw[if_pos rfl,P];by_cases d:j=c
    ·subst d;rw[if_pos rfl,F];unfold zlh;rw[if_pos rfl,if_pos rfl,<-hD];grind
    ·rw[if_neg d,N j d,k i j a.1 a.2,C];unfold zlh;rw[if_pos rfl,if_neg d];grind
   ·rw[if_neg f,af i f];by_cases d:j=c
    ·subst d;rw[if_pos rfl,F,k i j a.1 a.2,A];unfold zlh;rw[if_neg f,if_pos rfl,Rat.intCast_neg];grind
    ·rw[if_neg d,N j d,k i j a.1 a.2,k i c a.1 og,k r j og a.2,A,C,Y i j og a.2 f d,<-hD,<-u,Rat.div_def];obtain⟨x,ad⟩:=nm (uc sc n (fun j=>t.oth.getD j 0) j);obtain⟨y,ae⟩:=nm ((ur sc top m (fun i=>t.bas.getD i 0) i)⁻¹);rw[<-ad,<-ae];grind
  ·rw[if_neg a];by_cases f:i=r
   ·subst f;have s:¬j<=n:=fun h=>a ⟨by omega,h⟩;rw[if_pos rfl,if_neg og,p i j a];grind
   ·rw[if_neg f];by_cases d:j=c
    ·subst d;rw[if_pos rfl,p i j a];grind
    ·rw[if_neg d,p i j a];by_cases q:i<=m
     ·have s:¬j<=n:=fun h=>a ⟨q,h⟩;rw[p r j og];grind
     ·rw[p i c og];grind
 have ext:∀(S w:Dic),S.bas=w.bas->S.oth=w.oth->S.D=w.D->S=w:=(by rintro⟨b,o,D⟩ ⟨ai,ao,ah⟩ z V W;cases z;cases V;cases W;rfl);exact ext _ _ U T R
end
structure TInv (M m n:Nat) (t:TB):Prop where
 cram:∃B O,Cram (m+1) n t.A t.d B O/\(∀i,i<m+1->zso M (B i))/\∀j,j<=n->zso M (O j)
 bl:t.bas.length=m
 ol:t.oth.length=n
 dist:(t.bas++t.oth).Nodup
 lt:∀v∈t.bas++t.oth,v<m+n
theorem TInv.d0 {m n:Nat} {t:TB} (h:TInv M m n t):0<t.d:=by obtain⟨B,O,h,_⟩:=h.cram;exact h.d0
theorem TInv.small {m n:Nat} {t:TB} (h:TInv M m n t):t.d<=N9 M (m+1)/\∀i j,i<=m->j<=n->(t.A i j).natAbs<=N9 M (m+1):=by obtain⟨B,O,h,a,b⟩:=h.cram;have:=h.small a b;exact⟨this.1,fun i j d c=>this.2 i j og c⟩
theorem zlw (h:i<l.length):l.getD i 0∈l:=by rw[q,s h];exact List.getElem_mem _
theorem zqj (h:l.Nodup) (b:i<l.length) (c:j<l.length) (e:l.getD i 0=l.getD j 0):i=j:=by
 rw[q,q,s b,s c] at e;have e:l[i]=l[j]:=e;rw[List.nodup_iff_pairwise_ne,List.pairwise_iff_getElem] at h;rcases Nat.lt_trichotomy i j with a|a|a
 ·exact absurd e (h i j b c a)
 ·exact a
 ·exact absurd e.symm (h j i c b a)
theorem TInv.distD {m n:Nat} {t:TB} (h:TInv M m n t) (sc:Nat->Nat) (top:Nat):Dist m n (L6 sc top m n t):=by
 have d:=h.bl;have f:=h.ol;have a:=List.nodup_append.1 h.dist
 exact⟨fun i j b c e=>zqj a.1 og og e,fun i j b c e=>zqj a.2.1 og og e,
  fun i j b c e=>a.2.2 _ (zlw (l:=t.bas) og) _ (zlw (l:=t.oth) og) e⟩
theorem yds {b o:List Nat} (hr:r<b.length) (hc:c<o.length):∀a,a∈b.set r (o.getD c 0)++o.set c (b.getD r 0)->a∈b++o:=by
 intro a hv;rcases List.mem_append.1 hv with h|h
 ·rcases List.mem_or_eq_of_mem_set h with h|h
  ·exact List.mem_append.2 (.inl h)
  ·rw[h];exact List.mem_append.2 (.inr (zlw hc))
 ·rcases List.mem_or_eq_of_mem_set h with h|h
  ·exact List.mem_append.2 (.inr h)
  ·rw[h];exact List.mem_append.2 (.inl (zlw hr))
theorem zun (h:∀i j,i<l.length->j<l.length->l.getD i 0=l.getD j 0->i=j):l.Nodup:=by rw[List.nodup_iff_pairwise_ne,List.pairwise_iff_getElem];intro i j a b c e;have:=h i j a b (by rw[q,q,s a,s b,e]);omega
theorem TInv.piv {m n:Nat} {t:TB} (h:TInv M m n t) (hr:r<m) (hc:c<n) (o:t.A r c≠0):TInv M m n (V9 t r c):=by
 obtain⟨B,O,l,g,k⟩:=h.cram;have hD:=(h.distD (fun _=>1) 1).piv hr hc;have e:=ygi (sc:=fun _=>1) (top:=1) (fun _=>Nat.one_pos) Nat.one_pos l h.bl h.ol hr hc o;rw[<-e] at hD;(have lb:(V9 t r c).bas.length=m:=by show(t.bas.set _ _).length=m;rw[List.length_set];exact h.bl);(have lo:(V9 t r c).oth.length=n:=by show(t.oth.set _ _).length=n;rw[List.length_set];exact h.ol);refine⟨⟨_,_,(l.piv (show r<m+1 by omega) hc o).1,fun i d=> ?_,fun j f=> ?_⟩,lb,lo,?_,fun p hv=>h.lt p (yds (by rw[h.bl];exact hr) (by rw[h.ol];exact hc) p hv)⟩
 ·unfold N2;split
  ·exact k c og
  ·exact g i d
 ·unfold N2;split
  ·exact g r og
  ·exact k j f
 ·rw[List.nodup_append];exact⟨zun fun i j d f e=>hD.bb i j og og e,zun fun i j d f e=>hD.oo i j og og e,fun a ha b u e=>by obtain⟨i,d,rfl⟩:=List.getElem_of_mem ha;obtain⟨j,f,rfl⟩:=List.getElem_of_mem u;refine hD.bo i j og og ?_;show(V9 t r c).bas.getD i 0=(V9 t r c).oth.getD j 0;rw[q,q,s d,s f,e]⟩
theorem TInv.dic {m n:Nat} {t:TB} (h:TInv M m n t) (d:∀f,0<sc f) (e:0<top) (hr:r<m) (hc:c<n) (b:t.A r c≠0):L6 sc top m n (V9 t r c)=zkj (L6 sc top m n t) r c:=by obtain⟨B,O,a,_,_⟩:=h.cram;exact ygi d e a h.bl h.ol hr hc b
def W6 (a:Nat->Bool) (key:Nat->Nat):Nat->Option Nat
 |0=>none
 |k+1=>match W6 a key k with
  |none=>if a k then some k else none
  |some b=>if a k&&decide (key k<key b) then some k else some b
theorem zvg {a:Nat->Bool}:∀{n},W6 a key n=none->∀j,j<n->a j=false
 |0,_,j,i=>absurd i (Nat.not_lt_zero _)
 |n+1,h,j,i=>by
  rw[W6] at h
  cases e:W6 a key n with
  |none=>
   rw[e] at h
   have h:(if a n then some n else none)=none:=h
   rcases g j n with c|c
   ·exact zvg e j c
   ·obtain rfl:j=n:=og
    by_cases f:a j
    ·rw[if_pos f] at h;cases h
    ·simpa using f
  |some b=>
   rw[e] at h
   have h:(if a n&&decide (key n<key b) then some n else some b)=none:=h
   split at h<;>cases h
theorem znl {a:Nat->Bool}:∀{n c},W6 a key n=some c->c<n/\a c=true/\∀j,j<n->a j=true->key c<=key j
 |0,c,h=>by cases h
 |n+1,c,h=>by
  rw[W6] at h
  cases e:W6 a key n with
  |none=>
   rw[e] at h
   have h:(if a n then some n else none)=some c:=h
   by_cases i:a n
   ·rw[if_pos i] at h
    cases h
    refine⟨u _,i,fun j r f=> ?_⟩
    rcases g j n with m|m
    ·rw[zvg e j m] at f;cases f
    ·rw[show j=n by omega];exact d _
   ·rw[if_neg i] at h;cases h
  |some b=>
   rw[e] at h
   have h:(if a n&&decide (key n<key b) then some n else some b)=some c:=h
   obtain⟨m,i,o⟩:=znl e
   by_cases k:(a n&&decide (key n<key b))=true
   ·rw[if_pos k] at h
    cases h
    rw[Bool.and_eq_true,decide_eq_true_eq] at k
    refine⟨u _,k.1,fun j r f=> ?_⟩
    rcases g j n with l|l
    ·have:=o j l f;omega
    ·rw[show j=n by omega];exact d _
   ·rw[if_neg k] at h
    cases h
    refine⟨by omega,i,fun j r f=> ?_⟩
    rcases g j n with l|l
    ·exact o j l f
    ·obtain rfl:j=n:=og
     rw[f,Bool.true_and,decide_eq_true_eq] at k
     omega
def zmm (A:Nat->Nat->Int) (bas:Nat->Nat) (n c k b:Nat):Bool:=
 decide ((A k n).natAbs*(A b c).natAbs<(A b n).natAbs*(A k c).natAbs)||(decide ((A k n).natAbs*(A b c).natAbs=(A b n).natAbs*(A k c).natAbs)&&decide (bas k<bas b))
def Z3 (A:Nat->Nat->Int) (bas:Nat->Nat) (n c:Nat):Nat->Option Nat
 |0=>none
 |k+1=>if A k c<=0 then Z3 A bas n c k else match Z3 A bas n c k with
  |none=>some k
  |some b=>if zmm A bas n c k b then some k else some b
theorem yby {A:Nat->Nat->Int} {bas:Nat->Nat} {n:Nat}:∀{k},Z3 A bas n c k=none->∀i,i<k->A i c<=0
 |0,_,i,j=>absurd j (Nat.not_lt_zero _)
 |k+1,h,i,j=>by
  rw[Z3] at h
  by_cases a:A k c<=0
  ·rw[if_pos a] at h
   rcases g i k with f|f
   ·exact yby h i f
   ·rw[show i=k by omega];exact a
  ·rw[if_neg a] at h
   cases e:Z3 A bas n c k with
   |none=>rw[e] at h;cases h
   |some b=>
    rw[e] at h
    have h:(if zmm A bas n c k b then some k else some b)=none:=h
    split at h<;>cases h
def LimR (A:Nat->Nat->Int) (bas:Nat->Nat) (n c r i:Nat):Prop:=A r n*A i c<A i n*A r c\/(A r n*A i c=A i n*A r c/\bas r<=bas i)
theorem yiz {A:Nat->Nat->Int} {bas:Nat->Nat} {n:Nat}:LimR A bas n c r r:= .inr ⟨rfl,d _⟩
theorem zz1356 {x y z a b c:Int} (ha:0<a) (f:0<b) (hc:0<c) (d:x*b<y*a) (e:y*c<=z*b):x*c<z*a:=by refine Int.lt_of_not_ge fun h=> ?_;have g:=Int.mul_lt_mul_of_pos_right d hc;have i:=Int.mul_le_mul_of_nonneg_right e (Int.le_of_lt ha);have j:=Int.mul_le_mul_of_nonneg_right h (Int.le_of_lt f);grind
theorem ratio_lt' {x y z a b c:Int} (ha:0<a) (f:0<b) (hc:0<c) (d:x*b<=y*a) (e:y*c<z*b):x*c<z*a:=by refine Int.lt_of_not_ge fun h=> ?_;have g:=Int.mul_le_mul_of_nonneg_right d (Int.le_of_lt hc);have i:=Int.mul_lt_mul_of_pos_right e ha;have j:=Int.mul_le_mul_of_nonneg_right h (Int.le_of_lt f);grind
theorem zz1355 {x y z a b c:Int} (ha:0<a) (f:0<b) (hc:0<c) (d:x*b=y*a) (e:y*c=z*b):x*c=z*a:=by
 have h:(x*c-z*a)*b=0:=(by grind);rcases Int.mul_eq_zero.1 h with h|h
 ·omega
 ·omega
theorem LimR.trans {A:Nat->Nat->Int} {bas:Nat->Nat} {n s:Nat} (hr:0<A r c) (e:0<A s c) (d:0<A i c) (a:LimR A bas n c r s) (b:LimR A bas n c s i):LimR A bas n c r i:=by
 rcases a with a|⟨a,f⟩
 ·left;exact zz1356 hr e d a (by rcases b with h|h;exact Int.le_of_lt h;exact Int.le_of_eq h.1)
 ·rcases b with b|⟨b,g⟩
  ·exact .inl (ratio_lt' hr e d (Int.le_of_eq a) b)
  ·exact .inr ⟨zz1355 hr e d a b,z f g⟩
theorem ywg {A:Nat->Nat->Int} {bas:Nat->Nat} {n:Nat} (g:0<=A k n) (e:0<=A b n) (h:0<A k c) (f:0<A b c):
 zmm A bas n c k b=true↔A k n*A b c<A b n*A k c\/(A k n*A b c=A b n*A k c/\bas k<bas b):=by unfold zmm;rw[Bool.or_eq_true,Bool.and_eq_true,decide_eq_true_eq,decide_eq_true_eq,decide_eq_true_eq];have a:(((A k n).natAbs*(A b c).natAbs:Nat):Int)=A k n*A b c:=(by rw[Int.natCast_mul,Int.natAbs_of_nonneg g,Int.natAbs_of_nonneg (Int.le_of_lt f)]);have d:(((A b n).natAbs*(A k c).natAbs:Nat):Int)=A b n*A k c:=(by rw[Int.natCast_mul,Int.natAbs_of_nonneg e,Int.natAbs_of_nonneg (Int.le_of_lt h)]);rw[<-a,<-d];omega
theorem zyn {A:Nat->Nat->Int} {bas:Nat->Nat} {n:Nat}:∀{k r},(∀i,i<k->0<=A i n)->Z3 A bas n c k=some r->r<k/\0<A r c/\∀i,i<k->0<A i c->LimR A bas n c r i
 |0,r,_,h=>by cases h
 |k+1,r,t,h=>by
  rw[Z3] at h
  by_cases f:A k c<=0
  ·rw[if_pos f] at h
   obtain⟨y,l,w⟩:=zyn (fun i o=>t i og) h
   refine⟨by omega,l,fun i o j=> ?_⟩
   rcases g i k with a|a
   ·exact w i a j
   ·obtain rfl:i=k:=og
    omega
  ·rw[if_neg f] at h
   have f:0<A k c:=og
   cases e:Z3 A bas n c k with
   |none=>
    rw[e] at h
    have h:some k=some r:=h
    cases h
    refine⟨u _,f,fun i o j=> ?_⟩
    rcases g i k with a|a
    ·have:=yby e i a;omega
    ·rw[show i=k by omega];exact yiz
   |some b=>
    rw[e] at h
    have h:(if zmm A bas n c k b then some k else some b)=some r:=h
    obtain⟨y,l,w⟩:=zyn (fun i o=>t i og) e
    have x:=ywg (bas:=bas) (t k og) (t b og) f l
    by_cases a:zmm A bas n c k b=true
    ·rw[if_pos a] at h
     cases h
     have B:LimR A bas n c k b:=by rcases x.1 a with h|h;exact .inl h;exact .inr ⟨h.1,Nat.le_of_lt h.2⟩
     refine⟨u _,f,fun i o j=> ?_⟩
     rcases g i k with m|m
     ·exact B.trans f l j (w i m j)
     ·rw[show i=k by omega];exact yiz
    ·rw[if_neg a] at h
     cases h
     refine⟨by omega,l,fun i o j=> ?_⟩
     rcases g i k with m|m
     ·exact w i m j
     ·obtain rfl:i=k:=og
      have D:¬(A i n*A r c<A r n*A i c\/(A i n*A r c=A r n*A i c/\bas i<bas r)):=fun h=>a (x.2 h)
      unfold LimR
      omega
section
variable (m n : Nat)
def zkw (t:TB):Option Nat:=W6 (fun j=>decide (t.A m j<0)) (fun j=>t.oth.getD j 0) n
def zmo (t:TB) (c:Nat):Option Nat:=Z3 t.A (fun i=>t.bas.getD i 0) n c m
def zkl (t:TB):Option TB:=match zkw m n t with
 |none=>none
 |some c=>match zmo m n t c with
  |none=>none
  |some r=>some (V9 t r c)
def zok (t:TB):Option Nat:=W6 (fun i=>decide (t.A i n<0)) (fun i=>t.bas.getD i 0) m
def zpa (t:TB) (r:Nat):Option Nat:=W6 (fun j=>decide (t.A r j<0)) (fun j=>t.oth.getD j 0) n
def zku (t:TB):Option TB:=match zok m n t with
 |none=>none
 |some r=>match zpa n t r with
  |none=>none
  |some c=>some (V9 t r c)
end
def R9 {c:Type} (f:c->Option c):Nat->c->c
 |0,a=>a
 |k+1,a=>match f a with
  |none=>a
  |some b=>R9 f k b
theorem ybu {c:Type} {f:c->Option c} {a b:c} (h:f a=some b) (k:Nat):R9 f (k+1) a=R9 f k b:=by rw[R9,h]
theorem yii {b:Type} {f:b->Option b} {a:b} (h:f a=none) (k:Nat):R9 f k a=a:=by cases k with
 |zero=>rfl
 |succ k=>rw[R9,h]
def zxd {b:Type} (f:b->Option b) (a:b):Prop:=∃k,f (R9 f k a)=none
theorem ybt {i:Type} {f:i->Option i}:∀{k:Nat} {a b:i},f (R9 f k a)=some b->R9 f (k+1) a=b
 |0,a,b,h=>by rw[R9,show f a=some b from h];rfl
 |k+1,a,b,h=>by
  cases e:f a with
  |none=>rw[yii e,e] at h;cases h
  |some c=>rw[ybu e] at h⊢;exact ybt h
theorem ybs {c:Type} {f:c->Option c} {P:c->Prop} (i:∀a b,P a->f a=some b->P b):∀k a,P a->P (R9 f k a)
 |0,a,h=>h
 |k+1,a,h=>by
  cases e:f a with
  |none=>rw[yii e];exact h
  |some b=>rw[ybu e];exact ybs i k b (i a b h e)
abbrev zoe (m n:Nat) (t:TB):Dic:=L6 (fun _=>1) 1 m n t
theorem uc1 (n:Nat) (o:Nat->Nat) (j:Nat):uc (fun _=>1) n o j=1:=by unfold uc;split<;>rfl
theorem ur1 (m:Nat) (b:Nat->Nat) (i:Nat):ur (fun _=>1) 1 m b i=1:=by unfold ur;split<;>rfl
theorem zow {m n:Nat} {t:TB} (a:i<=m) (b:j<=n):(zoe m n t).D i j=(t.A i j:Rat)*((t.d:Int):Rat)⁻¹:=by show(if i<=m/\j<=n then _ else _)=_;rw[if_pos ⟨a,b⟩,uc1,ur1,Rat.mul_one,show(1:Rat)⁻¹=1 from zub (Rat.mul_one 1),Rat.mul_one]
theorem ztx {d:Nat} (h:0<d):0<((d:Int):Rat)⁻¹:=inv_pos (by rw[<-Rat.intCast_zero,Rat.intCast_lt_intCast];omega)
theorem zra {z:Int} {q:Rat} (b:0<q):(z:Rat)*q<0↔z<0:=by
 constructor
 ·intro h;refine Int.lt_of_not_ge fun c=> ?_;have a:(0:Rat)<=(z:Rat):=(by rw[<-Rat.intCast_zero,Rat.intCast_le_intCast];exact c);have:=Rat.mul_nonneg a (Rat.le_of_lt b);grind
 ·intro h;have a:(z:Rat)<0:=(by rw[<-Rat.intCast_zero,Rat.intCast_lt_intCast];exact h);have:=Rat.mul_pos (show 0< -(z:Rat) by grind) b;grind
theorem zzp {z:Int} {q:Rat} (a:0<q):0<(z:Rat)*q↔0<z:=by
 have:=zra (z:= -z) a;rw[Rat.intCast_neg] at this;constructor
 ·intro h;have:=this.1 (by grind);omega
 ·intro h;have:=this.2 og;grind
theorem zzo {z:Int} {q:Rat} (b:0<q):0<=(z:Rat)*q↔0<=z:=by
 have:=zra (z:=z) b;constructor
 ·intro h;refine Int.le_of_not_gt fun a=> ?_;have:=this.2 a;grind
 ·intro h;refine Rat.not_lt.1 fun a=> ?_;have:=this.1 a;omega
theorem yrl {a b c:Int} {q:Rat} (d:0<q):((a:Rat)*q)*((b:Rat)*q)<((c:Rat)*q)*((e:Rat)*q)↔a*b<c*e:=by
 have h:=zzp (z:=c*e-a*b) (q:=q*q) (Rat.mul_pos d d);rw[Rat.intCast_sub,Rat.intCast_mul,Rat.intCast_mul] at h;constructor
 ·intro f;have:=h.1 (by grind);omega
 ·intro f;have:=h.2 og;grind
theorem yrk {a b c:Int} (h:a*b=c*e) (q:Rat):((a:Rat)*q)*((b:Rat)*q)=((c:Rat)*q)*((e:Rat)*q):=by have:(a:Rat)*(b:Rat)=(c:Rat)*(e:Rat):=(by rw[<-Rat.intCast_mul,<-Rat.intCast_mul,h]);grind
theorem yao {m n:Nat} {t e:TB} (h:TInv M m n t) (B:∀i,i<m->0<=t.A i n) (a:zkl m n t=some e):∃r c,e=V9 t r c/\t.A r c≠0/\BlandAt m n (zoe m n t) r c:=by
 unfold zkl at a;cases k:zkw m n t with
 |none=>rw[k] at a;cases a
 |some c=>
  rw[k] at a;have a:(match zmo m n t c with|none=>none|some r=>some (V9 t r c))=some e:=a;cases l:zmo m n t c with
  |none=>rw[l] at a;cases a
  |some r=>
   rw[l] at a;have a:some (V9 t r c)=some e:=a;cases a;obtain⟨x,f,y⟩:=znl k;obtain⟨r1,r2,r3⟩:=zyn B l;have f:t.A m c<0:=of_decide_eq_true f;have b:=ztx h.d0;refine⟨r,c,rfl,by omega,x,r1,?_,fun j E o=> ?_,?_,fun i D w=> ?_⟩
   ·rw[zow (d _) og];exact(zra b).2 f
   ·rw[zow (d _) og] at o;exact y j E (decide_eq_true ((zra b).1 o))
   ·rw[zow og og];exact(zzp b).2 r2
   ·rw[zow og og] at w⊢;rw[zow og og,zow og og,zow og og];rcases r3 i D ((zzp b).1 w) with h|⟨h,A⟩
    ·exact .inl ((yrl b).2 h)
    ·exact .inr ⟨yrk h _,A⟩
theorem restT {m n:Nat} {t e:TB} (h:TInv M m n t) (f:∀i,i<m->0<=t.A i n) (l:zkl m n t=some e):TInv M m n e/\∀i,i<m->0<=e.A i n:=by obtain⟨r,c,rfl,k,a⟩:=yao h f l;have j:=h.piv a.hr a.hc k;refine⟨j,fun i b=> ?_⟩;have g:=ylk a (fun i b=>by rw[zow og (d _)];exact(zzo (ztx h.d0)).2 (f i b)) i b;rw[<-h.dic (fun _=>Nat.one_pos) Nat.one_pos a.hr a.hc k] at g;exact(zzo (ztx j.d0)).1 (by rw[<-zow (m:=m) og (d n)];exact g)
theorem TInv.ltD {m n:Nat} {t:TB} (h:TInv M m n t):(∀i,i<m->t.bas.getD i 0<m+n)/\∀j,j<n->t.oth.getD j 0<m+n:=
 ⟨fun i a=>h.lt _ (List.mem_append.2 (.inl (zlw (by rw[h.bl];exact a)))),fun j b=>h.lt _ (List.mem_append.2 (.inr (zlw (by rw[h.ol];exact b))))⟩
theorem yuw {m n:Nat} {t:TB} (h:TInv M m n t) (g:∀i,i<m->0<=t.A i n):zxd (zkl m n) t:=by
 refine Classical.byContradiction fun x=> ?_
 have A:∀k,∃f,zkl m n (R9 (zkl m n) k t)=some f:=fun k=>by
  cases e:zkl m n (R9 (zkl m n) k t) with
  |none=>exact absurd ⟨k,e⟩ x
  |some f=>exact⟨f,rfl⟩
 have hI:∀k,TInv M m n (R9 (zkl m n) k t)/\∀i,i<m->0<=(R9 (zkl m n) k t).A i n:=fun k=>
  ybs (P:=fun t=>TInv M m n t/\∀i,i<m->0<=t.A i n) (fun a b o z=>restT o.1 o.2 z) k t ⟨h,g⟩
 have hst:∀k,∃r c,R9 (zkl m n) (k+1) t=V9 (R9 (zkl m n) k t) r c/\(R9 (zkl m n) k t).A r c≠0/\BlandAt m n (zoe m n (R9 (zkl m n) k t)) r c:=fun k=>(by obtain⟨f,p⟩:=A k;obtain⟨r,c,e,y,u⟩:=yao (hI k).1 (hI k).2 p;exact⟨r,c,by rw[ybt p,e],y,u⟩);obtain⟨R,v⟩:=Classical.axiomOfChoice hst;obtain⟨C,l⟩:=Classical.axiomOfChoice v;refine yfa (m:=m) (n:=n) (N:=m+n) (fun k=>zoe m n (R9 (zkl m n) k t)) R C (fun k=> ?_) (fun k=>(l k).2.2) (h.distD _ _) h.ltD (fun i w=> ?_)
 ·obtain⟨q,s,j⟩:=l k;show zoe m n (R9 (zkl m n) (k+1) t)=_;rw[q];exact(hI k).1.dic (fun _=>Nat.one_pos) Nat.one_pos j.hr j.hc s
 ·show 0<=(zoe m n t).D i n;rw[zow og (d _)];exact(zzo (ztx h.d0)).2 (g i w)
def zsv (m n:Nat) (t:TB):Dic:=⟨(zoe m n t).oth,(zoe m n t).bas,fun j i=>if i=m then 0 else if j=n then(zoe m n t).D i n else -((zoe m n t).D i j)⟩
theorem yrz {m n:Nat} {S:Dic} (hr:r<m) (hc:c<n) (R:Dic->Dic) (o:R=fun S=>⟨S.oth,S.bas,fun j i=>if i=m then 0 else if j=n then S.D i n else -(S.D i j)⟩):R (zkj S r c)=zkj (R S) c r:=by
 subst o
 have q:(-(S.D r c))⁻¹= -(S.D r c)⁻¹:=by
  by_cases h:S.D r c=0
  ·rw[h,Rat.neg_zero,Rat.inv_zero,Rat.neg_zero]
  ·exact zub (by have:=Rat.mul_inv_cancel _ h;grind)
 show(⟨_,_,_⟩:Dic)=⟨_,_,_⟩;congr 1;funext j i;(have e:(fun j i=>if i=m then(0:Rat) else if j=n then S.D i n else -(S.D i j)) c r= -(S.D r c):=by show(if r=m then(0:Rat) else if c=n then S.D r n else -(S.D r c))=_;rw[if_neg og,if_neg og]);show(if i=m then(0:Rat) else if j=n then F0 S.D r c i n else -(F0 S.D r c i j))=F0 (fun j i=>if i=m then(0:Rat) else if j=n then S.D i n else -(S.D i j)) c r j i;unfold F0;rw[e,q];have l:r≠m:=og;have g:c≠n:=og;have k:n≠c:=og;have p:m≠r:=og;by_cases b:i=m
 ·subst b;simp only[if_neg p,if_neg g];by_cases a:j=c
  ·simp only[if_pos a];grind
  ·simp only[if_neg a];grind
 ·by_cases f:j=n
  ·subst f;by_cases d:i=r
   ·subst d;simp only[if_neg b,if_neg k];grind
   ·simp only[if_neg b,if_neg k,if_neg d,if_neg l,if_neg g];grind
  ·by_cases d:i=r
   ·subst d;by_cases a:j=c
    ·simp only[if_neg b,if_neg f,if_pos a];grind
    ·simp only[if_neg b,if_neg f,if_neg a];grind
   ·by_cases a:j=c
    ·simp only[if_neg b,if_neg f,if_neg d,if_pos a,if_neg g];grind
    ·simp only[if_neg b,if_neg f,if_neg d,if_neg a,if_neg l,if_neg g];grind
theorem yan {m n:Nat} {t f:TB} (h:TInv M m n t) (a:zku m n t=some f):∃r c,f=V9 t r c/\r<m/\c<n/\t.A r c≠0/\BlandAt n m (zsv m n t) c r:=by
 unfold zku at a;cases o:zok m n t with
 |none=>rw[o] at a;cases a
 |some r=>
  rw[o] at a;have a:(match zpa n t r with|none=>none|some c=>some (V9 t r c))=some f:=a;cases w:zpa n t r with
  |none=>rw[w] at a;cases a
  |some c=>
   rw[w] at a;have a:some (V9 t r c)=some f:=a;cases a;obtain⟨r1,r2,r3⟩:=znl o;obtain⟨k,l,E⟩:=znl w;have r2:t.A r n<0:=of_decide_eq_true r2;have l:t.A r c<0:=of_decide_eq_true l;have e:=ztx h.d0;(have A:∀i,i<m->(zsv m n t).D n i=(t.A i n:Rat)*((t.d:Int):Rat)⁻¹:=fun i b=>by show(if i=m then(0:Rat) else if n=n then(zoe m n t).D i n else _)=_;rw[if_neg og,if_pos rfl,zow og (d _)]);(have y:∀j i,i<m->j<n->(zsv m n t).D j i= -((t.A i j:Rat)*((t.d:Int):Rat)⁻¹):=fun j i b x=>by show(if i=m then(0:Rat) else if j=n then(zoe m n t).D i n else _)=_;rw[if_neg og,if_neg og,zow og og]);have B:∀j,(zsv m n t).D j m=0:=fun j=>if_pos rfl;refine⟨r,c,rfl,r1,k,by omega,r1,k,?_,fun i b D=> ?_,?_,fun j x F=> ?_⟩
   ·rw[A r r1];exact(zra e).2 r2
   ·rw[A i b] at D;exact r3 i b (decide_eq_true ((zra e).1 D))
   ·rw[y c r r1 k];have:=(zra e).2 l;grind
   ·right;rw[y j r r1 x] at F;rw[B,B];refine⟨by grind,E j x (decide_eq_true ((zra e).1 (by grind)))⟩
theorem zz1372 {m n:Nat} {t a:TB} (h:TInv M m n t) (d:zku m n t=some a):TInv M m n a:=by obtain⟨r,c,rfl,hr,hc,b,_⟩:=yan h d;exact h.piv hr hc b
theorem yuv {m n:Nat} {t:TB} (h:TInv M m n t):zxd (zku m n) t:=by
 refine Classical.byContradiction fun x=> ?_
 have z:∀k,∃d,zku m n (R9 (zku m n) k t)=some d:=fun k=>by
  cases e:zku m n (R9 (zku m n) k t) with
  |none=>exact absurd ⟨k,e⟩ x
  |some d=>exact⟨d,rfl⟩
 have hI:∀k,TInv M m n (R9 (zku m n) k t):=fun k=>ybs (P:=TInv M m n) (fun a b u y=>zz1372 u y) k t h;have hst:∀k,∃r c,R9 (zku m n) (k+1) t=V9 (R9 (zku m n) k t) r c/\r<m/\c<n/\(R9 (zku m n) k t).A r c≠0/\BlandAt n m (zsv m n (R9 (zku m n) k t)) c r:=fun k=>(by obtain⟨d,o⟩:=z k;obtain⟨r,c,e,s⟩:=yan (hI k) o;exact⟨r,c,by rw[ybt o,e],s⟩);obtain⟨R,v⟩:=Classical.axiomOfChoice hst;obtain⟨C,g⟩:=Classical.axiomOfChoice v;refine yfa (m:=n) (n:=m) (N:=m+n) (fun k=>zsv m n (R9 (zku m n) k t)) C R (fun k=> ?_) (fun k=>(g k).2.2.2.2) ?_ ⟨h.ltD.2,h.ltD.1⟩ (fun j l=> ?_)
 ·obtain⟨p,hr,hc,q,A⟩:=g k;show zsv m n (R9 (zku m n) (k+1) t)=_;rw[p];have e:=(hI k).dic (sc:=fun _=>1) (top:=1) (fun _=>Nat.one_pos) Nat.one_pos hr hc q;have f:=yrz (S:=zoe m n (R9 (zku m n) k t)) hr hc _ rfl;rw[<-e] at f;exact f
 ·have hd:=h.distD (fun _=>1) 1;exact⟨hd.oo,hd.bb,fun j i l w e=>hd.bo i j w l e.symm⟩
 ·show 0<=(if m=m then(0:Rat) else _);rw[if_pos rfl];exact Rat.le_refl
theorem LineW.same {w:p} {S:Nat->Prop} {m:Nat} {g:Nat->Int} (h:LineW w S b c m f) (d:∀j,j<m->f j=g j):LineW w S b c m g:=
 ⟨h.blk,h.cap,fun j a=>by rw[<-d j a];exact h.el j a⟩
theorem LineW.lt {w:p} {S:Nat->Prop} {m:Nat} (h:LineW w S b c m f):b<w.heap.size:=by obtain⟨a,e⟩:=h.blk;exact(Array.getElem?_eq_some_iff.1 e).1
theorem LineW.free {w:p} {S:Nat->Prop} {m:Nat} (h:LineW w S b c m f):w.frozen? ⟨b,o,none⟩=false:=by obtain⟨a,e⟩:=h.blk;simp[World.frozen?,e]
theorem zsc {w:p} {a:Array Value} {t:TypeId} {u:Value} (h:w.heap[b]? =some (.cells a t (0,0))):∃d,(w.setCell ⟨b,o,none⟩ u).heap[b]? =some (.cells d t (0,0)):=by have c:=(Array.getElem?_eq_some_iff.1 h).1;have e:w.heap[b]= .cells a t (0,0):=(by have:=Array.getElem?_eq_getElem c;rw[h] at this;exact(Option.some.inj this).symm);refine⟨a.setIfInBounds o u,?_⟩;simp[World.setCell,c,Array.getElem_modify,e]
theorem LineW.put {w:p} {S:Nat->Prop} {m:Nat} (h:LineW w S b c m f) (G:∀x,S x->x≠b) (L:j<m) {z:Int} {P Q:Option Addr} {l:Nat}
 (H:IsQ w S (.agg #[.bool (decide (z<0)),.slice P (A9 z.natAbs).length k,.slice Q (A9 1).length l]) ((z:Int):Rat)):
 LineW (L7 w b j (.bool (decide (z<0))) (.slice P (A9 z.natAbs).length k) (.slice Q (A9 1).length l)) S b c m (fun i=>if i=j then z else f i) where
 blk:=by
  obtain⟨K,e⟩:=h.blk
  obtain⟨I,A⟩:=zsc (o:=j*3) (u:= .bool (decide (z<0))) e
  obtain⟨J,B⟩:=zsc (o:=j*3+1) (u:= .slice P (A9 z.natAbs).length k) A
  exact zsc (o:=j*3+2) (u:= .slice Q (A9 1).length l) B
 cap:=h.cap
 el i hi:=by
  have t:K6 S S w (L7 w b j (.bool (decide (z<0))) (.slice P (A9 z.natAbs).length k) (.slice Q (A9 1).length l)):=fun x u=>⟨u,fun o=>zmd (.inl (G x u))⟩;by_cases e:i=j
  ·subst e;simp only[if_pos];obtain⟨r,v,s,y,a,g,n,_⟩:=h.el i hi;obtain⟨C,D,E⟩:=ydh (x:= .bool (decide (z<0))) (y:= .slice P (A9 z.natAbs).length k) (z:= .slice Q (A9 1).length l) a g n;exact⟨P,k,Q,l,C,D,E,IsQ.stb.to H t⟩
  ·simp only[if_neg e];obtain⟨r,v,s,y,a,g,n,F⟩:=h.el i hi;have q:∀d,d<3->i*3+d<j*3\/j*3+3<=i*3+d:=fun d hd=>(by omega);exact⟨r,v,s,y,(zmd (.inr (q 0 og))).trans a,(zmd (.inr (q 1 og))).trans g,(zmd (.inr (q 2 og))).trans n,IsQ.stb.to F t⟩
theorem LineW.isV {w:p} {S t:Nat->Prop} {m:Nat} (h:LineW w S b c m f) (M:∀x,S x->t x) (N:t b):IsV w t (.slice (some ⟨b,0,none⟩) m c) (C2 (ints m f)):=by
 have D:(C2 (ints m f)).length=m:=by simp[C2,zqs]
 have hex:∀j,∃e,j<m->(e.cells.size=3/\IsR w t e (C7 ((f j:Int):Rat))/\∀i E,e.cells[i]? =some E->w.cell? ⟨b,j*3+i,none⟩=some E):=fun j=>by
  by_cases n:j<m
  ·obtain⟨P,k,Q,l,A,F,r,B⟩:=h.el j n;refine⟨_,fun _=>⟨rfl,IsQ.stb.to B (F7 M),fun i E a=> ?_⟩⟩;match i,a with
   |0,a=>cases a;exact A
   |1,a=>cases a;exact F
   |2,a=>cases a;exact r
   |_+3,a=>simp[Value.cells] at a
  ·exact⟨undef,fun h=>absurd h n⟩
 obtain⟨e,G⟩:=Classical.axiomOfChoice hex;have H:Wid 3 ((List.range m).map e):=fun T hv=>(by obtain⟨j,n,rfl⟩:=List.mem_map.1 hv;exact(G j (List.mem_range.1 n)).1);refine⟨some ⟨b,0,none⟩,c,(List.range m).map e,by rw[D],by rw[D];exact h.cap.1,h.cap.2,fun _=>⟨b,0,rfl,N,fun o E a=> ?_⟩,H,⟨by rw[D];simp,fun j x y J I=> ?_⟩⟩
 ·rw[Nat.zero_add];have O:=zqc H;have R:o<m*3:=(by have:=(List.getElem?_eq_some_iff.1 a).1;rw[O] at this;simpa using this);have n:o/3<m:=og;have A:=G (o/3) n;have F:((List.range m).map e)[o/3]? =some (e (o/3)):=(by rw[v,List.getElem?_range n];rfl);have r:∃K,(e (o/3)).cells[o%3]? =some K:=(by have:o%3<(e (o/3)).cells.size:=(by rw[A.1];omega);exact⟨_,Array.getElem?_eq_getElem this⟩);obtain⟨K,r⟩:=r;have B:=zmi H F r;rw[show o/3*3+o%3=o by omega] at B;rw[B] at a;cases a;have L:=A.2.2 _ _ r;rwa[show o/3*3+o%3=o by omega] at L
 ·have n:j<m:=(by have:=(List.getElem?_eq_some_iff.1 I).1;rwa[D] at this);rw[v,List.getElem?_range n] at J;cases J;have hr:(C2 (ints m f))[j]? =some (C7 ((f j:Int):Rat)):=(by unfold C2;rw[v,yia n];rfl);rw[hr] at I;cases I;exact(G j n).2.1
structure IntW (w:p) (b len:Nat) (f:Nat->Nat):Prop where
 blk:∃cur,w.heap[b]? =some (.cells cur 3 (0,0))
 el:∀i,i<len->w.cell? ⟨b,i,none⟩=some (.int .i64 ((f i:Nat):Int))
theorem IntW.lt {w:p} {len:Nat} {f:Nat->Nat} (h:IntW w b len f):b<w.heap.size:=by obtain⟨a,e⟩:=h.blk;exact(Array.getElem?_eq_some_iff.1 e).1
theorem IntW.free {w:p} {len:Nat} {f:Nat->Nat} (h:IntW w b len f):w.frozen? ⟨b,o,none⟩=false:=by obtain⟨a,e⟩:=h.blk;simp[World.frozen?,e]
theorem IntW.keep {w w':p} {len:Nat} {f:Nat->Nat} (h:IntW w b len f) (a:w'.heap[b]? =w.heap[b]?):IntW w' b len f:=
 ⟨by rw[a];exact h.blk,fun i c=>(World.cell?_of_block a).trans (h.el i c)⟩
theorem IntW.same {w:p} {len:Nat} {f g:Nat->Nat} (h:IntW w b len f) (c:∀i,i<len->f i=g i):IntW w b len g:=⟨h.blk,fun i a=>by rw[<-c i a];exact h.el i a⟩
theorem IntW.put {w:p} {len:Nat} {f:Nat->Nat} (h:IntW w b len f) (m:i<len) (c:Nat):IntW (w.setCell ⟨b,i,none⟩ (.int .i64 (c:Int))) b len (N5 f i c) where
 blk:=by obtain⟨j,e⟩:=h.blk;exact zsc e
 el k a:=by
  by_cases e:k=i
  ·subst e;rw[zoo];exact World.cell?_setCell_same _ _ _ (h.el k a)
  ·rw[zop _ _ e,World.cell?_setCell_other _ _ _ _ (fun d=>by injection d with l g;exact e g.symm)];exact h.el k a
structure TabW (w:p) (S:Nat->Prop) (lo:Nat) (bk cp:Nat->Nat) (N:Nat) (len:Nat->Nat) (F:Nat->Nat->Int):Prop where
 line:∀l,l<N->1<=len l->LineW w (SN S lo w) (bk l) (cp l) (len l) (F l)
 inj:∀l k,l<N->k<N->1<=len l->1<=len k->bk l=bk k->l=k
 sep:∀l,l<N->1<=len l->bk l<lo/\¬S (bk l)
 sS:∀b,S b->b<lo
 hlo:lo<=w.heap.size
section
variable {w w' : p} {S : Nat → Prop} {lo N : Nat} {bk cp len : Nat → Nat} {F : Nat → Nat → Int}
theorem TabW.same {a:Nat->Nat->Int} (h:TabW w S lo bk cp N len F) (e:∀l j,l<N->j<len l->F l j=a l j):TabW w S lo bk cp N len a:=
 ⟨fun l b c=>(h.line l b c).same fun j d=>e l j b d,h.inj,h.sep,h.sS,h.hlo⟩
theorem zmt {S:Nat->Prop} {lo:Nat} {w w':p} (c:w.heap.size<=w'.heap.size):∀b,SN S lo w b->SN S lo w' b:=fun b a=>by
 rcases a with h|h
 ·exact .inl h
 ·exact .inr ⟨h.1,C h.2 c⟩
theorem TabW.grown (h:TabW w S lo bk cp N len F) {r:Option Nat} (hg:w.grownBy w' r) (hr:∀b,r=some b->b<lo/\¬S b/\∀l,l<N->1<=len l->bk l≠b):TabW w' S lo bk cp N len F where
 line l d c:=by
  refine(h.line l d c).keep (hg.block _ (h.line l d c).lt fun e=>(hr _ e.symm).2.2 l d c rfl) fun x a=>⟨zmt hg.size x a,hg.block _ ?_ fun e=> ?_⟩
  ·rcases a with a|a
   ·exact C (h.sS x a) h.hlo
   ·exact a.2
  ·have:=hr _ e.symm
   rcases a with a|a
   ·exact this.2.1 a
   ·have:=a.1;omega
 inj:=h.inj;sep:=h.sep;sS:=h.sS;hlo:=z h.hlo hg.size
theorem TabW.upd (h:TabW w S lo bk cp N len F) {l:Nat} (i:l<N) (g:1<=len l) (hg:w.grownBy w' (some (bk l))) (m:LineW w' (SN S lo w') (bk l) (cp l) (len l) f):
 TabW w' S lo bk cp N len (fun k=>if k=l then f else F k) where
 line k d c:=by
  by_cases e:k=l
  ·subst e;simp only[if_pos];exact m
  ·simp only[if_neg e]
   refine(h.line k d c).keep (hg.block _ (h.line k d c).lt fun b=>e (h.inj _ _ d i c g (by injection b))) fun x a=>⟨zmt hg.size x a,hg.block _ ?_ fun b=> ?_⟩
   ·rcases a with a|a
    ·exact C (h.sS x a) h.hlo
    ·exact a.2
   ·have j:=h.sep l i g
    injection b with b
    rcases a with a|a
    ·exact j.2 (by rw[<-b];exact a)
    ·have:=a.1;omega
 inj:=h.inj;sep:=h.sep;sS:=h.sS;hlo:=z h.hlo hg.size
end
end Go.Proofs.YtlhhbccgfkhflaaGreatDoor
