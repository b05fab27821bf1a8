/-
 Package simplex's tables,f a program:pivots,a e c,both loops d to b end,a numbers stay small.
-/
import Derived.Test.YtlhhbccgfkhflaaGreatDoorProofDualWeak02
namespace Go.Proofs.YtlhhbccgfkhflaaGreatDoor
set_option linter.unusedVariables false
set_option maxRecDepth 100000
set_option maxHeartbeats 8000000
open _root_.Nat renaming le_refl → d, lt_or_ge → f, lt_succ_self → q
open _root_.List renaming getD_eq_getElem?_getD → g, getElem?_eq_getElem → p
variable {M i j k r top : Nat} {V al : Rat} {e : Int} {key o sc : Nat → Nat} {l : List Nat}
structure TB where
 A:Nat->Nat->Int
 d:Nat
 bas:List Nat
 oth:List Nat
def U4 (t:TB) (r c:Nat):TB:=⟨zno t.A t.d r c,(t.A r c).natAbs,t.bas.set r (t.oth.getD c 0),t.oth.set c (t.bas.getD r 0)⟩
def uc (sc:Nat->Nat) (n:Nat) (o:Nat->Nat) (j:Nat):Rat:=if j<n then((sc (o j):Nat):Rat) else 1
def ur (sc:Nat->Nat) (top m:Nat) (b:Nat->Nat) (i:Nat):Rat:=if i<m then((sc (b i):Nat):Rat) else((top:Nat):Rat)
def K7 (sc:Nat->Nat) (top m n:Nat) (t:TB):Dic:=
 ⟨fun i=>t.bas.getD i 0,fun j=>t.oth.getD j 0,fun i j=>if i<=m/\j<=n then(t.A i j:Rat)*((t.d:Int):Rat)⁻¹*uc sc n (fun j=>t.oth.getD j 0) j*(ur sc top m (fun i=>t.bas.getD i 0) i)⁻¹ else 0⟩
theorem zum {a:Nat} (h:r<l.length):(fun i=>(l.set r a).getD i 0)=O7 (fun i=>l.getD i 0) r a:=by
 funext i;unfold O7;rw[g,List.getElem?_set];by_cases e:i=r
 ·rw[if_pos e.symm,if_pos h,if_pos e];rfl
 ·rw[if_neg (Ne.symm e),if_neg e];show _=l.getD i 0;rw[g]
theorem zvd {x:Nat} (h:0<x):((x:Nat):Rat)≠0:=zwn (d:=x) h
theorem zz1458 (a:∀b,0<sc b) (n:Nat) (o:Nat->Nat) (j:Nat):uc sc n o j≠0:=by
 unfold uc;split
 ·exact zvd (a _)
 ·decide
theorem zz1461 (a:∀d,0<sc d) (c:0<top) (m:Nat) (b:Nat->Nat) (i:Nat):ur sc top m b i≠0:=by
 unfold ur;split
 ·exact zvd (a _)
 ·exact zvd c
theorem zup {a b:Rat} (h:a*b=1):a⁻¹=b:=by
 have ha:a≠0:=fun e=>(by rw[e,Rat.zero_mul] at h;exact absurd h (by decide));have c:=Rat.mul_inv_cancel _ ha
 calc a⁻¹=a⁻¹*(a*b):=by rw[h,Rat.mul_one]
  _=b:=by rw[<-Rat.mul_assoc,Rat.mul_comm a⁻¹,c,Rat.one_mul]
theorem ycb {a:Rat} (h:a≠0):a⁻¹≠0:=fun e=>by have b:=Rat.mul_inv_cancel _ h;rw[e,Rat.mul_zero] at b;exact absurd b (by decide)
section
variable {m n : Nat} {t : TB} {B O : Nat → RV}
theorem ygl (M:∀ag,0<sc ag) (an:0<top) (h:Cram (m+1) n t.A t.d B O) (G:t.bas.length=m) (J:t.oth.length=n) {c:Nat} (hr:r<m) (hc:c<n) (K:t.A r c≠0):
 K7 sc top m n (U4 t r c)=zla (K7 sc top m n t) r c:=by
 obtain⟨g,u⟩:=nm ((t.A r c:Rat):Rat);obtain⟨D,hD⟩:=nm (((t.d:Int):Rat));have X:D≠0:=(by rw[hD];exact zwn h.d0);have L:g≠0:=(by rw[u];intro e;exact K (Rat.intCast_inj.1 (by rw[e];rfl)));obtain⟨v,E⟩:=nm ((((t.A r c).natAbs:Int):Rat):Rat)
 have ab:∀i j,i<=m->j<=n->(zno t.A t.d r c i j:Rat)*v⁻¹=(zli t.A t.d r c i j:Rat)*g⁻¹:=by
  intro i j _ _;unfold zno;rcases Int.lt_or_le (t.A r c) 0 with z|z
  ·have e:v= -g:=(by rw[E,u,<-Rat.intCast_neg];congr 1;omega);have Q:v⁻¹= -g⁻¹:=zup (by rw[e];have:=Rat.mul_inv_cancel _ L;grind);rw[if_pos z,Q,Rat.intCast_neg];grind
  ·have e:v=g:=(by rw[E,u];congr 1;omega);rw[if_neg og,e]
 have Y:=(h.piv (show r<m+1 by omega) hc K).2;have al:=Rat.mul_inv_cancel _ L;have aj:=Rat.mul_inv_cancel _ X;have U:(K7 sc top m n (U4 t r c)).bas=(zla (K7 sc top m n t) r c).bas:=zum (by rw[G];exact hr);have T:(K7 sc top m n (U4 t r c)).oth=(zla (K7 sc top m n t) r c).oth:=zum (by rw[J];exact hc)
 have R:(K7 sc top m n (U4 t r c)).D=(zla (K7 sc top m n t) r c).D:=by
  funext i j;show(if i<=m/\j<=n then(zno t.A t.d r c i j:Rat)*(((t.A r c).natAbs:Int):Rat)⁻¹*uc sc n (fun j=>(t.oth.set c (t.bas.getD r 0)).getD j 0) j*(ur sc top m (fun i=>(t.bas.set r (t.oth.getD c 0)).getD i 0) i)⁻¹ else 0)=K5 (K7 sc top m n t).D r c i j;rw[zum (l:=t.bas) (by rw[G];exact hr),zum (l:=t.oth) (by rw[J];exact hc),<-E];(have k:∀i j,i<=m->j<=n->(K7 sc top m n t).D i j=(t.A i j:Rat)*D⁻¹*uc sc n (fun j=>t.oth.getD j 0) j*(ur sc top m (fun i=>t.bas.getD i 0) i)⁻¹:=fun i j q s=>by show(if i<=m/\j<=n then _ else _)=_;rw[if_pos ⟨q,s⟩,hD]);have p:∀i j,¬(i<=m/\j<=n)->(K7 sc top m n t).D i j=0:=fun i j a=>if_neg a;have A:uc sc n (fun j=>t.oth.getD j 0) c=((sc (t.oth.getD c 0):Nat):Rat):=if_pos hc;have C:ur sc top m (fun i=>t.bas.getD i 0) r=((sc (t.bas.getD r 0):Nat):Rat):=if_pos hr;have F:uc sc n (O7 (fun j=>t.oth.getD j 0) c (t.bas.getD r 0)) c=((sc (t.bas.getD r 0):Nat):Rat):=(by unfold uc;rw[if_pos hc,zoq]);have P:ur sc top m (O7 (fun i=>t.bas.getD i 0) r (t.oth.getD c 0)) r=((sc (t.oth.getD c 0):Nat):Rat):=(by unfold ur;rw[if_pos hr,zoq]);have N:∀j,j≠c->uc sc n (O7 (fun j=>t.oth.getD j 0) c (t.bas.getD r 0)) j=uc sc n (fun j=>t.oth.getD j 0) j:=fun j s=>(by unfold uc;rw[zor _ _ s]);have af:∀i,i≠r->ur sc top m (O7 (fun i=>t.bas.getD i 0) r (t.oth.getD c 0)) i=ur sc top m (fun i=>t.bas.getD i 0) i:=fun i q=>(by unfold ur;rw[zor _ _ q]);obtain⟨e,H⟩:=nm (((sc (t.oth.getD c 0):Nat):Rat));obtain⟨l,I⟩:=nm (((sc (t.bas.getD r 0):Nat):Rat));have Z:e≠0:=(by rw[H];exact zvd (M _));have aa:l≠0:=(by rw[I];exact zvd (M _));have heq:=Rat.mul_inv_cancel _ Z;have ak:=Rat.mul_inv_cancel _ aa;rw[<-H] at A P;rw[<-I] at C F;have ac:(K7 sc top m n t).D r c=g*D⁻¹*e*l⁻¹:=(by rw[k r c og og,A,C,u]);have hinv:((K7 sc top m n t).D r c)⁻¹=g⁻¹*D*e⁻¹*l:=(by rw[ac];refine zup ?_;grind);unfold K5;rw[hinv];by_cases a:i<=m/\j<=n
  ·rw[if_pos a,ab i j a.1 a.2];by_cases f:i=r
   ·subst f;rw[if_pos rfl,P];by_cases d:j=c
    ·subst d;rw[if_pos rfl,F];unfold zli;rw[if_pos rfl,if_pos rfl,<-hD];grind
    ·rw[if_neg d,N j d,k i j a.1 a.2,C];unfold zli;rw[if_pos rfl,if_neg d];grind
   ·rw[if_neg f,af i f];by_cases d:j=c
    ·subst d;rw[if_pos rfl,F,k i j a.1 a.2,A];unfold zli;rw[if_neg f,if_pos rfl,Rat.intCast_neg];grind
    ·rw[if_neg d,N j d,k i j a.1 a.2,k i c a.1 og,k r j og a.2,A,C,Y i j og a.2 f d,<-hD,<-u,Rat.div_def];obtain⟨x,ad⟩:=nm (uc sc n (fun j=>t.oth.getD j 0) j);obtain⟨y,ae⟩:=nm ((ur sc top m (fun i=>t.bas.getD i 0) i)⁻¹);rw[<-ad,<-ae];grind
  ·rw[if_neg a];by_cases f:i=r
   ·subst f;have s:¬j<=n:=fun h=>a ⟨by omega,h⟩;rw[if_pos rfl,if_neg og,p i j a];grind
   ·rw[if_neg f];by_cases d:j=c
    ·subst d;rw[if_pos rfl,p i j a];grind
    ·rw[if_neg d,p i j a];by_cases q:i<=m
     ·have s:¬j<=n:=fun h=>a ⟨q,h⟩;rw[p r j og];grind
     ·rw[p i c og];grind
 have ext:∀(S w:Dic),S.bas=w.bas->S.oth=w.oth->S.D=w.D->S=w:=(by rintro⟨b,o,D⟩ ⟨ai,ao,ah⟩ z V W;cases z;cases V;cases W;rfl);exact ext _ _ U T R
end
structure TInv (M m n:Nat) (t:TB):Prop where
 cram:∃B O,Cram (m+1) n t.A t.d B O/\(∀i,i<m+1->zsz M (B i))/\∀j,j<=n->zsz M (O j)
 bl:t.bas.length=m
 ol:t.oth.length=n
 dist:(t.bas++t.oth).Nodup
 lt:∀v∈t.bas++t.oth,v<m+n
theorem TInv.d0 {m n:Nat} {t:TB} (h:TInv M m n t):0<t.d:=by obtain⟨B,O,h,_⟩:=h.cram;exact h.d0
theorem TInv.small {m n:Nat} {t:TB} (h:TInv M m n t):t.d<=M3 M (m+1)/\∀i j,i<=m->j<=n->(t.A i j).natAbs<=M3 M (m+1):=by obtain⟨B,O,h,a,b⟩:=h.cram;have:=h.small a b;exact⟨this.1,fun i j d c=>this.2 i j og c⟩
theorem zkh (h:i<l.length):l.getD i 0∈l:=by rw[g,p h];exact List.getElem_mem _
theorem zqa (h:l.Nodup) (b:i<l.length) (c:j<l.length) (e:l.getD i 0=l.getD j 0):i=j:=by
 rw[g,g,p b,p c] at e;have e:l[i]=l[j]:=e;rw[List.nodup_iff_pairwise_ne,List.pairwise_iff_getElem] at h;rcases Nat.lt_trichotomy i j with a|a|a
 ·exact absurd e (h i j b c a)
 ·exact a
 ·exact absurd e.symm (h j i c b a)
theorem TInv.distD {m n:Nat} {t:TB} (h:TInv M m n t) (sc:Nat->Nat) (top:Nat):Dist m n (K7 sc top m n t):=by
 have d:=h.bl;have f:=h.ol;have a:=List.nodup_append.1 h.dist
 exact⟨fun i j b c e=>zqa a.1 og og e,fun i j b c e=>zqa a.2.1 og og e,
  fun i j b c e=>a.2.2 _ (zkh (l:=t.bas) og) _ (zkh (l:=t.oth) og) e⟩
theorem ylv {b o:List Nat} {c:Nat} (hr:r<b.length) (hc:c<o.length):∀a,a∈b.set r (o.getD c 0)++o.set c (b.getD r 0)->a∈b++o:=by
 intro a hv;rcases List.mem_append.1 hv with h|h
 ·rcases List.mem_or_eq_of_mem_set h with h|h
  ·exact List.mem_append.2 (.inl h)
  ·rw[h];exact List.mem_append.2 (.inr (zkh hc))
 ·rcases List.mem_or_eq_of_mem_set h with h|h
  ·exact List.mem_append.2 (.inr h)
  ·rw[h];exact List.mem_append.2 (.inl (zkh hr))
theorem zyw (h:∀i j,i<l.length->j<l.length->l.getD i 0=l.getD j 0->i=j):l.Nodup:=by rw[List.nodup_iff_pairwise_ne,List.pairwise_iff_getElem];intro i j a b c e;have:=h i j a b (by rw[g,g,p a,p b,e]);omega
theorem TInv.piv {m n:Nat} {t:TB} (h:TInv M m n t) {c:Nat} (hr:r<m) (hc:c<n) (q:t.A r c≠0):TInv M m n (U4 t r c):=by
 obtain⟨B,O,o,k,l⟩:=h.cram;have hD:=(h.distD (fun _=>1) 1).piv hr hc;have e:=ygl (sc:=fun _=>1) (top:=1) (fun _=>Nat.one_pos) Nat.one_pos o h.bl h.ol hr hc q;rw[<-e] at hD;(have v:(U4 t r c).bas.length=m:=by show(t.bas.set _ _).length=m;rw[List.length_set];exact h.bl);(have w:(U4 t r c).oth.length=n:=by show(t.oth.set _ _).length=n;rw[List.length_set];exact h.ol);refine⟨⟨_,_,(o.piv (show r<m+1 by omega) hc q).1,fun i d=> ?_,fun j f=> ?_⟩,v,w,?_,fun s hv=>h.lt s (ylv (by rw[h.bl];exact hr) (by rw[h.ol];exact hc) s hv)⟩
 ·unfold N0;split
  ·exact l c og
  ·exact k i d
 ·unfold N0;split
  ·exact k r og
  ·exact l j f
 ·rw[List.nodup_append];exact⟨zyw fun i j d f e=>hD.bb i j og og e,zyw fun i j d f e=>hD.oo i j og og e,fun a ha b u e=>by obtain⟨i,d,rfl⟩:=List.getElem_of_mem ha;obtain⟨j,f,rfl⟩:=List.getElem_of_mem u;refine hD.bo i j og og ?_;show(U4 t r c).bas.getD i 0=(U4 t r c).oth.getD j 0;rw[g,g,p d,p f,e]⟩
theorem TInv.dic {m n:Nat} {t:TB} (h:TInv M m n t) (d:∀f,0<sc f) (e:0<top) {c:Nat} (hr:r<m) (hc:c<n) (b:t.A r c≠0):K7 sc top m n (U4 t r c)=zla (K7 sc top m n t) r c:=by obtain⟨B,O,a,_,_⟩:=h.cram;exact ygl d e a h.bl h.ol hr hc b
def V8 (a:Nat->Bool) (key:Nat->Nat):Nat->Option Nat
 |0=>none
 |k+1=>match V8 a key k with
  |none=>if a k then some k else none
  |some b=>if a k&&decide (key k<key b) then some k else some b
theorem zvs {a:Nat->Bool}:∀{n},V8 a key n=none->∀j,j<n->a j=false
 |0,_,j,k=>absurd k (Nat.not_lt_zero _)
 |n+1,h,j,k=>by
  rw[V8] at h
  cases e:V8 a key n with
  |none=>
   rw[e] at h
   have h:(if a n then some n else none)=none:=h
   rcases f j n with c|c
   ·exact zvs e j c
   ·obtain rfl:j=n:=og
    by_cases i:a j
    ·rw[if_pos i] at h;cases h
    ·simpa using i
  |some b=>
   rw[e] at h
   have h:(if a n&&decide (key n<key b) then some n else some b)=none:=h
   split at h<;>cases h
theorem zmq {a:Nat->Bool}:∀{n c},V8 a key n=some c->c<n/\a c=true/\∀j,j<n->a j=true->key c<=key j
 |0,c,h=>by cases h
 |n+1,c,h=>by
  rw[V8] at h
  cases e:V8 a key n with
  |none=>
   rw[e] at h
   have h:(if a n then some n else none)=some c:=h
   by_cases k:a n
   ·rw[if_pos k] at h
    cases h
    refine⟨q _,k,fun j s i=> ?_⟩
    rcases f j n with o|o
    ·rw[zvs e j o] at i;cases i
    ·rw[show j=n by omega];exact d _
   ·rw[if_neg k] at h;cases h
  |some b=>
   rw[e] at h
   have h:(if a n&&decide (key n<key b) then some n else some b)=some c:=h
   obtain⟨o,k,r⟩:=zmq e
   by_cases l:(a n&&decide (key n<key b))=true
   ·rw[if_pos l] at h
    cases h
    rw[Bool.and_eq_true,decide_eq_true_eq] at l
    refine⟨q _,l.1,fun j s i=> ?_⟩
    rcases f j n with m|m
    ·have:=r j m i;omega
    ·rw[show j=n by omega];exact d _
   ·rw[if_neg l] at h
    cases h
    refine⟨by omega,k,fun j s i=> ?_⟩
    rcases f j n with m|m
    ·exact r j m i
    ·obtain rfl:j=n:=og
     rw[i,Bool.true_and,decide_eq_true_eq] at l
     omega
def zmf (A:Nat->Nat->Int) (bas:Nat->Nat) (n c k b:Nat):Bool:=
 decide ((A k n).natAbs*(A b c).natAbs<(A b n).natAbs*(A k c).natAbs)||(decide ((A k n).natAbs*(A b c).natAbs=(A b n).natAbs*(A k c).natAbs)&&decide (bas k<bas b))
def Y7 (A:Nat->Nat->Int) (bas:Nat->Nat) (n c:Nat):Nat->Option Nat
 |0=>none
 |k+1=>if A k c<=0 then Y7 A bas n c k else match Y7 A bas n c k with
  |none=>some k
  |some b=>if zmf A bas n c k b then some k else some b
theorem ycl {A:Nat->Nat->Int} {bas:Nat->Nat} {n c:Nat}:∀{k},Y7 A bas n c k=none->∀i,i<k->A i c<=0
 |0,_,i,l=>absurd l (Nat.not_lt_zero _)
 |k+1,h,i,l=>by
  rw[Y7] at h
  by_cases a:A k c<=0
  ·rw[if_pos a] at h
   rcases f i k with j|j
   ·exact ycl h i j
   ·rw[show i=k by omega];exact a
  ·rw[if_neg a] at h
   cases e:Y7 A bas n c k with
   |none=>rw[e] at h;cases h
   |some b=>
    rw[e] at h
    have h:(if zmf A bas n c k b then some k else some b)=none:=h
    split at h<;>cases h
def LimR (A:Nat->Nat->Int) (bas:Nat->Nat) (n c r i:Nat):Prop:=A r n*A i c<A i n*A r c\/(A r n*A i c=A i n*A r c/\bas r<=bas i)
theorem yje {A:Nat->Nat->Int} {bas:Nat->Nat} {n c:Nat}:LimR A bas n c r r:= .inr ⟨rfl,d _⟩
theorem zz1356 {x y z a b c:Int} (ha:0<a) (f:0<b) (hc:0<c) (d:x*b<y*a) (e:y*c<=z*b):x*c<z*a:=by refine Int.lt_of_not_ge fun h=> ?_;have g:=Int.mul_lt_mul_of_pos_right d hc;have i:=Int.mul_le_mul_of_nonneg_right e (Int.le_of_lt ha);have j:=Int.mul_le_mul_of_nonneg_right h (Int.le_of_lt f);grind
theorem ratio_lt' {x y z a b c:Int} (ha:0<a) (f:0<b) (hc:0<c) (d:x*b<=y*a) (e:y*c<z*b):x*c<z*a:=by refine Int.lt_of_not_ge fun h=> ?_;have g:=Int.mul_le_mul_of_nonneg_right d (Int.le_of_lt hc);have i:=Int.mul_lt_mul_of_pos_right e ha;have j:=Int.mul_le_mul_of_nonneg_right h (Int.le_of_lt f);grind
theorem zz1355 {x y z a b c:Int} (ha:0<a) (f:0<b) (hc:0<c) (d:x*b=y*a) (e:y*c=z*b):x*c=z*a:=by
 have h:(x*c-z*a)*b=0:=(by grind);rcases Int.mul_eq_zero.1 h with h|h
 ·omega
 ·omega
theorem LimR.trans {A:Nat->Nat->Int} {bas:Nat->Nat} {n c s:Nat} (hr:0<A r c) (e:0<A s c) (d:0<A i c) (a:LimR A bas n c r s) (b:LimR A bas n c s i):LimR A bas n c r i:=by
 rcases a with a|⟨a,f⟩
 ·left;exact zz1356 hr e d a (by rcases b with h|h;exact Int.le_of_lt h;exact Int.le_of_eq h.1)
 ·rcases b with b|⟨b,g⟩
  ·exact .inl (ratio_lt' hr e d (Int.le_of_eq a) b)
  ·exact .inr ⟨zz1355 hr e d a b,Nat.le_trans f g⟩
theorem yvz {A:Nat->Nat->Int} {bas:Nat->Nat} {n c b:Nat} (g:0<=A k n) (e:0<=A b n) (h:0<A k c) (f:0<A b c):
 zmf A bas n c k b=true↔A k n*A b c<A b n*A k c\/(A k n*A b c=A b n*A k c/\bas k<bas b):=by unfold zmf;rw[Bool.or_eq_true,Bool.and_eq_true,decide_eq_true_eq,decide_eq_true_eq,decide_eq_true_eq];have a:(((A k n).natAbs*(A b c).natAbs:Nat):Int)=A k n*A b c:=(by rw[Int.natCast_mul,Int.natAbs_of_nonneg g,Int.natAbs_of_nonneg (Int.le_of_lt f)]);have d:(((A b n).natAbs*(A k c).natAbs:Nat):Int)=A b n*A k c:=(by rw[Int.natCast_mul,Int.natAbs_of_nonneg e,Int.natAbs_of_nonneg (Int.le_of_lt h)]);rw[<-a,<-d];omega
theorem zyq {A:Nat->Nat->Int} {bas:Nat->Nat} {n c:Nat}:∀{k r},(∀i,i<k->0<=A i n)->Y7 A bas n c k=some r->r<k/\0<A r c/\∀i,i<k->0<A i c->LimR A bas n c r i
 |0,r,_,h=>by cases h
 |k+1,r,t,h=>by
  rw[Y7] at h
  by_cases j:A k c<=0
  ·rw[if_pos j] at h
   obtain⟨w,m,u⟩:=zyq (fun i s=>t i og) h
   refine⟨by omega,m,fun i s l=> ?_⟩
   rcases f i k with a|a
   ·exact u i a l
   ·obtain rfl:i=k:=og
    omega
  ·rw[if_neg j] at h
   have j:0<A k c:=og
   cases e:Y7 A bas n c k with
   |none=>
    rw[e] at h
    have h:some k=some r:=h
    cases h
    refine⟨q _,j,fun i s l=> ?_⟩
    rcases f i k with a|a
    ·have:=ycl e i a;omega
    ·rw[show i=k by omega];exact yje
   |some b=>
    rw[e] at h
    have h:(if zmf A bas n c k b then some k else some b)=some r:=h
    obtain⟨w,m,u⟩:=zyq (fun i s=>t i og) e
    have v:=yvz (bas:=bas) (t k og) (t b og) j m
    by_cases a:zmf A bas n c k b=true
    ·rw[if_pos a] at h
     cases h
     have x:LimR A bas n c k b:=by rcases v.1 a with h|h;exact .inl h;exact .inr ⟨h.1,Nat.le_of_lt h.2⟩
     refine⟨q _,j,fun i s l=> ?_⟩
     rcases f i k with o|o
     ·exact x.trans j m l (u i o l)
     ·rw[show i=k by omega];exact yje
    ·rw[if_neg a] at h
     cases h
     refine⟨by omega,m,fun i s l=> ?_⟩
     rcases f i k with o|o
     ·exact u i o l
     ·obtain rfl:i=k:=og
      have y:¬(A i n*A r c<A r n*A i c\/(A i n*A r c=A r n*A i c/\bas i<bas r)):=fun h=>a (v.2 h)
      unfold LimR
      omega
section
variable (m n : Nat)
def zlq (t:TB):Option Nat:=V8 (fun j=>decide (t.A m j<0)) (fun j=>t.oth.getD j 0) n
def znk (t:TB) (c:Nat):Option Nat:=Y7 t.A (fun i=>t.bas.getD i 0) n c m
def zko (t:TB):Option TB:=match zlq m n t with
 |none=>none
 |some c=>match znk m n t c with
  |none=>none
  |some r=>some (U4 t r c)
def zom (t:TB):Option Nat:=V8 (fun i=>decide (t.A i n<0)) (fun i=>t.bas.getD i 0) m
def zpc (t:TB) (r:Nat):Option Nat:=V8 (fun j=>decide (t.A r j<0)) (fun j=>t.oth.getD j 0) n
def zkv (t:TB):Option TB:=match zom m n t with
 |none=>none
 |some r=>match zpc n t r with
  |none=>none
  |some c=>some (U4 t r c)
end
def O0 {c:Type} (e:c->Option c):Nat->c->c
 |0,a=>a
 |k+1,a=>match e a with
  |none=>a
  |some b=>O0 e k b
theorem ycf {d:Type} {c:d->Option d} {a b:d} (h:c a=some b) (k:Nat):O0 c (k+1) a=O0 c k b:=by rw[O0,h]
theorem yim {b:Type} {c:b->Option b} {a:b} (h:c a=none) (k:Nat):O0 c k a=a:=by cases k with
 |zero=>rfl
 |succ k=>rw[O0,h]
def zxg {b:Type} (c:b->Option b) (a:b):Prop:=∃k,c (O0 c k a)=none
theorem yce {j:Type} {i:j->Option j}:∀{k:Nat} {a b:j},i (O0 i k a)=some b->O0 i (k+1) a=b
 |0,a,b,h=>by rw[O0,show i a=some b from h];rfl
 |k+1,a,b,h=>by
  cases e:i a with
  |none=>rw[yim e,e] at h;cases h
  |some c=>rw[ycf e] at h⊢;exact yce h
theorem ycd {i:Type} {c:i->Option i} {P:i->Prop} (j:∀a b,P a->c a=some b->P b):∀k a,P a->P (O0 c k a)
 |0,a,h=>h
 |k+1,a,h=>by
  cases e:c a with
  |none=>rw[yim e];exact h
  |some b=>rw[ycf e];exact ycd j k b (j a b h e)
abbrev zol (m n:Nat) (t:TB):Dic:=K7 (fun _=>1) 1 m n t
theorem uc1 (n:Nat) (o:Nat->Nat) (j:Nat):uc (fun _=>1) n o j=1:=by unfold uc;split<;>rfl
theorem ur1 (m:Nat) (b:Nat->Nat) (i:Nat):ur (fun _=>1) 1 m b i=1:=by unfold ur;split<;>rfl
theorem zpb {m n:Nat} {t:TB} (a:i<=m) (b:j<=n):(zol m n t).D i j=(t.A i j:Rat)*((t.d:Int):Rat)⁻¹:=by show(if i<=m/\j<=n then _ else _)=_;rw[if_pos ⟨a,b⟩,uc1,ur1,Rat.mul_one,show(1:Rat)⁻¹=1 from zup (Rat.mul_one 1),Rat.mul_one]
theorem zuj {d:Nat} (h:0<d):0<((d:Int):Rat)⁻¹:=inv_pos (by rw[<-Rat.intCast_zero,Rat.intCast_lt_intCast];omega)
theorem zrv {z:Int} {q:Rat} (b:0<q):(z:Rat)*q<0↔z<0:=by
 constructor
 ·intro h;refine Int.lt_of_not_ge fun c=> ?_;have a:(0:Rat)<=(z:Rat):=(by rw[<-Rat.intCast_zero,Rat.intCast_le_intCast];exact c);have:=Rat.mul_nonneg a (Rat.le_of_lt b);grind
 ·intro h;have a:(z:Rat)<0:=(by rw[<-Rat.intCast_zero,Rat.intCast_lt_intCast];exact h);have:=Rat.mul_pos (show 0< -(z:Rat) by grind) b;grind
theorem zzv {z:Int} {q:Rat} (a:0<q):0<(z:Rat)*q↔0<z:=by
 have:=zrv (z:= -z) a;rw[Rat.intCast_neg] at this;constructor
 ·intro h;have:=this.1 (by grind);omega
 ·intro h;have:=this.2 og;grind
theorem zzu {z:Int} {q:Rat} (b:0<q):0<=(z:Rat)*q↔0<=z:=by
 have:=zrv (z:=z) b;constructor
 ·intro h;refine Int.le_of_not_gt fun a=> ?_;have:=this.2 a;grind
 ·intro h;refine Rat.not_lt.1 fun a=> ?_;have:=this.1 a;omega
theorem yrc {a b c:Int} {q:Rat} (d:0<q):((a:Rat)*q)*((b:Rat)*q)<((c:Rat)*q)*((e:Rat)*q)↔a*b<c*e:=by
 have h:=zzv (z:=c*e-a*b) (q:=q*q) (Rat.mul_pos d d);rw[Rat.intCast_sub,Rat.intCast_mul,Rat.intCast_mul] at h;constructor
 ·intro f;have:=h.1 (by grind);omega
 ·intro f;have:=h.2 og;grind
theorem yrb {a b c:Int} (h:a*b=c*e) (q:Rat):((a:Rat)*q)*((b:Rat)*q)=((c:Rat)*q)*((e:Rat)*q):=by have:(a:Rat)*(b:Rat)=(c:Rat)*(e:Rat):=(by rw[<-Rat.intCast_mul,<-Rat.intCast_mul,h]);grind
theorem ybg {m n:Nat} {t e:TB} (h:TInv M m n t) (y:∀i,i<m->0<=t.A i n) (a:zko m n t=some e):∃r c,e=U4 t r c/\t.A r c≠0/\BlandAt m n (zol m n t) r c:=by
 unfold zko at a;cases l:zlq m n t with
 |none=>rw[l] at a;cases a
 |some c=>
  rw[l] at a;have a:(match znk m n t c with|none=>none|some r=>some (U4 t r c))=some e:=a;cases o:znk m n t c with
  |none=>rw[o] at a;cases a
  |some r=>
   rw[o] at a;have a:some (U4 t r c)=some e:=a;cases a;obtain⟨v,k,w⟩:=zmq l;obtain⟨B,C,D⟩:=zyq y o;have k:t.A m c<0:=of_decide_eq_true k;have b:=zuj h.d0;refine⟨r,c,rfl,by omega,v,B,?_,fun j A s=> ?_,?_,fun i z u=> ?_⟩
   ·rw[zpb (d _) og];exact(zrv b).2 k
   ·rw[zpb (d _) og] at s;exact w j A (decide_eq_true ((zrv b).1 s))
   ·rw[zpb og og];exact(zzv b).2 C
   ·rw[zpb og og] at u⊢;rw[zpb og og,zpb og og,zpb og og];rcases D i z ((zzv b).1 u) with h|⟨h,x⟩
    ·exact .inl ((yrc b).2 h)
    ·exact .inr ⟨yrb h _,x⟩
theorem restT {m n:Nat} {t e:TB} (h:TInv M m n t) (f:∀i,i<m->0<=t.A i n) (l:zko m n t=some e):TInv M m n e/\∀i,i<m->0<=e.A i n:=by obtain⟨r,c,rfl,k,a⟩:=ybg h f l;have j:=h.piv a.hr a.hc k;refine⟨j,fun i b=> ?_⟩;have g:=yli a (fun i b=>by rw[zpb og (d _)];exact(zzu (zuj h.d0)).2 (f i b)) i b;rw[<-h.dic (fun _=>Nat.one_pos) Nat.one_pos a.hr a.hc k] at g;exact(zzu (zuj j.d0)).1 (by rw[<-zpb (m:=m) og (d n)];exact g)
theorem TInv.ltD {m n:Nat} {t:TB} (h:TInv M m n t):(∀i,i<m->t.bas.getD i 0<m+n)/\∀j,j<n->t.oth.getD j 0<m+n:=
 ⟨fun i a=>h.lt _ (List.mem_append.2 (.inl (zkh (by rw[h.bl];exact a)))),fun j b=>h.lt _ (List.mem_append.2 (.inr (zkh (by rw[h.ol];exact b))))⟩
theorem yuf {m n:Nat} {t:TB} (h:TInv M m n t) (g:∀i,i<m->0<=t.A i n):zxg (zko m n) t:=by
 refine Classical.byContradiction fun x=> ?_
 have A:∀k,∃f,zko m n (O0 (zko m n) k t)=some f:=fun k=>by
  cases e:zko m n (O0 (zko m n) k t) with
  |none=>exact absurd ⟨k,e⟩ x
  |some f=>exact⟨f,rfl⟩
 have hI:∀k,TInv M m n (O0 (zko m n) k t)/\∀i,i<m->0<=(O0 (zko m n) k t).A i n:=fun k=>
  ycd (P:=fun t=>TInv M m n t/\∀i,i<m->0<=t.A i n) (fun a b o z=>restT o.1 o.2 z) k t ⟨h,g⟩
 have hst:∀k,∃r c,O0 (zko m n) (k+1) t=U4 (O0 (zko m n) k t) r c/\(O0 (zko m n) k t).A r c≠0/\BlandAt m n (zol m n (O0 (zko m n) k t)) r c:=fun k=>(by obtain⟨f,p⟩:=A k;obtain⟨r,c,e,y,u⟩:=ybg (hI k).1 (hI k).2 p;exact⟨r,c,by rw[yce p,e],y,u⟩);obtain⟨R,v⟩:=Classical.axiomOfChoice hst;obtain⟨C,l⟩:=Classical.axiomOfChoice v;refine yfh (m:=m) (n:=n) (N:=m+n) (fun k=>zol m n (O0 (zko m n) k t)) R C (fun k=> ?_) (fun k=>(l k).2.2) (h.distD _ _) h.ltD (fun i w=> ?_)
 ·obtain⟨q,s,j⟩:=l k;show zol m n (O0 (zko m n) (k+1) t)=_;rw[q];exact(hI k).1.dic (fun _=>Nat.one_pos) Nat.one_pos j.hr j.hc s
 ·show 0<=(zol m n t).D i n;rw[zpb og (d _)];exact(zzu (zuj h.d0)).2 (g i w)
def zti (m n:Nat) (t:TB):Dic:=⟨(zol m n t).oth,(zol m n t).bas,fun j i=>if i=m then 0 else if j=n then(zol m n t).D i n else -((zol m n t).D i j)⟩
theorem yrl {m n c:Nat} {S:Dic} (hr:r<m) (hc:c<n) (R:Dic->Dic) (o:R=fun S=>⟨S.oth,S.bas,fun j i=>if i=m then 0 else if j=n then S.D i n else -(S.D i j)⟩):R (zla S r c)=zla (R S) c r:=by
 subst o
 have q:(-(S.D r c))⁻¹= -(S.D r c)⁻¹:=by
  by_cases h:S.D r c=0
  ·rw[h,Rat.neg_zero,Rat.inv_zero,Rat.neg_zero]
  ·exact zup (by have:=Rat.mul_inv_cancel _ h;grind)
 show(⟨_,_,_⟩:Dic)=⟨_,_,_⟩;congr 1;funext j i;(have e:(fun j i=>if i=m then(0:Rat) else if j=n then S.D i n else -(S.D i j)) c r= -(S.D r c):=by show(if r=m then(0:Rat) else if c=n then S.D r n else -(S.D r c))=_;rw[if_neg og,if_neg og]);show(if i=m then(0:Rat) else if j=n then K5 S.D r c i n else -(K5 S.D r c i j))=K5 (fun j i=>if i=m then(0:Rat) else if j=n then S.D i n else -(S.D i j)) c r j i;unfold K5;rw[e,q];have l:r≠m:=og;have g:c≠n:=og;have k:n≠c:=og;have p:m≠r:=og;by_cases b:i=m
 ·subst b;simp only[if_neg p,if_neg g];by_cases a:j=c
  ·simp only[if_pos a];grind
  ·simp only[if_neg a];grind
 ·by_cases f:j=n
  ·subst f;by_cases d:i=r
   ·subst d;simp only[if_neg b,if_neg k];grind
   ·simp only[if_neg b,if_neg k,if_neg d,if_neg l,if_neg g];grind
  ·by_cases d:i=r
   ·subst d;by_cases a:j=c
    ·simp only[if_neg b,if_neg f,if_pos a];grind
    ·simp only[if_neg b,if_neg f,if_neg a];grind
   ·by_cases a:j=c
    ·simp only[if_neg b,if_neg f,if_neg d,if_pos a,if_neg g];grind
    ·simp only[if_neg b,if_neg f,if_neg d,if_neg a,if_neg l,if_neg g];grind
theorem ybf {m n:Nat} {t l:TB} (h:TInv M m n t) (a:zkv m n t=some l):∃r c,l=U4 t r c/\r<m/\c<n/\t.A r c≠0/\BlandAt n m (zti m n t) c r:=by
 unfold zkv at a;cases u:zom m n t with
 |none=>rw[u] at a;cases a
 |some r=>
  rw[u] at a;have a:(match zpc n t r with|none=>none|some c=>some (U4 t r c))=some l:=a;cases v:zpc n t r with
  |none=>rw[v] at a;cases a
  |some c=>
   rw[v] at a;have a:some (U4 t r c)=some l:=a;cases a;obtain⟨b,x,E⟩:=zmq u;obtain⟨o,s,C⟩:=zmq v;have x:t.A r n<0:=of_decide_eq_true x;have s:t.A r c<0:=of_decide_eq_true s;have k:=zuj h.d0;(have z:∀i,i<m->(zti m n t).D n i=(t.A i n:Rat)*((t.d:Int):Rat)⁻¹:=fun i e=>by show(if i=m then(0:Rat) else if n=n then(zol m n t).D i n else _)=_;rw[if_neg og,if_pos rfl,zpb og (d _)]);(have y:∀j i,i<m->j<n->(zti m n t).D j i= -((t.A i j:Rat)*((t.d:Int):Rat)⁻¹):=fun j i e w=>by show(if i=m then(0:Rat) else if j=n then(zol m n t).D i n else _)=_;rw[if_neg og,if_neg og,zpb og og]);have A:∀j,(zti m n t).D j m=0:=fun j=>if_pos rfl;refine⟨r,c,rfl,b,o,by omega,b,o,?_,fun i e B=> ?_,?_,fun j w D=> ?_⟩
   ·rw[z r b];exact(zrv k).2 x
   ·rw[z i e] at B;exact E i e (decide_eq_true ((zrv k).1 B))
   ·rw[y c r b o];have:=(zrv k).2 s;grind
   ·right;rw[y j r b w] at D;rw[A,A];refine⟨by grind,C j w (decide_eq_true ((zrv k).1 (by grind)))⟩
theorem zz1372 {m n:Nat} {t a:TB} (h:TInv M m n t) (d:zkv m n t=some a):TInv M m n a:=by obtain⟨r,c,rfl,hr,hc,b,_⟩:=ybf h d;exact h.piv hr hc b
theorem yue {m n:Nat} {t:TB} (h:TInv M m n t):zxg (zkv m n) t:=by
 refine Classical.byContradiction fun x=> ?_
 have z:∀k,∃d,zkv m n (O0 (zkv m n) k t)=some d:=fun k=>by
  cases e:zkv m n (O0 (zkv m n) k t) with
  |none=>exact absurd ⟨k,e⟩ x
  |some d=>exact⟨d,rfl⟩
 have hI:∀k,TInv M m n (O0 (zkv m n) k t):=fun k=>ycd (P:=TInv M m n) (fun a b u y=>zz1372 u y) k t h;have hst:∀k,∃r c,O0 (zkv m n) (k+1) t=U4 (O0 (zkv m n) k t) r c/\r<m/\c<n/\(O0 (zkv m n) k t).A r c≠0/\BlandAt n m (zti m n (O0 (zkv m n) k t)) c r:=fun k=>(by obtain⟨d,o⟩:=z k;obtain⟨r,c,e,s⟩:=ybf (hI k) o;exact⟨r,c,by rw[yce o,e],s⟩);obtain⟨R,v⟩:=Classical.axiomOfChoice hst;obtain⟨C,g⟩:=Classical.axiomOfChoice v;refine yfh (m:=n) (n:=m) (N:=m+n) (fun k=>zti m n (O0 (zkv m n) k t)) C R (fun k=> ?_) (fun k=>(g k).2.2.2.2) ?_ ⟨h.ltD.2,h.ltD.1⟩ (fun j l=> ?_)
 ·obtain⟨p,hr,hc,q,A⟩:=g k;show zti m n (O0 (zkv m n) (k+1) t)=_;rw[p];have e:=(hI k).dic (sc:=fun _=>1) (top:=1) (fun _=>Nat.one_pos) Nat.one_pos hr hc q;have f:=yrl (S:=zol m n (O0 (zkv m n) k t)) hr hc _ rfl;rw[<-e] at f;exact f
 ·have hd:=h.distD (fun _=>1) 1;exact⟨hd.oo,hd.bb,fun j i l w e=>hd.bo i j w l e.symm⟩
 ·show 0<=(if m=m then(0:Rat) else _);rw[if_pos rfl];exact Rat.le_refl
theorem yyu {D:Nat->Nat->Rat} {c:Nat} (k:D r c≠0):K5 (K5 D r c) r c=D:=by
 have l:=Rat.mul_inv_cancel _ k;have e:K5 D r c r c=(D r c)⁻¹:=(by unfold K5;rw[if_pos rfl,if_pos rfl]);have h:((D r c)⁻¹)⁻¹=D r c:=zup (by rw[Rat.mul_comm];exact l);funext i j;show(if i=r then(if j=c then(K5 D r c r c)⁻¹ else(K5 D r c r c)⁻¹*K5 D r c r j) else if j=c then -((K5 D r c r c)⁻¹*K5 D r c i c) else K5 D r c i j-(K5 D r c r c)⁻¹*K5 D r c i c*K5 D r c r j)=D i j;rw[e,h];by_cases b:i=r
 ·subst b;rw[if_pos rfl];by_cases a:j=c
  ·subst a;rw[if_pos rfl]
  ·have:K5 D i c i j=(D i c)⁻¹*D i j:=(by unfold K5;rw[if_pos rfl,if_neg a]);rw[if_neg a,this];grind
 ·rw[if_neg b];have d:K5 D r c i c= -((D r c)⁻¹*D i c):=(by unfold K5;rw[if_neg b,if_pos rfl]);by_cases a:j=c
  ·subst a;rw[if_pos rfl,d];grind
  ·have f:K5 D r c r j=(D r c)⁻¹*D r j:=(by unfold K5;rw[if_pos rfl,if_neg a]);have g:K5 D r c i j=D i j-(D r c)⁻¹*D i c*D r j:=(by unfold K5;rw[if_neg b,if_neg a]);rw[if_neg a,d,f,g];grind
theorem ylu (a:Nat->Nat) (i b:Nat):O7 (O7 a i b) i (a i)=a:=by
 funext k;by_cases h:k=i
 ·subst h;rw[zoq]
 ·rw[zor _ _ h,zor _ _ h]
theorem yza {S:Dic} {c:Nat} (a:S.D r c≠0):zla (zla S r c) r c=S:=by obtain⟨b,o,D⟩:=S;show(⟨O7 (O7 b r (o c)) r (O7 o c (b r) c),O7 (O7 o c (b r)) c (O7 b r (o c) r),K5 (K5 D r c) r c⟩:Dic)=⟨b,o,D⟩;rw[zoq,zoq,ylu,ylu,yyu a]
theorem Fit1.back {m n c:Nat} {S:Dic} {x:Nat->Rat} {z t:Rat} (h:Fit1 m n (zla S r c) x z t) (hr:r<m) (hc:c<n) (a:S.D r c≠0):Fit1 m n S x z t:=by (have e:(zla S r c).D r c=(S.D r c)⁻¹:=by show K5 S.D r c r c=_;unfold K5;rw[if_pos rfl,if_pos rfl]);have:=h.piv hr hc (by rw[e];exact ycb a);rwa[yza a] at this
def Eqv (m n:Nat) (S a:Dic):Prop:=∀x z s,Fit1 m n S x z s↔Fit1 m n a x z s
theorem Eqv.refl (m n:Nat) (S:Dic):Eqv m n S S:=fun _ _ _=>Iff.rfl
theorem Eqv.piv {m n c:Nat} {S a:Dic} (h:Eqv m n S a) (hr:r<m) (hc:c<n) (b:a.D r c≠0):Eqv m n S (zla a r c):=fun x z s=>⟨fun k=>((h x z s).1 k).piv hr hc b,fun k=>(h x z s).2 (k.back hr hc b)⟩
def U3 (m n:Nat) (a:Nat->Nat->Rat) (b c:Nat->Rat):Dic:=⟨fun i=>n+i,fun j=>j,fun i j=>if i<m then(if j<n then a i j else b i) else if j<n then -(c j) else 0⟩
theorem zz1426 (n m:Nat) (a:Nat->Rat):C6 (n+m) a=C6 n a+C6 m fun i=>a (n+i):=by
 induction m with
 |zero=>simp only[C6,Nat.add_zero];grind
 |succ m ih=>rw[<-Nat.add_assoc,C6,ih,C6];grind
section
variable {m n : Nat} {a : Nat → Nat → Rat} {b c : Nat → Rat}
theorem yhd (X:Nat->Rat) (s:Rat):Fit1 m n (U3 m n a b c) (fun f=>if f<n then X f else b (f-n)*s-C6 n fun j=>a (f-n) j*X j) (C6 n fun j=>c j*X j) s where
 row i hi:=by
  show(if n+i<n then X (n+i) else b (n+i-n)*s-C6 n fun j=>a (n+i-n) j*X j)+C6 n (fun j=>(if i<m then(if j<n then a i j else b i) else if j<n then -(c j) else 0)*(if j<n then X j else _))=(if i<m then(if n<n then a i n else b i) else _)*s
  rw[if_neg og,if_pos hi,if_neg og,Nat.add_sub_cancel_left]
  have e:C6 n (fun j=>(if i<m then(if j<n then a i j else b i) else if j<n then -(c j) else 0)*(if j<n then X j else b (j-n)*s-C6 n fun k=>a (j-n) k*X k))=C6 n fun j=>a i j*X j:=M8 fun j d=>by rw[if_pos hi,if_pos d,if_pos d]
  have g:=Eq.trans (show C6 n (fun j=>(if i<m then(if j<n then a i j else b i) else if j<n then -(c j) else 0)*(if j<n then X j else b ((U3 m n a b c).oth j-n)*s-C6 n fun k=>a ((U3 m n a b c).oth j-n) k*X k))=_ from rfl) e
  rw[g];grind
 obj:=by show(C6 n fun j=>c j*X j)+C6 n (fun j=>(if m<m then(if j<n then a m j else b m) else if j<n then -(c j) else 0)*(if j<n then X j else _))=(if m<m then(if n<n then a m n else b m) else if n<n then -(c n) else 0)*s;rw[if_neg og,if_neg og];have e:C6 n (fun j=>(if m<m then(if j<n then a m j else b m) else if j<n then -(c j) else 0)*(if j<n then X j else b (j-n)*s-C6 n fun k=>a (j-n) k*X k))=(-1)*C6 n fun j=>c j*X j:=(by rw[<-znu];exact M8 fun j d=>by rw[if_neg og,if_pos d,if_pos d];grind);have g:=Eq.trans (show C6 n (fun j=>(if m<m then(if j<n then a m j else b m) else if j<n then -(c j) else 0)*(if j<n then X j else b ((U3 m n a b c).oth j-n)*s-C6 n fun k=>a ((U3 m n a b c).oth j-n) k*X k))=_ from rfl) e;rw[g];grind
theorem yvi {y:Nat->Rat} (h:∀x z s,Fit1 m n (U3 m n a b c) x z s->al*z+C6 (n+m) (fun d=>y d*x d)=V*s):
 (C6 m fun i=>b i*y (n+i))=V/\∀k,k<n->al*c k+y k=C6 m fun i=>a i k*y (n+i):=by
 have sp:∀x:Nat->Rat,(C6 (n+m) fun d=>y d*x d)=(C6 n fun d=>y d*x d)+C6 m fun i=>y (n+i)*x (n+i):=fun x=>zz1426 n m _;constructor
 ·have e:=h _ _ _ (yhd (fun _=>0) 1);rw[sp] at e;have f:(C6 n fun d=>y d*(if d<n then(0:Rat) else b (d-n)*1-C6 n fun j=>a (d-n) j*0))=0:=zlk fun d hv=>(by rw[if_pos hv];grind);have g:(C6 m fun i=>y (n+i)*(if n+i<n then(0:Rat) else b (n+i-n)*1-C6 n fun j=>a (n+i-n) j*0))=C6 m fun i=>b i*y (n+i):=M8 fun i p=>(by rw[if_neg og,Nat.add_sub_cancel_left,zlk fun j _=>by grind];grind);have o:(C6 n fun j=>c j*0)=0:=zlk fun j _=>(by grind);rw[f,g,o] at e;grind
 ·intro k r;have e:=h _ _ _ (yhd (fun d=>if d=k then 1 else 0) 0);rw[sp] at e;have one:∀l:Nat->Rat,(C6 n fun j=>l j*(if j=k then(1:Rat) else 0))=l k:=fun l=>(by rw[zmz r fun j _ q=>by rw[if_neg q];grind,if_pos rfl];grind);have f:(C6 n fun d=>y d*(if d<n then(if d=k then(1:Rat) else 0) else b (d-n)*0-C6 n fun j=>a (d-n) j*(if j=k then 1 else 0)))=y k:=(by rw[<-one y];exact M8 fun d hv=>by rw[if_pos hv]);have g:(C6 m fun i=>y (n+i)*(if n+i<n then(if n+i=k then(1:Rat) else 0) else b (n+i-n)*0-C6 n fun j=>a (n+i-n) j*(if j=k then 1 else 0)))=(-1)*C6 m fun i=>a i k*y (n+i):=(by rw[<-znu];exact M8 fun i p=>by rw[if_neg og,Nat.add_sub_cancel_left,one (a i)];grind);rw[f,g,one c] at e;grind
theorem yke {x:Nat->Rat} {z s:Rat} (h:Fit1 m n (U3 m n a b c) x z s):(∀i,i<m->x (n+i)+C6 n (fun j=>a i j*x j)=b i*s)/\z=C6 n fun j=>c j*x j:=by
 constructor
 ·intro i f;have:=h.row i f;(have e:(C6 n fun j=>(U3 m n a b c).D i j*x ((U3 m n a b c).oth j))=C6 n fun j=>a i j*x j:=M8 fun j g=>by show(if i<m then(if j<n then a i j else b i) else _)*x j=_;rw[if_pos f,if_pos g]);(have d:(U3 m n a b c).D i n=b i:=by show(if i<m then(if n<n then a i n else b i) else _)=_;rw[if_pos f,if_neg og]);rw[e,d] at this;exact this
 ·have:=h.obj;(have e:(C6 n fun j=>(U3 m n a b c).D m j*x ((U3 m n a b c).oth j))=(-1)*C6 n fun j=>c j*x j:=by rw[<-znu];exact M8 fun j g=>by show(if m<m then(if j<n then a m j else b m) else if j<n then -(c j) else 0)*x j=_;rw[if_neg og,if_pos g];grind);(have d:(U3 m n a b c).D m n=0:=by show(if m<m then(if n<n then a m n else b m) else if n<n then -(c n) else 0)=_;rw[if_neg og,if_neg og]);rw[e,d] at this;grind
end
def Z7 (n:Nat) (o:Nat->Nat) (a:Nat->Rat) (b:Nat):Rat:=C6 n fun j=>if o j=b then a j else 0
theorem ynp {n:Nat} {a:Nat->Rat} (h:∀j,j<n->0<=a j) (b:Nat):0<=Z7 n o a b:=by
 have:∀k,k<=n->0<=C6 k fun j=>if o j=b then a j else 0:=fun k=>by
  induction k with
  |zero=>intro _;exact Rat.le_refl
  |succ k ih=>
   intro f;have c:=ih og
   have e:0<=if o k=b then a k else 0:=by
    split
    ·exact h k og
    ·exact Rat.le_refl
   rw[C6];grind
 exact this n (d _)
theorem ynq {n c:Nat} (k:∀j,j<n->o j<c) (b x:Nat->Rat):(C6 c fun a=>Z7 n o b a*x a)=C6 n fun j=>b j*x (o j):=by
 induction n with
 |zero=>exact zlk fun a _=>by show Z7 0 o b a*x a=0;unfold Z7;simp only[C6];grind
 |succ n ih=>
  have e:(C6 c fun a=>Z7 (n+1) o b a*x a)=(C6 c fun a=>Z7 n o b a*x a)+C6 c fun a=>if a=o n then b n*x a else 0:=by
   rw[<-zsa];refine M8 fun a _=> ?_;show Z7 (n+1) o b a*x a=Z7 n o b a*x a+_;have:Z7 (n+1) o b a=Z7 n o b a+if o n=a then b n else 0:=rfl;rw[this];by_cases h:a=o n
   ·rw[if_pos h,if_pos h.symm];grind
   ·rw[if_neg h,if_neg (Ne.symm h)];grind
  rw[e,ih fun j i=>k j og,zmz (k n og) fun j _ i=>if_neg i,if_pos rfl,C6]
section
variable {m n : Nat} {a : Nat → Nat → Rat} {b c : Nat → Rat} {S : Dic}
theorem yhi (g:Dist m n S) {X:Nat->Rat} {s:Rat} (h:∀j,j<n->0<=X j) (k:∀i,i<m->0<=Z9 m n S X s (S.bas i)) (c:Nat):0<=Z9 m n S X s c:=by
 by_cases d:∃i,i<m/\S.bas i=c
 ·obtain⟨i,b,rfl⟩:=d;exact k i b
 ·by_cases f:∃j,j<n/\S.oth j=c
  ·obtain⟨j,a,rfl⟩:=f;rw[zyb g X s a];exact h j a
  ·rw[yhj X s (fun i b e=>d ⟨i,b,e⟩) (fun j a e=>f ⟨j,a,e⟩)];exact Rat.le_refl
theorem yfm (e:Dist m n S) (q:Eqv m n (U3 m n a b c) S) (l:∀i,i<m->0<=S.D i n):
 (∀f,0<=Z9 m n S (fun _=>0) 1 f)/\(∀i,i<m->C6 n (fun j=>a i j*Z9 m n S (fun _=>0) 1 j)<=b i)/\(C6 n fun j=>c j*Z9 m n S (fun _=>0) 1 j)=S.D m n:=by
 have k:∀g:Nat->Rat,(C6 n fun j=>g j*(0:Rat))=0:=fun g=>zlk fun j _=>(by grind);have h:∀f,0<=Z9 m n S (fun _=>0) 1 f:=yhi e (fun _ _=>Rat.le_refl) fun i d=>(by rw[zwe e _ _ d,k];have:=l i d;grind);obtain⟨o,p⟩:=yke ((q _ _ _).2 (zya e (fun _=>0) 1));refine⟨h,fun i d=> ?_,?_⟩
 ·have:=o i d;have:=h (n+i);grind
 ·rw[<-p,k];grind
theorem yfn (e:Eqv m n (U3 m n a b c) S) {y:Nat->Rat} (h:∀x z s,Fit1 m n S x z s->al*z+C6 (n+m) (fun d=>y d*x d)=V*s):
 (C6 m fun i=>b i*y (n+i))=V/\∀k,k<n->al*c k+y k=C6 m fun i=>a i k*y (n+i):=yvi fun x z s hf=>h x z s ((e x z s).1 hf)
theorem yqe (f:Eqv m n (U3 m n a b c) S) (h:∀j,j<n->S.oth j<n+m) (hc:∀j,j<n->0<=S.D m j):
 (C6 m fun i=>b i*Z7 n S.oth (S.D m) (n+i))=S.D m n/\(∀k,k<n->c k<=C6 m fun i=>a i k*Z7 n S.oth (S.D m) (n+i))/\∀l,0<=Z7 n S.oth (S.D m) l:=by have d:=yfn (y:=Z7 n S.oth (S.D m)) (al:=1) (V:=S.D m n) f fun x z s hf=>(by rw[ynq h];have:=hf.obj;grind);have e:=ynp (o:=S.oth) hc;refine⟨d.1,fun k g=> ?_,e⟩;have:=d.2 k g;have:=e k;grind
theorem yqf (l:Eqv m n (U3 m n a b c) S) (t:∀j,j<n->S.oth j<n+m) (hr:r<m) (o:S.bas r<n+m) (hc:∀j,j<n->0<=S.D r j):
 (C6 m fun i=>b i*(Z7 n S.oth (S.D r) (n+i)+if S.bas r=n+i then 1 else 0))=S.D r n/\(∀k,k<n->0<=C6 m fun i=>a i k*(Z7 n S.oth (S.D r) (n+i)+if S.bas r=n+i then 1 else 0))/\∀d,0<=Z7 n S.oth (S.D r) d+if S.bas r=d then 1 else 0:=by
 have f:=yfn (y:=fun d=>Z7 n S.oth (S.D r) d+if S.bas r=d then 1 else 0) (al:=0) (V:=S.D r n) l fun x z s hf=>by
  have e:(C6 (n+m) fun d=>(Z7 n S.oth (S.D r) d+if S.bas r=d then 1 else 0)*x d)=(C6 (n+m) fun d=>Z7 n S.oth (S.D r) d*x d)+C6 (n+m) fun d=>if d=S.bas r then x d else 0:=by
   rw[<-zsa];refine M8 fun d _=> ?_;by_cases h:S.bas r=d
   ·rw[if_pos h,if_pos h.symm];grind
   ·rw[if_neg h,if_neg (Ne.symm h)];grind
  show 0*z+(C6 (n+m) fun d=>(Z7 n S.oth (S.D r) d+if S.bas r=d then 1 else 0)*x d)=_;rw[e,ynq t,zmz o fun j _ p=>if_neg p,if_pos rfl];have:=hf.row r hr;grind
 have g:∀d,0<=Z7 n S.oth (S.D r) d+if S.bas r=d then 1 else 0:=fun d=>(by have:=ynp (o:=S.oth) hc d;split<;>grind);refine⟨f.1,fun k q=> ?_,g⟩;have u:=f.2 k q;have v:=g k;grind
theorem yqg (f:Dist m n S) (p:Eqv m n (U3 m n a b c) S) (r:k<n) (hc:S.D m k<0) (hr:∀i,i<m->S.D i k<=0):
 (∀g,0<=Z9 m n S (fun j=>if j=k then 1 else 0) 0 g)/\(∀i,i<m->C6 n (fun j=>a i j*Z9 m n S (fun j=>if j=k then 1 else 0) 0 j)<=0)/\0<C6 n fun j=>c j*Z9 m n S (fun j=>if j=k then 1 else 0) 0 j:=by
 have one:∀e:Nat->Rat,(C6 n fun j=>e j*(if j=k then(1:Rat) else 0))=e k:=fun e=>(by rw[zmz r fun j _ q=>by rw[if_neg q];grind,if_pos rfl];grind);have h:∀g,0<=Z9 m n S (fun j=>if j=k then 1 else 0) 0 g:=yhi f (fun j _=>by split<;>grind) fun i d=>(by rw[zwe f _ _ d,one];have:=hr i d;grind);obtain⟨l,o⟩:=yke ((p _ _ _).2 (zya f (fun j=>if j=k then 1 else 0) 0));refine⟨h,fun i d=> ?_,?_⟩
 ·have:=l i d;have:=h (n+i);grind
 ·rw[<-o,one];grind
end
end Go.Proofs.YtlhhbccgfkhflaaGreatDoor
