/-
 Package simplex's tables,f a program:pivots,a e c,both loops d to b end,a numbers stay small.
-/
import Derived.Test.YtdgilbgdkmhcmaaGreatDoorProofSimplexProves06
namespace Go.Proofs.YtdgilbgdkmhcmaaGreatDoor
set_option linter.unusedVariables false
open Go.RowKit
set_option maxRecDepth 100000
set_option maxHeartbeats 8000000
open _root_.Nat renaming le_refl → d, le_trans → v, lt_of_lt_of_le → y, lt_or_ge → g, lt_succ_self → s
open _root_.List renaming getD_eq_getElem?_getD → p, getElem?_eq_getElem → q, getElem?_map → u
open _root_.Go renaming World → a
variable {M b c i j k o r top : Nat} {e : Int} {f : Nat → Int} {key sc : Nat → Nat} {l : List Nat}
structure TB where
 A:Nat->Nat->Int
 d:Nat
 bas:List Nat
 oth:List Nat
def R7 (t:TB) (r c:Nat):TB:=⟨zmu t.A t.d r c,(t.A r c).natAbs,t.bas.set r (t.oth.getD c 0),t.oth.set c (t.bas.getD r 0)⟩
def uc (sc:Nat->Nat) (n:Nat) (o:Nat->Nat) (j:Nat):Rat:=if j<n then((sc (o j):Nat):Rat) else 1
def ur (sc:Nat->Nat) (top m:Nat) (b:Nat->Nat) (i:Nat):Rat:=if i<m then((sc (b i):Nat):Rat) else((top:Nat):Rat)
def J9 (sc:Nat->Nat) (top m n:Nat) (t:TB):Dic:=
 ⟨fun i=>t.bas.getD i 0,fun j=>t.oth.getD j 0,fun i j=>if i<=m/\j<=n then(t.A i j:Rat)*((t.d:Int):Rat)⁻¹*uc sc n (fun j=>t.oth.getD j 0) j*(ur sc top m (fun i=>t.bas.getD i 0) i)⁻¹ else 0⟩
theorem ztl {a:Nat} (h:r<l.length):(fun i=>(l.set r a).getD i 0)=O0 (fun i=>l.getD i 0) r a:=by
 funext i;unfold O0;rw[p,List.getElem?_set];by_cases e:i=r
 ·rw[if_pos e.symm,if_pos h,if_pos e];rfl
 ·rw[if_neg (Ne.symm e),if_neg e];show _=l.getD i 0;rw[p]
theorem zub {x:Nat} (h:0<x):((x:Nat):Rat)≠0:=zvj (d:=x) h
theorem zz1380 (a:∀b,0<sc b) (n:Nat) (o:Nat->Nat) (j:Nat):uc sc n o j≠0:=by
 unfold uc;split
 ·exact zub (a _)
 ·decide
theorem zz1382 (a:∀d,0<sc d) (c:0<top) (m:Nat) (b:Nat->Nat) (i:Nat):ur sc top m b i≠0:=by
 unfold ur;split
 ·exact zub (a _)
 ·exact zub c
theorem ztn {a b:Rat} (h:a*b=1):a⁻¹=b:=by
 have ha:a≠0:=fun e=>(by rw[e,Rat.zero_mul] at h;exact absurd h (by decide));have c:=Rat.mul_inv_cancel _ ha
 calc a⁻¹=a⁻¹*(a*b):=by rw[h,Rat.mul_one]
  _=b:=by rw[<-Rat.mul_assoc,Rat.mul_comm a⁻¹,c,Rat.one_mul]
theorem yas {a:Rat} (h:a≠0):a⁻¹≠0:=fun e=>by have b:=Rat.mul_inv_cancel _ h;rw[e,Rat.mul_zero] at b;exact absurd b (by decide)
section
variable {m n : Nat} {t : TB} {B O : Nat → RV}
theorem yer (M:∀ag,0<sc ag) (an:0<top) (h:Cram (m+1) n t.A t.d B O) (G:t.bas.length=m) (J:t.oth.length=n) (hr:r<m) (hc:c<n) (K:t.A r c≠0):
 J9 sc top m n (R7 t r c)=zko (J9 sc top m n t) r c:=by
 obtain⟨g,u⟩:=nm ((t.A r c:Rat):Rat);obtain⟨D,hD⟩:=nm (((t.d:Int):Rat));have X:D≠0:=(by rw[hD];exact zvj h.d0);have L:g≠0:=(by rw[u];intro e;exact K (Rat.intCast_inj.1 (by rw[e];rfl)));obtain⟨v,E⟩:=nm ((((t.A r c).natAbs:Int):Rat):Rat)
 have ab:∀i j,i<=m->j<=n->(zmu t.A t.d r c i j:Rat)*v⁻¹=(zkx t.A t.d r c i j:Rat)*g⁻¹:=by
  intro i j _ _;unfold zmu;rcases Int.lt_or_le (t.A r c) 0 with z|z
  ·have e:v= -g:=(by rw[E,u,<-Rat.intCast_neg];congr 1;omega);have Q:v⁻¹= -g⁻¹:=ztn (by rw[e];have:=Rat.mul_inv_cancel _ L;grind);rw[if_pos z,Q,Rat.intCast_neg];grind
  ·have e:v=g:=(by rw[E,u];congr 1;omega);rw[if_neg og,e]
 have Y:=(h.piv (show r<m+1 by omega) hc K).2;have al:=Rat.mul_inv_cancel _ L;have aj:=Rat.mul_inv_cancel _ X;have U:(J9 sc top m n (R7 t r c)).bas=(zko (J9 sc top m n t) r c).bas:=ztl (by rw[G];exact hr);have T:(J9 sc top m n (R7 t r c)).oth=(zko (J9 sc top m n t) r c).oth:=ztl (by rw[J];exact hc)
 have R:(J9 sc top m n (R7 t r c)).D=(zko (J9 sc top m n t) r c).D:=by
  funext i j;show(if i<=m/\j<=n then(zmu t.A t.d r c i j:Rat)*(((t.A r c).natAbs:Int):Rat)⁻¹*uc sc n (fun j=>(t.oth.set c (t.bas.getD r 0)).getD j 0) j*(ur sc top m (fun i=>(t.bas.set r (t.oth.getD c 0)).getD i 0) i)⁻¹ else 0)=J8 (J9 sc top m n t).D r c i j;rw[ztl (l:=t.bas) (by rw[G];exact hr),ztl (l:=t.oth) (by rw[J];exact hc),<-E];(have k:∀i j,i<=m->j<=n->(J9 sc top m n t).D i j=(t.A i j:Rat)*D⁻¹*uc sc n (fun j=>t.oth.getD j 0) j*(ur sc top m (fun i=>t.bas.getD i 0) i)⁻¹:=fun i j q s=>by show(if i<=m/\j<=n then _ else _)=_;rw[if_pos ⟨q,s⟩,hD]);have p:∀i j,¬(i<=m/\j<=n)->(J9 sc top m n t).D i j=0:=fun i j a=>if_neg a;have A:uc sc n (fun j=>t.oth.getD j 0) c=((sc (t.oth.getD c 0):Nat):Rat):=if_pos hc;have C:ur sc top m (fun i=>t.bas.getD i 0) r=((sc (t.bas.getD r 0):Nat):Rat):=if_pos hr;have F:uc sc n (O0 (fun j=>t.oth.getD j 0) c (t.bas.getD r 0)) c=((sc (t.bas.getD r 0):Nat):Rat):=(by unfold uc;rw[if_pos hc,znp]);have P:ur sc top m (O0 (fun i=>t.bas.getD i 0) r (t.oth.getD c 0)) r=((sc (t.oth.getD c 0):Nat):Rat):=(by unfold ur;rw[if_pos hr,znp]);have N:∀j,j≠c->uc sc n (O0 (fun j=>t.oth.getD j 0) c (t.bas.getD r 0)) j=uc sc n (fun j=>t.oth.getD j 0) j:=fun j s=>(by unfold uc;rw[znq _ _ s]);have af:∀i,i≠r->ur sc top m (O0 (fun i=>t.bas.getD i 0) r (t.oth.getD c 0)) i=ur sc top m (fun i=>t.bas.getD i 0) i:=fun i q=>(by unfold ur;rw[znq _ _ q]);obtain⟨e,H⟩:=nm (((sc (t.oth.getD c 0):Nat):Rat));obtain⟨l,I⟩:=nm (((sc (t.bas.getD r 0):Nat):Rat));have Z:e≠0:=(by rw[H];exact zub (M _));have aa:l≠0:=(by rw[I];exact zub (M _));have heq:=Rat.mul_inv_cancel _ Z;have ak:=Rat.mul_inv_cancel _ aa;rw[<-H] at A P;rw[<-I] at C F;have ac:(J9 sc top m n t).D r c=g*D⁻¹*e*l⁻¹:=(by rw[k r c og og,A,C,u]);have hinv:((J9 sc top m n t).D r c)⁻¹=g⁻¹*D*e⁻¹*l:=(by rw[ac];refine ztn ?_;grind);unfold J8;rw[hinv];by_cases a:i<=m/\j<=n
  ·rw[if_pos a,ab i j a.1 a.2];by_cases f:i=r
   ·subst f;rw[if_pos rfl,P];by_cases d:j=c
    ·subst d;rw[if_pos rfl,F];unfold zkx;rw[if_pos rfl,if_pos rfl,<-hD];grind
    ·rw[if_neg d,N j d,k i j a.1 a.2,C];unfold zkx;rw[if_pos rfl,if_neg d];grind
   ·rw[if_neg f,af i f];by_cases d:j=c
    ·subst d;rw[if_pos rfl,F,k i j a.1 a.2,A];unfold zkx;rw[if_neg f,if_pos rfl,Rat.intCast_neg];grind
    ·rw[if_neg d,N j d,k i j a.1 a.2,k i c a.1 og,k r j og a.2,A,C,Y i j og a.2 f d,<-hD,<-u,Rat.div_def];obtain⟨x,ad⟩:=nm (uc sc n (fun j=>t.oth.getD j 0) j);obtain⟨y,ae⟩:=nm ((ur sc top m (fun i=>t.bas.getD i 0) i)⁻¹);rw[<-ad,<-ae];grind
  ·rw[if_neg a];by_cases f:i=r
   ·subst f;have s:¬j<=n:=fun h=>a ⟨by omega,h⟩;rw[if_pos rfl,if_neg og,p i j a];grind
   ·rw[if_neg f];by_cases d:j=c
    ·subst d;rw[if_pos rfl,p i j a];grind
    ·rw[if_neg d,p i j a];by_cases q:i<=m
     ·have s:¬j<=n:=fun h=>a ⟨q,h⟩;rw[p r j og];grind
     ·rw[p i c og];grind
 have ext:∀(S w:Dic),S.bas=w.bas->S.oth=w.oth->S.D=w.D->S=w:=(by rintro⟨b,o,D⟩ ⟨ai,ao,ah⟩ z V W;cases z;cases V;cases W;rfl);exact ext _ _ U T R
end
structure TInv (M m n:Nat) (t:TB):Prop where
 cram:∃B O,Cram (m+1) n t.A t.d B O/\(∀i,i<m+1->zrz M (B i))/\∀j,j<=n->zrz M (O j)
 bl:t.bas.length=m
 ol:t.oth.length=n
 dist:(t.bas++t.oth).Nodup
 lt:∀v∈t.bas++t.oth,v<m+n
theorem TInv.d0 {m n:Nat} {t:TB} (h:TInv M m n t):0<t.d:=by obtain⟨B,O,h,_⟩:=h.cram;exact h.d0
theorem TInv.small {m n:Nat} {t:TB} (h:TInv M m n t):t.d<=K6 M (m+1)/\∀i j,i<=m->j<=n->(t.A i j).natAbs<=K6 M (m+1):=by obtain⟨B,O,h,a,b⟩:=h.cram;have:=h.small a b;exact⟨this.1,fun i j d c=>this.2 i j og c⟩
theorem Z8 (h:i<l.length):l.getD i 0∈l:=by rw[p,q h];exact List.getElem_mem _
theorem zoc (h:l.Nodup) (b:i<l.length) (c:j<l.length) (e:l.getD i 0=l.getD j 0):i=j:=by
 rw[p,p,q b,q c] at e;have e:l[i]=l[j]:=e;rw[List.nodup_iff_pairwise_ne,List.pairwise_iff_getElem] at h;rcases Nat.lt_trichotomy i j with a|a|a
 ·exact absurd e (h i j b c a)
 ·exact a
 ·exact absurd e.symm (h j i c b a)
theorem TInv.distD {m n:Nat} {t:TB} (h:TInv M m n t) (sc:Nat->Nat) (top:Nat):Dist m n (J9 sc top m n t):=by
 have d:=h.bl;have f:=h.ol;have a:=List.nodup_append.1 h.dist
 exact⟨fun i j b c e=>zoc a.1 og og e,fun i j b c e=>zoc a.2.1 og og e,
  fun i j b c e=>a.2.2 _ (Z8 (l:=t.bas) og) _ (Z8 (l:=t.oth) og) e⟩
theorem yjs {b o:List Nat} (hr:r<b.length) (hc:c<o.length):∀a,a∈b.set r (o.getD c 0)++o.set c (b.getD r 0)->a∈b++o:=by
 intro a hv;rcases List.mem_append.1 hv with h|h
 ·rcases List.mem_or_eq_of_mem_set h with h|h
  ·exact List.mem_append.2 (.inl h)
  ·rw[h];exact List.mem_append.2 (.inr (Z8 hc))
 ·rcases List.mem_or_eq_of_mem_set h with h|h
  ·exact List.mem_append.2 (.inr h)
  ·rw[h];exact List.mem_append.2 (.inl (Z8 hr))
theorem zxy (h:∀i j,i<l.length->j<l.length->l.getD i 0=l.getD j 0->i=j):l.Nodup:=by rw[List.nodup_iff_pairwise_ne,List.pairwise_iff_getElem];intro i j a b c e;have:=h i j a b (by rw[p,p,q a,q b,e]);omega
theorem TInv.piv {m n:Nat} {t:TB} (h:TInv M m n t) (hr:r<m) (hc:c<n) (o:t.A r c≠0):TInv M m n (R7 t r c):=by
 obtain⟨B,O,l,g,k⟩:=h.cram;have hD:=(h.distD (fun _=>1) 1).piv hr hc;have e:=yer (sc:=fun _=>1) (top:=1) (fun _=>Nat.one_pos) Nat.one_pos l h.bl h.ol hr hc o;rw[<-e] at hD;(have v:(R7 t r c).bas.length=m:=by show(t.bas.set _ _).length=m;rw[List.length_set];exact h.bl);(have lo:(R7 t r c).oth.length=n:=by show(t.oth.set _ _).length=n;rw[List.length_set];exact h.ol);refine⟨⟨_,_,(l.piv (show r<m+1 by omega) hc o).1,fun i d=> ?_,fun j f=> ?_⟩,v,lo,?_,fun s hv=>h.lt s (yjs (by rw[h.bl];exact hr) (by rw[h.ol];exact hc) s hv)⟩
 ·unfold M0;split
  ·exact k c og
  ·exact g i d
 ·unfold M0;split
  ·exact g r og
  ·exact k j f
 ·rw[List.nodup_append];exact⟨zxy fun i j d f e=>hD.bb i j og og e,zxy fun i j d f e=>hD.oo i j og og e,fun a ha b u e=>by obtain⟨i,d,rfl⟩:=List.getElem_of_mem ha;obtain⟨j,f,rfl⟩:=List.getElem_of_mem u;refine hD.bo i j og og ?_;show(R7 t r c).bas.getD i 0=(R7 t r c).oth.getD j 0;rw[p,p,q d,q f,e]⟩
theorem TInv.dic {m n:Nat} {t:TB} (h:TInv M m n t) (d:∀f,0<sc f) (e:0<top) (hr:r<m) (hc:c<n) (b:t.A r c≠0):J9 sc top m n (R7 t r c)=zko (J9 sc top m n t) r c:=by obtain⟨B,O,a,_,_⟩:=h.cram;exact yer d e a h.bl h.ol hr hc b
def T6 (c:Nat->Bool) (key:Nat->Nat):Nat->Option Nat
 |0=>none
 |k+1=>match T6 c key k with
  |none=>if c k then some k else none
  |some b=>if c k&&decide (key k<key b) then some k else some b
theorem zuo {c:Nat->Bool}:∀{n},T6 c key n=none->∀j,j<n->c j=false
 |0,_,j,k=>absurd k (Nat.not_lt_zero _)
 |n+1,h,j,k=>by
  rw[T6] at h
  cases e:T6 c key n with
  |none=>
   rw[e] at h
   have h:(if c n then some n else none)=none:=h
   rcases g j n with f|f
   ·exact zuo e j f
   ·obtain rfl:j=n:=og
    by_cases i:c j
    ·rw[if_pos i] at h;cases h
    ·simpa using i
  |some b=>
   rw[e] at h
   have h:(if c n&&decide (key n<key b) then some n else some b)=none:=h
   split at h<;>cases h
theorem zmg {f:Nat->Bool}:∀{n c},T6 f key n=some c->c<n/\f c=true/\∀j,j<n->f j=true->key c<=key j
 |0,c,h=>by cases h
 |n+1,c,h=>by
  rw[T6] at h
  cases e:T6 f key n with
  |none=>
   rw[e] at h
   have h:(if f n then some n else none)=some c:=h
   by_cases k:f n
   ·rw[if_pos k] at h
    cases h
    refine⟨s _,k,fun j t i=> ?_⟩
    rcases g j n with o|o
    ·rw[zuo e j o] at i;cases i
    ·rw[show j=n by omega];exact d _
   ·rw[if_neg k] at h;cases h
  |some b=>
   rw[e] at h
   have h:(if f n&&decide (key n<key b) then some n else some b)=some c:=h
   obtain⟨o,k,r⟩:=zmg e
   by_cases l:(f n&&decide (key n<key b))=true
   ·rw[if_pos l] at h
    cases h
    rw[Bool.and_eq_true,decide_eq_true_eq] at l
    refine⟨s _,l.1,fun j t i=> ?_⟩
    rcases g j n with m|m
    ·have:=r j m i;omega
    ·rw[show j=n by omega];exact d _
   ·rw[if_neg l] at h
    cases h
    refine⟨by omega,k,fun j t i=> ?_⟩
    rcases g j n with m|m
    ·exact r j m i
    ·obtain rfl:j=n:=og
     rw[i,Bool.true_and,decide_eq_true_eq] at l
     omega
def zlv (A:Nat->Nat->Int) (bas:Nat->Nat) (n c k b:Nat):Bool:=
 decide ((A k n).natAbs*(A b c).natAbs<(A b n).natAbs*(A k c).natAbs)||(decide ((A k n).natAbs*(A b c).natAbs=(A b n).natAbs*(A k c).natAbs)&&decide (bas k<bas b))
def W9 (A:Nat->Nat->Int) (bas:Nat->Nat) (n c:Nat):Nat->Option Nat
 |0=>none
 |k+1=>if A k c<=0 then W9 A bas n c k else match W9 A bas n c k with
  |none=>some k
  |some b=>if zlv A bas n c k b then some k else some b
theorem ybd {A:Nat->Nat->Int} {bas:Nat->Nat} {n:Nat}:∀{k},W9 A bas n c k=none->∀i,i<k->A i c<=0
 |0,_,i,l=>absurd l (Nat.not_lt_zero _)
 |k+1,h,i,l=>by
  rw[W9] at h
  by_cases f:A k c<=0
  ·rw[if_pos f] at h
   rcases g i k with j|j
   ·exact ybd h i j
   ·rw[show i=k by omega];exact f
  ·rw[if_neg f] at h
   cases e:W9 A bas n c k with
   |none=>rw[e] at h;cases h
   |some b=>
    rw[e] at h
    have h:(if zlv A bas n c k b then some k else some b)=none:=h
    split at h<;>cases h
def LimR (A:Nat->Nat->Int) (bas:Nat->Nat) (n c r i:Nat):Prop:=A r n*A i c<A i n*A r c\/(A r n*A i c=A i n*A r c/\bas r<=bas i)
theorem yhf {A:Nat->Nat->Int} {bas:Nat->Nat} {n:Nat}:LimR A bas n c r r:= .inr ⟨rfl,d _⟩
theorem yxi {x y z a b c:Int} (ha:0<a) (f:0<b) (hc:0<c) (d:x*b<y*a) (e:y*c<=z*b):x*c<z*a:=by refine Int.lt_of_not_ge fun h=> ?_;have g:=Int.mul_lt_mul_of_pos_right d hc;have i:=Int.mul_le_mul_of_nonneg_right e (Int.le_of_lt ha);have j:=Int.mul_le_mul_of_nonneg_right h (Int.le_of_lt f);grind
theorem ratio_lt' {x y z a b c:Int} (ha:0<a) (f:0<b) (hc:0<c) (d:x*b<=y*a) (e:y*c<z*b):x*c<z*a:=by refine Int.lt_of_not_ge fun h=> ?_;have g:=Int.mul_le_mul_of_nonneg_right d (Int.le_of_lt hc);have i:=Int.mul_lt_mul_of_pos_right e ha;have j:=Int.mul_le_mul_of_nonneg_right h (Int.le_of_lt f);grind
theorem yxh {x y z a b c:Int} (ha:0<a) (f:0<b) (hc:0<c) (d:x*b=y*a) (e:y*c=z*b):x*c=z*a:=by
 have h:(x*c-z*a)*b=0:=(by grind);rcases Int.mul_eq_zero.1 h with h|h
 ·omega
 ·omega
theorem LimR.trans {A:Nat->Nat->Int} {bas:Nat->Nat} {n s:Nat} (hr:0<A r c) (e:0<A s c) (d:0<A i c) (a:LimR A bas n c r s) (b:LimR A bas n c s i):LimR A bas n c r i:=by
 rcases a with a|⟨a,f⟩
 ·left;exact yxi hr e d a (by rcases b with h|h;exact Int.le_of_lt h;exact Int.le_of_eq h.1)
 ·rcases b with b|⟨b,g⟩
  ·exact .inl (ratio_lt' hr e d (Int.le_of_eq a) b)
  ·exact .inr ⟨yxh hr e d a b,v f g⟩
theorem ytk {A:Nat->Nat->Int} {bas:Nat->Nat} {n:Nat} (g:0<=A k n) (e:0<=A b n) (h:0<A k c) (f:0<A b c):
 zlv A bas n c k b=true↔A k n*A b c<A b n*A k c\/(A k n*A b c=A b n*A k c/\bas k<bas b):=by unfold zlv;rw[Bool.or_eq_true,Bool.and_eq_true,decide_eq_true_eq,decide_eq_true_eq,decide_eq_true_eq];have a:(((A k n).natAbs*(A b c).natAbs:Nat):Int)=A k n*A b c:=(by rw[Int.natCast_mul,Int.natAbs_of_nonneg g,Int.natAbs_of_nonneg (Int.le_of_lt f)]);have d:(((A b n).natAbs*(A k c).natAbs:Nat):Int)=A b n*A k c:=(by rw[Int.natCast_mul,Int.natAbs_of_nonneg e,Int.natAbs_of_nonneg (Int.le_of_lt h)]);rw[<-a,<-d];omega
theorem zxo {A:Nat->Nat->Int} {bas:Nat->Nat} {n:Nat}:∀{k r},(∀i,i<k->0<=A i n)->W9 A bas n c k=some r->r<k/\0<A r c/\∀i,i<k->0<A i c->LimR A bas n c r i
 |0,r,_,h=>by cases h
 |k+1,r,w,h=>by
  rw[W9] at h
  by_cases j:A k c<=0
  ·rw[if_pos j] at h
   obtain⟨B,m,x⟩:=zxo (fun i t=>w i og) h
   refine⟨by omega,m,fun i t l=> ?_⟩
   rcases g i k with f|f
   ·exact x i f l
   ·obtain rfl:i=k:=og
    omega
  ·rw[if_neg j] at h
   have j:0<A k c:=og
   cases e:W9 A bas n c k with
   |none=>
    rw[e] at h
    have h:some k=some r:=h
    cases h
    refine⟨s _,j,fun i t l=> ?_⟩
    rcases g i k with f|f
    ·have:=ybd e i f;omega
    ·rw[show i=k by omega];exact yhf
   |some b=>
    rw[e] at h
    have h:(if zlv A bas n c k b then some k else some b)=some r:=h
    obtain⟨B,m,x⟩:=zxo (fun i t=>w i og) e
    have z:=ytk (bas:=bas) (w k og) (w b og) j m
    by_cases f:zlv A bas n c k b=true
    ·rw[if_pos f] at h
     cases h
     have C:LimR A bas n c k b:=by rcases z.1 f with h|h;exact .inl h;exact .inr ⟨h.1,Nat.le_of_lt h.2⟩
     refine⟨s _,j,fun i t l=> ?_⟩
     rcases g i k with o|o
     ·exact C.trans j m l (x i o l)
     ·rw[show i=k by omega];exact yhf
    ·rw[if_neg f] at h
     cases h
     refine⟨by omega,m,fun i t l=> ?_⟩
     rcases g i k with o|o
     ·exact x i o l
     ·obtain rfl:i=k:=og
      have D:¬(A i n*A r c<A r n*A i c\/(A i n*A r c=A r n*A i c/\bas i<bas r)):=fun h=>f (z.2 h)
      unfold LimR
      omega
section
variable (m n : Nat)
def zkm (t:TB):Option Nat:=T6 (fun j=>decide (t.A m j<0)) (fun j=>t.oth.getD j 0) n
def zlx (t:TB) (c:Nat):Option Nat:=W9 t.A (fun i=>t.bas.getD i 0) n c m
def zkh (t:TB):Option TB:=match zkm m n t with
 |none=>none
 |some c=>match zlx m n t c with
  |none=>none
  |some r=>some (R7 t r c)
def znn (t:TB):Option Nat:=T6 (fun i=>decide (t.A i n<0)) (fun i=>t.bas.getD i 0) m
def znz (t:TB) (r:Nat):Option Nat:=T6 (fun j=>decide (t.A r j<0)) (fun j=>t.oth.getD j 0) n
def zkl (t:TB):Option TB:=match znn m n t with
 |none=>none
 |some r=>match znz n t r with
  |none=>none
  |some c=>some (R7 t r c)
end
def N9 {c:Type} (f:c->Option c):Nat->c->c
 |0,a=>a
 |k+1,a=>match f a with
  |none=>a
  |some b=>N9 f k b
theorem yax {c:Type} {f:c->Option c} {a b:c} (h:f a=some b) (k:Nat):N9 f (k+1) a=N9 f k b:=by rw[N9,h]
theorem ygq {b:Type} {f:b->Option b} {a:b} (h:f a=none) (k:Nat):N9 f k a=a:=by cases k with
 |zero=>rfl
 |succ k=>rw[N9,h]
def zwg {b:Type} (f:b->Option b) (a:b):Prop:=∃k,f (N9 f k a)=none
theorem yaw {i:Type} {f:i->Option i}:∀{k:Nat} {a b:i},f (N9 f k a)=some b->N9 f (k+1) a=b
 |0,a,b,h=>by rw[N9,show f a=some b from h];rfl
 |k+1,a,b,h=>by
  cases e:f a with
  |none=>rw[ygq e,e] at h;cases h
  |some c=>rw[yax e] at h⊢;exact yaw h
theorem yav {c:Type} {f:c->Option c} {P:c->Prop} (i:∀a b,P a->f a=some b->P b):∀k a,P a->P (N9 f k a)
 |0,a,h=>h
 |k+1,a,h=>by
  cases e:f a with
  |none=>rw[ygq e];exact h
  |some b=>rw[yax e];exact yav i k b (i a b h e)
abbrev znl (m n:Nat) (t:TB):Dic:=J9 (fun _=>1) 1 m n t
theorem uc1 (n:Nat) (o:Nat->Nat) (j:Nat):uc (fun _=>1) n o j=1:=by unfold uc;split<;>rfl
theorem ur1 (m:Nat) (b:Nat->Nat) (i:Nat):ur (fun _=>1) 1 m b i=1:=by unfold ur;split<;>rfl
theorem zny {m n:Nat} {t:TB} (a:i<=m) (b:j<=n):(znl m n t).D i j=(t.A i j:Rat)*((t.d:Int):Rat)⁻¹:=by show(if i<=m/\j<=n then _ else _)=_;rw[if_pos ⟨a,b⟩,uc1,ur1,Rat.mul_one,show(1:Rat)⁻¹=1 from ztn (Rat.mul_one 1),Rat.mul_one]
theorem zti {d:Nat} (h:0<d):0<((d:Int):Rat)⁻¹:=inv_pos (by rw[<-Rat.intCast_zero,Rat.intCast_lt_intCast];omega)
theorem zqj {z:Int} {q:Rat} (b:0<q):(z:Rat)*q<0↔z<0:=by
 constructor
 ·intro h;refine Int.lt_of_not_ge fun c=> ?_;have a:(0:Rat)<=(z:Rat):=(by rw[<-Rat.intCast_zero,Rat.intCast_le_intCast];exact c);have:=Rat.mul_nonneg a (Rat.le_of_lt b);grind
 ·intro h;have a:(z:Rat)<0:=(by rw[<-Rat.intCast_zero,Rat.intCast_lt_intCast];exact h);have:=Rat.mul_pos (show 0< -(z:Rat) by grind) b;grind
theorem zyu {z:Int} {q:Rat} (a:0<q):0<(z:Rat)*q↔0<z:=by
 have:=zqj (z:= -z) a;rw[Rat.intCast_neg] at this;constructor
 ·intro h;have:=this.1 (by grind);omega
 ·intro h;have:=this.2 og;grind
theorem zyt {z:Int} {q:Rat} (b:0<q):0<=(z:Rat)*q↔0<=z:=by
 have:=zqj (z:=z) b;constructor
 ·intro h;refine Int.le_of_not_gt fun a=> ?_;have:=this.2 a;grind
 ·intro h;refine Rat.not_lt.1 fun a=> ?_;have:=this.1 a;omega
theorem ypc {a b c:Int} {q:Rat} (d:0<q):((a:Rat)*q)*((b:Rat)*q)<((c:Rat)*q)*((e:Rat)*q)↔a*b<c*e:=by
 have h:=zyu (z:=c*e-a*b) (q:=q*q) (Rat.mul_pos d d);rw[Rat.intCast_sub,Rat.intCast_mul,Rat.intCast_mul] at h;constructor
 ·intro f;have:=h.1 (by grind);omega
 ·intro f;have:=h.2 og;grind
theorem ypb {a b c:Int} (h:a*b=c*e) (q:Rat):((a:Rat)*q)*((b:Rat)*q)=((c:Rat)*q)*((e:Rat)*q):=by have:(a:Rat)*(b:Rat)=(c:Rat)*(e:Rat):=(by rw[<-Rat.intCast_mul,<-Rat.intCast_mul,h]);grind
theorem zzv {m n:Nat} {t f:TB} (h:TInv M m n t) (C:∀i,i<m->0<=t.A i n) (b:zkh m n t=some f):∃r c,f=R7 t r c/\t.A r c≠0/\BlandAt m n (znl m n t) r c:=by
 unfold zkh at b;cases l:zkm m n t with
 |none=>rw[l] at b;cases b
 |some c=>
  rw[l] at b;have b:(match zlx m n t c with|none=>none|some r=>some (R7 t r c))=some f:=b;cases o:zlx m n t c with
  |none=>rw[o] at b;cases b
  |some r=>
   rw[o] at b;have b:some (R7 t r c)=some f:=b;cases b;obtain⟨z,k,A⟩:=zmg l;obtain⟨r1,r2,r3⟩:=zxo C o;have k:t.A m c<0:=of_decide_eq_true k;have e:=zti h.d0;refine⟨r,c,rfl,by omega,z,r1,?_,fun j E w=> ?_,?_,fun i D x=> ?_⟩
   ·rw[zny (d _) og];exact(zqj e).2 k
   ·rw[zny (d _) og] at w;exact A j E (decide_eq_true ((zqj e).1 w))
   ·rw[zny og og];exact(zyu e).2 r2
   ·rw[zny og og] at x⊢;rw[zny og og,zny og og,zny og og];rcases r3 i D ((zyu e).1 x) with h|⟨h,B⟩
    ·exact .inl ((ypc e).2 h)
    ·exact .inr ⟨ypb h _,B⟩
theorem restT {m n:Nat} {t e:TB} (h:TInv M m n t) (f:∀i,i<m->0<=t.A i n) (l:zkh m n t=some e):TInv M m n e/\∀i,i<m->0<=e.A i n:=by obtain⟨r,c,rfl,k,a⟩:=zzv h f l;have j:=h.piv a.hr a.hc k;refine⟨j,fun i b=> ?_⟩;have g:=yiz a (fun i b=>by rw[zny og (d _)];exact(zyt (zti h.d0)).2 (f i b)) i b;rw[<-h.dic (fun _=>Nat.one_pos) Nat.one_pos a.hr a.hc k] at g;exact(zyt (zti j.d0)).1 (by rw[<-zny (m:=m) og (d n)];exact g)
theorem TInv.ltD {m n:Nat} {t:TB} (h:TInv M m n t):(∀i,i<m->t.bas.getD i 0<m+n)/\∀j,j<n->t.oth.getD j 0<m+n:=
 ⟨fun i a=>h.lt _ (List.mem_append.2 (.inl (Z8 (by rw[h.bl];exact a)))),fun j b=>h.lt _ (List.mem_append.2 (.inr (Z8 (by rw[h.ol];exact b))))⟩
theorem ysa {m n:Nat} {t:TB} (h:TInv M m n t) (g:∀i,i<m->0<=t.A i n):zwg (zkh m n) t:=by
 refine Classical.byContradiction fun x=> ?_
 have A:∀k,∃f,zkh m n (N9 (zkh m n) k t)=some f:=fun k=>by
  cases e:zkh m n (N9 (zkh m n) k t) with
  |none=>exact absurd ⟨k,e⟩ x
  |some f=>exact⟨f,rfl⟩
 have hI:∀k,TInv M m n (N9 (zkh m n) k t)/\∀i,i<m->0<=(N9 (zkh m n) k t).A i n:=fun k=>
  yav (P:=fun t=>TInv M m n t/\∀i,i<m->0<=t.A i n) (fun a b o z=>restT o.1 o.2 z) k t ⟨h,g⟩
 have hst:∀k,∃r c,N9 (zkh m n) (k+1) t=R7 (N9 (zkh m n) k t) r c/\(N9 (zkh m n) k t).A r c≠0/\BlandAt m n (znl m n (N9 (zkh m n) k t)) r c:=fun k=>(by obtain⟨f,p⟩:=A k;obtain⟨r,c,e,y,u⟩:=zzv (hI k).1 (hI k).2 p;exact⟨r,c,by rw[yaw p,e],y,u⟩);obtain⟨R,v⟩:=Classical.axiomOfChoice hst;obtain⟨C,l⟩:=Classical.axiomOfChoice v;refine ydk (m:=m) (n:=n) (N:=m+n) (fun k=>znl m n (N9 (zkh m n) k t)) R C (fun k=> ?_) (fun k=>(l k).2.2) (h.distD _ _) h.ltD (fun i w=> ?_)
 ·obtain⟨q,s,j⟩:=l k;show znl m n (N9 (zkh m n) (k+1) t)=_;rw[q];exact(hI k).1.dic (fun _=>Nat.one_pos) Nat.one_pos j.hr j.hc s
 ·show 0<=(znl m n t).D i n;rw[zny og (d _)];exact(zyt (zti h.d0)).2 (g i w)
def zsh (m n:Nat) (t:TB):Dic:=⟨(znl m n t).oth,(znl m n t).bas,fun j i=>if i=m then 0 else if j=n then(znl m n t).D i n else -((znl m n t).D i j)⟩
theorem ypl {m n:Nat} {S:Dic} (hr:r<m) (hc:c<n) (R:Dic->Dic) (o:R=fun S=>⟨S.oth,S.bas,fun j i=>if i=m then 0 else if j=n then S.D i n else -(S.D i j)⟩):R (zko S r c)=zko (R S) c r:=by
 subst o
 have q:(-(S.D r c))⁻¹= -(S.D r c)⁻¹:=by
  by_cases h:S.D r c=0
  ·rw[h,Rat.neg_zero,Rat.inv_zero,Rat.neg_zero]
  ·exact ztn (by have:=Rat.mul_inv_cancel _ h;grind)
 show(⟨_,_,_⟩:Dic)=⟨_,_,_⟩;congr 1;funext j i;(have e:(fun j i=>if i=m then(0:Rat) else if j=n then S.D i n else -(S.D i j)) c r= -(S.D r c):=by show(if r=m then(0:Rat) else if c=n then S.D r n else -(S.D r c))=_;rw[if_neg og,if_neg og]);show(if i=m then(0:Rat) else if j=n then J8 S.D r c i n else -(J8 S.D r c i j))=J8 (fun j i=>if i=m then(0:Rat) else if j=n then S.D i n else -(S.D i j)) c r j i;unfold J8;rw[e,q];have l:r≠m:=og;have g:c≠n:=og;have k:n≠c:=og;have p:m≠r:=og;by_cases b:i=m
 ·subst b;simp only[if_neg p,if_neg g];by_cases a:j=c
  ·simp only[if_pos a];grind
  ·simp only[if_neg a];grind
 ·by_cases f:j=n
  ·subst f;by_cases d:i=r
   ·subst d;simp only[if_neg b,if_neg k];grind
   ·simp only[if_neg b,if_neg k,if_neg d,if_neg l,if_neg g];grind
  ·by_cases d:i=r
   ·subst d;by_cases a:j=c
    ·simp only[if_neg b,if_neg f,if_pos a];grind
    ·simp only[if_neg b,if_neg f,if_neg a];grind
   ·by_cases a:j=c
    ·simp only[if_neg b,if_neg f,if_neg d,if_pos a,if_neg g];grind
    ·simp only[if_neg b,if_neg f,if_neg d,if_neg a,if_neg l,if_neg g];grind
theorem zzu {m n:Nat} {t k:TB} (h:TInv M m n t) (b:zkl m n t=some k):∃r c,k=R7 t r c/\r<m/\c<n/\t.A r c≠0/\BlandAt n m (zsh m n t) c r:=by
 unfold zkl at b;cases w:znn m n t with
 |none=>rw[w] at b;cases b
 |some r=>
  rw[w] at b;have b:(match znz n t r with|none=>none|some c=>some (R7 t r c))=some k:=b;cases x:znz n t r with
  |none=>rw[x] at b;cases b
  |some c=>
   rw[x] at b;have b:some (R7 t r c)=some k:=b;cases b;obtain⟨r1,r2,r3⟩:=zmg w;obtain⟨l,o,E⟩:=zmg x;have r2:t.A r n<0:=of_decide_eq_true r2;have o:t.A r c<0:=of_decide_eq_true o;have f:=zti h.d0;(have B:∀i,i<m->(zsh m n t).D n i=(t.A i n:Rat)*((t.d:Int):Rat)⁻¹:=fun i e=>by show(if i=m then(0:Rat) else if n=n then(znl m n t).D i n else _)=_;rw[if_neg og,if_pos rfl,zny og (d _)]);(have A:∀j i,i<m->j<n->(zsh m n t).D j i= -((t.A i j:Rat)*((t.d:Int):Rat)⁻¹):=fun j i e z=>by show(if i=m then(0:Rat) else if j=n then(znl m n t).D i n else _)=_;rw[if_neg og,if_neg og,zny og og]);have C:∀j,(zsh m n t).D j m=0:=fun j=>if_pos rfl;refine⟨r,c,rfl,r1,l,by omega,r1,l,?_,fun i e D=> ?_,?_,fun j z F=> ?_⟩
   ·rw[B r r1];exact(zqj f).2 r2
   ·rw[B i e] at D;exact r3 i e (decide_eq_true ((zqj f).1 D))
   ·rw[A c r r1 l];have:=(zqj f).2 o;grind
   ·right;rw[A j r r1 z] at F;rw[C,C];refine⟨by grind,E j z (decide_eq_true ((zqj f).1 (by grind)))⟩
theorem yxy {m n:Nat} {t a:TB} (h:TInv M m n t) (d:zkl m n t=some a):TInv M m n a:=by obtain⟨r,c,rfl,hr,hc,b,_⟩:=zzu h d;exact h.piv hr hc b
theorem yrz {m n:Nat} {t:TB} (h:TInv M m n t):zwg (zkl m n) t:=by
 refine Classical.byContradiction fun x=> ?_
 have z:∀k,∃d,zkl m n (N9 (zkl m n) k t)=some d:=fun k=>by
  cases e:zkl m n (N9 (zkl m n) k t) with
  |none=>exact absurd ⟨k,e⟩ x
  |some d=>exact⟨d,rfl⟩
 have hI:∀k,TInv M m n (N9 (zkl m n) k t):=fun k=>yav (P:=TInv M m n) (fun a b u y=>yxy u y) k t h;have hst:∀k,∃r c,N9 (zkl m n) (k+1) t=R7 (N9 (zkl m n) k t) r c/\r<m/\c<n/\(N9 (zkl m n) k t).A r c≠0/\BlandAt n m (zsh m n (N9 (zkl m n) k t)) c r:=fun k=>(by obtain⟨d,o⟩:=z k;obtain⟨r,c,e,s⟩:=zzu (hI k) o;exact⟨r,c,by rw[yaw o,e],s⟩);obtain⟨R,v⟩:=Classical.axiomOfChoice hst;obtain⟨C,g⟩:=Classical.axiomOfChoice v;refine ydk (m:=n) (n:=m) (N:=m+n) (fun k=>zsh m n (N9 (zkl m n) k t)) C R (fun k=> ?_) (fun k=>(g k).2.2.2.2) ?_ ⟨h.ltD.2,h.ltD.1⟩ (fun j l=> ?_)
 ·obtain⟨p,hr,hc,q,A⟩:=g k;show zsh m n (N9 (zkl m n) (k+1) t)=_;rw[p];have e:=(hI k).dic (sc:=fun _=>1) (top:=1) (fun _=>Nat.one_pos) Nat.one_pos hr hc q;have f:=ypl (S:=znl m n (N9 (zkl m n) k t)) hr hc _ rfl;rw[<-e] at f;exact f
 ·have hd:=h.distD (fun _=>1) 1;exact⟨hd.oo,hd.bb,fun j i l w e=>hd.bo i j w l e.symm⟩
 ·show 0<=(if m=m then(0:Rat) else _);rw[if_pos rfl];exact Rat.le_refl
theorem LineW.same {w:a} {S:Nat->Prop} {m:Nat} {d:Nat->Int} (h:LineW w S b c m f) (g:∀j,j<m->f j=d j):LineW w S b c m d:=
 ⟨h.blk,h.cap,fun j e=>by rw[<-g j e];exact h.el j e⟩
theorem LineW.lt {w:a} {S:Nat->Prop} {m:Nat} (h:LineW w S b c m f):b<w.heap.size:=by obtain⟨d,e⟩:=h.blk;exact(Array.getElem?_eq_some_iff.1 e).1
theorem LineW.free {w:a} {S:Nat->Prop} {m:Nat} (h:LineW w S b c m f):w.frozen? ⟨b,o,none⟩=false:=by obtain⟨d,e⟩:=h.blk;simp[World.frozen?,e]
theorem zvy {w:a} {c:Array Value} {t:TypeId} {u:Value} (h:w.heap[b]? =some (.cells c t (0,0))):∃e,(w.setCell ⟨b,o,none⟩ u).heap[b]? =some (.cells e t (0,0)):=by have d:=(Array.getElem?_eq_some_iff.1 h).1;have f:w.heap[b]= .cells c t (0,0):=(by have:=Array.getElem?_eq_getElem d;rw[h] at this;exact(Option.some.inj this).symm);refine⟨c.setIfInBounds o u,?_⟩;simp[World.setCell,d,Array.getElem_modify,f]
theorem LineW.put {w:a} {S:Nat->Prop} {m:Nat} (h:LineW w S b c m f) (I:∀x,S x->x≠b) (N:j<m) {z:Int} {g n:Option Addr} {l:Nat}
 (J:IsQ w S (.agg #[.bool (decide (z<0)),.slice g (A9 z.natAbs).length k,.slice n (A9 1).length l]) ((z:Int):Rat)):
 LineW (L9 w b j (.bool (decide (z<0))) (.slice g (A9 z.natAbs).length k) (.slice n (A9 1).length l)) S b c m (fun i=>if i=j then z else f i) where
 blk:=by
  obtain⟨M,e⟩:=h.blk
  obtain⟨K,C⟩:=zvy (o:=j*3) (u:= .bool (decide (z<0))) e
  obtain⟨L,D⟩:=zvy (o:=j*3+1) (u:= .slice g (A9 z.natAbs).length k) C
  exact zvy (o:=j*3+2) (u:= .slice n (A9 1).length l) D
 cap:=h.cap
 el i hi:=by
  have v:L1 S S w (L9 w b j (.bool (decide (z<0))) (.slice g (A9 z.natAbs).length k) (.slice n (A9 1).length l)):=fun x y=>⟨y,fun o=>zos (.inl (I x y))⟩;by_cases e:i=j
  ·subst e;simp only[if_pos];obtain⟨t,A,u,B,p,q,r,_⟩:=h.el i hi;obtain⟨E,F,G⟩:=yip (x:= .bool (decide (z<0))) (y:= .slice g (A9 z.natAbs).length k) (z:= .slice n (A9 1).length l) p q r;exact⟨g,k,n,l,E,F,G,IsQ.stb.to J v⟩
  ·simp only[if_neg e];obtain⟨t,A,u,B,p,q,r,H⟩:=h.el i hi;have s:∀d,d<3->i*3+d<j*3\/j*3+3<=i*3+d:=fun d hd=>(by omega);exact⟨t,A,u,B,(zos (.inr (s 0 og))).trans p,(zos (.inr (s 1 og))).trans q,(zos (.inr (s 2 og))).trans r,IsQ.stb.to H v⟩
theorem LineW.isV {w:a} {S z:Nat->Prop} {m:Nat} (h:LineW w S b c m f) (L:∀x,S x->z x) (M:z b):IsV w z (.slice (some ⟨b,0,none⟩) m c) (C0 (ints m f)):=by
 have C:(C0 (ints m f)).length=m:=by simp[C0,zpx]
 have hex:∀j,∃e,j<m->(e.cells.size=3/\IsR w z e (D8 ((f j:Int):Rat))/\∀i D,e.cells[i]? =some D->w.cell? ⟨b,j*3+i,none⟩=some D):=fun j=>by
  by_cases r:j<m
  ·obtain⟨O,k,P,l,A,E,t,B⟩:=h.el j r;refine⟨_,fun _=>⟨rfl,IsQ.stb.to B (E0 L),fun i D n=> ?_⟩⟩;match i,n with
   |0,n=>cases n;exact A
   |1,n=>cases n;exact E
   |2,n=>cases n;exact t
   |_+3,n=>simp[Value.cells] at n
  ·exact⟨undef,fun h=>absurd h r⟩
 obtain⟨e,F⟩:=Classical.axiomOfChoice hex;have G:Wid 3 ((List.range m).map e):=fun R hv=>(by obtain⟨j,r,rfl⟩:=List.mem_map.1 hv;exact(F j (List.mem_range.1 r)).1);refine⟨some ⟨b,0,none⟩,c,(List.range m).map e,by rw[C],by rw[C];exact h.cap.1,h.cap.2,fun _=>⟨b,0,rfl,M,fun o D n=> ?_⟩,G,⟨by rw[C];simp,fun j x y I H=> ?_⟩⟩
 ·rw[Nat.zero_add];have N:=zqs G;have Q:o<m*3:=(by have:=(List.getElem?_eq_some_iff.1 n).1;rw[N] at this;simpa using this);have r:o/3<m:=og;have A:=F (o/3) r;have E:((List.range m).map e)[o/3]? =some (e (o/3)):=(by rw[u,List.getElem?_range r];rfl);have t:∃J,(e (o/3)).cells[o%3]? =some J:=(by have:o%3<(e (o/3)).cells.size:=(by rw[A.1];omega);exact⟨_,Array.getElem?_eq_getElem this⟩);obtain⟨J,t⟩:=t;have B:=zoo G E t;rw[show o/3*3+o%3=o by omega] at B;rw[B] at n;cases n;have K:=A.2.2 _ _ t;rwa[show o/3*3+o%3=o by omega] at K
 ·have r:j<m:=(by have:=(List.getElem?_eq_some_iff.1 H).1;rwa[C] at this);rw[u,List.getElem?_range r] at I;cases I;have hr:(C0 (ints m f))[j]? =some (D8 ((f j:Int):Rat)):=(by unfold C0;rw[u,ygk r];rfl);rw[hr] at H;cases H;exact(F j r).2.1
structure IntW (w:a) (b len:Nat) (f:Nat->Nat):Prop where
 blk:∃cur,w.heap[b]? =some (.cells cur 3 (0,0))
 el:∀i,i<len->w.cell? ⟨b,i,none⟩=some (.int .i64 ((f i:Nat):Int))
theorem IntW.lt {w:a} {len:Nat} {f:Nat->Nat} (h:IntW w b len f):b<w.heap.size:=by obtain⟨c,e⟩:=h.blk;exact(Array.getElem?_eq_some_iff.1 e).1
theorem IntW.free {w:a} {len:Nat} {f:Nat->Nat} (h:IntW w b len f):w.frozen? ⟨b,o,none⟩=false:=by obtain⟨c,e⟩:=h.blk;simp[World.frozen?,e]
theorem IntW.keep {w w':a} {len:Nat} {f:Nat->Nat} (h:IntW w b len f) (c:w'.heap[b]? =w.heap[b]?):IntW w' b len f:=
 ⟨by rw[c];exact h.blk,fun i d=>(World.cell?_of_block c).trans (h.el i d)⟩
theorem IntW.same {w:a} {len:Nat} {f c:Nat->Nat} (h:IntW w b len f) (e:∀i,i<len->f i=c i):IntW w b len c:=⟨h.blk,fun i d=>by rw[<-e i d];exact h.el i d⟩
theorem IntW.put {w:a} {len:Nat} {f:Nat->Nat} (h:IntW w b len f) (n:i<len) (d:Nat):IntW (w.setCell ⟨b,i,none⟩ (.int .i64 (d:Int))) b len (O0 f i d) where
 blk:=by obtain⟨l,e⟩:=h.blk;exact zvy e
 el k c:=by
  by_cases e:k=i
  ·subst e;rw[znp];exact World.cell?_setCell_same _ _ _ (h.el k c)
  ·rw[znq _ _ e,World.cell?_setCell_other _ _ _ _ (fun g=>by injection g with m j;exact e j.symm)];exact h.el k c
structure TabW (w:a) (S:Nat->Prop) (lo:Nat) (bk cp:Nat->Nat) (N:Nat) (len:Nat->Nat) (F:Nat->Nat->Int):Prop where
 line:∀l,l<N->1<=len l->LineW w (SN S lo w) (bk l) (cp l) (len l) (F l)
 inj:∀l k,l<N->k<N->1<=len l->1<=len k->bk l=bk k->l=k
 sep:∀l,l<N->1<=len l->bk l<lo/\¬S (bk l)
 sS:∀b,S b->b<lo
 hlo:lo<=w.heap.size
section
variable {w w' : a} {S : Nat → Prop} {lo N : Nat} {bk cp len : Nat → Nat} {F : Nat → Nat → Int}
theorem TabW.same {a:Nat->Nat->Int} (h:TabW w S lo bk cp N len F) (e:∀l j,l<N->j<len l->F l j=a l j):TabW w S lo bk cp N len a:=
 ⟨fun l b c=>(h.line l b c).same fun j d=>e l j b d,h.inj,h.sep,h.sS,h.hlo⟩
theorem zql {S:Nat->Prop} {lo:Nat} {w w':a} (d:w.heap.size<=w'.heap.size):∀b,SN S lo w b->SN S lo w' b:=fun b c=>by
 rcases c with h|h
 ·exact .inl h
 ·exact .inr ⟨h.1,y h.2 d⟩
theorem TabW.grown (h:TabW w S lo bk cp N len F) {r:Option Nat} (hg:w.grownBy w' r) (hr:∀b,r=some b->b<lo/\¬S b/\∀l,l<N->1<=len l->bk l≠b):TabW w' S lo bk cp N len F where
 line l d c:=by
  refine(h.line l d c).keep (hg.block _ (h.line l d c).lt fun e=>(hr _ e.symm).2.2 l d c rfl) fun x a=>⟨zql hg.size x a,hg.block _ ?_ fun e=> ?_⟩
  ·rcases a with a|a
   ·exact y (h.sS x a) h.hlo
   ·exact a.2
  ·have:=hr _ e.symm
   rcases a with a|a
   ·exact this.2.1 a
   ·have:=a.1;omega
 inj:=h.inj;sep:=h.sep;sS:=h.sS;hlo:=v h.hlo hg.size
theorem TabW.upd (h:TabW w S lo bk cp N len F) {l:Nat} (i:l<N) (g:1<=len l) (hg:w.grownBy w' (some (bk l))) (m:LineW w' (SN S lo w') (bk l) (cp l) (len l) f):
 TabW w' S lo bk cp N len (fun k=>if k=l then f else F k) where
 line k d c:=by
  by_cases e:k=l
  ·subst e;simp only[if_pos];exact m
  ·simp only[if_neg e]
   refine(h.line k d c).keep (hg.block _ (h.line k d c).lt fun b=>e (h.inj _ _ d i c g (by injection b))) fun x a=>⟨zql hg.size x a,hg.block _ ?_ fun b=> ?_⟩
   ·rcases a with a|a
    ·exact y (h.sS x a) h.hlo
    ·exact a.2
   ·have j:=h.sep l i g
    injection b with b
    rcases a with a|a
    ·exact j.2 (by rw[<-b];exact a)
    ·have:=a.1;omega
 inj:=h.inj;sep:=h.sep;sS:=h.sS;hlo:=v h.hlo hg.size
end
end Go.Proofs.YtdgilbgdkmhcmaaGreatDoor
