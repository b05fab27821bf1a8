/-
 Package simplex's tables,f a program:pivots,a e c,both loops d to b end,a numbers stay small.
-/
import Derived.Test.YtdgilbgdkmhcmaaGreatDoorProofSimplexDuals05
namespace Go.Proofs.YtdgilbgdkmhcmaaGreatDoor
set_option linter.unusedVariables false
open Go.RowKit
set_option maxRecDepth 100000
set_option maxHeartbeats 8000000
open _root_.Nat renaming le_refl → u, le_trans → E, lt_of_lt_of_le → C, lt_or_ge → v, lt_succ_self → D
open _root_.List renaming getD_eq_getElem?_getD → x, getElem?_eq_getElem → y
open _root_.Go renaming World → q, Addr → s
variable {M b c i j k l o r : Nat} {e : Int} {f : Nat → Int} {key : Nat → Nat}
structure TB where
 A:Nat->Nat->Int
 d:Nat
 bas:List Nat
 oth:List Nat
def P7 (t:TB) (r c:Nat):TB:=⟨zmi t.A t.d r c,(t.A r c).natAbs,t.bas.set r (t.oth.getD c 0),t.oth.set c (t.bas.getD r 0)⟩
def uc (sc:Nat->Nat) (n:Nat) (o:Nat->Nat) (j:Nat):Rat:=if j<n then((sc (o j):Nat):Rat) else 1
def ur (sc:Nat->Nat) (top m:Nat) (b:Nat->Nat) (i:Nat):Rat:=if i<m then((sc (b i):Nat):Rat) else((top:Nat):Rat)
def J9 (sc:Nat->Nat) (top m n:Nat) (t:TB):Dic:=
 ⟨fun i=>t.bas.getD i 0,fun j=>t.oth.getD j 0,fun i j=>if i<=m/\j<=n then(t.A i j:Rat)*((t.d:Int):Rat)⁻¹*uc sc n (fun j=>t.oth.getD j 0) j*(ur sc top m (fun i=>t.bas.getD i 0) i)⁻¹ else 0⟩
theorem zss {l:List Nat} {a:Nat} (h:r<l.length):(fun i=>(l.set r a).getD i 0)=N6 (fun i=>l.getD i 0) r a:=by
 funext i;unfold N6;rw[x,List.getElem?_set];by_cases e:i=r
 ·rw[if_pos e.symm,if_pos h,if_pos e];rfl
 ·rw[if_neg (Ne.symm e),if_neg e];show _=l.getD i 0;rw[x]
theorem ztm {x:Nat} (h:0<x):((x:Nat):Rat)≠0:=zuv (d:=x) h
theorem zz1370 {sc:Nat->Nat} (a:∀b,0<sc b) (n:Nat) (o:Nat->Nat) (j:Nat):uc sc n o j≠0:=by
 unfold uc;split
 ·exact ztm (a _)
 ·decide
theorem zz1372 {sc:Nat->Nat} {top:Nat} (a:∀d,0<sc d) (c:0<top) (m:Nat) (b:Nat->Nat) (i:Nat):ur sc top m b i≠0:=by
 unfold ur;split
 ·exact ztm (a _)
 ·exact ztm c
theorem zsu {a b:Rat} (h:a*b=1):a⁻¹=b:=by
 have ha:a≠0:=fun e=>(by rw[e,Rat.zero_mul] at h;exact absurd h (by decide));have c:=Rat.mul_inv_cancel _ ha
 calc a⁻¹=a⁻¹*(a*b):=by rw[h,Rat.mul_one]
  _=b:=by rw[<-Rat.mul_assoc,Rat.mul_comm a⁻¹,c,Rat.one_mul]
theorem yae {a:Rat} (h:a≠0):a⁻¹≠0:=fun e=>by have b:=Rat.mul_inv_cancel _ h;rw[e,Rat.mul_zero] at b;exact absurd b (by decide)
section
variable {m n : Nat} {t : TB} {B O : Nat → RV}
theorem yek {sc:Nat->Nat} {top:Nat} (M:∀ah,0<sc ah) (ao:0<top) (h:Cram (m+1) n t.A t.d B O) (G:t.bas.length=m) (J:t.oth.length=n) (hr:r<m) (hc:c<n) (K:t.A r c≠0):
 J9 sc top m n (P7 t r c)=zkc (J9 sc top m n t) r c:=by
 obtain⟨g,u⟩:=nm ((t.A r c:Rat):Rat);obtain⟨D,hD⟩:=nm (((t.d:Int):Rat));have X:D≠0:=(by rw[hD];exact zuv h.d0);have L:g≠0:=(by rw[u];intro e;exact K (Rat.intCast_inj.1 (by rw[e];rfl)));obtain⟨v,E⟩:=nm ((((t.A r c).natAbs:Int):Rat):Rat)
 have ac:∀i j,i<=m->j<=n->(zmi t.A t.d r c i j:Rat)*v⁻¹=(zkk t.A t.d r c i j:Rat)*g⁻¹:=by
  intro i j _ _;unfold zmi;rcases Int.lt_or_le (t.A r c) 0 with z|z
  ·have e:v= -g:=(by rw[E,u,<-Rat.intCast_neg];congr 1;omega);have Q:v⁻¹= -g⁻¹:=zsu (by rw[e];have:=Rat.mul_inv_cancel _ L;grind);rw[if_pos z,Q,Rat.intCast_neg];grind
  ·have e:v=g:=(by rw[E,u];congr 1;omega);rw[if_neg og,e]
 have Y:=(h.piv (show r<m+1 by omega) hc K).2;have an:=Rat.mul_inv_cancel _ L;have ak:=Rat.mul_inv_cancel _ X;have U:(J9 sc top m n (P7 t r c)).bas=(zkc (J9 sc top m n t) r c).bas:=zss (by rw[G];exact hr);have T:(J9 sc top m n (P7 t r c)).oth=(zkc (J9 sc top m n t) r c).oth:=zss (by rw[J];exact hc)
 have R:(J9 sc top m n (P7 t r c)).D=(zkc (J9 sc top m n t) r c).D:=by
  funext i j;show(if i<=m/\j<=n then(zmi t.A t.d r c i j:Rat)*(((t.A r c).natAbs:Int):Rat)⁻¹*uc sc n (fun j=>(t.oth.set c (t.bas.getD r 0)).getD j 0) j*(ur sc top m (fun i=>(t.bas.set r (t.oth.getD c 0)).getD i 0) i)⁻¹ else 0)=J7 (J9 sc top m n t).D r c i j;rw[zss (l:=t.bas) (by rw[G];exact hr),zss (l:=t.oth) (by rw[J];exact hc),<-E];(have k:∀i j,i<=m->j<=n->(J9 sc top m n t).D i j=(t.A i j:Rat)*D⁻¹*uc sc n (fun j=>t.oth.getD j 0) j*(ur sc top m (fun i=>t.bas.getD i 0) i)⁻¹:=fun i j q s=>by show(if i<=m/\j<=n then _ else _)=_;rw[if_pos ⟨q,s⟩,hD]);have p:∀i j,¬(i<=m/\j<=n)->(J9 sc top m n t).D i j=0:=fun i j a=>if_neg a;have A:uc sc n (fun j=>t.oth.getD j 0) c=((sc (t.oth.getD c 0):Nat):Rat):=if_pos hc;have C:ur sc top m (fun i=>t.bas.getD i 0) r=((sc (t.bas.getD r 0):Nat):Rat):=if_pos hr;have F:uc sc n (N6 (fun j=>t.oth.getD j 0) c (t.bas.getD r 0)) c=((sc (t.bas.getD r 0):Nat):Rat):=(by unfold uc;rw[if_pos hc,znh]);have P:ur sc top m (N6 (fun i=>t.bas.getD i 0) r (t.oth.getD c 0)) r=((sc (t.oth.getD c 0):Nat):Rat):=(by unfold ur;rw[if_pos hr,znh]);have N:∀j,j≠c->uc sc n (N6 (fun j=>t.oth.getD j 0) c (t.bas.getD r 0)) j=uc sc n (fun j=>t.oth.getD j 0) j:=fun j s=>(by unfold uc;rw[zni _ _ s]);have ag:∀i,i≠r->ur sc top m (N6 (fun i=>t.bas.getD i 0) r (t.oth.getD c 0)) i=ur sc top m (fun i=>t.bas.getD i 0) i:=fun i q=>(by unfold ur;rw[zni _ _ q]);obtain⟨e,H⟩:=nm (((sc (t.oth.getD c 0):Nat):Rat));obtain⟨l,I⟩:=nm (((sc (t.bas.getD r 0):Nat):Rat));have Z:e≠0:=(by rw[H];exact ztm (M _));have aa:l≠0:=(by rw[I];exact ztm (M _));have heq:=Rat.mul_inv_cancel _ Z;have al:=Rat.mul_inv_cancel _ aa;rw[<-H] at A P;rw[<-I] at C F;have ad:(J9 sc top m n t).D r c=g*D⁻¹*e*l⁻¹:=(by rw[k r c og og,A,C,u]);have hinv:((J9 sc top m n t).D r c)⁻¹=g⁻¹*D*e⁻¹*l:=(by rw[ad];refine zsu ?_;grind);unfold J7;rw[hinv];by_cases a:i<=m/\j<=n
  ·rw[if_pos a,ac i j a.1 a.2];by_cases f:i=r
   ·subst f;rw[if_pos rfl,P];by_cases d:j=c
    ·subst d;rw[if_pos rfl,F];unfold zkk;rw[if_pos rfl,if_pos rfl,<-hD];grind
    ·rw[if_neg d,N j d,k i j a.1 a.2,C];unfold zkk;rw[if_pos rfl,if_neg d];grind
   ·rw[if_neg f,ag i f];by_cases d:j=c
    ·subst d;rw[if_pos rfl,F,k i j a.1 a.2,A];unfold zkk;rw[if_neg f,if_pos rfl,Rat.intCast_neg];grind
    ·rw[if_neg d,N j d,k i j a.1 a.2,k i c a.1 og,k r j og a.2,A,C,Y i j og a.2 f d,<-hD,<-u,Rat.div_def];obtain⟨x,ae⟩:=nm (uc sc n (fun j=>t.oth.getD j 0) j);obtain⟨y,af⟩:=nm ((ur sc top m (fun i=>t.bas.getD i 0) i)⁻¹);rw[<-ae,<-af];grind
  ·rw[if_neg a];by_cases f:i=r
   ·subst f;have s:¬j<=n:=fun h=>a ⟨by omega,h⟩;rw[if_pos rfl,if_neg og,p i j a];grind
   ·rw[if_neg f];by_cases d:j=c
    ·subst d;rw[if_pos rfl,p i j a];grind
    ·rw[if_neg d,p i j a];by_cases q:i<=m
     ·have s:¬j<=n:=fun h=>a ⟨q,h⟩;rw[p r j og];grind
     ·rw[p i c og];grind
 have ext:∀(S w:Dic),S.bas=w.bas->S.oth=w.oth->S.D=w.D->S=w:=(by rintro⟨b,o,D⟩ ⟨aj,aq,ai⟩ z V W;cases z;cases V;cases W;rfl);exact ext _ _ U T R
end
structure TInv (M m n:Nat) (t:TB):Prop where
 cram:∃B O,Cram (m+1) n t.A t.d B O/\(∀i,i<m+1->zra M (B i))/\∀j,j<=n->zra M (O j)
 bl:t.bas.length=m
 ol:t.oth.length=n
 dist:(t.bas++t.oth).Nodup
 lt:∀v∈t.bas++t.oth,v<m+n
theorem TInv.d0 {m n:Nat} {t:TB} (h:TInv M m n t):0<t.d:=by obtain⟨B,O,h,_⟩:=h.cram;exact h.d0
theorem TInv.small {m n:Nat} {t:TB} (h:TInv M m n t):t.d<=K0 M (m+1)/\∀i j,i<=m->j<=n->(t.A i j).natAbs<=K0 M (m+1):=by obtain⟨B,O,h,a,b⟩:=h.cram;have:=h.small a b;exact⟨this.1,fun i j d c=>this.2 i j og c⟩
theorem Y3 {l:List Nat} (h:i<l.length):l.getD i 0∈l:=by rw[x,y h];exact List.getElem_mem _
theorem znw {l:List Nat} (h:l.Nodup) (b:i<l.length) (c:j<l.length) (e:l.getD i 0=l.getD j 0):i=j:=by
 rw[x,x,y b,y c] at e;have e:l[i]=l[j]:=e;rw[List.nodup_iff_pairwise_ne,List.pairwise_iff_getElem] at h;rcases Nat.lt_trichotomy i j with a|a|a
 ·exact absurd e (h i j b c a)
 ·exact a
 ·exact absurd e.symm (h j i c b a)
theorem TInv.distD {m n:Nat} {t:TB} (h:TInv M m n t) (sc:Nat->Nat) (top:Nat):Dist m n (J9 sc top m n t):=by
 have d:=h.bl;have f:=h.ol;have a:=List.nodup_append.1 h.dist
 exact⟨fun i j b c e=>znw a.1 og og e,fun i j b c e=>znw a.2.1 og og e,
  fun i j b c e=>a.2.2 _ (Y3 (l:=t.bas) og) _ (Y3 (l:=t.oth) og) e⟩
theorem yjr {b o:List Nat} (hr:r<b.length) (hc:c<o.length):∀a,a∈b.set r (o.getD c 0)++o.set c (b.getD r 0)->a∈b++o:=by
 intro a hv;rcases List.mem_append.1 hv with h|h
 ·rcases List.mem_or_eq_of_mem_set h with h|h
  ·exact List.mem_append.2 (.inl h)
  ·rw[h];exact List.mem_append.2 (.inr (Y3 hc))
 ·rcases List.mem_or_eq_of_mem_set h with h|h
  ·exact List.mem_append.2 (.inr h)
  ·rw[h];exact List.mem_append.2 (.inl (Y3 hr))
theorem zxk {l:List Nat} (h:∀i j,i<l.length->j<l.length->l.getD i 0=l.getD j 0->i=j):l.Nodup:=by rw[List.nodup_iff_pairwise_ne,List.pairwise_iff_getElem];intro i j a b c e;have:=h i j a b (by rw[x,x,y a,y b,e]);omega
theorem TInv.piv {m n:Nat} {t:TB} (h:TInv M m n t) (hr:r<m) (hc:c<n) (o:t.A r c≠0):TInv M m n (P7 t r c):=by
 obtain⟨B,O,l,g,k⟩:=h.cram;have hD:=(h.distD (fun _=>1) 1).piv hr hc;have e:=yek (sc:=fun _=>1) (top:=1) (fun _=>Nat.one_pos) Nat.one_pos l h.bl h.ol hr hc o;rw[<-e] at hD;(have s:(P7 t r c).bas.length=m:=by show(t.bas.set _ _).length=m;rw[List.length_set];exact h.bl);(have lo:(P7 t r c).oth.length=n:=by show(t.oth.set _ _).length=n;rw[List.length_set];exact h.ol);refine⟨⟨_,_,(l.piv (show r<m+1 by omega) hc o).1,fun i d=> ?_,fun j f=> ?_⟩,s,lo,?_,fun p hv=>h.lt p (yjr (by rw[h.bl];exact hr) (by rw[h.ol];exact hc) p hv)⟩
 ·unfold M3;split
  ·exact k c og
  ·exact g i d
 ·unfold M3;split
  ·exact g r og
  ·exact k j f
 ·rw[List.nodup_append];exact⟨zxk fun i j d f e=>hD.bb i j og og e,zxk fun i j d f e=>hD.oo i j og og e,fun a ha b q e=>by obtain⟨i,d,rfl⟩:=List.getElem_of_mem ha;obtain⟨j,f,rfl⟩:=List.getElem_of_mem q;refine hD.bo i j og og ?_;show(P7 t r c).bas.getD i 0=(P7 t r c).oth.getD j 0;rw[x,x,y d,y f,e]⟩
theorem TInv.dic {m n:Nat} {t:TB} (h:TInv M m n t) {sc:Nat->Nat} {top:Nat} (d:∀f,0<sc f) (e:0<top) (hr:r<m) (hc:c<n) (b:t.A r c≠0):J9 sc top m n (P7 t r c)=zkc (J9 sc top m n t) r c:=by obtain⟨B,O,a,_,_⟩:=h.cram;exact yek d e a h.bl h.ol hr hc b
def R6 (a:Nat->Bool) (key:Nat->Nat):Nat->Option Nat
 |0=>none
 |k+1=>match R6 a key k with
  |none=>if a k then some k else none
  |some b=>if a k&&decide (key k<key b) then some k else some b
theorem zuc {a:Nat->Bool}:∀{n},R6 a key n=none->∀j,j<n->a j=false
 |0,_,j,f=>absurd f (Nat.not_lt_zero _)
 |n+1,h,j,f=>by
  rw[R6] at h
  cases e:R6 a key n with
  |none=>
   rw[e] at h
   have h:(if a n then some n else none)=none:=h
   rcases v j n with c|c
   ·exact zuc e j c
   ·obtain rfl:j=n:=og
    by_cases d:a j
    ·rw[if_pos d] at h;cases h
    ·simpa using d
  |some b=>
   rw[e] at h
   have h:(if a n&&decide (key n<key b) then some n else some b)=none:=h
   split at h<;>cases h
theorem zlq {a:Nat->Bool}:∀{n c},R6 a key n=some c->c<n/\a c=true/\∀j,j<n->a j=true->key c<=key j
 |0,c,h=>by cases h
 |n+1,c,h=>by
  rw[R6] at h
  cases e:R6 a key n with
  |none=>
   rw[e] at h
   have h:(if a n then some n else none)=some c:=h
   by_cases f:a n
   ·rw[if_pos f] at h
    cases h
    refine⟨D _,f,fun j m d=> ?_⟩
    rcases v j n with k|k
    ·rw[zuc e j k] at d;cases d
    ·rw[show j=n by omega];exact u _
   ·rw[if_neg f] at h;cases h
  |some b=>
   rw[e] at h
   have h:(if a n&&decide (key n<key b) then some n else some b)=some c:=h
   obtain⟨k,f,l⟩:=zlq e
   by_cases g:(a n&&decide (key n<key b))=true
   ·rw[if_pos g] at h
    cases h
    rw[Bool.and_eq_true,decide_eq_true_eq] at g
    refine⟨D _,g.1,fun j m d=> ?_⟩
    rcases v j n with i|i
    ·have:=l j i d;omega
    ·rw[show j=n by omega];exact u _
   ·rw[if_neg g] at h
    cases h
    refine⟨by omega,f,fun j m d=> ?_⟩
    rcases v j n with i|i
    ·exact l j i d
    ·obtain rfl:j=n:=og
     rw[d,Bool.true_and,decide_eq_true_eq] at g
     omega
def zle (A:Nat->Nat->Int) (bas:Nat->Nat) (n c k b:Nat):Bool:=
 decide ((A k n).natAbs*(A b c).natAbs<(A b n).natAbs*(A k c).natAbs)||(decide ((A k n).natAbs*(A b c).natAbs=(A b n).natAbs*(A k c).natAbs)&&decide (bas k<bas b))
def U8 (A:Nat->Nat->Int) (bas:Nat->Nat) (n c:Nat):Nat->Option Nat
 |0=>none
 |k+1=>if A k c<=0 then U8 A bas n c k else match U8 A bas n c k with
  |none=>some k
  |some b=>if zle A bas n c k b then some k else some b
theorem yao {A:Nat->Nat->Int} {bas:Nat->Nat} {n:Nat}:∀{k},U8 A bas n c k=none->∀i,i<k->A i c<=0
 |0,_,i,f=>absurd f (Nat.not_lt_zero _)
 |k+1,h,i,f=>by
  rw[U8] at h
  by_cases a:A k c<=0
  ·rw[if_pos a] at h
   rcases v i k with d|d
   ·exact yao h i d
   ·rw[show i=k by omega];exact a
  ·rw[if_neg a] at h
   cases e:U8 A bas n c k with
   |none=>rw[e] at h;cases h
   |some b=>
    rw[e] at h
    have h:(if zle A bas n c k b then some k else some b)=none:=h
    split at h<;>cases h
def LimR (A:Nat->Nat->Int) (bas:Nat->Nat) (n c r i:Nat):Prop:=A r n*A i c<A i n*A r c\/(A r n*A i c=A i n*A r c/\bas r<=bas i)
theorem yhb {A:Nat->Nat->Int} {bas:Nat->Nat} {n:Nat}:LimR A bas n c r r:= .inr ⟨rfl,u _⟩
theorem yxd {x y z a b c:Int} (ha:0<a) (f:0<b) (hc:0<c) (d:x*b<y*a) (e:y*c<=z*b):x*c<z*a:=by refine Int.lt_of_not_ge fun h=> ?_;have g:=Int.mul_lt_mul_of_pos_right d hc;have i:=Int.mul_le_mul_of_nonneg_right e (Int.le_of_lt ha);have j:=Int.mul_le_mul_of_nonneg_right h (Int.le_of_lt f);grind
theorem ratio_lt' {x y z a b c:Int} (ha:0<a) (f:0<b) (hc:0<c) (d:x*b<=y*a) (e:y*c<z*b):x*c<z*a:=by refine Int.lt_of_not_ge fun h=> ?_;have g:=Int.mul_le_mul_of_nonneg_right d (Int.le_of_lt hc);have i:=Int.mul_lt_mul_of_pos_right e ha;have j:=Int.mul_le_mul_of_nonneg_right h (Int.le_of_lt f);grind
theorem yxc {x y z a b c:Int} (ha:0<a) (f:0<b) (hc:0<c) (d:x*b=y*a) (e:y*c=z*b):x*c=z*a:=by
 have h:(x*c-z*a)*b=0:=(by grind);rcases Int.mul_eq_zero.1 h with h|h
 ·omega
 ·omega
theorem LimR.trans {A:Nat->Nat->Int} {bas:Nat->Nat} {n s:Nat} (hr:0<A r c) (e:0<A s c) (d:0<A i c) (a:LimR A bas n c r s) (b:LimR A bas n c s i):LimR A bas n c r i:=by
 rcases a with a|⟨a,f⟩
 ·left;exact yxd hr e d a (by rcases b with h|h;exact Int.le_of_lt h;exact Int.le_of_eq h.1)
 ·rcases b with b|⟨b,g⟩
  ·exact .inl (ratio_lt' hr e d (Int.le_of_eq a) b)
  ·exact .inr ⟨yxc hr e d a b,E f g⟩
theorem ytf {A:Nat->Nat->Int} {bas:Nat->Nat} {n:Nat} (g:0<=A k n) (e:0<=A b n) (h:0<A k c) (f:0<A b c):
 zle A bas n c k b=true↔A k n*A b c<A b n*A k c\/(A k n*A b c=A b n*A k c/\bas k<bas b):=by unfold zle;rw[Bool.or_eq_true,Bool.and_eq_true,decide_eq_true_eq,decide_eq_true_eq,decide_eq_true_eq];have a:(((A k n).natAbs*(A b c).natAbs:Nat):Int)=A k n*A b c:=(by rw[Int.natCast_mul,Int.natAbs_of_nonneg g,Int.natAbs_of_nonneg (Int.le_of_lt f)]);have d:(((A b n).natAbs*(A k c).natAbs:Nat):Int)=A b n*A k c:=(by rw[Int.natCast_mul,Int.natAbs_of_nonneg e,Int.natAbs_of_nonneg (Int.le_of_lt h)]);rw[<-a,<-d];omega
theorem zxa {A:Nat->Nat->Int} {bas:Nat->Nat} {n:Nat}:∀{k r},(∀i,i<k->0<=A i n)->U8 A bas n c k=some r->r<k/\0<A r c/\∀i,i<k->0<A i c->LimR A bas n c r i
 |0,r,_,h=>by cases h
 |k+1,r,m,h=>by
  rw[U8] at h
  by_cases d:A k c<=0
  ·rw[if_pos d] at h
   obtain⟨t,g,o⟩:=zxa (fun i l=>m i og) h
   refine⟨by omega,g,fun i l f=> ?_⟩
   rcases v i k with a|a
   ·exact o i a f
   ·obtain rfl:i=k:=og
    omega
  ·rw[if_neg d] at h
   have d:0<A k c:=og
   cases e:U8 A bas n c k with
   |none=>
    rw[e] at h
    have h:some k=some r:=h
    cases h
    refine⟨D _,d,fun i l f=> ?_⟩
    rcases v i k with a|a
    ·have:=yao e i a;omega
    ·rw[show i=k by omega];exact yhb
   |some b=>
    rw[e] at h
    have h:(if zle A bas n c k b then some k else some b)=some r:=h
    obtain⟨t,g,o⟩:=zxa (fun i l=>m i og) e
    have p:=ytf (bas:=bas) (m k og) (m b og) d g
    by_cases a:zle A bas n c k b=true
    ·rw[if_pos a] at h
     cases h
     have w:LimR A bas n c k b:=by rcases p.1 a with h|h;exact .inl h;exact .inr ⟨h.1,Nat.le_of_lt h.2⟩
     refine⟨D _,d,fun i l f=> ?_⟩
     rcases v i k with j|j
     ·exact w.trans d g f (o i j f)
     ·rw[show i=k by omega];exact yhb
    ·rw[if_neg a] at h
     cases h
     refine⟨by omega,g,fun i l f=> ?_⟩
     rcases v i k with j|j
     ·exact o i j f
     ·obtain rfl:i=k:=og
      have z:¬(A i n*A r c<A r n*A i c\/(A i n*A r c=A r n*A i c/\bas i<bas r)):=fun h=>a (p.2 h)
      unfold LimR
      omega
section
variable (m n : Nat)
def Z9 (t:TB):Option Nat:=R6 (fun j=>decide (t.A m j<0)) (fun j=>t.oth.getD j 0) n
def zlg (t:TB) (c:Nat):Option Nat:=U8 t.A (fun i=>t.bas.getD i 0) n c m
def Y8 (t:TB):Option TB:=match Z9 m n t with
 |none=>none
 |some c=>match zlg m n t c with
  |none=>none
  |some r=>some (P7 t r c)
def znf (t:TB):Option Nat:=R6 (fun i=>decide (t.A i n<0)) (fun i=>t.bas.getD i 0) m
def zns (t:TB) (r:Nat):Option Nat:=R6 (fun j=>decide (t.A r j<0)) (fun j=>t.oth.getD j 0) n
def Z6 (t:TB):Option TB:=match znf m n t with
 |none=>none
 |some r=>match zns n t r with
  |none=>none
  |some c=>some (P7 t r c)
end
def N2 {c:Type} (f:c->Option c):Nat->c->c
 |0,a=>a
 |k+1,a=>match f a with
  |none=>a
  |some b=>N2 f k b
theorem yaj {c:Type} {f:c->Option c} {a b:c} (h:f a=some b) (k:Nat):N2 f (k+1) a=N2 f k b:=by rw[N2,h]
theorem ygk {b:Type} {f:b->Option b} {a:b} (h:f a=none) (k:Nat):N2 f k a=a:=by cases k with
 |zero=>rfl
 |succ k=>rw[N2,h]
def zvq {b:Type} (f:b->Option b) (a:b):Prop:=∃k,f (N2 f k a)=none
theorem yai {d:Type} {f:d->Option d}:∀{k:Nat} {a b:d},f (N2 f k a)=some b->N2 f (k+1) a=b
 |0,a,b,h=>by rw[N2,show f a=some b from h];rfl
 |k+1,a,b,h=>by
  cases e:f a with
  |none=>rw[ygk e,e] at h;cases h
  |some c=>rw[yaj e] at h⊢;exact yai h
theorem yah {c:Type} {f:c->Option c} {P:c->Prop} (d:∀a b,P a->f a=some b->P b):∀k a,P a->P (N2 f k a)
 |0,a,h=>h
 |k+1,a,h=>by
  cases e:f a with
  |none=>rw[ygk e];exact h
  |some b=>rw[yaj e];exact yah d k b (d a b h e)
abbrev zna (m n:Nat) (t:TB):Dic:=J9 (fun _=>1) 1 m n t
theorem uc1 (n:Nat) (o:Nat->Nat) (j:Nat):uc (fun _=>1) n o j=1:=by unfold uc;split<;>rfl
theorem ur1 (m:Nat) (b:Nat->Nat) (i:Nat):ur (fun _=>1) 1 m b i=1:=by unfold ur;split<;>rfl
theorem znr {m n:Nat} {t:TB} (a:i<=m) (b:j<=n):(zna m n t).D i j=(t.A i j:Rat)*((t.d:Int):Rat)⁻¹:=by show(if i<=m/\j<=n then _ else _)=_;rw[if_pos ⟨a,b⟩,uc1,ur1,Rat.mul_one,show(1:Rat)⁻¹=1 from zsu (Rat.mul_one 1),Rat.mul_one]
theorem zsq {d:Nat} (h:0<d):0<((d:Int):Rat)⁻¹:=inv_pos (by rw[<-Rat.intCast_zero,Rat.intCast_lt_intCast];omega)
theorem zpq {z:Int} {q:Rat} (b:0<q):(z:Rat)*q<0↔z<0:=by
 constructor
 ·intro h;refine Int.lt_of_not_ge fun c=> ?_;have a:(0:Rat)<=(z:Rat):=(by rw[<-Rat.intCast_zero,Rat.intCast_le_intCast];exact c);have:=Rat.mul_nonneg a (Rat.le_of_lt b);grind
 ·intro h;have a:(z:Rat)<0:=(by rw[<-Rat.intCast_zero,Rat.intCast_lt_intCast];exact h);have:=Rat.mul_pos (show 0< -(z:Rat) by grind) b;grind
theorem zyc {z:Int} {q:Rat} (a:0<q):0<(z:Rat)*q↔0<z:=by
 have:=zpq (z:= -z) a;rw[Rat.intCast_neg] at this;constructor
 ·intro h;have:=this.1 (by grind);omega
 ·intro h;have:=this.2 og;grind
theorem zyb {z:Int} {q:Rat} (b:0<q):0<=(z:Rat)*q↔0<=z:=by
 have:=zpq (z:=z) b;constructor
 ·intro h;refine Int.le_of_not_gt fun a=> ?_;have:=this.2 a;grind
 ·intro h;refine Rat.not_lt.1 fun a=> ?_;have:=this.1 a;omega
theorem yor {a b c:Int} {q:Rat} (d:0<q):((a:Rat)*q)*((b:Rat)*q)<((c:Rat)*q)*((e:Rat)*q)↔a*b<c*e:=by
 have h:=zyc (z:=c*e-a*b) (q:=q*q) (Rat.mul_pos d d);rw[Rat.intCast_sub,Rat.intCast_mul,Rat.intCast_mul] at h;constructor
 ·intro f;have:=h.1 (by grind);omega
 ·intro f;have:=h.2 og;grind
theorem yoq {a b c:Int} (h:a*b=c*e) (q:Rat):((a:Rat)*q)*((b:Rat)*q)=((c:Rat)*q)*((e:Rat)*q):=by have:(a:Rat)*(b:Rat)=(c:Rat)*(e:Rat):=(by rw[<-Rat.intCast_mul,<-Rat.intCast_mul,h]);grind
theorem zze {m n:Nat} {t d:TB} (h:TInv M m n t) (z:∀i,i<m->0<=t.A i n) (a:Y8 m n t=some d):∃r c,d=P7 t r c/\t.A r c≠0/\BlandAt m n (zna m n t) r c:=by
 unfold Y8 at a;cases f:Z9 m n t with
 |none=>rw[f] at a;cases a
 |some c=>
  rw[f] at a;have a:(match zlg m n t c with|none=>none|some r=>some (P7 t r c))=some d:=a;cases g:zlg m n t c with
  |none=>rw[g] at a;cases a
  |some r=>
   rw[g] at a;have a:some (P7 t r c)=some d:=a;cases a;obtain⟨o,e,p⟩:=zlq f;obtain⟨r1,r2,r3⟩:=zxa z g;have e:t.A m c<0:=of_decide_eq_true e;have b:=zsq h.d0;refine⟨r,c,rfl,by omega,o,r1,?_,fun j B k=> ?_,?_,fun i A l=> ?_⟩
   ·rw[znr (u _) og];exact(zpq b).2 e
   ·rw[znr (u _) og] at k;exact p j B (decide_eq_true ((zpq b).1 k))
   ·rw[znr og og];exact(zyc b).2 r2
   ·rw[znr og og] at l⊢;rw[znr og og,znr og og,znr og og];rcases r3 i A ((zyc b).1 l) with h|⟨h,w⟩
    ·exact .inl ((yor b).2 h)
    ·exact .inr ⟨yoq h _,w⟩
theorem restT {m n:Nat} {t d:TB} (h:TInv M m n t) (e:∀i,i<m->0<=t.A i n) (k:Y8 m n t=some d):TInv M m n d/\∀i,i<m->0<=d.A i n:=by obtain⟨r,c,rfl,j,a⟩:=zze h e k;have g:=h.piv a.hr a.hc j;refine⟨g,fun i b=> ?_⟩;have f:=yiy a (fun i b=>by rw[znr og (u _)];exact(zyb (zsq h.d0)).2 (e i b)) i b;rw[<-h.dic (fun _=>Nat.one_pos) Nat.one_pos a.hr a.hc j] at f;exact(zyb (zsq g.d0)).1 (by rw[<-znr (m:=m) og (u n)];exact f)
theorem TInv.ltD {m n:Nat} {t:TB} (h:TInv M m n t):(∀i,i<m->t.bas.getD i 0<m+n)/\∀j,j<n->t.oth.getD j 0<m+n:=
 ⟨fun i a=>h.lt _ (List.mem_append.2 (.inl (Y3 (by rw[h.bl];exact a)))),fun j b=>h.lt _ (List.mem_append.2 (.inr (Y3 (by rw[h.ol];exact b))))⟩
theorem yru {m n:Nat} {t:TB} (h:TInv M m n t) (f:∀i,i<m->0<=t.A i n):zvq (Y8 m n) t:=by
 refine Classical.byContradiction fun x=> ?_
 have A:∀k,∃d,Y8 m n (N2 (Y8 m n) k t)=some d:=fun k=>by
  cases e:Y8 m n (N2 (Y8 m n) k t) with
  |none=>exact absurd ⟨k,e⟩ x
  |some d=>exact⟨d,rfl⟩
 have hI:∀k,TInv M m n (N2 (Y8 m n) k t)/\∀i,i<m->0<=(N2 (Y8 m n) k t).A i n:=fun k=>
  yah (P:=fun t=>TInv M m n t/\∀i,i<m->0<=t.A i n) (fun a b l z=>restT l.1 l.2 z) k t ⟨h,f⟩
 have hst:∀k,∃r c,N2 (Y8 m n) (k+1) t=P7 (N2 (Y8 m n) k t) r c/\(N2 (Y8 m n) k t).A r c≠0/\BlandAt m n (zna m n (N2 (Y8 m n) k t)) r c:=fun k=>(by obtain⟨d,o⟩:=A k;obtain⟨r,c,e,y,s⟩:=zze (hI k).1 (hI k).2 o;exact⟨r,c,by rw[yai o,e],y,s⟩);obtain⟨R,v⟩:=Classical.axiomOfChoice hst;obtain⟨C,j⟩:=Classical.axiomOfChoice v;refine ydd (m:=m) (n:=n) (N:=m+n) (fun k=>zna m n (N2 (Y8 m n) k t)) R C (fun k=> ?_) (fun k=>(j k).2.2) (h.distD _ _) h.ltD (fun i w=> ?_)
 ·obtain⟨p,q,g⟩:=j k;show zna m n (N2 (Y8 m n) (k+1) t)=_;rw[p];exact(hI k).1.dic (fun _=>Nat.one_pos) Nat.one_pos g.hr g.hc q
 ·show 0<=(zna m n t).D i n;rw[znr og (u _)];exact(zyb (zsq h.d0)).2 (f i w)
def zrk (m n:Nat) (t:TB):Dic:=⟨(zna m n t).oth,(zna m n t).bas,fun j i=>if i=m then 0 else if j=n then(zna m n t).D i n else -((zna m n t).D i j)⟩
theorem ypa {m n:Nat} {S:Dic} (hr:r<m) (hc:c<n) (R:Dic->Dic) (o:R=fun S=>⟨S.oth,S.bas,fun j i=>if i=m then 0 else if j=n then S.D i n else -(S.D i j)⟩):R (zkc S r c)=zkc (R S) c r:=by
 subst o
 have q:(-(S.D r c))⁻¹= -(S.D r c)⁻¹:=by
  by_cases h:S.D r c=0
  ·rw[h,Rat.neg_zero,Rat.inv_zero,Rat.neg_zero]
  ·exact zsu (by have:=Rat.mul_inv_cancel _ h;grind)
 show(⟨_,_,_⟩:Dic)=⟨_,_,_⟩;congr 1;funext j i;(have e:(fun j i=>if i=m then(0:Rat) else if j=n then S.D i n else -(S.D i j)) c r= -(S.D r c):=by show(if r=m then(0:Rat) else if c=n then S.D r n else -(S.D r c))=_;rw[if_neg og,if_neg og]);show(if i=m then(0:Rat) else if j=n then J7 S.D r c i n else -(J7 S.D r c i j))=J7 (fun j i=>if i=m then(0:Rat) else if j=n then S.D i n else -(S.D i j)) c r j i;unfold J7;rw[e,q];have l:r≠m:=og;have g:c≠n:=og;have k:n≠c:=og;have p:m≠r:=og;by_cases b:i=m
 ·subst b;simp only[if_neg p,if_neg g];by_cases a:j=c
  ·simp only[if_pos a];grind
  ·simp only[if_neg a];grind
 ·by_cases f:j=n
  ·subst f;by_cases d:i=r
   ·subst d;simp only[if_neg b,if_neg k];grind
   ·simp only[if_neg b,if_neg k,if_neg d,if_neg l,if_neg g];grind
  ·by_cases d:i=r
   ·subst d;by_cases a:j=c
    ·simp only[if_neg b,if_neg f,if_pos a];grind
    ·simp only[if_neg b,if_neg f,if_neg a];grind
   ·by_cases a:j=c
    ·simp only[if_neg b,if_neg f,if_neg d,if_pos a,if_neg g];grind
    ·simp only[if_neg b,if_neg f,if_neg d,if_neg a,if_neg l,if_neg g];grind
theorem zzd {m n:Nat} {t e:TB} (h:TInv M m n t) (a:Z6 m n t=some e):∃r c,e=P7 t r c/\r<m/\c<n/\t.A r c≠0/\BlandAt n m (zrk m n t) c r:=by
 unfold Z6 at a;cases k:znf m n t with
 |none=>rw[k] at a;cases a
 |some r=>
  rw[k] at a;have a:(match zns n t r with|none=>none|some c=>some (P7 t r c))=some e:=a;cases l:zns n t r with
  |none=>rw[l] at a;cases a
  |some c=>
   rw[l] at a;have a:some (P7 t r c)=some e:=a;cases a;obtain⟨r1,r2,r3⟩:=zlq k;obtain⟨f,g,B⟩:=zlq l;have r2:t.A r n<0:=of_decide_eq_true r2;have g:t.A r c<0:=of_decide_eq_true g;have d:=zsq h.d0;(have w:∀i,i<m->(zrk m n t).D n i=(t.A i n:Rat)*((t.d:Int):Rat)⁻¹:=fun i b=>by show(if i=m then(0:Rat) else if n=n then(zna m n t).D i n else _)=_;rw[if_neg og,if_pos rfl,znr og (u _)]);(have p:∀j i,i<m->j<n->(zrk m n t).D j i= -((t.A i j:Rat)*((t.d:Int):Rat)⁻¹):=fun j i b o=>by show(if i=m then(0:Rat) else if j=n then(zna m n t).D i n else _)=_;rw[if_neg og,if_neg og,znr og og]);have z:∀j,(zrk m n t).D j m=0:=fun j=>if_pos rfl;refine⟨r,c,rfl,r1,f,by omega,r1,f,?_,fun i b A=> ?_,?_,fun j o F=> ?_⟩
   ·rw[w r r1];exact(zpq d).2 r2
   ·rw[w i b] at A;exact r3 i b (decide_eq_true ((zpq d).1 A))
   ·rw[p c r r1 f];have:=(zpq d).2 g;grind
   ·right;rw[p j r r1 o] at F;rw[z,z];refine⟨by grind,B j o (decide_eq_true ((zpq d).1 (by grind)))⟩
theorem yxu {m n:Nat} {t a:TB} (h:TInv M m n t) (d:Z6 m n t=some a):TInv M m n a:=by obtain⟨r,c,rfl,hr,hc,b,_⟩:=zzd h d;exact h.piv hr hc b
theorem yrt {m n:Nat} {t:TB} (h:TInv M m n t):zvq (Z6 m n) t:=by
 refine Classical.byContradiction fun x=> ?_
 have z:∀k,∃d,Z6 m n (N2 (Z6 m n) k t)=some d:=fun k=>by
  cases e:Z6 m n (N2 (Z6 m n) k t) with
  |none=>exact absurd ⟨k,e⟩ x
  |some d=>exact⟨d,rfl⟩
 have hI:∀k,TInv M m n (N2 (Z6 m n) k t):=fun k=>yah (P:=TInv M m n) (fun a b u y=>yxu u y) k t h;have hst:∀k,∃r c,N2 (Z6 m n) (k+1) t=P7 (N2 (Z6 m n) k t) r c/\r<m/\c<n/\(N2 (Z6 m n) k t).A r c≠0/\BlandAt n m (zrk m n (N2 (Z6 m n) k t)) c r:=fun k=>(by obtain⟨d,o⟩:=z k;obtain⟨r,c,e,s⟩:=zzd (hI k) o;exact⟨r,c,by rw[yai o,e],s⟩);obtain⟨R,v⟩:=Classical.axiomOfChoice hst;obtain⟨C,g⟩:=Classical.axiomOfChoice v;refine ydd (m:=n) (n:=m) (N:=m+n) (fun k=>zrk m n (N2 (Z6 m n) k t)) C R (fun k=> ?_) (fun k=>(g k).2.2.2.2) ?_ ⟨h.ltD.2,h.ltD.1⟩ (fun j l=> ?_)
 ·obtain⟨p,hr,hc,q,A⟩:=g k;show zrk m n (N2 (Z6 m n) (k+1) t)=_;rw[p];have e:=(hI k).dic (sc:=fun _=>1) (top:=1) (fun _=>Nat.one_pos) Nat.one_pos hr hc q;have f:=ypa (S:=zna m n (N2 (Z6 m n) k t)) hr hc _ rfl;rw[<-e] at f;exact f
 ·have hd:=h.distD (fun _=>1) 1;exact⟨hd.oo,hd.bb,fun j i l w e=>hd.bo i j w l e.symm⟩
 ·show 0<=(if m=m then(0:Rat) else _);rw[if_pos rfl];exact Rat.le_refl
theorem LineW.same {w:q} {S:Nat->Prop} {m:Nat} {g:Nat->Int} (h:LineW w S b c m f) (d:∀j,j<m->f j=g j):LineW w S b c m g:=
 ⟨h.blk,h.cap,fun j a=>by rw[<-d j a];exact h.el j a⟩
theorem LineW.lt {w:q} {S:Nat->Prop} {m:Nat} (h:LineW w S b c m f):b<w.heap.size:=by obtain⟨a,e⟩:=h.blk;exact(Array.getElem?_eq_some_iff.1 e).1
theorem LineW.free {w:q} {S:Nat->Prop} {m:Nat} (h:LineW w S b c m f):w.frozen? ⟨b,o,none⟩=false:=by obtain⟨a,e⟩:=h.blk;simp[World.frozen?,e]
theorem zvi {w:q} {a:Array Value} {t:TypeId} {u:Value} (h:w.heap[b]? =some (.cells a t (0,0))):∃d,(w.setCell ⟨b,o,none⟩ u).heap[b]? =some (.cells d t (0,0)):=by have c:=(Array.getElem?_eq_some_iff.1 h).1;have e:w.heap[b]= .cells a t (0,0):=(by have:=Array.getElem?_eq_getElem c;rw[h] at this;exact(Option.some.inj this).symm);refine⟨a.setIfInBounds o u,?_⟩;simp[World.setCell,c,Array.getElem_modify,e]
theorem LineW.put {w:q} {S:Nat->Prop} {m:Nat} (h:LineW w S b c m f) (J:∀x,S x->x≠b) (O:j<m) {z:Int} {a g:Option s}
 (K:IsQ w S (.agg #[.bool (decide (z<0)),.slice a (A9 z.natAbs).length k,.slice g (A9 1).length l]) ((z:Int):Rat)):
 LineW (M8 w b j (.bool (decide (z<0))) (.slice a (A9 z.natAbs).length k) (.slice g (A9 1).length l)) S b c m (fun i=>if i=j then z else f i) where
 blk:=by
  obtain⟨N,e⟩:=h.blk
  obtain⟨L,D⟩:=zvi (o:=j*3) (u:= .bool (decide (z<0))) e
  obtain⟨M,E⟩:=zvi (o:=j*3+1) (u:= .slice a (A9 z.natAbs).length k) D
  exact zvi (o:=j*3+2) (u:= .slice g (A9 1).length l) E
 cap:=h.cap
 el i hi:=by
  have y:L2 S S w (M8 w b j (.bool (decide (z<0))) (.slice a (A9 z.natAbs).length k) (.slice g (A9 1).length l)):=fun x A=>⟨A,fun o=>zoh (.inl (J x A))⟩;by_cases e:i=j
  ·subst e;simp only[if_pos];obtain⟨u,B,v,C,n,p,r,_⟩:=h.el i hi;obtain⟨F,G,H⟩:=yin (x:= .bool (decide (z<0))) (y:= .slice a (A9 z.natAbs).length k) (z:= .slice g (A9 1).length l) n p r;exact⟨a,k,g,l,F,G,H,IsQ.stb.to K y⟩
  ·simp only[if_neg e];obtain⟨u,B,v,C,n,p,r,I⟩:=h.el i hi;have t:∀d,d<3->i*3+d<j*3\/j*3+3<=i*3+d:=fun d hd=>(by omega);exact⟨u,B,v,C,(zoh (.inr (t 0 og))).trans n,(zoh (.inr (t 1 og))).trans p,(zoh (.inr (t 2 og))).trans r,IsQ.stb.to I y⟩
structure IntW (w:q) (b len:Nat) (f:Nat->Nat):Prop where
 blk:∃cur,w.heap[b]? =some (.cells cur 3 (0,0))
 el:∀i,i<len->w.cell? ⟨b,i,none⟩=some (.int .i64 ((f i:Nat):Int))
theorem IntW.lt {w:q} {len:Nat} {f:Nat->Nat} (h:IntW w b len f):b<w.heap.size:=by obtain⟨a,e⟩:=h.blk;exact(Array.getElem?_eq_some_iff.1 e).1
theorem IntW.free {w:q} {len:Nat} {f:Nat->Nat} (h:IntW w b len f):w.frozen? ⟨b,o,none⟩=false:=by obtain⟨a,e⟩:=h.blk;simp[World.frozen?,e]
theorem IntW.keep {w w':q} {len:Nat} {f:Nat->Nat} (h:IntW w b len f) (a:w'.heap[b]? =w.heap[b]?):IntW w' b len f:=
 ⟨by rw[a];exact h.blk,fun i c=>(World.cell?_of_block a).trans (h.el i c)⟩
theorem IntW.same {w:q} {len:Nat} {f g:Nat->Nat} (h:IntW w b len f) (c:∀i,i<len->f i=g i):IntW w b len g:=⟨h.blk,fun i a=>by rw[<-c i a];exact h.el i a⟩
theorem IntW.put {w:q} {len:Nat} {f:Nat->Nat} (h:IntW w b len f) (m:i<len) (c:Nat):IntW (w.setCell ⟨b,i,none⟩ (.int .i64 (c:Int))) b len (N6 f i c) where
 blk:=by obtain⟨j,e⟩:=h.blk;exact zvi e
 el k a:=by
  by_cases e:k=i
  ·subst e;rw[znh];exact World.cell?_setCell_same _ _ _ (h.el k a)
  ·rw[zni _ _ e,World.cell?_setCell_other _ _ _ _ (fun d=>by injection d with l g;exact e g.symm)];exact h.el k a
structure TabW (w:q) (S:Nat->Prop) (lo:Nat) (bk cp:Nat->Nat) (N:Nat) (len:Nat->Nat) (F:Nat->Nat->Int):Prop where
 line:∀l,l<N->1<=len l->LineW w (SN S lo w) (bk l) (cp l) (len l) (F l)
 inj:∀l k,l<N->k<N->1<=len l->1<=len k->bk l=bk k->l=k
 sep:∀l,l<N->1<=len l->bk l<lo/\¬S (bk l)
 sS:∀b,S b->b<lo
 hlo:lo<=w.heap.size
section
variable {w w' : q} {S : Nat → Prop} {lo N : Nat} {bk cp len : Nat → Nat} {F : Nat → Nat → Int}
theorem TabW.same {a:Nat->Nat->Int} (h:TabW w S lo bk cp N len F) (e:∀l j,l<N->j<len l->F l j=a l j):TabW w S lo bk cp N len a:=
 ⟨fun l b c=>(h.line l b c).same fun j d=>e l j b d,h.inj,h.sep,h.sS,h.hlo⟩
theorem zps {S:Nat->Prop} {lo:Nat} {w w':q} (c:w.heap.size<=w'.heap.size):∀b,SN S lo w b->SN S lo w' b:=fun b a=>by
 rcases a with h|h
 ·exact .inl h
 ·exact .inr ⟨h.1,C h.2 c⟩
theorem TabW.grown (h:TabW w S lo bk cp N len F) {r:Option Nat} (hg:w.grownBy w' r) (hr:∀b,r=some b->b<lo/\¬S b/\∀l,l<N->1<=len l->bk l≠b):TabW w' S lo bk cp N len F where
 line l d c:=by
  refine(h.line l d c).keep (hg.block _ (h.line l d c).lt fun e=>(hr _ e.symm).2.2 l d c rfl) fun x a=>⟨zps hg.size x a,hg.block _ ?_ fun e=> ?_⟩
  ·rcases a with a|a
   ·exact C (h.sS x a) h.hlo
   ·exact a.2
  ·have:=hr _ e.symm
   rcases a with a|a
   ·exact this.2.1 a
   ·have:=a.1;omega
 inj:=h.inj;sep:=h.sep;sS:=h.sS;hlo:=E h.hlo hg.size
theorem TabW.upd (h:TabW w S lo bk cp N len F) (i:l<N) (g:1<=len l) (hg:w.grownBy w' (some (bk l))) (m:LineW w' (SN S lo w') (bk l) (cp l) (len l) f):
 TabW w' S lo bk cp N len (fun k=>if k=l then f else F k) where
 line k d c:=by
  by_cases e:k=l
  ·subst e;simp only[if_pos];exact m
  ·simp only[if_neg e]
   refine(h.line k d c).keep (hg.block _ (h.line k d c).lt fun b=>e (h.inj _ _ d i c g (by injection b))) fun x a=>⟨zps hg.size x a,hg.block _ ?_ fun b=> ?_⟩
   ·rcases a with a|a
    ·exact C (h.sS x a) h.hlo
    ·exact a.2
   ·have j:=h.sep l i g
    injection b with b
    rcases a with a|a
    ·exact j.2 (by rw[<-b];exact a)
    ·have:=a.1;omega
 inj:=h.inj;sep:=h.sep;sS:=h.sS;hlo:=E h.hlo hg.size
end
structure Lay where
 bk:Nat->Nat
 cp:Nat->Nat
 ha:Nat->Option s
 r0:Nat
 rc:Nat
 ra:Option s
 bb:Nat
 bc:Nat
 ba:Option s
 ob:Nat
 oc:Nat
 oa:Option s
 sb:Nat
 sp:Nat
 sa:Option s
def L4 (m n l:Nat):Nat:=if l=m then m else n
def W8 (t:TB) (m n l j:Nat):Int:=if l=m then t.A j n else if l=m+1 then -(t.A m j) else t.A l j
theorem J4 {m n:Nat} (h:i<m):L4 m n i=n:=if_neg og
theorem U5 (m n:Nat):L4 m n m=m:=if_pos rfl
theorem X8 (m n:Nat):L4 m n (m+1)=n:=if_neg og
theorem zpl {t:TB} {m n:Nat} (h:i<m):W8 t m n i j=t.A i j:=by unfold W8;rw[if_neg og,if_neg og]
theorem yat (t:TB) (m n j:Nat):W8 t m n (m+1) j= -(t.A m j):=by unfold W8;rw[if_neg og,if_pos rfl]
theorem zsz (t:TB) (m n j:Nat):W8 t m n m j=t.A j n:=if_pos rfl
def zvh (L:Lay) (m n:Nat) (z:Int) (d top:Nat) (a:Option s) (k:Nat) (b:Option s) (l:Nat) (D:Option s) (e:Nat) (c:Option s) (f:Nat) (st p steps:Int):List Value:=
 [.slice L.ba m L.bc,.slice L.oa n L.oc,.slice L.ra m L.rc,.slice (L.ha m) m (L.cp m),.slice (L.ha (m+1)) n (L.cp (m+1)),.bool (decide (z<0)),.slice a (A9 z.natAbs).length k,.slice b (A9 1).length l,.slice D (A9 d).length e,.slice L.sa (m+n) L.sp,.slice c (A9 top).length f,.int .i64 st,.int .i64 p,.int .i64 steps]
structure SchG (w:q) (S:Nat->Prop) (lo0 lo g:Nat) (L:Lay) (m n:Nat) (sc:Nat->Nat) (top:Nat) (F:Nat->Nat->Int) (z:Int) (d:Nat) (bas oth:List Nat) (st p steps:Int):Prop where
 tab:TabW w S lo L.bk L.cp (m+2) (L4 m n) F
 hv:∀l,l<m+2->1<=L4 m n l->L.ha l=some ⟨L.bk l,0,none⟩
 cap:∀l,l<m+2->L4 m n l<=L.cp l/\L.cp l<=maxLen
 row:∃P k Q l D cd T ct,Row w g 96 (zvh L m n z d top P k Q l D cd T ct st p steps)/\
  IsQ w (SN S lo w) (.agg #[.bool (decide (z<0)),.slice P (A9 z.natAbs).length k,.slice Q (A9 1).length l]) ((z:Int):Rat)/\NumS w (SN S lo w) (.slice D (A9 d).length cd) d/\NumS w (SN S lo w) (.slice T (A9 top).length ct) top
 hd:∀i,i<m->L.ra=some ⟨L.r0,0,none⟩/\S L.r0/\w.cell? ⟨L.r0,i,none⟩=some (.slice (L.ha i) n (L.cp i))
 caps:m<=L.rc/\L.rc<=maxLen/\m<=L.bc/\L.bc<=maxLen/\n<=L.oc/\L.oc<=maxLen/\m+n<=L.sp/\L.sp<=maxLen
 basW:1<=m->L.ba=some ⟨L.bb,0,none⟩/\IntW w L.bb m (fun i=>bas.getD i 0)
 othW:1<=n->L.oa=some ⟨L.ob,0,none⟩/\IntW w L.ob n (fun j=>oth.getD j 0)
 scl:∀v,v∈bas++oth->L.sa=some ⟨L.sb,0,none⟩/\S L.sb/\∃P k,w.cell? ⟨L.sb,v,none⟩=some (.slice P (A9 (sc v)).length k)/\NumS w S (.slice P (A9 (sc v)).length k) (sc v)
 gS:lo0<=g/\g<lo/\¬S g
 bS:1<=m->lo0<=L.bb/\L.bb<lo/\¬S L.bb/\L.bb≠g
 oS:1<=n->lo0<=L.ob/\L.ob<lo/\¬S L.ob/\L.ob≠g
 bo:1<=m->1<=n->L.bb≠L.ob
 lS:∀l,l<m+2->1<=L4 m n l->lo0<=L.bk l/\L.bk l≠g/\(1<=m->L.bk l≠L.bb)/\(1<=n->L.bk l≠L.ob)
 len:bas.length=m/\oth.length=n
abbrev N7 (w:q) (S:Nat->Prop) (lo0 lo g:Nat) (L:Lay) (m n:Nat) (sc:Nat->Nat) (top:Nat) (t:TB) (st p steps:Int):Prop:=SchG w S lo0 lo g L m n sc top (W8 t m n) (t.A m n) t.d t.bas t.oth st p steps
section
variable {w w' : q} {S : Nat → Prop} {lo0 lo g m n top : Nat} {L : Lay} {sc : Nat → Nat} {F : Nat → Nat → Int} {z : Int} {d : Nat} {bas oth : List Nat} {st p steps : Int}
theorem SchG.open (h:SchG w S lo0 lo g L m n sc top F z d bas oth st p steps):∃b k c l D f e i,(Row w g 96 (zvh L m n z d top b k c l D f e i st p steps)/\
 IsQ w (SN S lo w) (.agg #[.bool (decide (z<0)),.slice b (A9 z.natAbs).length k,.slice c (A9 1).length l]) ((z:Int):Rat)/\NumS w (SN S lo w) (.slice D (A9 d).length f) d/\NumS w (SN S lo w) (.slice e (A9 top).length i) top)/\
 (w.cell? ⟨g,0,none⟩=some (.slice L.ba m L.bc)/\w.cell? ⟨g,1,none⟩=some (.slice L.oa n L.oc)/\w.cell? ⟨g,2,none⟩=some (.slice L.ra m L.rc)/\w.cell? ⟨g,3,none⟩=some (.slice (L.ha m) m (L.cp m))/\w.cell? ⟨g,4,none⟩=some (.slice (L.ha (m+1)) n (L.cp (m+1))))/\
 (w.cell? ⟨g,5,none⟩=some (.bool (decide (z<0)))/\w.cell? ⟨g,6,none⟩=some (.slice b (A9 z.natAbs).length k)/\w.cell? ⟨g,7,none⟩=some (.slice c (A9 1).length l))/\
 (w.cell? ⟨g,8,none⟩=some (.slice D (A9 d).length f)/\w.cell? ⟨g,9,none⟩=some (.slice L.sa (m+n) L.sp)/\w.cell? ⟨g,10,none⟩=some (.slice e (A9 top).length i))/\
 (w.cell? ⟨g,11,none⟩=some (.int .i64 st)/\w.cell? ⟨g,12,none⟩=some (.int .i64 p)/\w.cell? ⟨g,13,none⟩=some (.int .i64 steps)):=by obtain⟨b,k,c,l,D,f,e,i,a,j,o,q⟩:=h.row;exact⟨b,k,c,l,D,f,e,i,⟨a,j,o,q⟩,⟨a.cell 0,a.cell 1,a.cell 2,a.cell 3,a.cell 4⟩,⟨a.cell 5,a.cell 6,a.cell 7⟩,⟨a.cell 8,a.cell 9,a.cell 10⟩,a.cell 11,a.cell 12,a.cell 13⟩
theorem SchG.sn_lt (h:SchG w S lo0 lo g L m n sc top F z d bas oth st p steps):∀b,SN S lo w b->b<w.heap.size:=fun b c=>by
 rcases c with a|a
 ·exact C (h.tab.sS b a) h.tab.hlo
 ·exact a.2
theorem SchG.same (h:SchG w S lo0 lo g L m n sc top F z d bas oth st p steps) {r:Option Nat} (hg:w.grownBy w' r) (hr:∀b,r=some b->b<lo/\¬S b):L2 (SN S lo w) (SN S lo w') w w':=fun b a=>⟨zps hg.size b a,fun o=>World.cell?_of_block (hg.block b (h.sn_lt b a) fun e=>by
 have:=hr b e.symm
 rcases a with a|a
 ·exact this.2 a
 ·have:=a.1;omega)⟩
theorem SchG.hd_next (h:SchG w S lo0 lo g L m n sc top F z d bas oth st p steps) {r:Option Nat} (hg:w.grownBy w' r) (hr:∀b,r=some b->b<lo/\¬S b):∀i,i<m->L.ra=some ⟨L.r0,0,none⟩/\S L.r0/\w'.cell? ⟨L.r0,i,none⟩=some (.slice (L.ha i) n (L.cp i)):=fun i f=>by
 obtain⟨c,a,e⟩:=h.hd i f
 exact⟨c,a,((h.same hg hr _ (.inl a)).2 _).trans e⟩
theorem SchG.scl_next (h:SchG w S lo0 lo g L m n sc top F z d bas oth st p steps) {r:Option Nat} (hg:w.grownBy w' r) (hr:∀b,r=some b->b<lo/\¬S b):∀a,a∈bas++oth->L.sa=some ⟨L.sb,0,none⟩/\S L.sb/\∃c k,w'.cell? ⟨L.sb,a,none⟩=some (.slice c (A9 (sc a)).length k)/\NumS w' S (.slice c (A9 (sc a)).length k) (sc a):=fun a hv=>by
 obtain⟨i,e,c,k,j,l⟩:=h.scl a hv
 exact⟨i,e,c,k,((h.same hg hr _ (.inl e)).2 _).trans j,IsK.stb.to l fun b f=>⟨f,(h.same hg hr b (.inl f)).2⟩⟩
theorem SchG.row_next (h:SchG w S lo0 lo g L m n sc top F z d bas oth st p steps) {r:Option Nat} (hg:w.grownBy w' r) (hr:∀b,r=some b->b<lo/\¬S b/\b≠g):∃a k c l D i f j,Row w' g 96 (zvh L m n z d top a k c l D i f j st p steps)/\
 IsQ w' (SN S lo w') (.agg #[.bool (decide (z<0)),.slice a (A9 z.natAbs).length k,.slice c (A9 1).length l]) ((z:Int):Rat)/\NumS w' (SN S lo w') (.slice D (A9 d).length i) d/\NumS w' (SN S lo w') (.slice f (A9 top).length j) top:=by obtain⟨a,k,c,l,D,i,f,j,q,s,t,u⟩:=h.row;have o:=h.same hg fun b e=>⟨(hr b e).1,(hr b e).2.1⟩;exact⟨a,k,c,l,D,i,f,j,q.grownN hg fun b e=>Ne.symm (hr b e).2.2,IsQ.stb.to s o,IsK.stb.to t o,IsK.stb.to u o⟩
theorem SchG.grown (h:SchG w S lo0 lo g L m n sc top F z d bas oth st p steps) {r:Option Nat} (hg:w.grownBy w' r) (hr:∀b,r=some b->b<lo/\¬S b/\b≠g/\(1<=m->b≠L.bb)/\(1<=n->b≠L.ob)/\∀l,l<m+2->1<=L4 m n l->L.bk l≠b):
 SchG w' S lo0 lo g L m n sc top F z d bas oth st p steps:=
 {h with
  tab:=h.tab.grown hg fun b e=>⟨(hr b e).1,(hr b e).2.1,(hr b e).2.2.2.2.2⟩
  row:=h.row_next hg fun b e=>⟨(hr b e).1,(hr b e).2.1,(hr b e).2.2.1⟩
  hd:=h.hd_next hg fun b e=>⟨(hr b e).1,(hr b e).2.1⟩
  basW:=fun a=>⟨(h.basW a).1,(h.basW a).2.keep (hg.block _ (h.basW a).2.lt fun e=>(hr _ e.symm).2.2.2.1 a rfl)⟩
  othW:=fun a=>⟨(h.othW a).1,(h.othW a).2.keep (hg.block _ (h.othW a).2.lt fun e=>(hr _ e.symm).2.2.2.2.1 a rfl)⟩
  scl:=h.scl_next hg fun b e=>⟨(hr b e).1,(hr b e).2.1⟩}
theorem SchG.next (h:SchG w S lo0 lo g L m n sc top F z d bas oth st p steps) (a:Below w.heap.size w w'):SchG w' S lo0 lo g L m n sc top F z d bas oth st p steps:=h.grown (r:=none) (K8 a) fun b e=>by cases e
theorem SchG.line (h:SchG w S lo0 lo g L m n sc top F z d bas oth st p steps) (c:l<m+2) (a:1<=L4 m n l) (hg:w.grownBy w' (some (L.bk l))) (o:LineW w' (SN S lo w') (L.bk l) (L.cp l) (L4 m n l) f):
 SchG w' S lo0 lo g L m n sc top (fun k=>if k=l then f else F k) z d bas oth st p steps:=by
 have j:=h.tab.sep l c a;have i:=h.lS l c a;have hr:∀b,some (L.bk l)=some b->b<lo/\¬S b:=fun b e=>by cases e;exact j
 exact {h with
  tab:=h.tab.upd c a hg o
  row:=h.row_next hg fun b e=>by cases e;exact⟨j.1,j.2,i.2.1⟩
  hd:=h.hd_next hg hr
  basW:=fun a=>⟨(h.basW a).1,(h.basW a).2.keep (hg.block _ (h.basW a).2.lt fun e=>i.2.2.1 a (by injection e with e;exact e.symm))⟩
  othW:=fun a=>⟨(h.othW a).1,(h.othW a).2.keep (hg.block _ (h.othW a).2.lt fun e=>i.2.2.2 a (by injection e with e;exact e.symm))⟩
  scl:=h.scl_next hg hr}
theorem SchG.cells (h:SchG w S lo0 lo g L m n sc top F z d bas oth st p steps) (hg:w.grownBy w' (some g)) {c:Int} {f:Nat} {t r u:Int}
 (v:∃i k j l D q o s,Row w' g 96 (zvh L m n c f top i k j l D q o s t r u)/\
   IsQ w' (SN S lo w') (.agg #[.bool (decide (c<0)),.slice i (A9 c.natAbs).length k,.slice j (A9 1).length l]) ((c:Int):Rat)/\NumS w' (SN S lo w') (.slice D (A9 f).length q) f/\NumS w' (SN S lo w') (.slice o (A9 top).length s) top):
 SchG w' S lo0 lo g L m n sc top F c f bas oth t r u:=by
 have hr:∀b,some g=some b->b<lo/\¬S b:=fun b e=>by cases e;exact h.gS.2
 exact {h with
  tab:=h.tab.grown hg fun b e=>by cases e;exact⟨h.gS.2.1,h.gS.2.2,fun l x a=>(h.lS l x a).2.1⟩
  row:=v
  hd:=h.hd_next hg hr
  basW:=fun a=>⟨(h.basW a).1,(h.basW a).2.keep (hg.block _ (h.basW a).2.lt fun e=>(h.bS a).2.2.2 (by injection e with e))⟩
  othW:=fun a=>⟨(h.othW a).1,(h.othW a).2.keep (hg.block _ (h.othW a).2.lt fun e=>(h.oS a).2.2.2 (by injection e with e))⟩
  scl:=h.scl_next hg hr}
theorem SchG.g_lt (h:SchG w S lo0 lo g L m n sc top F z d bas oth st p steps):g<w.heap.size:=C h.gS.2.1 h.tab.hlo
theorem SchG.nums (h:SchG w S lo0 lo g L m n sc top F z d bas oth st p steps) {G:Nat->Nat->Int} (e:∀l j,l<m+2->j<L4 m n l->F l j=G l j):SchG w S lo0 lo g L m n sc top G z d bas oth st p steps:={h with tab:=h.tab.same e}
theorem SchG.el (h:SchG w S lo0 lo g L m n sc top F z d bas oth st p steps) (r:l<m+2) (s:j<L4 m n l):∃f k i q,L.ha l=some ⟨L.bk l,0,none⟩/\w.cell? ⟨L.bk l,j*3,none⟩=some (.bool (decide (F l j<0)))/\w.cell? ⟨L.bk l,j*3+1,none⟩=some (.slice f (A9 (F l j).natAbs).length k)/\w.cell? ⟨L.bk l,j*3+2,none⟩=some (.slice i (A9 1).length q)/\
 IsQ w (C2 w) (.agg #[.bool (decide (F l j<0)),.slice f (A9 (F l j).natAbs).length k,.slice i (A9 1).length q]) ((F l j:Int):Rat):=by have o:1<=L4 m n l:=og;obtain⟨f,k,i,q,a,b,c,e⟩:=(h.tab.line l r o).el j s;exact⟨f,k,i,q,h.hv l r o,a,b,c,IsQ.stb.to e (F6 h.sn_lt)⟩
theorem SchG.elS (h:SchG w S lo0 lo g L m n sc top F z d bas oth st p steps) (r:l<m+2) (s:j<L4 m n l):∃f k i q,L.ha l=some ⟨L.bk l,0,none⟩/\w.cell? ⟨L.bk l,j*3,none⟩=some (.bool (decide (F l j<0)))/\w.cell? ⟨L.bk l,j*3+1,none⟩=some (.slice f (A9 (F l j).natAbs).length k)/\w.cell? ⟨L.bk l,j*3+2,none⟩=some (.slice i (A9 1).length q)/\
 IsQ w (SN S lo w) (.agg #[.bool (decide (F l j<0)),.slice f (A9 (F l j).natAbs).length k,.slice i (A9 1).length q]) ((F l j:Int):Rat):=by have o:1<=L4 m n l:=og;obtain⟨f,k,i,q,a,b,c,e⟩:=(h.tab.line l r o).el j s;exact⟨f,k,i,q,h.hv l r o,a,b,c,e⟩
end
def M7:Option Nat->Int
 |none=> -1
 |some k=>(k:Int)
theorem zvt (a:Nat->Bool) (key:Nat->Nat) (k:Nat):R6 a key (k+1)=match R6 a key k with
 |none=>if a k then some k else none
 |some b=>if a k&&decide (key k<key b) then some k else some b:=rfl
theorem ybf {a:Nat->Bool} (h:a k=false):M7 (R6 a key (k+1))=M7 (R6 a key k):=by rw[zvt,h];cases R6 a key k<;>rfl
theorem ybe {a:Nat->Bool} (h:a k=true) (e:R6 a key k=none):M7 (R6 a key (k+1))=(k:Int):=by rw[zvt,h,e];rfl
theorem ybd {a:Nat->Bool} (h:a k=true) (e:R6 a key k=some b) (c:key k<key b):M7 (R6 a key (k+1))=(k:Int):=by rw[zvt,h,e];show M7 (if true&&decide (key k<key b) then some k else some b)=_;rw[decide_eq_true c];rfl
theorem ybg {a:Nat->Bool} (h:a k=true) (e:R6 a key k=some b) (c:¬key k<key b):M7 (R6 a key (k+1))=(b:Int):=by rw[zvt,h,e];show M7 (if true&&decide (key k<key b) then some k else some b)=_;rw[decide_eq_false c];rfl
end Go.Proofs.YtdgilbgdkmhcmaaGreatDoor
