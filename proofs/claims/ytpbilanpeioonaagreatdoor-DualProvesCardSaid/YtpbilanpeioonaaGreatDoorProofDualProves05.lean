/-
 Package simplex's tables,f a program:pivots,a e c,both loops d to b end,a numbers stay small.
-/
import Derived.Test.YtpbilanpeioonaaGreatDoorProofDualProves03
import Derived.Test.YtpbilanpeioonaaGreatDoorProofDualProves04
namespace Go.Proofs.YtpbilanpeioonaaGreatDoor
set_option linter.unusedVariables false
set_option maxRecDepth 100000
set_option maxHeartbeats 8000000
open _root_.Nat renaming le_refl → d, lt_or_ge → f, lt_succ_self → q
open _root_.List renaming getD_eq_getElem?_getD → g, getElem?_eq_getElem → p
variable {M i j k r top : Nat} {V al : Rat} {e : Int} {key o sc : Nat → Nat} {l : List Nat}
structure TB where
 A:Nat->Nat->Int
 d:Nat
 bas:List Nat
 oth:List Nat
def W7 (t:TB) (r c:Nat):TB:=⟨znz t.A t.d r c,(t.A r c).natAbs,t.bas.set r (t.oth.getD c 0),t.oth.set c (t.bas.getD r 0)⟩
def uc (sc:Nat->Nat) (n:Nat) (o:Nat->Nat) (j:Nat):Rat:=if j<n then((sc (o j):Nat):Rat) else 1
def ur (sc:Nat->Nat) (top m:Nat) (b:Nat->Nat) (i:Nat):Rat:=if i<m then((sc (b i):Nat):Rat) else((top:Nat):Rat)
def L7 (sc:Nat->Nat) (top m n:Nat) (t:TB):Dic:=
 ⟨fun i=>t.bas.getD i 0,fun j=>t.oth.getD j 0,fun i j=>if i<=m/\j<=n then(t.A i j:Rat)*((t.d:Int):Rat)⁻¹*uc sc n (fun j=>t.oth.getD j 0) j*(ur sc top m (fun i=>t.bas.getD i 0) i)⁻¹ else 0⟩
theorem zvj {a:Nat} (h:r<l.length):(fun i=>(l.set r a).getD i 0)=U1 (fun i=>l.getD i 0) r a:=by
 funext i;unfold U1;rw[g,List.getElem?_set];by_cases e:i=r
 ·rw[if_pos e.symm,if_pos h,if_pos e];rfl
 ·rw[if_neg (Ne.symm e),if_neg e];show _=l.getD i 0;rw[g]
theorem zwc {x:Nat} (h:0<x):((x:Nat):Rat)≠0:=zxj (d:=x) h
theorem zz1499 (a:∀b,0<sc b) (n:Nat) (o:Nat->Nat) (j:Nat):uc sc n o j≠0:=by
 unfold uc;split
 ·exact zwc (a _)
 ·decide
theorem zz1505 (a:∀d,0<sc d) (c:0<top) (m:Nat) (b:Nat->Nat) (i:Nat):ur sc top m b i≠0:=by
 unfold ur;split
 ·exact zwc (a _)
 ·exact zwc c
theorem zvm {a b:Rat} (h:a*b=1):a⁻¹=b:=by
 have ha:a≠0:=fun e=>(by rw[e,Rat.zero_mul] at h;exact absurd h (by decide));have c:=Rat.mul_inv_cancel _ ha
 calc a⁻¹=a⁻¹*(a*b):=by rw[h,Rat.mul_one]
  _=b:=by rw[<-Rat.mul_assoc,Rat.mul_comm a⁻¹,c,Rat.one_mul]
theorem ydj {a:Rat} (h:a≠0):a⁻¹≠0:=fun e=>by have b:=Rat.mul_inv_cancel _ h;rw[e,Rat.mul_zero] at b;exact absurd b (by decide)
section
variable {m n : Nat} {t : TB} {B O : Nat → RV}
theorem yil (M:∀ag,0<sc ag) (an:0<top) (h:Cram (m+1) n t.A t.d B O) (G:t.bas.length=m) (J:t.oth.length=n) {c:Nat} (hr:r<m) (hc:c<n) (K:t.A r c≠0):
 L7 sc top m n (W7 t r c)=zlj (L7 sc top m n t) r c:=by
 obtain⟨g,u⟩:=nm ((t.A r c:Rat):Rat);obtain⟨D,hD⟩:=nm (((t.d:Int):Rat));have X:D≠0:=(by rw[hD];exact zxj h.d0);have L:g≠0:=(by rw[u];intro e;exact K (Rat.intCast_inj.1 (by rw[e];rfl)));obtain⟨v,E⟩:=nm ((((t.A r c).natAbs:Int):Rat):Rat)
 have ab:∀i j,i<=m->j<=n->(znz t.A t.d r c i j:Rat)*v⁻¹=(zlt t.A t.d r c i j:Rat)*g⁻¹:=by
  intro i j _ _;unfold znz;rcases Int.lt_or_le (t.A r c) 0 with z|z
  ·have e:v= -g:=(by rw[E,u,<-Rat.intCast_neg];congr 1;omega);have Q:v⁻¹= -g⁻¹:=zvm (by rw[e];have:=Rat.mul_inv_cancel _ L;grind);rw[if_pos z,Q,Rat.intCast_neg];grind
  ·have e:v=g:=(by rw[E,u];congr 1;omega);rw[if_neg og,e]
 have Y:=(h.piv (show r<m+1 by omega) hc K).2;have al:=Rat.mul_inv_cancel _ L;have aj:=Rat.mul_inv_cancel _ X;have U:(L7 sc top m n (W7 t r c)).bas=(zlj (L7 sc top m n t) r c).bas:=zvj (by rw[G];exact hr);have T:(L7 sc top m n (W7 t r c)).oth=(zlj (L7 sc top m n t) r c).oth:=zvj (by rw[J];exact hc)
 have R:(L7 sc top m n (W7 t r c)).D=(zlj (L7 sc top m n t) r c).D:=by
  funext i j;show(if i<=m/\j<=n then(znz t.A t.d r c i j:Rat)*(((t.A r c).natAbs:Int):Rat)⁻¹*uc sc n (fun j=>(t.oth.set c (t.bas.getD r 0)).getD j 0) j*(ur sc top m (fun i=>(t.bas.set r (t.oth.getD c 0)).getD i 0) i)⁻¹ else 0)=L6 (L7 sc top m n t).D r c i j;rw[zvj (l:=t.bas) (by rw[G];exact hr),zvj (l:=t.oth) (by rw[J];exact hc),<-E];(have k:∀i j,i<=m->j<=n->(L7 sc top m n t).D i j=(t.A i j:Rat)*D⁻¹*uc sc n (fun j=>t.oth.getD j 0) j*(ur sc top m (fun i=>t.bas.getD i 0) i)⁻¹:=fun i j q s=>by show(if i<=m/\j<=n then _ else _)=_;rw[if_pos ⟨q,s⟩,hD]);have p:∀i j,¬(i<=m/\j<=n)->(L7 sc top m n t).D i j=0:=fun i j a=>if_neg a;have A:uc sc n (fun j=>t.oth.getD j 0) c=((sc (t.oth.getD c 0):Nat):Rat):=if_pos hc;have C:ur sc top m (fun i=>t.bas.getD i 0) r=((sc (t.bas.getD r 0):Nat):Rat):=if_pos hr;have F:uc sc n (U1 (fun j=>t.oth.getD j 0) c (t.bas.getD r 0)) c=((sc (t.bas.getD r 0):Nat):Rat):=(by unfold uc;rw[if_pos hc,zoy]);have P:ur sc top m (U1 (fun i=>t.bas.getD i 0) r (t.oth.getD c 0)) r=((sc (t.oth.getD c 0):Nat):Rat):=(by unfold ur;rw[if_pos hr,zoy]);have N:∀j,j≠c->uc sc n (U1 (fun j=>t.oth.getD j 0) c (t.bas.getD r 0)) j=uc sc n (fun j=>t.oth.getD j 0) j:=fun j s=>(by unfold uc;rw[zoz _ _ s]);have af:∀i,i≠r->ur sc top m (U1 (fun i=>t.bas.getD i 0) r (t.oth.getD c 0)) i=ur sc top m (fun i=>t.bas.getD i 0) i:=fun i q=>(by unfold ur;rw[zoz _ _ q]);obtain⟨e,H⟩:=nm (((sc (t.oth.getD c 0):Nat):Rat));obtain⟨l,I⟩:=nm (((sc (t.bas.getD r 0):Nat):Rat));have Z:e≠0:=(by rw[H];exact zwc (M _));have aa:l≠0:=(by rw[I];exact zwc (M _));have heq:=Rat.mul_inv_cancel _ Z;have ak:=Rat.mul_inv_cancel _ aa;rw[<-H] at A P;rw[<-I] at C F;have ac:(L7 sc top m n t).D r c=g*D⁻¹*e*l⁻¹:=(by rw[k r c og og,A,C,u]);have hinv:((L7 sc top m n t).D r c)⁻¹=g⁻¹*D*e⁻¹*l:=(by rw[ac];refine zvm ?_;grind);unfold L6;rw[hinv];by_cases a:i<=m/\j<=n
  ·rw[if_pos a,ab i j a.1 a.2];by_cases f:i=r
   ·subst f;rw[if_pos rfl,P];by_cases d:j=c
    ·subst d;rw[if_pos rfl,F];unfold zlt;rw[if_pos rfl,if_pos rfl,<-hD];grind
    ·rw[if_neg d,N j d,k i j a.1 a.2,C];unfold zlt;rw[if_pos rfl,if_neg d];grind
   ·rw[if_neg f,af i f];by_cases d:j=c
    ·subst d;rw[if_pos rfl,F,k i j a.1 a.2,A];unfold zlt;rw[if_neg f,if_pos rfl,Rat.intCast_neg];grind
    ·rw[if_neg d,N j d,k i j a.1 a.2,k i c a.1 og,k r j og a.2,A,C,Y i j og a.2 f d,<-hD,<-u,Rat.div_def];obtain⟨x,ad⟩:=nm (uc sc n (fun j=>t.oth.getD j 0) j);obtain⟨y,ae⟩:=nm ((ur sc top m (fun i=>t.bas.getD i 0) i)⁻¹);rw[<-ad,<-ae];grind
  ·rw[if_neg a];by_cases f:i=r
   ·subst f;have s:¬j<=n:=fun h=>a ⟨by omega,h⟩;rw[if_pos rfl,if_neg og,p i j a];grind
   ·rw[if_neg f];by_cases d:j=c
    ·subst d;rw[if_pos rfl,p i j a];grind
    ·rw[if_neg d,p i j a];by_cases q:i<=m
     ·have s:¬j<=n:=fun h=>a ⟨q,h⟩;rw[p r j og];grind
     ·rw[p i c og];grind
 have ext:∀(S w:Dic),S.bas=w.bas->S.oth=w.oth->S.D=w.D->S=w:=(by rintro⟨b,o,D⟩ ⟨ai,ao,ah⟩ z V W;cases z;cases V;cases W;rfl);exact ext _ _ U T R
end
structure TInv (M m n:Nat) (t:TB):Prop where
 cram:∃B O,Cram (m+1) n t.A t.d B O/\(∀i,i<m+1->ztq M (B i))/\∀j,j<=n->ztq M (O j)
 bl:t.bas.length=m
 ol:t.oth.length=n
 dist:(t.bas++t.oth).Nodup
 lt:∀v∈t.bas++t.oth,v<m+n
theorem TInv.d0 {m n:Nat} {t:TB} (h:TInv M m n t):0<t.d:=by obtain⟨B,O,h,_⟩:=h.cram;exact h.d0
theorem TInv.small {m n:Nat} {t:TB} (h:TInv M m n t):t.d<=M4 M (m+1)/\∀i j,i<=m->j<=n->(t.A i j).natAbs<=M4 M (m+1):=by obtain⟨B,O,h,a,b⟩:=h.cram;have:=h.small a b;exact⟨this.1,fun i j d c=>this.2 i j og c⟩
theorem zkp (h:i<l.length):l.getD i 0∈l:=by rw[g,p h];exact List.getElem_mem _
theorem zqm (h:l.Nodup) (b:i<l.length) (c:j<l.length) (e:l.getD i 0=l.getD j 0):i=j:=by
 rw[g,g,p b,p c] at e;have e:l[i]=l[j]:=e;rw[List.nodup_iff_pairwise_ne,List.pairwise_iff_getElem] at h;rcases Nat.lt_trichotomy i j with a|a|a
 ·exact absurd e (h i j b c a)
 ·exact a
 ·exact absurd e.symm (h j i c b a)
theorem TInv.distD {m n:Nat} {t:TB} (h:TInv M m n t) (sc:Nat->Nat) (top:Nat):Dist m n (L7 sc top m n t):=by
 have d:=h.bl;have f:=h.ol;have a:=List.nodup_append.1 h.dist
 exact⟨fun i j b c e=>zqm a.1 og og e,fun i j b c e=>zqm a.2.1 og og e,
  fun i j b c e=>a.2.2 _ (zkp (l:=t.bas) og) _ (zkp (l:=t.oth) og) e⟩
theorem ynw {b o:List Nat} {c:Nat} (hr:r<b.length) (hc:c<o.length):∀a,a∈b.set r (o.getD c 0)++o.set c (b.getD r 0)->a∈b++o:=by
 intro a hv;rcases List.mem_append.1 hv with h|h
 ·rcases List.mem_or_eq_of_mem_set h with h|h
  ·exact List.mem_append.2 (.inl h)
  ·rw[h];exact List.mem_append.2 (.inr (zkp hc))
 ·rcases List.mem_or_eq_of_mem_set h with h|h
  ·exact List.mem_append.2 (.inr h)
  ·rw[h];exact List.mem_append.2 (.inl (zkp hr))
theorem zzz (h:∀i j,i<l.length->j<l.length->l.getD i 0=l.getD j 0->i=j):l.Nodup:=by rw[List.nodup_iff_pairwise_ne,List.pairwise_iff_getElem];intro i j a b c e;have:=h i j a b (by rw[g,g,p a,p b,e]);omega
theorem TInv.piv {m n:Nat} {t:TB} (h:TInv M m n t) {c:Nat} (hr:r<m) (hc:c<n) (q:t.A r c≠0):TInv M m n (W7 t r c):=by
 obtain⟨B,O,o,k,l⟩:=h.cram;have hD:=(h.distD (fun _=>1) 1).piv hr hc;have e:=yil (sc:=fun _=>1) (top:=1) (fun _=>Nat.one_pos) Nat.one_pos o h.bl h.ol hr hc q;rw[<-e] at hD;(have v:(W7 t r c).bas.length=m:=by show(t.bas.set _ _).length=m;rw[List.length_set];exact h.bl);(have w:(W7 t r c).oth.length=n:=by show(t.oth.set _ _).length=n;rw[List.length_set];exact h.ol);refine⟨⟨_,_,(o.piv (show r<m+1 by omega) hc q).1,fun i d=> ?_,fun j f=> ?_⟩,v,w,?_,fun s hv=>h.lt s (ynw (by rw[h.bl];exact hr) (by rw[h.ol];exact hc) s hv)⟩
 ·unfold N7;split
  ·exact l c og
  ·exact k i d
 ·unfold N7;split
  ·exact k r og
  ·exact l j f
 ·rw[List.nodup_append];exact⟨zzz fun i j d f e=>hD.bb i j og og e,zzz fun i j d f e=>hD.oo i j og og e,fun a ha b u e=>by obtain⟨i,d,rfl⟩:=List.getElem_of_mem ha;obtain⟨j,f,rfl⟩:=List.getElem_of_mem u;refine hD.bo i j og og ?_;show(W7 t r c).bas.getD i 0=(W7 t r c).oth.getD j 0;rw[g,g,p d,p f,e]⟩
theorem TInv.dic {m n:Nat} {t:TB} (h:TInv M m n t) (d:∀f,0<sc f) (e:0<top) {c:Nat} (hr:r<m) (hc:c<n) (b:t.A r c≠0):L7 sc top m n (W7 t r c)=zlj (L7 sc top m n t) r c:=by obtain⟨B,O,a,_,_⟩:=h.cram;exact yil d e a h.bl h.ol hr hc b
def X9 (a:Nat->Bool) (key:Nat->Nat):Nat->Option Nat
 |0=>none
 |k+1=>match X9 a key k with
  |none=>if a k then some k else none
  |some b=>if a k&&decide (key k<key b) then some k else some b
theorem zwn {a:Nat->Bool}:∀{n},X9 a key n=none->∀j,j<n->a j=false
 |0,_,j,g=>absurd g (Nat.not_lt_zero _)
 |n+1,h,j,g=>by
  rw[X9] at h
  cases e:X9 a key n with
  |none=>
   rw[e] at h
   have h:(if a n then some n else none)=none:=h
   rcases f j n with c|c
   ·exact zwn e j c
   ·obtain rfl:j=n:=og
    by_cases d:a j
    ·rw[if_pos d] at h;cases h
    ·simpa using d
  |some b=>
   rw[e] at h
   have h:(if a n&&decide (key n<key b) then some n else some b)=none:=h
   split at h<;>cases h
theorem znc {a:Nat->Bool}:∀{n c},X9 a key n=some c->c<n/\a c=true/\∀j,j<n->a j=true->key c<=key j
 |0,c,h=>by cases h
 |n+1,c,h=>by
  rw[X9] at h
  cases e:X9 a key n with
  |none=>
   rw[e] at h
   have h:(if a n then some n else none)=some c:=h
   by_cases i:a n
   ·rw[if_pos i] at h
    cases h
    refine⟨q _,i,fun j p g=> ?_⟩
    rcases f j n with m|m
    ·rw[zwn e j m] at g;cases g
    ·rw[show j=n by omega];exact d _
   ·rw[if_neg i] at h;cases h
  |some b=>
   rw[e] at h
   have h:(if a n&&decide (key n<key b) then some n else some b)=some c:=h
   obtain⟨m,i,o⟩:=znc e
   by_cases k:(a n&&decide (key n<key b))=true
   ·rw[if_pos k] at h
    cases h
    rw[Bool.and_eq_true,decide_eq_true_eq] at k
    refine⟨q _,k.1,fun j p g=> ?_⟩
    rcases f j n with l|l
    ·have:=o j l g;omega
    ·rw[show j=n by omega];exact d _
   ·rw[if_neg k] at h
    cases h
    refine⟨by omega,i,fun j p g=> ?_⟩
    rcases f j n with l|l
    ·exact o j l g
    ·obtain rfl:j=n:=og
     rw[g,Bool.true_and,decide_eq_true_eq] at k
     omega
def zmr (A:Nat->Nat->Int) (bas:Nat->Nat) (n c k b:Nat):Bool:=
 decide ((A k n).natAbs*(A b c).natAbs<(A b n).natAbs*(A k c).natAbs)||(decide ((A k n).natAbs*(A b c).natAbs=(A b n).natAbs*(A k c).natAbs)&&decide (bas k<bas b))
def zka (A:Nat->Nat->Int) (bas:Nat->Nat) (n c:Nat):Nat->Option Nat
 |0=>none
 |k+1=>if A k c<=0 then zka A bas n c k else match zka A bas n c k with
  |none=>some k
  |some b=>if zmr A bas n c k b then some k else some b
theorem ydw {A:Nat->Nat->Int} {bas:Nat->Nat} {n c:Nat}:∀{k},zka A bas n c k=none->∀i,i<k->A i c<=0
 |0,_,i,g=>absurd g (Nat.not_lt_zero _)
 |k+1,h,i,g=>by
  rw[zka] at h
  by_cases a:A k c<=0
  ·rw[if_pos a] at h
   rcases f i k with d|d
   ·exact ydw h i d
   ·rw[show i=k by omega];exact a
  ·rw[if_neg a] at h
   cases e:zka A bas n c k with
   |none=>rw[e] at h;cases h
   |some b=>
    rw[e] at h
    have h:(if zmr A bas n c k b then some k else some b)=none:=h
    split at h<;>cases h
def LimR (A:Nat->Nat->Int) (bas:Nat->Nat) (n c r i:Nat):Prop:=A r n*A i c<A i n*A r c\/(A r n*A i c=A i n*A r c/\bas r<=bas i)
theorem ylc {A:Nat->Nat->Int} {bas:Nat->Nat} {n c:Nat}:LimR A bas n c r r:= .inr ⟨rfl,d _⟩
theorem zz1401 {x y z a b c:Int} (ha:0<a) (f:0<b) (hc:0<c) (d:x*b<y*a) (e:y*c<=z*b):x*c<z*a:=by refine Int.lt_of_not_ge fun h=> ?_;have g:=Int.mul_lt_mul_of_pos_right d hc;have i:=Int.mul_le_mul_of_nonneg_right e (Int.le_of_lt ha);have j:=Int.mul_le_mul_of_nonneg_right h (Int.le_of_lt f);grind
theorem ratio_lt' {x y z a b c:Int} (ha:0<a) (f:0<b) (hc:0<c) (d:x*b<=y*a) (e:y*c<z*b):x*c<z*a:=by refine Int.lt_of_not_ge fun h=> ?_;have g:=Int.mul_le_mul_of_nonneg_right d (Int.le_of_lt hc);have i:=Int.mul_lt_mul_of_pos_right e ha;have j:=Int.mul_le_mul_of_nonneg_right h (Int.le_of_lt f);grind
theorem zz1400 {x y z a b c:Int} (ha:0<a) (f:0<b) (hc:0<c) (d:x*b=y*a) (e:y*c=z*b):x*c=z*a:=by
 have h:(x*c-z*a)*b=0:=(by grind);rcases Int.mul_eq_zero.1 h with h|h
 ·omega
 ·omega
theorem LimR.trans {A:Nat->Nat->Int} {bas:Nat->Nat} {n c s:Nat} (hr:0<A r c) (e:0<A s c) (d:0<A i c) (a:LimR A bas n c r s) (b:LimR A bas n c s i):LimR A bas n c r i:=by
 rcases a with a|⟨a,f⟩
 ·left;exact zz1401 hr e d a (by rcases b with h|h;exact Int.le_of_lt h;exact Int.le_of_eq h.1)
 ·rcases b with b|⟨b,g⟩
  ·exact .inl (ratio_lt' hr e d (Int.le_of_eq a) b)
  ·exact .inr ⟨zz1400 hr e d a b,Nat.le_trans f g⟩
theorem yxs {A:Nat->Nat->Int} {bas:Nat->Nat} {n c b:Nat} (g:0<=A k n) (e:0<=A b n) (h:0<A k c) (f:0<A b c):
 zmr A bas n c k b=true↔A k n*A b c<A b n*A k c\/(A k n*A b c=A b n*A k c/\bas k<bas b):=by unfold zmr;rw[Bool.or_eq_true,Bool.and_eq_true,decide_eq_true_eq,decide_eq_true_eq,decide_eq_true_eq];have a:(((A k n).natAbs*(A b c).natAbs:Nat):Int)=A k n*A b c:=(by rw[Int.natCast_mul,Int.natAbs_of_nonneg g,Int.natAbs_of_nonneg (Int.le_of_lt f)]);have d:(((A b n).natAbs*(A k c).natAbs:Nat):Int)=A b n*A k c:=(by rw[Int.natCast_mul,Int.natAbs_of_nonneg e,Int.natAbs_of_nonneg (Int.le_of_lt h)]);rw[<-a,<-d];omega
theorem zzr {A:Nat->Nat->Int} {bas:Nat->Nat} {n c:Nat}:∀{k r},(∀i,i<k->0<=A i n)->zka A bas n c k=some r->r<k/\0<A r c/\∀i,i<k->0<A i c->LimR A bas n c r i
 |0,r,_,h=>by cases h
 |k+1,r,o,h=>by
  rw[zka] at h
  by_cases d:A k c<=0
  ·rw[if_pos d] at h
   obtain⟨t,j,p⟩:=zzr (fun i m=>o i og) h
   refine⟨by omega,j,fun i m g=> ?_⟩
   rcases f i k with a|a
   ·exact p i a g
   ·obtain rfl:i=k:=og
    omega
  ·rw[if_neg d] at h
   have d:0<A k c:=og
   cases e:zka A bas n c k with
   |none=>
    rw[e] at h
    have h:some k=some r:=h
    cases h
    refine⟨q _,d,fun i m g=> ?_⟩
    rcases f i k with a|a
    ·have:=ydw e i a;omega
    ·rw[show i=k by omega];exact ylc
   |some b=>
    rw[e] at h
    have h:(if zmr A bas n c k b then some k else some b)=some r:=h
    obtain⟨t,j,p⟩:=zzr (fun i m=>o i og) e
    have s:=yxs (bas:=bas) (o k og) (o b og) d j
    by_cases a:zmr A bas n c k b=true
    ·rw[if_pos a] at h
     cases h
     have u:LimR A bas n c k b:=by rcases s.1 a with h|h;exact .inl h;exact .inr ⟨h.1,Nat.le_of_lt h.2⟩
     refine⟨q _,d,fun i m g=> ?_⟩
     rcases f i k with l|l
     ·exact u.trans d j g (p i l g)
     ·rw[show i=k by omega];exact ylc
    ·rw[if_neg a] at h
     cases h
     refine⟨by omega,j,fun i m g=> ?_⟩
     rcases f i k with l|l
     ·exact p i l g
     ·obtain rfl:i=k:=og
      have v:¬(A i n*A r c<A r n*A i c\/(A i n*A r c=A r n*A i c/\bas i<bas r)):=fun h=>a (s.2 h)
      unfold LimR
      omega
section
variable (m n : Nat)
def zmb (t:TB):Option Nat:=X9 (fun j=>decide (t.A m j<0)) (fun j=>t.oth.getD j 0) n
def znv (t:TB) (c:Nat):Option Nat:=zka t.A (fun i=>t.bas.getD i 0) n c m
def zkx (t:TB):Option TB:=match zmb m n t with
 |none=>none
 |some c=>match znv m n t c with
  |none=>none
  |some r=>some (W7 t r c)
def zov (t:TB):Option Nat:=X9 (fun i=>decide (t.A i n<0)) (fun i=>t.bas.getD i 0) m
def zpo (t:TB) (r:Nat):Option Nat:=X9 (fun j=>decide (t.A r j<0)) (fun j=>t.oth.getD j 0) n
def zle (t:TB):Option TB:=match zov m n t with
 |none=>none
 |some r=>match zpo n t r with
  |none=>none
  |some c=>some (W7 t r c)
end
def T8 {c:Type} (d:c->Option c):Nat->c->c
 |0,a=>a
 |k+1,a=>match d a with
  |none=>a
  |some b=>T8 d k b
theorem ydq {d:Type} {c:d->Option d} {a b:d} (h:c a=some b) (k:Nat):T8 c (k+1) a=T8 c k b:=by rw[T8,h]
theorem ykj {b:Type} {c:b->Option b} {a:b} (h:c a=none) (k:Nat):T8 c k a=a:=by cases k with
 |zero=>rfl
 |succ k=>rw[T8,h]
def zyh {b:Type} (c:b->Option b) (a:b):Prop:=∃k,c (T8 c k a)=none
theorem ydp {f:Type} {d:f->Option f}:∀{k:Nat} {a b:f},d (T8 d k a)=some b->T8 d (k+1) a=b
 |0,a,b,h=>by rw[T8,show d a=some b from h];rfl
 |k+1,a,b,h=>by
  cases e:d a with
  |none=>rw[ykj e,e] at h;cases h
  |some c=>rw[ydq e] at h⊢;exact ydp h
theorem ydo {d:Type} {c:d->Option d} {P:d->Prop} (f:∀a b,P a->c a=some b->P b):∀k a,P a->P (T8 c k a)
 |0,a,h=>h
 |k+1,a,h=>by
  cases e:c a with
  |none=>rw[ykj e];exact h
  |some b=>rw[ydq e];exact ydo f k b (f a b h e)
abbrev zos (m n:Nat) (t:TB):Dic:=L7 (fun _=>1) 1 m n t
theorem uc1 (n:Nat) (o:Nat->Nat) (j:Nat):uc (fun _=>1) n o j=1:=by unfold uc;split<;>rfl
theorem ur1 (m:Nat) (b:Nat->Nat) (i:Nat):ur (fun _=>1) 1 m b i=1:=by unfold ur;split<;>rfl
theorem zpl {m n:Nat} {t:TB} (a:i<=m) (b:j<=n):(zos m n t).D i j=(t.A i j:Rat)*((t.d:Int):Rat)⁻¹:=by show(if i<=m/\j<=n then _ else _)=_;rw[if_pos ⟨a,b⟩,uc1,ur1,Rat.mul_one,show(1:Rat)⁻¹=1 from zvm (Rat.mul_one 1),Rat.mul_one]
theorem zvf {d:Nat} (h:0<d):0<((d:Int):Rat)⁻¹:=inv_pos (by rw[<-Rat.intCast_zero,Rat.intCast_lt_intCast];omega)
theorem zsk {z:Int} {q:Rat} (b:0<q):(z:Rat)*q<0↔z<0:=by
 constructor
 ·intro h;refine Int.lt_of_not_ge fun c=> ?_;have a:(0:Rat)<=(z:Rat):=(by rw[<-Rat.intCast_zero,Rat.intCast_le_intCast];exact c);have:=Rat.mul_nonneg a (Rat.le_of_lt b);grind
 ·intro h;have a:(z:Rat)<0:=(by rw[<-Rat.intCast_zero,Rat.intCast_lt_intCast];exact h);have:=Rat.mul_pos (show 0< -(z:Rat) by grind) b;grind
theorem yay {z:Int} {q:Rat} (a:0<q):0<(z:Rat)*q↔0<z:=by
 have:=zsk (z:= -z) a;rw[Rat.intCast_neg] at this;constructor
 ·intro h;have:=this.1 (by grind);omega
 ·intro h;have:=this.2 og;grind
theorem yax {z:Int} {q:Rat} (b:0<q):0<=(z:Rat)*q↔0<=z:=by
 have:=zsk (z:=z) b;constructor
 ·intro h;refine Int.le_of_not_gt fun a=> ?_;have:=this.2 a;grind
 ·intro h;refine Rat.not_lt.1 fun a=> ?_;have:=this.1 a;omega
theorem ytb {a b c:Int} {q:Rat} (d:0<q):((a:Rat)*q)*((b:Rat)*q)<((c:Rat)*q)*((e:Rat)*q)↔a*b<c*e:=by
 have h:=yay (z:=c*e-a*b) (q:=q*q) (Rat.mul_pos d d);rw[Rat.intCast_sub,Rat.intCast_mul,Rat.intCast_mul] at h;constructor
 ·intro f;have:=h.1 (by grind);omega
 ·intro f;have:=h.2 og;grind
theorem yta {a b c:Int} (h:a*b=c*e) (q:Rat):((a:Rat)*q)*((b:Rat)*q)=((c:Rat)*q)*((e:Rat)*q):=by have:(a:Rat)*(b:Rat)=(c:Rat)*(e:Rat):=(by rw[<-Rat.intCast_mul,<-Rat.intCast_mul,h]);grind
theorem ycj {m n:Nat} {t e:TB} (h:TInv M m n t) (u:∀i,i<m->0<=t.A i n) (a:zkx m n t=some e):∃r c,e=W7 t r c/\t.A r c≠0/\BlandAt m n (zos m n t) r c:=by
 unfold zkx at a;cases g:zmb m n t with
 |none=>rw[g] at a;cases a
 |some c=>
  rw[g] at a;have a:(match znv m n t c with|none=>none|some r=>some (W7 t r c))=some e:=a;cases k:znv m n t c with
  |none=>rw[k] at a;cases a
  |some r=>
   rw[k] at a;have a:some (W7 t r c)=some e:=a;cases a;obtain⟨p,f,q⟩:=znc g;obtain⟨x,y,z⟩:=zzr u k;have f:t.A m c<0:=of_decide_eq_true f;have b:=zvf h.d0;refine⟨r,c,rfl,by omega,p,x,?_,fun j w l=> ?_,?_,fun i v o=> ?_⟩
   ·rw[zpl (d _) og];exact(zsk b).2 f
   ·rw[zpl (d _) og] at l;exact q j w (decide_eq_true ((zsk b).1 l))
   ·rw[zpl og og];exact(yay b).2 y
   ·rw[zpl og og] at o⊢;rw[zpl og og,zpl og og,zpl og og];rcases z i v ((yay b).1 o) with h|⟨h,s⟩
    ·exact .inl ((ytb b).2 h)
    ·exact .inr ⟨yta h _,s⟩
theorem restT {m n:Nat} {t e:TB} (h:TInv M m n t) (f:∀i,i<m->0<=t.A i n) (l:zkx m n t=some e):TInv M m n e/\∀i,i<m->0<=e.A i n:=by obtain⟨r,c,rfl,k,a⟩:=ycj h f l;have j:=h.piv a.hr a.hc k;refine⟨j,fun i b=> ?_⟩;have g:=ync a (fun i b=>by rw[zpl og (d _)];exact(yax (zvf h.d0)).2 (f i b)) i b;rw[<-h.dic (fun _=>Nat.one_pos) Nat.one_pos a.hr a.hc k] at g;exact(yax (zvf j.d0)).1 (by rw[<-zpl (m:=m) og (d n)];exact g)
theorem TInv.ltD {m n:Nat} {t:TB} (h:TInv M m n t):(∀i,i<m->t.bas.getD i 0<m+n)/\∀j,j<n->t.oth.getD j 0<m+n:=
 ⟨fun i a=>h.lt _ (List.mem_append.2 (.inl (zkp (by rw[h.bl];exact a)))),fun j b=>h.lt _ (List.mem_append.2 (.inr (zkp (by rw[h.ol];exact b))))⟩
theorem yvv {m n:Nat} {t:TB} (h:TInv M m n t) (g:∀i,i<m->0<=t.A i n):zyh (zkx m n) t:=by
 refine Classical.byContradiction fun x=> ?_
 have A:∀k,∃f,zkx m n (T8 (zkx m n) k t)=some f:=fun k=>by
  cases e:zkx m n (T8 (zkx m n) k t) with
  |none=>exact absurd ⟨k,e⟩ x
  |some f=>exact⟨f,rfl⟩
 have hI:∀k,TInv M m n (T8 (zkx m n) k t)/\∀i,i<m->0<=(T8 (zkx m n) k t).A i n:=fun k=>
  ydo (P:=fun t=>TInv M m n t/\∀i,i<m->0<=t.A i n) (fun a b o z=>restT o.1 o.2 z) k t ⟨h,g⟩
 have hst:∀k,∃r c,T8 (zkx m n) (k+1) t=W7 (T8 (zkx m n) k t) r c/\(T8 (zkx m n) k t).A r c≠0/\BlandAt m n (zos m n (T8 (zkx m n) k t)) r c:=fun k=>(by obtain⟨f,p⟩:=A k;obtain⟨r,c,e,y,u⟩:=ycj (hI k).1 (hI k).2 p;exact⟨r,c,by rw[ydp p,e],y,u⟩);obtain⟨R,v⟩:=Classical.axiomOfChoice hst;obtain⟨C,l⟩:=Classical.axiomOfChoice v;refine yhc (m:=m) (n:=n) (N:=m+n) (fun k=>zos m n (T8 (zkx m n) k t)) R C (fun k=> ?_) (fun k=>(l k).2.2) (h.distD _ _) h.ltD (fun i w=> ?_)
 ·obtain⟨q,s,j⟩:=l k;show zos m n (T8 (zkx m n) (k+1) t)=_;rw[q];exact(hI k).1.dic (fun _=>Nat.one_pos) Nat.one_pos j.hr j.hc s
 ·show 0<=(zos m n t).D i n;rw[zpl og (d _)];exact(yax (zvf h.d0)).2 (g i w)
def zua (m n:Nat) (t:TB):Dic:=⟨(zos m n t).oth,(zos m n t).bas,fun j i=>if i=m then 0 else if j=n then(zos m n t).D i n else -((zos m n t).D i j)⟩
theorem ytk {m n c:Nat} {S:Dic} (hr:r<m) (hc:c<n) (R:Dic->Dic) (o:R=fun S=>⟨S.oth,S.bas,fun j i=>if i=m then 0 else if j=n then S.D i n else -(S.D i j)⟩):R (zlj S r c)=zlj (R S) c r:=by
 subst o
 have q:(-(S.D r c))⁻¹= -(S.D r c)⁻¹:=by
  by_cases h:S.D r c=0
  ·rw[h,Rat.neg_zero,Rat.inv_zero,Rat.neg_zero]
  ·exact zvm (by have:=Rat.mul_inv_cancel _ h;grind)
 show(⟨_,_,_⟩:Dic)=⟨_,_,_⟩;congr 1;funext j i;(have e:(fun j i=>if i=m then(0:Rat) else if j=n then S.D i n else -(S.D i j)) c r= -(S.D r c):=by show(if r=m then(0:Rat) else if c=n then S.D r n else -(S.D r c))=_;rw[if_neg og,if_neg og]);show(if i=m then(0:Rat) else if j=n then L6 S.D r c i n else -(L6 S.D r c i j))=L6 (fun j i=>if i=m then(0:Rat) else if j=n then S.D i n else -(S.D i j)) c r j i;unfold L6;rw[e,q];have l:r≠m:=og;have g:c≠n:=og;have k:n≠c:=og;have p:m≠r:=og;by_cases b:i=m
 ·subst b;simp only[if_neg p,if_neg g];by_cases a:j=c
  ·simp only[if_pos a];grind
  ·simp only[if_neg a];grind
 ·by_cases f:j=n
  ·subst f;by_cases d:i=r
   ·subst d;simp only[if_neg b,if_neg k];grind
   ·simp only[if_neg b,if_neg k,if_neg d,if_neg l,if_neg g];grind
  ·by_cases d:i=r
   ·subst d;by_cases a:j=c
    ·simp only[if_neg b,if_neg f,if_pos a];grind
    ·simp only[if_neg b,if_neg f,if_neg a];grind
   ·by_cases a:j=c
    ·simp only[if_neg b,if_neg f,if_neg d,if_pos a,if_neg g];grind
    ·simp only[if_neg b,if_neg f,if_neg d,if_neg a,if_neg l,if_neg g];grind
theorem yci {m n:Nat} {t g:TB} (h:TInv M m n t) (a:zle m n t=some g):∃r c,g=W7 t r c/\r<m/\c<n/\t.A r c≠0/\BlandAt n m (zua m n t) c r:=by
 unfold zle at a;cases o:zov m n t with
 |none=>rw[o] at a;cases a
 |some r=>
  rw[o] at a;have a:(match zpo n t r with|none=>none|some c=>some (W7 t r c))=some g:=a;cases p:zpo n t r with
  |none=>rw[p] at a;cases a
  |some c=>
   rw[p] at a;have a:some (W7 t r c)=some g:=a;cases a;obtain⟨b,s,A⟩:=znc o;obtain⟨k,l,y⟩:=znc p;have s:t.A r n<0:=of_decide_eq_true s;have l:t.A r c<0:=of_decide_eq_true l;have f:=zvf h.d0;(have v:∀i,i<m->(zua m n t).D n i=(t.A i n:Rat)*((t.d:Int):Rat)⁻¹:=fun i e=>by show(if i=m then(0:Rat) else if n=n then(zos m n t).D i n else _)=_;rw[if_neg og,if_pos rfl,zpl og (d _)]);(have u:∀j i,i<m->j<n->(zua m n t).D j i= -((t.A i j:Rat)*((t.d:Int):Rat)⁻¹):=fun j i e q=>by show(if i=m then(0:Rat) else if j=n then(zos m n t).D i n else _)=_;rw[if_neg og,if_neg og,zpl og og]);have w:∀j,(zua m n t).D j m=0:=fun j=>if_pos rfl;refine⟨r,c,rfl,b,k,by omega,b,k,?_,fun i e x=> ?_,?_,fun j q z=> ?_⟩
   ·rw[v r b];exact(zsk f).2 s
   ·rw[v i e] at x;exact A i e (decide_eq_true ((zsk f).1 x))
   ·rw[u c r b k];have:=(zsk f).2 l;grind
   ·right;rw[u j r b q] at z;rw[w,w];refine⟨by grind,y j q (decide_eq_true ((zsk f).1 (by grind)))⟩
theorem zz1417 {m n:Nat} {t a:TB} (h:TInv M m n t) (d:zle m n t=some a):TInv M m n a:=by obtain⟨r,c,rfl,hr,hc,b,_⟩:=yci h d;exact h.piv hr hc b
theorem yvu {m n:Nat} {t:TB} (h:TInv M m n t):zyh (zle m n) t:=by
 refine Classical.byContradiction fun x=> ?_
 have z:∀k,∃d,zle m n (T8 (zle m n) k t)=some d:=fun k=>by
  cases e:zle m n (T8 (zle m n) k t) with
  |none=>exact absurd ⟨k,e⟩ x
  |some d=>exact⟨d,rfl⟩
 have hI:∀k,TInv M m n (T8 (zle m n) k t):=fun k=>ydo (P:=TInv M m n) (fun a b u y=>zz1417 u y) k t h;have hst:∀k,∃r c,T8 (zle m n) (k+1) t=W7 (T8 (zle m n) k t) r c/\r<m/\c<n/\(T8 (zle m n) k t).A r c≠0/\BlandAt n m (zua m n (T8 (zle m n) k t)) c r:=fun k=>(by obtain⟨d,o⟩:=z k;obtain⟨r,c,e,s⟩:=yci (hI k) o;exact⟨r,c,by rw[ydp o,e],s⟩);obtain⟨R,v⟩:=Classical.axiomOfChoice hst;obtain⟨C,g⟩:=Classical.axiomOfChoice v;refine yhc (m:=n) (n:=m) (N:=m+n) (fun k=>zua m n (T8 (zle m n) k t)) C R (fun k=> ?_) (fun k=>(g k).2.2.2.2) ?_ ⟨h.ltD.2,h.ltD.1⟩ (fun j l=> ?_)
 ·obtain⟨p,hr,hc,q,A⟩:=g k;show zua m n (T8 (zle m n) (k+1) t)=_;rw[p];have e:=(hI k).dic (sc:=fun _=>1) (top:=1) (fun _=>Nat.one_pos) Nat.one_pos hr hc q;have f:=ytk (S:=zos m n (T8 (zle m n) k t)) hr hc _ rfl;rw[<-e] at f;exact f
 ·have hd:=h.distD (fun _=>1) 1;exact⟨hd.oo,hd.bb,fun j i l w e=>hd.bo i j w l e.symm⟩
 ·show 0<=(if m=m then(0:Rat) else _);rw[if_pos rfl];exact Rat.le_refl
theorem zz1365 {D:Nat->Nat->Rat} {c:Nat} (k:D r c≠0):L6 (L6 D r c) r c=D:=by
 have l:=Rat.mul_inv_cancel _ k;have e:L6 D r c r c=(D r c)⁻¹:=(by unfold L6;rw[if_pos rfl,if_pos rfl]);have h:((D r c)⁻¹)⁻¹=D r c:=zvm (by rw[Rat.mul_comm];exact l);funext i j;show(if i=r then(if j=c then(L6 D r c r c)⁻¹ else(L6 D r c r c)⁻¹*L6 D r c r j) else if j=c then -((L6 D r c r c)⁻¹*L6 D r c i c) else L6 D r c i j-(L6 D r c r c)⁻¹*L6 D r c i c*L6 D r c r j)=D i j;rw[e,h];by_cases b:i=r
 ·subst b;rw[if_pos rfl];by_cases a:j=c
  ·subst a;rw[if_pos rfl]
  ·have:L6 D i c i j=(D i c)⁻¹*D i j:=(by unfold L6;rw[if_pos rfl,if_neg a]);rw[if_neg a,this];grind
 ·rw[if_neg b];have d:L6 D r c i c= -((D r c)⁻¹*D i c):=(by unfold L6;rw[if_neg b,if_pos rfl]);by_cases a:j=c
  ·subst a;rw[if_pos rfl,d];grind
  ·have f:L6 D r c r j=(D r c)⁻¹*D r j:=(by unfold L6;rw[if_pos rfl,if_neg a]);have g:L6 D r c i j=D i j-(D r c)⁻¹*D i c*D r j:=(by unfold L6;rw[if_neg b,if_neg a]);rw[if_neg a,d,f,g];grind
theorem ynv (a:Nat->Nat) (i b:Nat):U1 (U1 a i b) i (a i)=a:=by
 funext k;by_cases h:k=i
 ·subst h;rw[zoy]
 ·rw[zoz _ _ h,zoz _ _ h]
theorem zz1371 {S:Dic} {c:Nat} (a:S.D r c≠0):zlj (zlj S r c) r c=S:=by obtain⟨b,o,D⟩:=S;show(⟨U1 (U1 b r (o c)) r (U1 o c (b r) c),U1 (U1 o c (b r)) c (U1 b r (o c) r),L6 (L6 D r c) r c⟩:Dic)=⟨b,o,D⟩;rw[zoy,zoy,ynv,ynv,zz1365 a]
theorem Fit1.back {m n c:Nat} {S:Dic} {x:Nat->Rat} {z t:Rat} (h:Fit1 m n (zlj S r c) x z t) (hr:r<m) (hc:c<n) (a:S.D r c≠0):Fit1 m n S x z t:=by (have e:(zlj S r c).D r c=(S.D r c)⁻¹:=by show L6 S.D r c r c=_;unfold L6;rw[if_pos rfl,if_pos rfl]);have:=h.piv hr hc (by rw[e];exact ydj a);rwa[zz1371 a] at this
def Eqv (m n:Nat) (S a:Dic):Prop:=∀x z s,Fit1 m n S x z s↔Fit1 m n a x z s
theorem Eqv.refl (m n:Nat) (S:Dic):Eqv m n S S:=fun _ _ _=>Iff.rfl
theorem Eqv.piv {m n c:Nat} {S a:Dic} (h:Eqv m n S a) (hr:r<m) (hc:c<n) (b:a.D r c≠0):Eqv m n S (zlj a r c):=fun x z s=>⟨fun k=>((h x z s).1 k).piv hr hc b,fun k=>(h x z s).2 (k.back hr hc b)⟩
def W4 (m n:Nat) (a:Nat->Nat->Rat) (b c:Nat->Rat):Dic:=⟨fun i=>n+i,fun j=>j,fun i j=>if i<m then(if j<n then a i j else b i) else if j<n then -(c j) else 0⟩
theorem zz1469 (n m:Nat) (a:Nat->Rat):C9 (n+m) a=C9 n a+C9 m fun i=>a (n+i):=by
 induction m with
 |zero=>simp only[C9,Nat.add_zero];grind
 |succ m ih=>rw[<-Nat.add_assoc,C9,ih,C9];grind
section
variable {m n : Nat} {a : Nat → Nat → Rat} {b c : Nat → Rat}
theorem yjc (X:Nat->Rat) (s:Rat):Fit1 m n (W4 m n a b c) (fun f=>if f<n then X f else b (f-n)*s-C9 n fun j=>a (f-n) j*X j) (C9 n fun j=>c j*X j) s where
 row i hi:=by
  show(if n+i<n then X (n+i) else b (n+i-n)*s-C9 n fun j=>a (n+i-n) j*X j)+C9 n (fun j=>(if i<m then(if j<n then a i j else b i) else if j<n then -(c j) else 0)*(if j<n then X j else _))=(if i<m then(if n<n then a i n else b i) else _)*s
  rw[if_neg og,if_pos hi,if_neg og,Nat.add_sub_cancel_left]
  have e:C9 n (fun j=>(if i<m then(if j<n then a i j else b i) else if j<n then -(c j) else 0)*(if j<n then X j else b (j-n)*s-C9 n fun k=>a (j-n) k*X k))=C9 n fun j=>a i j*X j:=U3 fun j d=>by rw[if_pos hi,if_pos d,if_pos d]
  have g:=Eq.trans (show C9 n (fun j=>(if i<m then(if j<n then a i j else b i) else if j<n then -(c j) else 0)*(if j<n then X j else b ((W4 m n a b c).oth j-n)*s-C9 n fun k=>a ((W4 m n a b c).oth j-n) k*X k))=_ from rfl) e
  rw[g];grind
 obj:=by show(C9 n fun j=>c j*X j)+C9 n (fun j=>(if m<m then(if j<n then a m j else b m) else if j<n then -(c j) else 0)*(if j<n then X j else _))=(if m<m then(if n<n then a m n else b m) else if n<n then -(c n) else 0)*s;rw[if_neg og,if_neg og];have e:C9 n (fun j=>(if m<m then(if j<n then a m j else b m) else if j<n then -(c j) else 0)*(if j<n then X j else b (j-n)*s-C9 n fun k=>a (j-n) k*X k))=(-1)*C9 n fun j=>c j*X j:=(by rw[<-zpa];exact U3 fun j d=>by rw[if_neg og,if_pos d,if_pos d];grind);have g:=Eq.trans (show C9 n (fun j=>(if m<m then(if j<n then a m j else b m) else if j<n then -(c j) else 0)*(if j<n then X j else b ((W4 m n a b c).oth j-n)*s-C9 n fun k=>a ((W4 m n a b c).oth j-n) k*X k))=_ from rfl) e;rw[g];grind
theorem ywz {y:Nat->Rat} (h:∀x z s,Fit1 m n (W4 m n a b c) x z s->al*z+C9 (n+m) (fun d=>y d*x d)=V*s):
 (C9 m fun i=>b i*y (n+i))=V/\∀k,k<n->al*c k+y k=C9 m fun i=>a i k*y (n+i):=by
 have sp:∀x:Nat->Rat,(C9 (n+m) fun d=>y d*x d)=(C9 n fun d=>y d*x d)+C9 m fun i=>y (n+i)*x (n+i):=fun x=>zz1469 n m _;constructor
 ·have e:=h _ _ _ (yjc (fun _=>0) 1);rw[sp] at e;have f:(C9 n fun d=>y d*(if d<n then(0:Rat) else b (d-n)*1-C9 n fun j=>a (d-n) j*0))=0:=zmf fun d hv=>(by rw[if_pos hv];grind);have g:(C9 m fun i=>y (n+i)*(if n+i<n then(0:Rat) else b (n+i-n)*1-C9 n fun j=>a (n+i-n) j*0))=C9 m fun i=>b i*y (n+i):=U3 fun i p=>(by rw[if_neg og,Nat.add_sub_cancel_left,zmf fun j _=>by grind];grind);have o:(C9 n fun j=>c j*0)=0:=zmf fun j _=>(by grind);rw[f,g,o] at e;grind
 ·intro k r;have e:=h _ _ _ (yjc (fun d=>if d=k then 1 else 0) 0);rw[sp] at e;have one:∀l:Nat->Rat,(C9 n fun j=>l j*(if j=k then(1:Rat) else 0))=l k:=fun l=>(by rw[znl r fun j _ q=>by rw[if_neg q];grind,if_pos rfl];grind);have f:(C9 n fun d=>y d*(if d<n then(if d=k then(1:Rat) else 0) else b (d-n)*0-C9 n fun j=>a (d-n) j*(if j=k then 1 else 0)))=y k:=(by rw[<-one y];exact U3 fun d hv=>by rw[if_pos hv]);have g:(C9 m fun i=>y (n+i)*(if n+i<n then(if n+i=k then(1:Rat) else 0) else b (n+i-n)*0-C9 n fun j=>a (n+i-n) j*(if j=k then 1 else 0)))=(-1)*C9 m fun i=>a i k*y (n+i):=(by rw[<-zpa];exact U3 fun i p=>by rw[if_neg og,Nat.add_sub_cancel_left,one (a i)];grind);rw[f,g,one c] at e;grind
theorem yma {x:Nat->Rat} {z s:Rat} (h:Fit1 m n (W4 m n a b c) x z s):(∀i,i<m->x (n+i)+C9 n (fun j=>a i j*x j)=b i*s)/\z=C9 n fun j=>c j*x j:=by
 constructor
 ·intro i f;have:=h.row i f;(have e:(C9 n fun j=>(W4 m n a b c).D i j*x ((W4 m n a b c).oth j))=C9 n fun j=>a i j*x j:=U3 fun j g=>by show(if i<m then(if j<n then a i j else b i) else _)*x j=_;rw[if_pos f,if_pos g]);(have d:(W4 m n a b c).D i n=b i:=by show(if i<m then(if n<n then a i n else b i) else _)=_;rw[if_pos f,if_neg og]);rw[e,d] at this;exact this
 ·have:=h.obj;(have e:(C9 n fun j=>(W4 m n a b c).D m j*x ((W4 m n a b c).oth j))=(-1)*C9 n fun j=>c j*x j:=by rw[<-zpa];exact U3 fun j g=>by show(if m<m then(if j<n then a m j else b m) else if j<n then -(c j) else 0)*x j=_;rw[if_neg og,if_pos g];grind);(have d:(W4 m n a b c).D m n=0:=by show(if m<m then(if n<n then a m n else b m) else if n<n then -(c n) else 0)=_;rw[if_neg og,if_neg og]);rw[e,d] at this;grind
end
def zkf (n:Nat) (o:Nat->Nat) (a:Nat->Rat) (b:Nat):Rat:=C9 n fun j=>if o j=b then a j else 0
theorem ypm {n:Nat} {a:Nat->Rat} (h:∀j,j<n->0<=a j) (b:Nat):0<=zkf n o a b:=by
 have:∀k,k<=n->0<=C9 k fun j=>if o j=b then a j else 0:=fun k=>by
  induction k with
  |zero=>intro _;exact Rat.le_refl
  |succ k ih=>
   intro f;have c:=ih og
   have e:0<=if o k=b then a k else 0:=by
    split
    ·exact h k og
    ·exact Rat.le_refl
   rw[C9];grind
 exact this n (d _)
theorem ypn {n c:Nat} (f:∀j,j<n->o j<c) (b x:Nat->Rat):(C9 c fun a=>zkf n o b a*x a)=C9 n fun j=>b j*x (o j):=by
 induction n with
 |zero=>exact zmf fun a _=>by show zkf 0 o b a*x a=0;unfold zkf;simp only[C9];grind
 |succ n ih=>
  have e:(C9 c fun a=>zkf (n+1) o b a*x a)=(C9 c fun a=>zkf n o b a*x a)+C9 c fun a=>if a=o n then b n*x a else 0:=by
   rw[<-zuw];refine U3 fun a _=> ?_;show zkf (n+1) o b a*x a=zkf n o b a*x a+_;have:zkf (n+1) o b a=zkf n o b a+if o n=a then b n else 0:=rfl;rw[this];by_cases h:a=o n
   ·rw[if_pos h,if_pos h.symm];grind
   ·rw[if_neg h,if_neg (Ne.symm h)];grind
  rw[e,ih fun j d=>f j og,znl (f n og) fun j _ d=>if_neg d,if_pos rfl,C9]
section
variable {m n : Nat} {a : Nat → Nat → Rat} {b c : Nat → Rat} {S : Dic}
theorem yjh (g:Dist m n S) {X:Nat->Rat} {s:Rat} (h:∀j,j<n->0<=X j) (k:∀i,i<m->0<=zki m n S X s (S.bas i)) (c:Nat):0<=zki m n S X s c:=by
 by_cases d:∃i,i<m/\S.bas i=c
 ·obtain⟨i,b,rfl⟩:=d;exact k i b
 ·by_cases f:∃j,j<n/\S.oth j=c
  ·obtain⟨j,a,rfl⟩:=f;rw[zzf g X s a];exact h j a
  ·rw[yji X s (fun i b e=>d ⟨i,b,e⟩) (fun j a e=>f ⟨j,a,e⟩)];exact Rat.le_refl
theorem yhk (e:Dist m n S) (q:Eqv m n (W4 m n a b c) S) (l:∀i,i<m->0<=S.D i n):
 (∀f,0<=zki m n S (fun _=>0) 1 f)/\(∀i,i<m->C9 n (fun j=>a i j*zki m n S (fun _=>0) 1 j)<=b i)/\(C9 n fun j=>c j*zki m n S (fun _=>0) 1 j)=S.D m n:=by
 have k:∀g:Nat->Rat,(C9 n fun j=>g j*(0:Rat))=0:=fun g=>zmf fun j _=>(by grind);have h:∀f,0<=zki m n S (fun _=>0) 1 f:=yjh e (fun _ _=>Rat.le_refl) fun i d=>(by rw[zwy e _ _ d,k];have:=l i d;grind);obtain⟨o,p⟩:=yma ((q _ _ _).2 (zze e (fun _=>0) 1));refine⟨h,fun i d=> ?_,?_⟩
 ·have:=o i d;have:=h (n+i);grind
 ·rw[<-p,k];grind
theorem yhl (e:Eqv m n (W4 m n a b c) S) {y:Nat->Rat} (h:∀x z s,Fit1 m n S x z s->al*z+C9 (n+m) (fun d=>y d*x d)=V*s):
 (C9 m fun i=>b i*y (n+i))=V/\∀k,k<n->al*c k+y k=C9 m fun i=>a i k*y (n+i):=ywz fun x z s hf=>h x z s ((e x z s).1 hf)
theorem yse (f:Eqv m n (W4 m n a b c) S) (h:∀j,j<n->S.oth j<n+m) (hc:∀j,j<n->0<=S.D m j):
 (C9 m fun i=>b i*zkf n S.oth (S.D m) (n+i))=S.D m n/\(∀k,k<n->c k<=C9 m fun i=>a i k*zkf n S.oth (S.D m) (n+i))/\∀l,0<=zkf n S.oth (S.D m) l:=by have d:=yhl (y:=zkf n S.oth (S.D m)) (al:=1) (V:=S.D m n) f fun x z s hf=>(by rw[ypn h];have:=hf.obj;grind);have e:=ypm (o:=S.oth) hc;refine⟨d.1,fun k g=> ?_,e⟩;have:=d.2 k g;have:=e k;grind
theorem ysf (l:Eqv m n (W4 m n a b c) S) (t:∀j,j<n->S.oth j<n+m) (hr:r<m) (o:S.bas r<n+m) (hc:∀j,j<n->0<=S.D r j):
 (C9 m fun i=>b i*(zkf n S.oth (S.D r) (n+i)+if S.bas r=n+i then 1 else 0))=S.D r n/\(∀k,k<n->0<=C9 m fun i=>a i k*(zkf n S.oth (S.D r) (n+i)+if S.bas r=n+i then 1 else 0))/\∀d,0<=zkf n S.oth (S.D r) d+if S.bas r=d then 1 else 0:=by
 have f:=yhl (y:=fun d=>zkf n S.oth (S.D r) d+if S.bas r=d then 1 else 0) (al:=0) (V:=S.D r n) l fun x z s hf=>by
  have e:(C9 (n+m) fun d=>(zkf n S.oth (S.D r) d+if S.bas r=d then 1 else 0)*x d)=(C9 (n+m) fun d=>zkf n S.oth (S.D r) d*x d)+C9 (n+m) fun d=>if d=S.bas r then x d else 0:=by
   rw[<-zuw];refine U3 fun d _=> ?_;by_cases h:S.bas r=d
   ·rw[if_pos h,if_pos h.symm];grind
   ·rw[if_neg h,if_neg (Ne.symm h)];grind
  show 0*z+(C9 (n+m) fun d=>(zkf n S.oth (S.D r) d+if S.bas r=d then 1 else 0)*x d)=_;rw[e,ypn t,znl o fun j _ p=>if_neg p,if_pos rfl];have:=hf.row r hr;grind
 have g:∀d,0<=zkf n S.oth (S.D r) d+if S.bas r=d then 1 else 0:=fun d=>(by have:=ypm (o:=S.oth) hc d;split<;>grind);refine⟨f.1,fun k q=> ?_,g⟩;have u:=f.2 k q;have v:=g k;grind
theorem ysg (f:Dist m n S) (p:Eqv m n (W4 m n a b c) S) (r:k<n) (hc:S.D m k<0) (hr:∀i,i<m->S.D i k<=0):
 (∀g,0<=zki m n S (fun j=>if j=k then 1 else 0) 0 g)/\(∀i,i<m->C9 n (fun j=>a i j*zki m n S (fun j=>if j=k then 1 else 0) 0 j)<=0)/\0<C9 n fun j=>c j*zki m n S (fun j=>if j=k then 1 else 0) 0 j:=by
 have one:∀e:Nat->Rat,(C9 n fun j=>e j*(if j=k then(1:Rat) else 0))=e k:=fun e=>(by rw[znl r fun j _ q=>by rw[if_neg q];grind,if_pos rfl];grind);have h:∀g,0<=zki m n S (fun j=>if j=k then 1 else 0) 0 g:=yjh f (fun j _=>by split<;>grind) fun i d=>(by rw[zwy f _ _ d,one];have:=hr i d;grind);obtain⟨l,o⟩:=yma ((p _ _ _).2 (zze f (fun j=>if j=k then 1 else 0) 0));refine⟨h,fun i d=> ?_,?_⟩
 ·have:=l i d;have:=h (n+i);grind
 ·rw[<-o,one];grind
end
end Go.Proofs.YtpbilanpeioonaaGreatDoor
