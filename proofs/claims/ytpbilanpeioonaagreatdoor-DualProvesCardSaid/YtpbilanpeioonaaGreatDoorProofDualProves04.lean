/-
 Bland's rule comes to an end:plain facts about dictionaries over the rationals.
-/
import Derived.Test.YtpbilanpeioonaaGreatDoorDpv07
namespace Go.Proofs.YtpbilanpeioonaaGreatDoor
set_option linter.unusedVariables false
set_option maxRecDepth 100000
set_option maxHeartbeats 8000000
open _root_.Nat renaming le_refl → b, lt_or_ge → a
open _root_.Rat renaming mul_nonneg → e
variable {N c i k m n r v : Nat} {f : Nat → Prop} {t : Rat}
structure Dic where
 bas:Nat->Nat
 oth:Nat->Nat
 D:Nat->Nat->Rat
def U1 (f:Nat->Nat) (i v:Nat):Nat->Nat:=fun k=>if k=i then v else f k
def L6 (D:Nat->Nat->Rat) (r c:Nat):Nat->Nat->Rat:=fun i a=>
 if i=r then(if a=c then(D r c)⁻¹ else(D r c)⁻¹*D r a)
 else if a=c then -((D r c)⁻¹*D i c) else D i a-(D r c)⁻¹*D i c*D r a
def zlj (a:Dic) (r c:Nat):Dic:=⟨U1 a.bas r (a.oth c),U1 a.oth c (a.bas r),L6 a.D r c⟩
theorem zoy (f:Nat->Nat) (i v:Nat):U1 f i v i=v:=if_pos rfl
theorem zoz (f:Nat->Nat) (v:Nat) (h:k≠i):U1 f i v k=f k:=if_neg h
theorem ybd (h:c<n) (f:Nat->Rat):C9 n f=f c+C9 n fun a=>if a=c then 0 else f a:=by have b:C9 n f=C9 n fun a=>(if a=c then f c else 0)+(if a=c then 0 else f a):=U3 fun a _=>(by split<;>grind);rw[b,zuw,znl h fun a _ d=>if_neg d,if_pos rfl]
theorem zz1471 {f:Nat->Rat} (h:C9 n f<0):∃a,a<n/\f a<0:=by
 induction n with
 |zero=>exact absurd h (by simp only[C9];decide)
 |succ n ih=>
  rw[C9] at h;rcases Rat.le_total (a:=0) (b:=(f n)) with c|c
  ·obtain⟨a,d,b⟩:=ih (by grind);exact⟨a,by omega,b⟩
  ·by_cases b:f n=0
   ·obtain⟨a,d,b⟩:=ih (by grind);exact⟨a,by omega,b⟩
   ·exact⟨n,by omega,by grind⟩
theorem zz1433 {D:Nat->Nat->Rat} (hc:c<n) (p:D r c≠0) {X X':Nat->Rat} {j:Rat} (l:∀a,a≠c->X' a=X a) (m:X' c=j)
 (h:j+C9 n (fun a=>D r a*X a)=D r n*t):(X c+C9 n (fun a=>L6 D r c r a*X' a)=L6 D r c r n*t)/\
 ∀i,i≠r->∀y,y+C9 n (fun a=>D i a*X a)=D i n*t->y+C9 n (fun a=>L6 D r c i a*X' a)=L6 D r c i n*t:=by
 obtain⟨q,d⟩:=nm ((D r c)⁻¹);have v:D r c*q=1:=(by rw[d];exact Rat.mul_inv_cancel _ p);obtain⟨R,f⟩:=nm (C9 n fun a=>if a=c then 0 else D r a*X a);have hr:j+(D r c*X c+R)=D r n*t:=(by rw[f,<-ybd hc (fun a=>D r a*X a)];exact h);have o:n≠c:=og;refine⟨?_,fun i g y s=> ?_⟩
 ·have e:(C9 n fun a=>if a=c then 0 else L6 D r c r a*X' a)=q*R:=by
   rw[f,<-zpa];refine U3 fun a _=> ?_;by_cases b:a=c
   ·rw[if_pos b,if_pos b];grind
   ·rw[if_neg b,if_neg b,l a b,L6,if_pos rfl,if_neg b,<-d];grind
  rw[ybd hc,e,m,L6,if_pos rfl,if_pos rfl,L6,if_pos rfl,if_neg o,<-d];grind
 ·obtain⟨B,k⟩:=nm (C9 n fun a=>if a=c then 0 else D i a*X a);have u:y+(D i c*X c+B)=D i n*t:=by rw[k,<-ybd hc (fun a=>D i a*X a)];exact s
  have e:(C9 n fun a=>if a=c then 0 else L6 D r c i a*X' a)=B+(-(q*D i c))*R:=by
   rw[f,k,<-zpa,<-zuw];refine U3 fun a _=> ?_;by_cases b:a=c
   ·rw[if_pos b,if_pos b,if_pos b];grind
   ·rw[if_neg b,if_neg b,if_neg b,l a b,L6,if_neg g,if_neg b,<-d];grind
  rw[ybd hc,e,m,L6,if_neg g,if_pos rfl,L6,if_neg g,if_neg o,<-d];grind
structure Dist (m n:Nat) (S:Dic):Prop where
 bb:∀i j,i<m->j<m->S.bas i=S.bas j->i=j
 oo:∀i j,i<n->j<n->S.oth i=S.oth j->i=j
 bo:∀i j,i<m->j<n->S.bas i≠S.oth j
theorem Dist.piv {b:Dic} (h:Dist m n b) (hr:r<m) (hc:c<n):Dist m n (zlj b r c) where
 bb i j hi a e:=by
  simp only[zlj,U1] at e
  split at e<;>split at e
  ·omega
  ·exact absurd e.symm (h.bo j c a hc)
  ·exact absurd e (h.bo i c hi hc)
  ·exact h.bb i j hi a e
 oo i j hi a e:=by
  simp only[zlj,U1] at e;split at e<;>split at e
  ·omega
  ·exact absurd e (h.bo r j hr a)
  ·exact absurd e.symm (h.bo r i hr hi)
  ·exact h.oo i j hi a e
 bo i j hi a e:=by
  simp only[zlj,U1] at e;split at e<;>split at e
  ·exact h.bo r c hr hc e.symm
  ·rename_i d f;exact f (h.oo j c a hc e.symm)
  ·rename_i d f;exact d (h.bb i r hi hr e)
  ·exact h.bo i j hi a e
structure Fit1 (m n:Nat) (S:Dic) (x:Nat->Rat) (z t:Rat):Prop where
 row:∀i,i<m->x (S.bas i)+C9 n (fun j=>S.D i j*x (S.oth j))=S.D i n*t
 obj:z+C9 n (fun j=>S.D m j*x (S.oth j))=S.D m n*t
theorem Fit1.piv {a:Dic} {x:Nat->Rat} {z:Rat} (h:Fit1 m n a x z t) (hr:r<m) (hc:c<n) (j:a.D r c≠0):Fit1 m n (zlj a r c) x z t:=by
 have d:=zz1433 (D:=a.D) (X:=fun b=>x (a.oth b)) (X':=fun b=>x (U1 a.oth c (a.bas r) b)) hc j (fun b g=>by show x (U1 _ _ _ _)=_;rw[zoz _ _ g]) (by show x (U1 _ _ _ _)=_;rw[zoy]) (h.row r hr);refine⟨fun i f=> ?_,d.2 m og z h.obj⟩;by_cases e:i=r
 ·subst e;show x (U1 a.bas i (a.oth c) i)+_=_;rw[zoy];exact d.1
 ·show x (U1 a.bas r (a.oth c) i)+_=_;rw[zoz _ _ e];exact d.2 i e _ (h.row i f)
def zki (m n:Nat) (b:Dic) (X:Nat->Rat) (t:Rat) (v:Nat):Rat:=
 C9 m (fun i=>if b.bas i=v then b.D i n*t-C9 n (fun a=>b.D i a*X a) else 0)+C9 n (fun a=>if b.oth a=v then X a else 0)
theorem zwy {b:Dic} (h:Dist m n b) (X:Nat->Rat) (t:Rat) (d:i<m):zki m n b X t (b.bas i)=b.D i n*t-C9 n (fun a=>b.D i a*X a):=by unfold zki;rw[znl d fun a e f=>if_neg fun c=>f (h.bb a i e d c),if_pos rfl,zmf fun a e=>if_neg fun c=>h.bo i a d e c.symm];grind
theorem zzf {b:Dic} (h:Dist m n b) (X:Nat->Rat) (t:Rat) {a:Nat} (d:a<n):zki m n b X t (b.oth a)=X a:=by unfold zki;rw[zmf fun i e=>if_neg fun c=>h.bo i a e d c,znl d fun k f g=>if_neg fun c=>g (h.oo k a f d c),if_pos rfl];grind
theorem yji {a:Dic} (X:Nat->Rat) (t:Rat) (d:∀i,i<m->a.bas i≠v) (e:∀c,c<n->a.oth c≠v):zki m n a X t v=0:=by unfold zki;rw[zmf fun i b=>if_neg (d i b),zmf fun i b=>if_neg (e i b)];grind
theorem yjj {c:Dic} (h:Dist m n c) (X:Nat->Rat) (t:Rat) (a:Nat->Rat):C9 n (fun b=>a b*zki m n c X t (c.oth b))=C9 n fun b=>a b*X b:=
 U3 fun b d=>by show a b*zki m n c X t (c.oth b)=a b*X b;rw[zzf h X t d]
theorem fromO_sum' {c:Dic} (h:Dist m n c) (X:Nat->Rat) (t:Rat) (a:Nat->Rat) {d:Nat->Nat} (f:∀b,b<n->c.oth b=d b):C9 n (fun b=>a b*zki m n c X t (d b))=C9 n fun b=>a b*X b:=
 U3 fun b e=>by show a b*zki m n c X t (d b)=a b*X b;rw[<-f b e,zzf h X t e]
theorem zze {a:Dic} (h:Dist m n a) (X:Nat->Rat) (t:Rat):Fit1 m n a (zki m n a X t) (a.D m n*t-C9 n (fun b=>a.D m b*X b)) t where
 row i hi:=by
  rw[zwy h X t hi,yjj h X t (a.D i)]
  grind
 obj:=by rw[yjj h X t (a.D m)];grind
theorem zz1444 {f c:Dic} (g:Dist m n f) (p:∀i,i<m->f.bas i=c.bas i) (o:∀b,b<n->f.oth b=c.oth b)
 (h:∀x z t,Fit1 m n f x z t->Fit1 m n c x z t):∀i b,i<=m->b<=n->f.D i b=c.D i b:=by
 have key:∀(X:Nat->Rat) (t:Rat) (i:Nat),i<=m->f.D i n*t-C9 n (fun b=>f.D i b*X b)=c.D i n*t-C9 n (fun b=>c.D i b*X b):=by
  intro X t i j;have hF:=h _ _ _ (zze g X t);rcases a i m with e|e
  ·have d:=hF.row i e;rw[<-p i e,zwy g X t e,fromO_sum' g X t (c.D i) o] at d;grind
  ·obtain rfl:i=m:=og;have d:=hF.obj;rw[fromO_sum' g X t (c.D i) o] at d;grind
 intro i b j q;rcases a b n with e|e
 ·have d:=key (fun k=>if k=b then 1 else 0) 0 i j;rw[znl e fun k _ l=>by show _*(if k=b then(1:Rat) else 0)=0;rw[if_neg l];grind,znl e fun k _ l=>by show _*(if k=b then(1:Rat) else 0)=0;rw[if_neg l];grind] at d;simp only[if_pos] at d;grind
 ·obtain rfl:b=n:=og;have d:=key (fun _=>0) 1 i j;rw[zmf fun k _=>by grind,zmf fun k _=>by grind] at d;grind
structure BlandAt (m n:Nat) (S:Dic) (r c:Nat):Prop where
 hc:c<n
 hr:r<m
 cost:S.D m c<0
 least:∀j,j<n->S.D m j<0->S.oth c<=S.oth j
 pos:0<S.D r c
 ratio:∀i,i<m->0<S.D i c->S.D r n*S.D i c<S.D i n*S.D r c\/(S.D r n*S.D i c=S.D i n*S.D r c/\S.bas r<=S.bas i)
theorem inv_pos {a:Rat} (h:0<a):0<a⁻¹:=Rat.inv_pos.2 h
theorem ync {a:Dic} (h:BlandAt m n a r c) (d:∀i,i<m->0<=a.D i n):∀i,i<m->0<=(zlj a r c).D i n:=by
 intro i g;have b:=inv_pos h.pos;have x:=Rat.mul_inv_cancel _ (Rat.ne_of_gt h.pos);have k:n≠c:=(by have:=h.hc;omega);have l:=d r h.hr;have y:=d i g;by_cases j:i=r
 ·show 0<=L6 a.D r c i n;rw[L6,if_pos j,if_neg k];exact e (Rat.le_of_lt b) l
 ·show 0<=L6 a.D r c i n;rw[L6,if_neg j,if_neg k];rcases Rat.le_total (a:=(a.D i c)) (b:=0) with o|o
  ·have:=e (e (Rat.le_of_lt b) (show 0<=-(a.D i c) by grind)) l;grind
  ·by_cases p:a.D i c=0
   ·rw[p];grind
   ·have s:0<a.D i c:=(by grind);(have t:a.D r n*a.D i c<=a.D i n*a.D r c:=by rcases h.ratio i g s with h|h<;>grind);have f:=Rat.mul_le_mul_of_nonneg_left t (Rat.le_of_lt b);have u:(a.D r c)⁻¹*(a.D i n*a.D r c)=a.D i n:=(by rw[Rat.mul_comm (a.D i n),<-Rat.mul_assoc,Rat.mul_comm _ (a.D r c),x,Rat.one_mul]);rw[u] at f;obtain⟨q,w⟩:=nm ((a.D r c)⁻¹);rw[<-w] at f⊢;have v:q*a.D i c*a.D r n=q*(a.D r n*a.D i c):=(by rw[Rat.mul_assoc,Rat.mul_comm (a.D i c)]);rw[v];grind
theorem ypf {x:Nat}:∀d,f x->¬f (x+d)->∃q,x<=q/\q<x+d/\f q/\¬f (q+1):=by
 intro d;induction d with
 |zero=>intro b e;exact absurd b e
 |succ d ih=>
  intro b e;by_cases h:f (x+d)
  ·exact⟨x+d,by omega,by omega,h,e⟩
  ·obtain⟨q,a,i,c,g⟩:=ih b h;exact⟨q,a,by omega,c,g⟩
theorem yfq {a c l:Nat} (n:f a↔f c) (o:a<=k/\k<c) (p:a<=l/\l<c) (j:f k) (m:¬f l):
 (∃q,a<=q/\q<c/\f q/\¬f (q+1))/\∃q,a<=q/\q<c/\¬f q/\f (q+1):=by
 have up:∀x y,a<=x->x<=y->y<=c->f x->¬f y->∃q,a<=q/\q<c/\f q/\¬f (q+1):=(by intro x y s t u d e;obtain⟨q,w,z,q3,g⟩:=ypf (f:=f) (y-x) d (by rw[show x+(y-x)=y by omega];exact e);exact⟨q,by omega,by omega,q3,g⟩);have i:∀x y,a<=x->x<=y->y<=c->¬f x->f y->∃q,a<=q/\q<c/\¬f q/\f (q+1):=(by intro x y s t u d e;obtain⟨q,w,z,q3,g⟩:=ypf (f:=fun v=>¬f v) (y-x) d (by show¬¬f (x+(y-x));rw[show x+(y-x)=y by omega];exact fun h=>h e);exact⟨q,by omega,by omega,q3,Classical.not_not.1 g⟩);by_cases h:f a
 ·exact⟨up a l (b _) p.1 og h m,i l c p.1 og (b _) m (n.1 h)⟩
 ·exact⟨up k c o.1 og (b _) j (fun r=>h (n.2 r)),i a k (b _) o.1 og h j⟩
theorem zz1364:∀(c:Nat) (f:Nat->Nat),(∀i,f i<c)->∃i d,i<d/\f i=f d:=by
 have key:∀(c:Nat) (f:Nat->Nat),(∀i,i<=c->f i<c)->∃i d,i<d/\d<=c/\f i=f d:=by
  intro c;induction c with
  |zero=>intro f h;exact absurd (h 0 (b _)) (Nat.not_lt_zero _)
  |succ c ih=>
   intro f h;by_cases k:∃i,i<=c/\f i=f (c+1)
   ·obtain⟨i,g,e⟩:=k;exact⟨i,c+1,by omega,b _,e⟩
   ·have j:∀i,i<=c->f i≠f (c+1):=fun i g e=>k ⟨i,g,e⟩;have q:=h (c+1) (b _);obtain⟨i,d,m,n,e⟩:=ih (fun i=>if f i<f (c+1) then f i else f i-1) (fun i g=>by have o:=h i og;have l:=j i g;show(if f i<f (c+1) then f i else f i-1)<c;split<;>omega);refine⟨i,d,m,by omega,?_⟩;have l:=j i og;have p:=j d n;have e:(if f i<f (c+1) then f i else f i-1)=if f d<f (c+1) then f d else f d-1:=e;split at e<;>split at e<;>omega
 intro c f h;obtain⟨i,d,a,_,e⟩:=key c f (fun i _=>h i);exact⟨i,d,a,e⟩
def zog (N:Nat) (f:Nat->Nat):Nat->Nat
 |0=>0
 |k+1=>zog N f k*N+f k
theorem yid {f:Nat->Nat}:∀k,(∀i,i<k->f i<N)->zog N f k<N^k
 |0,_=>by simp[zog]
 |k+1,h=>by
  have a:=yid k fun i d=>h i og
  have c:=h k og
  have b:(zog N f k+1)*N<=N^k*N:=Nat.mul_le_mul_right _ a
  rw[zog,Nat.pow_succ]
  rw[Nat.add_mul,Nat.one_mul] at b
  omega
theorem yic {f b:Nat->Nat}:∀k,(∀i,i<k->f i<N)->(∀i,i<k->b i<N)->zog N f k=zog N b k->∀i,i<k->f i=b i
 |0,_,_,_,i,c=>absurd c (Nat.not_lt_zero _)
 |k+1,hf,e,d,i,c=>by
  have l:=hf k og
  have m:=e k og
  rw[zog,zog] at d
  have g:f k=b k:=by
   have:=congrArg (·%N) d
   simpa[Nat.add_mod,Nat.mod_eq_of_lt l,Nat.mod_eq_of_lt m] using this
  have j:zog N f k=zog N b k:=Nat.eq_of_mul_eq_mul_right og (show zog N f k*N=zog N b k*N by omega);rcases a i k with h|h
  ·exact yic k (fun i c=>hf i og) (fun i c=>e i og) j i h
  ·obtain rfl:i=k:=og;exact g
def zlm (m:Nat) (a:Dic) (v:Nat):Prop:=∃i,i<m/\a.bas i=v
theorem yvy {a:Dic} (hr:r<m) (d:zlm m a v) (e:¬zlm m (zlj a r c) v):v=a.bas r:=by
 obtain⟨i,f,rfl⟩:=d;by_cases b:i=r
 ·rw[b]
 ·exact absurd ⟨i,f,zoz _ _ b⟩ e
theorem yvx {a:Dic} (d:¬zlm m a v) (e:zlm m (zlj a r c) v):v=a.oth c:=by
 obtain⟨i,f,rfl⟩:=e;by_cases b:i=r
 ·rw[b];exact zoy _ _ _
 ·exact absurd ⟨i,f,(zoz _ _ b).symm⟩ d
theorem yhc (s:Nat->Dic) (r c:Nat->Nat) (E:∀k,s (k+1)=zlj (s k) (r k) (c k)) (u:∀k,BlandAt m n (s k) (r k) (c k))
 (hD:Dist m n (s 0)) (aJ:(∀i,i<m->(s 0).bas i<N)/\∀f,f<n->(s 0).oth f<N) (aI:∀i,i<m->0<=(s 0).D i n):False:=by
 have I:∀k,Dist m n (s k):=by
  intro k;induction k with
  |zero=>exact hD
  |succ k ih=>rw[E];exact ih.piv (u k).hr (u k).hc
 have K:∀k,(∀i,i<m->(s k).bas i<N)/\∀f,f<n->(s k).oth f<N:=by
  intro k;induction k with
  |zero=>exact aJ
  |succ k ih=>
   rw[E];refine⟨fun i l=> ?_,fun f B=> ?_⟩
   ·show U1 _ _ _ _<N;unfold U1;split
    ·exact ih.2 _ (u k).hc
    ·exact ih.1 i l
   ·show U1 _ _ _ _<N;unfold U1;split
    ·exact ih.1 _ (u k).hr
    ·exact ih.2 f B
 have aS:∀k i,i<m->0<=(s k).D i n:=by
  intro k;induction k with
  |zero=>exact aI
  |succ k ih=>rw[E];exact ync (u k) ih
 have ac:∀k d x z t,Fit1 m n (s k) x z t->Fit1 m n (s (k+d)) x z t:=by
  intro k d;induction d with
  |zero=>exact fun x z t h=>h
  |succ d ih=>intro x z t h;rw[<-Nat.add_assoc,E];exact(ih x z t h).piv (u _).hr (u _).hc (Rat.ne_of_gt (u _).pos)
 obtain⟨a,j,ar,aM⟩:=zz1364 (N^(m+n)) (fun k=>zog N (fun i=>if i<m then(s k).bas i else(s k).oth (i-m)) (m+n)) (fun k=>yid _ fun i l=>by
  show(if i<m then(s k).bas i else(s k).oth (i-m))<N;split
  ·exact(K k).1 i ‹_›
  ·exact(K k).2 _ og)
 have an:∀i,i<m+n->(if i<m then(s a).bas i else(s a).oth (i-m))=if i<m then(s j).bas i else(s j).oth (i-m):=by
  refine yic (m+n) (fun i l=> ?_) (fun i l=> ?_) aM
  ·show(if i<m then(s a).bas i else(s a).oth (i-m))<N;split
   ·exact(K a).1 i ‹_›
   ·exact(K a).2 _ og
  ·show(if i<m then(s j).bas i else(s j).oth (i-m))<N;split
   ·exact(K j).1 i ‹_›
   ·exact(K j).2 _ og
 have Y:∀i,i<m->(s a).bas i=(s j).bas i:=fun i l=>(by have:=an i og;rwa[if_pos l,if_pos l] at this);have ag:∀f,f<n->(s a).oth f=(s j).oth f:=fun f B=>(by have:=an (m+f) og;rwa[if_neg og,if_neg og,Nat.add_sub_cancel_left] at this);have M:∀i f,i<=m->f<=n->(s a).D i f=(s j).D i f:=zz1444 (I a) Y ag fun x z t h=>by have:=ac a (j-a) x z t h;rwa[show a+(j-a)=j by omega] at this
 have aV:∀x z t,Fit1 m n (s j) x z t->Fit1 m n (s a) x z t:=by
  intro x z t h;refine⟨fun i l=> ?_,?_⟩
  ·have o:=h.row i l;rw[Y i l,M i n og (b _),show C9 n (fun f=>(s a).D i f*x ((s a).oth f))=C9 n (fun f=>(s j).D i f*x ((s j).oth f)) from U3 fun f B=>by rw[M i f og og,ag f B]];exact o
  ·have o:=h.obj;rw[M m n (b _) (b _),show C9 n (fun f=>(s a).D m f*x ((s a).oth f))=C9 n (fun f=>(s j).D m f*x ((s j).oth f)) from U3 fun f B=>by rw[M m f (b _) og,ag f B]];exact o
 have aU:∀k A,a<=k->k<j->a<=A->A<j->∀x z t,Fit1 m n (s k) x z t->Fit1 m n (s A) x z t:=(by intro k A J D ad ae x z t h;have p:=ac k (j-k) x z t h;rw[show k+(j-k)=j by omega] at p;have w:=ac a (A-a) x z t (aV x z t p);rwa[show a+(A-a)=A by omega] at w);(have aA:∀k,(s (k+1)).D m n=(s k).D m n-((s k).D (r k) (c k))⁻¹*(s k).D m (c k)*(s k).D (r k) n:=by intro k;have p:=(u k).hc;have w:=(u k).hr;rw[E];show L6 _ _ _ _ _=_;rw[L6,if_neg og,if_neg og]);have av:∀k,0<=-(((s k).D (r k) (c k))⁻¹*(s k).D m (c k)*(s k).D (r k) n):=by intro k;have p:=e (e (Rat.le_of_lt (inv_pos (u k).pos)) (show 0<=-((s k).D m (c k)) by have:=(u k).cost;grind)) (aS k _ (u k).hr);grind
 have ay:∀k d,(s k).D m n<=(s (k+d)).D m n:=by
  intro k d;induction d with
  |zero=>exact Rat.le_refl
  |succ d ih=>have p:=aA (k+d);have w:=av (k+d);rw[<-Nat.add_assoc];grind
 have aE:∀k,a<=k->k<j->(s k).D (r k) n=0:=by
  intro k J D;have p:=ay a (k-a);have w:=ay (k+1) (j-(k+1));rw[show a+(k-a)=k by omega] at p;rw[show k+1+(j-(k+1))=j by omega] at w;have y:=M m n (b _) (b _);have F:=aA k;have L:((s k).D (r k) (c k))⁻¹*(s k).D m (c k)*(s k).D (r k) n=0:=(by have:=av k;grind);have W:=inv_pos (u k).pos;have X:=(u k).cost;rcases Rat.mul_eq_zero.1 L with h|h
  ·rcases Rat.mul_eq_zero.1 h with h|h
   ·rw[h] at W;exact absurd W Rat.lt_irrefl
   ·rw[h] at X;exact absurd X Rat.lt_irrefl
  ·exact h
 have aK:∀v k,a<=k->k<j->((∀i,i<m->(s k).bas i=v->(s k).D i n=0)↔∀i,i<m->(s (k+1)).bas i=v->(s (k+1)).D i n=0):=by
  intro v k J D;have ah:=aE k J D;have hr:=(u k).hr;have hc:=(u k).hc;have ak:∀i,i≠r k->(s (k+1)).bas i=(s k).bas i:=fun i l=>(by rw[E];exact zoz _ _ l);(have al:∀i,i≠r k->(s (k+1)).D i n=(s k).D i n:=fun i l=>by rw[E];show L6 _ _ _ _ _=_;rw[L6,if_neg l,if_neg og,ah];grind);(have aH:(s (k+1)).D (r k) n=0:=by rw[E];show L6 _ _ _ _ _=_;rw[L6,if_pos rfl,if_neg og,ah];grind);refine⟨fun h i l o=> ?_,fun h i l o=> ?_⟩
  ·by_cases G:i=r k
   ·rw[G];exact aH
   ·rw[al i G];exact h i l (by rw[<-ak i G];exact o)
  ·by_cases G:i=r k
   ·rw[G];exact ah
   ·rw[<-al i G];exact h i l (by rw[ak i G];exact o)
 have aq:∀v d,a+d<=j->((∀i,i<m->(s a).bas i=v->(s a).D i n=0)↔∀i,i<m->(s (a+d)).bas i=v->(s (a+d)).D i n=0):=by
  intro v d;induction d with
  |zero=>exact fun _=>Iff.rfl
  |succ d ih=>intro h;exact(ih og).trans (by rw[<-Nat.add_assoc];exact aK v (a+d) og og)
 have aL:∀v k A,a<=k->k<j->a<=A->A<j->(∀i,i<m->(s k).bas i=v->(s k).D i n=0)->∀i,i<m->(s A).bas i=v->(s A).D i n=0:=by intro v k A J D ad ae h;have p:=aq v (k-a) og;have w:=aq v (A-a) og;rw[show a+(k-a)=k by omega] at p;rw[show a+(A-a)=A by omega] at w;exact w.1 (p.2 h)
 obtain⟨g,O,P,af⟩:∃g,a<=g/\g<j/\∀k,a<=k->k<j->(s k).oth (c k)<=(s g).oth (c g):=by
  have:∀d,a+d<j->∃g,a<=g/\g<j/\∀k,a<=k->k<=a+d->(s k).oth (c k)<=(s g).oth (c g):=by
   intro d;induction d with
   |zero=>intro h;exact⟨a,b _,ar,fun k p w=>by rw[show k=a by omega];exact b _⟩
   |succ d ih=>
    intro h;obtain⟨g,p,w,y⟩:=ih og;rcases Nat.le_total ((s (a+(d+1))).oth (c (a+(d+1)))) ((s g).oth (c g)) with F|F
    ·refine⟨g,p,w,fun k S aG=> ?_⟩;by_cases o:k=a+(d+1)
     ·rw[o];exact F
     ·exact y k S og
    ·refine⟨a+(d+1),by omega,h,fun k S aG=> ?_⟩;by_cases o:k=a+(d+1)
     ·rw[o];exact b _
     ·exact Nat.le_trans (y k S og) F
  obtain⟨g,p,w,y⟩:=this (j-1-a) og;exact⟨g,p,w,fun k S aG=>y k S og⟩
 obtain⟨t,R⟩:=nm ((s g).oth (c g));rw[<-R] at af;have Z:∀v,zlm m (s a) v↔zlm m (s j) v:=fun v=>⟨fun⟨i,l,o⟩=>⟨i,l,by rw[<-Y i l];exact o⟩,fun⟨i,l,o⟩=>⟨i,l,by rw[Y i l];exact o⟩⟩;have az:∀k f,f<n->¬zlm m (s k) ((s k).oth f):=fun k f B ⟨i,l,o⟩=>(I k).bo i f l B o;have aN:∀v k A,a<=k->k<j->a<=A->A<j->zlm m (s k) v->¬zlm m (s A) v->v<=t:=by intro v k A J D ad ae p w;obtain⟨_,q,T,U,q3,V⟩:=yfq (f:=fun k=>zlm m (s k) v) (Z v) ⟨J,D⟩ ⟨ad,ae⟩ p w;have y:zlm m (s (q+1)) v:=V;rw[E] at y;rw[yvx q3 y];exact af q T U
 obtain⟨k,Q,D,aB⟩:∃k,a<=k/\k<j/\(s k).bas (r k)=t:=by
  have p:zlm m (s (g+1)) t:=⟨r g,(u g).hr,by rw[E,R];exact zoy _ _ _⟩;have w:¬zlm m (s g) t:=(by rw[R];exact az g _ (u g).hc);have fin:∀q,zlm m (s q) t->¬zlm m (s (q+1)) t->(s q).bas (r q)=t:=fun q y F=>(by rw[E] at F;exact(yvy (u q).hr y F).symm);by_cases aO:g+1<j
  ·obtain⟨⟨q,T,U,q3,V⟩,_⟩:=yfq (f:=fun k=>zlm m (s k) t) (Z t) (k:=g+1) (l:=g) ⟨by omega,aO⟩ ⟨O,P⟩ p w;exact⟨q,T,U,fin q q3 V⟩
  ·have aP:g+1=j:=og;rw[aP] at p;have y:=(Z t).2 p;obtain⟨⟨q,T,U,q3,V⟩,_⟩:=yfq (f:=fun k=>zlm m (s k) t) (Z t) (k:=a) (l:=g) ⟨b _,ar⟩ ⟨O,P⟩ y w;exact⟨q,T,U,fin q q3 V⟩
 have au:=(u k).hc;have aT:=(u k).hr;have ao:∀i,C9 n (fun f=>(s k).D i f*(if f=c k then(1:Rat) else 0))=(s k).D i (c k):=(by intro i;rw[znl au fun f _ B=>by show _*(if f=c k then(1:Rat) else 0)=0;rw[if_neg B];grind,if_pos rfl];grind);have hF:=aU k g Q D O P _ _ _ (zze (I k) (fun f=>if f=c k then 1 else 0) 0);obtain⟨d,hd⟩:=nm (zki m n (s k) (fun f=>if f=c k then 1 else 0) 0);rw[<-hd] at hF;have ai:∀i,i<m->d ((s k).bas i)= -((s k).D i (c k)):=(by intro i l;rw[hd,zwy (I k) _ _ l,ao];grind);have aj:∀f,f<n->d ((s k).oth f)=if f=c k then 1 else 0:=(by intro f B;rw[hd,zzf (I k) _ _ B]);have aR:=hF.obj;rw[ao] at aR;have aQ:C9 n (fun f=>(s g).D m f*d ((s g).oth f))<0:=(by have:=(u k).cost;grind);obtain⟨f,B,H⟩:=zz1471 aQ;have H:(s g).D m f*d ((s g).oth f)<0:=H;obtain⟨C,aa⟩:=nm ((s g).oth f);rw[<-aa] at H;have ab:d C≠0:=fun o=>(by rw[o] at H;grind);have aC:¬zlm m (s g) C:=by rw[aa];exact az g f B
 have aD:zlm m (s k) C\/C=(s k).oth (c k):=by
  by_cases p:zlm m (s k) C
  ·exact .inl p
  ·by_cases w:∃i,i<n/\(s k).oth i=C
   ·obtain⟨i,l,rfl⟩:=w;rw[aj i l] at ab;by_cases y:i=c k
    ·rw[y];exact .inr rfl
    ·rw[if_neg y] at ab;exact absurd rfl ab
   ·refine absurd ?_ ab;rw[hd];exact yji _ _ (fun i l o=>p ⟨i,l,o⟩) (fun i l o=>w ⟨i,l,o⟩)
 have aX:C<=t:=by
  rcases aD with h|h
  ·exact aN C k g Q D O P h aC
  ·rw[h];exact af k Q D
 have aW:d t<0:=(by rw[<-aB,ai _ aT];have:=(u k).pos;grind);rcases Rat.le_total (a:=0) (b:=((s g).D m f)) with p|p
 ·have w:(s g).D m f≠0:=fun o=>by rw[o] at H;grind
  have y:d C<0:=by
   rcases Rat.le_total (a:=0) (b:=(d C)) with h|h
   ·have:=e p h;grind
   ·grind
  have F:C≠t:=fun o=>(by rw[aa,R] at o;have o:=(I g).oo f (c g) B (u g).hc o;rw[o] at p;have:=(u g).cost;grind);rcases aD with L|L
  ·obtain⟨i,l,o⟩:=L;rw[<-o,ai i l] at y;have W:=aL C g k O P Q D (fun i l o=>absurd ⟨i,l,o⟩ aC) i l o;have X:=aE k Q D;rcases(u k).ratio i l (by grind) with h|h
   ·rw[W,X] at h;grind
   ·have:=h.2;rw[aB,o] at this;omega
  ·rw[L,aj _ au,if_pos rfl] at y;exact absurd y (by decide)
 ·have w:(s g).D m f<0:=by
   by_cases o:(s g).D m f=0
   ·rw[o] at H;grind
   ·grind
  have y:=(u g).least f B w;rw[<-R,<-aa] at y;have F:C=t:=og;rw[F] at H;have:=e (show 0<=-((s g).D m f) by grind) (show 0<=-(d t) by grind);grind
end Go.Proofs.YtpbilanpeioonaaGreatDoor
