/-
 The first table of a dictionary,and d c numbers b.
-/
import Derived.Test.YtlhhbccgfkhflaaGreatDoorProofDualWeak03
namespace Go.Proofs.YtlhhbccgfkhflaaGreatDoor
set_option linter.unusedVariables false
open Go.RowKit
set_option maxRecDepth 100000
set_option maxHeartbeats 8000000
open _root_.List renaming getD_eq_getElem?_getD → p, getElem?_eq_getElem → z, mem_of_getElem? → B, getElem?_map → C
open _root_.Go.World renaming cell?_setCell_other → s, cell?_of_block → y
open _root_.Go renaming World → q, Value → a, Oper → u
variable {M g i j k t : Nat} {N d : Nat → Nat} {T : Array a} {f : Nat → Rat} {l : List Int} {lit : Array u} {o : u} {r : List Rat}
def zpg (R:List (List Rat)) (b c:List Rat) (v:Rat) (bas oth:List Nat) (m n:Nat):TB:=
 ⟨fun i j=>if i<m then zmg (zvn R b m) i j else if j<n then -(zmg [c++[v]] 0 j) else zmg [c++[v]] 0 j,1,bas,oth⟩
def zqf (R:List (List Rat)) (b:List Rat) (i:Nat):Nat:=zkr (R.getD i []++[b.getD i 0])
def zlt (c:List Rat) (v:Rat):Nat:=zkr (c++[v])
def zop (bas:List Nat) (N:Nat->Nat):Nat->Nat->Nat
 |0,_=>1
 |k+1,v=>if bas.getD k 0=v then N k else zop bas N k v
theorem yls {bas:List Nat} (h:∀i,0<N i):∀k v,0<zop bas N k v
 |0,_=>Nat.one_pos
 |k+1,v=>by
  rw[zop]
  split
  ·exact h k
  ·exact yls h k v
theorem ylr {bas:List Nat} {v:Nat}:∀{k},(∀i,i<k->bas.getD i 0≠v)->zop bas N k v=1
 |0,_=>rfl
 |k+1,h=>by rw[zop,if_neg (h k og)];exact ylr fun i b=>h i og
theorem ylp {bas:List Nat}:∀{k},i<k->(∀j,j<k->bas.getD j 0=bas.getD i 0->j=i)->zop bas N k (bas.getD i 0)=N i
 |0,h,_=>by omega
 |k+1,h,hd=>by
  rw[zop]
  by_cases b:bas.getD k 0=bas.getD i 0
  ·rw[if_pos b,hd k og b]
  ·rw[if_neg b]
   have:i≠k:=fun c=>b (by rw[c])
   exact ylp og fun j d=>hd j og
def zof (R:List (List Rat)) (b:List Rat) (bas:List Nat) (m:Nat):Nat->Nat:=zop bas (zqf R b) m
theorem ylm (R:List (List Rat)) (b:List Rat) (i:Nat):0<zqf R b i:=zyn _
theorem ynd (c:List Rat) (v:Rat):0<zlt c v:=zyn _
theorem zz1395 (R:List (List Rat)) (b:List Rat) (bas:List Nat) (m v:Nat):0<zof R b bas m v:=yls (ylm R b) m v
def zot (i:Nat):RV:=fun x=>if x=i then 1 else 0
theorem ygj:∀b,W5 (List.range b) (Y0 b zot)=1
 |0=>rfl
 |b+1=>by
  have d:Y0 (b+1) zot=Y0 b zot++[zot b]:=by unfold Y0;rw[List.range_succ,List.map_append];rfl
  rw[List.range_succ,d,yre b (List.range b) (fun c hc=>by have:=List.mem_range.1 hc;unfold zot;rw[if_neg og]) (Y0 b zot) (by unfold Y0;simp),ygj b]
  unfold zot
  rw[if_pos rfl];grind
theorem yuk {f:Nat->Int} {a:Nat->Prop} [DecidablePred a]:zqm (fun x=>if a x then((f x:Int):Rat) else 0):=fun x=>by
 show∃z:Int,(if a x then((f x:Int):Rat) else 0)=(z:Rat)
 split
 ·exact⟨f x,rfl⟩
 ·exact⟨0,rfl⟩
theorem zyz {z:Int} (h:z.natAbs<=M): -(M:Rat)<=(z:Rat)/\(z:Rat)<=(M:Rat):=by have a:((M:Nat):Rat)=((M:Int):Rat):=(Rat.intCast_natCast M).symm;rw[a,<-Rat.intCast_neg,Rat.intCast_le_intCast,Rat.intCast_le_intCast];omega
theorem zz1416 {m n:Nat} {t:TB} (hd:t.d=1) (g:t.bas.length=m) (o:t.oth.length=n) (l:(t.bas++t.oth).Nodup) (k:∀v∈t.bas++t.oth,v<m+n) (e:1<=M) (f:∀i j,i<=m->j<=n->(t.A i j).natAbs<=M):TInv M m n t where
 cram:=by
  have c:(0:Rat)=((0:Int):Rat):=rfl
  refine⟨zot,fun j x=>if x<m+1 then((t.A x j:Int):Rat) else 0,⟨by rw[hd];exact Nat.one_pos,fun i _ x=> ?_,fun j _=>yuk,.inl ?_,fun j _ x=> ?_⟩,fun i _ x=> ?_,fun j h x=> ?_⟩
  ·unfold zot
   split
   ·exact⟨1,rfl⟩
   ·exact⟨0,rfl⟩
  ·rw[hd,ygj];rfl
  ·rw[hd]
   show((1:Int):Rat)*(if x<m+1 then((t.A x j:Int):Rat) else 0)=_
   have d:((1:Int):Rat)=1:=rfl
   rw[d,Rat.one_mul]
   by_cases a:x<m+1
   ·rw[if_pos a,zmz a fun i _ b=>by unfold zot;rw[if_neg (Ne.symm b)];grind]
    unfold zot;rw[if_pos rfl];grind
   ·rw[if_neg a,zlk fun i b=>by unfold zot;rw[if_neg og];grind]
  ·unfold zot
   split
   ·exact zyz (z:=1) (by simpa using e)
   ·rw[c];exact zyz (by simp)
  ·show _<=(if x<m+1 then((t.A x j:Int):Rat) else 0)/\(if x<m+1 then((t.A x j:Int):Rat) else 0)<=_
   by_cases a:x<m+1
   ·rw[if_pos a];exact zyz (f x j og h)
   ·rw[if_neg a,c];exact zyz (by simp)
 bl:=g;ol:=o;dist:=l;lt:=k
section
variable {R : List (List Rat)} {b c : List Rat} {v : Rat} {bas oth : List Nat} {m n : Nat}
theorem yxl (g:R.length=m) (k:b.length=m) (f:∀r∈R,r.length=n) (a:i<m) (l:j<=n):
 (((zpg R b c v bas oth m n).A i j:Int):Rat)=(if j<n then(R.getD i []).getD j 0 else b.getD i 0)*((zqf R b i:Nat):Rat):=by
 show((if i<m then zmg (zvn R b m) i j else _:Int):Rat)=_;rw[if_pos a];have hr:R[i]? =some (R.getD i []):=(by rw[p,z og];rfl);have e:=yen (b:=b) (n:=m) (m:=n) a hr;have d:(R.getD i []).length=n:=f _ (B hr);by_cases h:j<n
 ·rw[if_pos h,zyr e (zyc d h)];rfl
 ·obtain rfl:j=n:=og;rw[if_neg h,zyr e (ybw d)];rfl
theorem yxi (hc:c.length=n) (a:j<=n):
 (((zpg R b c v bas oth m n).A m j:Int):Rat)=(if j<n then -(c.getD j 0) else v)*((zlt c v:Nat):Rat):=by
 show((if m<m then _ else if j<n then -(zmg [c++[v]] 0 j) else zmg [c++[v]] 0 j:Int):Rat)=_;rw[if_neg og];by_cases h:j<n
 ·rw[if_pos h,if_pos h,Rat.intCast_neg,zyr (b:=[c++[v]]) (i:=0) rfl (zyc hc h)];show -(_*((zlt c v:Nat):Rat))=_;grind
 ·obtain rfl:j=n:=og;rw[if_neg h,if_neg h,zyr (b:=[c++[v]]) (i:=0) rfl (ybw hc)];rfl
theorem yjo (x:Nat) (h:0<x):((x:Nat):Rat)*((x:Nat):Rat)⁻¹=1:=Rat.mul_inv_cancel _ (zvd h)
theorem yxj (o:R.length=m) (p:b.length=m) (u:∀r∈R,r.length=n) (hc:c.length=n) (w:bas.length=m) (x:oth.length=n) (t:(bas++oth).Nodup) (q:i<=m) (e:j<=n):
 (K7 (zof R b bas m) (zlt c v) m n (zpg R b c v bas oth m n)).D i j=if i<m then(if j<n then(R.getD i []).getD j 0 else b.getD i 0) else if j<n then -(c.getD j 0) else v:=by
 have f:=List.nodup_append.1 t;show(if i<=m/\j<=n then(((zpg R b c v bas oth m n).A i j:Int):Rat)*((1:Int):Rat)⁻¹*uc (zof R b bas m) n (fun j=>oth.getD j 0) j*(ur (zof R b bas m) (zlt c v) m (fun i=>bas.getD i 0) i)⁻¹ else 0)=_;rw[if_pos ⟨q,e⟩];have g:((1:Int):Rat)⁻¹=1:=zup (Rat.mul_one 1)
 have l:uc (zof R b bas m) n (fun j=>oth.getD j 0) j=1:=by
  unfold uc;split
  ·rename_i h;have:zof R b bas m (oth.getD j 0)=1:=ylr fun k s a=>f.2.2 _ (zkh og) _ (zkh (l:=oth) (i:=j) og) a;rw[this];rfl
  ·rfl
 rw[g,l,Rat.mul_one,Rat.mul_one];by_cases h:i<m
 ·rw[if_pos h,yxl o p u h e];have d:ur (zof R b bas m) (zlt c v) m (fun i=>bas.getD i 0) i=((zqf R b i:Nat):Rat):=(by unfold ur;rw[if_pos h];have:zof R b bas m (bas.getD i 0)=zqf R b i:=ylp h fun k s a=>zqa f.1 og og a;rw[this]);rw[d,Rat.mul_assoc,yjo _ (ylm R b i),Rat.mul_one]
 ·obtain rfl:i=m:=og;rw[if_neg h,yxi hc e];have d:ur (zof R b bas i) (zlt c v) i (fun i=>bas.getD i 0) i=((zlt c v:Nat):Rat):=(by unfold ur;rw[if_neg h]);rw[d,Rat.mul_assoc,yjo _ (ynd c v),Rat.mul_one]
end
theorem yhe {m n:Nat} {S T:Dic} (c:∀i,i<m->S.bas i=T.bas i) (b:∀j,j<n->S.oth j=T.oth j) (hD:∀i j,i<=m->j<=n->S.D i j=T.D i j) {x:Nat->Rat} {z s:Rat} (h:Fit1 m n S x z s):Fit1 m n T x z s where
 row i hi:=by
  rw[<-c i hi,<-hD i n og (Nat.le_refl _),<-h.row i hi]
  congr 1
  exact M8 fun j a=>by rw[<-hD i j og og,<-b j a]
 obj:=by rw[<-hD m n (Nat.le_refl _) (Nat.le_refl _),<-h.obj];congr 1;exact M8 fun j a=>by rw[<-hD m j (Nat.le_refl _) og,<-b j a]
theorem yso {m n:Nat} {S T:Dic} (c:∀i,i<m->S.bas i=T.bas i) (d:∀j,j<n->S.oth j=T.oth j) (hD:∀i j,i<=m->j<=n->S.D i j=T.D i j):Eqv m n S T:=fun x z s=>
 ⟨yhe c d hD,yhe (fun i a=>(c i a).symm) (fun j b=>(d j b).symm) fun i j a b=>(hD i j a b).symm⟩
theorem yxk {R:List (List Rat)} {b c:List Rat} {m n:Nat} (s:R.length=m) (t:b.length=m) (v:∀r∈R,r.length=n) (hc:c.length=n) {bas oth:List Nat} (l:bas=(List.range m).map fun i=>n+i) (q:oth=List.range n):
 Eqv m n (U3 m n (fun i j=>(R.getD i []).getD j 0) (fun i=>b.getD i 0) fun j=>c.getD j 0) (K7 (zof R b bas m) (zlt c 0) m n (zpg R b c 0 bas oth m n)):=by
 have f:bas.length=m:=(by rw[l];simp);have o:oth.length=n:=(by rw[q];simp);have g:∀i,i<m->bas.getD i 0=n+i:=fun i a=>(by rw[l,p,C,List.getElem?_range a];rfl);have go:∀j,j<n->oth.getD j 0=j:=fun j d=>by rw[q,p,List.getElem?_range d];rfl
 have u:(bas++oth).Nodup:=zyw fun i j a d e=>by
  rw[List.length_append,f,o] at a d
  have key:∀k,k<m+n->(bas++oth).getD k 0=if k<m then n+k else k-m:=fun k w=>by
   rw[p,List.getElem?_append,f];split
   ·rename_i h;rw[<-p];exact g k h
   ·rename_i h;rw[<-p];exact go _ og
  rw[key i a,key j d] at e;split at e<;>split at e<;>omega
 refine yso (fun i a=>(g i a).symm) (fun j d=>(go j d).symm) fun i j a d=> ?_;rw[yxj s t v hc f o u a d];show(if i<m then(if j<n then(R.getD i []).getD j 0 else b.getD i 0) else if j<n then -(c.getD j 0) else 0)=_;rfl
def T8 (n:Nat) (f:Nat->Rat):List Rat:=(List.range n).map f
theorem zvm (n:Nat) (f:Nat->Rat):(T8 n f).length=n:=by unfold T8;simp
theorem yag {n:Nat} (h:j<n):(T8 n f)[j]? =some (f j):=by unfold T8;rw[C,List.getElem?_range h];rfl
theorem ynm {n:Nat} (h:j<n):(T8 n f).getD j 0=f j:=by rw[p,yag h];rfl
theorem yah {n:Nat} {q:Rat} (h:q∈T8 n f):∃j,j<n/\q=f j:=by unfold T8 at h;obtain⟨j,b,a⟩:=List.mem_map.1 h;exact⟨j,List.mem_range.1 b,a.symm⟩
def zkx (A:List (List Rat)) (Y:List Rat) (k:Nat):Rat:=C6 A.length fun i=>(A.getD i []).getD k 0*Y.getD i 0
structure Feas (A:List (List Rat)) (b:List Rat) (n:Nat) (X:List Rat):Prop where
 len:X.length=n
 nn:∀x∈X,0<=x
 le:∀i r,A[i]? =some r->H7 r X<=b.getD i 0
structure Mult (A:List (List Rat)) (b:List Rat) (n:Nat) (f:Nat->Rat) (Y:List Rat):Prop where
 len:Y.length=b.length
 nn:∀y∈Y,0<=y
 ge:∀k,k<n->f k<=zkx A Y k
structure RayQ (A:List (List Rat)) (n:Nat) (Z:List Rat):Prop where
 len:Z.length=n
 nn:∀x∈Z,0<=x
 le:∀r∈A,H7 r Z<=0
structure CertOpt (A:List (List Rat)) (b c X Y:List Rat) (V:Rat):Prop where
 x:Feas A b c.length X
 y:Mult A b c.length (fun k=>c.getD k 0) Y
 vx:H7 c X=V
 vy:H7 b Y=V
structure CertNone (A:List (List Rat)) (b c Y:List Rat):Prop where
 y:Mult A b c.length (fun _=>0) Y
 vy:H7 b Y<0
structure CertRay (A:List (List Rat)) (b c X Z:List Rat):Prop where
 x:Feas A b c.length X
 z:RayQ A c.length Z
 up:0<H7 c Z
section
variable {A : List (List Rat)} {b c : List Rat} {m n : Nat} {S : Dic}
abbrev aF (A:List (List Rat)) (i j:Nat):Rat:=(A.getD i []).getD j 0
abbrev lF (b:List Rat) (i:Nat):Rat:=b.getD i 0
theorem ybq {n:Nat} (hr:r.length=n) (f:Nat->Rat):H7 r (T8 n f)=C6 n fun j=>r.getD j 0*f j:=by rw[ztj r _ (by rw[zvm,hr]),hr];exact M8 fun j a=>by rw[ynm a]
theorem yhs {A:List (List Rat)} (h:A[i]? =some r):A.getD i []=r:=by rw[p,h];rfl
theorem ygz (e:A.length=m) (h:∀r∈A,r.length=n) (c:∀v,0<=f v) (d:∀i,i<m->C6 n (fun j=>aF A i j*f j)<=lF b i):Feas A b n (T8 n f) where
 len:=zvm n f
 nn x hx:=by obtain⟨j,_,rfl⟩:=yah hx;exact c j
 le i r hr:=by have g:i<m:=(by rw[<-e];exact(List.getElem?_eq_some_iff.1 hr).1);have:=d i g;rw[ybq (h r (B hr))];have a:aF A i=fun j=>r.getD j 0:=(by funext j;unfold aF;rw[yhs hr]);rw[show(fun j=>r.getD j 0*f j)=fun j=>aF A i j*f j by rw[a]];exact this
theorem zz1367 (g:A.length=m) (e:∀r∈A,r.length=n) (b:∀v,0<=f v) (c:∀i,i<m->C6 n (fun j=>aF A i j*f j)<=0):RayQ A n (T8 n f) where
 len:=zvm n f
 nn x hx:=by obtain⟨j,_,rfl⟩:=yah hx;exact b j
 le r hr:=by obtain⟨i,d,rfl⟩:=List.getElem_of_mem hr;have:=c i og;rw[ybq (e _ hr)];have a:aF A i=fun j=>(A[i]).getD j 0:=(by funext j;unfold aF;rw[yhs (z d)]);rw[show(fun j=>(A[i]).getD j 0*f j)=fun j=>aF A i j*f j by rw[a]];exact this
theorem yjn (d:A.length=m) (e:b.length=m) {g y:Nat->Rat} (a:∀v,0<=y v) (c:∀k,k<n->g k<=C6 m fun i=>aF A i k*y (n+i)):Mult A b n g (T8 m fun i=>y (n+i)) where
 len:=by rw[zvm,e]
 nn x hx:=by obtain⟨j,_,rfl⟩:=yah hx;exact a _
 ge k hk:=by have:=c k hk;unfold zkx;rw[d];rw[show C6 m (fun i=>(A.getD i []).getD k 0*(T8 m fun i=>y (n+i)).getD i 0)=C6 m fun i=>aF A i k*y (n+i) from M8 fun i f=>by rw[ynm f]];exact this
def ztz (m n:Nat) (S:Dic):List Rat:=T8 n (Z9 m n S (fun _=>0) 1)
def zwp (m n:Nat) (S:Dic):List Rat:=T8 m fun i=>Z7 n S.oth (S.D m) (n+i)
def zwo (m n:Nat) (S:Dic) (r:Nat):List Rat:=T8 m fun i=>Z7 n S.oth (S.D r) (n+i)+if S.bas r=n+i then 1 else 0
def zwt (m n:Nat) (S:Dic) (k:Nat):List Rat:=T8 n (Z9 m n S (fun j=>if j=k then 1 else 0) 0)
theorem zxw {b:List Rat} (a:b.length=m) (f:Nat->Rat):H7 b (T8 m f)=C6 m fun i=>lF b i*f i:=ybq a f
theorem yqc (a:A.length=m) (e:b.length=m) (hc:c.length=n) (q:∀r∈A,r.length=n) (o:Dist m n S) (d:Eqv m n (U3 m n (aF A) (lF b) (lF c)) S) (p:∀j,j<n->S.oth j<n+m)
 (k:∀i,i<m->0<=S.D i n) (l:∀j,j<n->0<=S.D m j):CertOpt A b c (ztz m n S) (zwp m n S) (S.D m n):=by obtain⟨s,t,u⟩:=yfm o d k;obtain⟨f,g,h⟩:=yqe d p l;subst hc;exact⟨ygz a q s t,yjn a e h g,by rw[ztz,zxw rfl];exact u,by rw[zwp,zxw e];exact f⟩
theorem yqb (i:A.length=m) (a:b.length=m) (hc:c.length=n) (k:Eqv m n (U3 m n (aF A) (lF b) (lF c)) S) (o:∀j,j<n->S.oth j<n+m) {r:Nat} (hr:r<m) (l:S.bas r<n+m)
 (g:S.D r n<0) (h:∀j,j<n->0<=S.D r j):CertNone A b c (zwo m n S r):=by obtain⟨d,e,f⟩:=yqf k o hr l h;subst hc;exact⟨yjn (y:=fun v=>Z7 c.length S.oth (S.D r) v+if S.bas r=v then 1 else 0) i a f e,by rw[zwo,zxw a,d];exact g⟩
theorem yqd (a:A.length=m) (t:b.length=m) (hc:c.length=n) (f:∀r∈A,r.length=n) (e:Dist m n S) (d:Eqv m n (U3 m n (aF A) (lF b) (lF c)) S) (l:k<n)
 (g:∀i,i<m->0<=S.D i n) (h:S.D m k<0) (j:∀i,i<m->S.D i k<=0):CertRay A b c (ztz m n S) (zwt m n S k):=by obtain⟨o,p,_⟩:=yfm e d g;obtain⟨q,s,q3⟩:=yqg e d l h j;subst hc;exact⟨ygz a f o p,zz1367 a f q s,by rw[zwt,zxw rfl];exact q3⟩
end
theorem ymr {n:Nat} {g:Nat->Rat} (h:∀i,i<n->f i<=g i):C6 n f<=C6 n g:=by
 induction n with
 |zero=>exact Rat.le_refl
 |succ n ih=>have b:=ih fun i d=>h i og;have c:=h n og;rw[C6,C6];grind
theorem zyd {X:List Rat} (h:∀x∈X,0<=x) (k:Nat):0<=X.getD k 0:=by
 rw[p];cases e:X[k]? with
 |none=>exact Rat.le_refl
 |some x=>exact h x (B e)
section
variable {A : List (List Rat)} {b c X Y Z : List Rat} {n : Nat}
theorem zz1466 (a:Feas A b n X) (c:Mult A b n f Y) (m:A.length=b.length) (s:∀r∈A,r.length=n):(C6 n fun k=>f k*X.getD k 0)<=H7 b Y:=by have d:(C6 n fun k=>f k*X.getD k 0)<=C6 n fun k=>zkx A Y k*X.getD k 0:=ymr fun k q=>(by have:=Rat.mul_le_mul_of_nonneg_right (c.ge k q) (zyd a.nn k);exact this);have h:(C6 n fun k=>zkx A Y k*X.getD k 0)=C6 A.length fun i=>(C6 n fun k=>(A.getD i []).getD k 0*X.getD k 0)*Y.getD i 0:=(by have g:(C6 n fun k=>zkx A Y k*X.getD k 0)=C6 n fun k=>C6 A.length fun i=>((A.getD i []).getD k 0*X.getD k 0)*Y.getD i 0:=M8 fun k _=>(by unfold zkx;have:X.getD k 0*(C6 A.length fun i=>(A.getD i []).getD k 0*Y.getD i 0)=C6 A.length fun i=>X.getD k 0*((A.getD i []).getD k 0*Y.getD i 0):=(znu _ _ _).symm;rw[Rat.mul_comm,this];exact M8 fun i _=>by grind);rw[g,yms];refine M8 fun i _=> ?_;have:Y.getD i 0*(C6 n fun k=>(A.getD i []).getD k 0*X.getD k 0)=C6 n fun k=>Y.getD i 0*((A.getD i []).getD k 0*X.getD k 0):=(znu _ _ _).symm;rw[Rat.mul_comm,this];exact M8 fun k _=>by grind);have j:(C6 A.length fun i=>(C6 n fun k=>(A.getD i []).getD k 0*X.getD k 0)*Y.getD i 0)<=C6 A.length fun i=>b.getD i 0*Y.getD i 0:=ymr fun i o=>(by have hr:A[i]? =some (A.getD i []):=(by rw[p,z o];rfl);have:=a.le i _ hr;have e:(A.getD i []).length=n:=s _ (B hr);rw[ztj _ _ (by rw[e,a.len]),e] at this;exact Rat.mul_le_mul_of_nonneg_right this (zyd c.nn i));have l:H7 b Y=C6 A.length fun i=>b.getD i 0*Y.getD i 0:=(by rw[ztj _ _ c.len.symm,m]);rw[l];rw[h] at d;exact Rat.le_trans d j
theorem zxv (h:c.length=n) (a:X.length=n):H7 c X=C6 n fun k=>c.getD k 0*X.getD k 0:=by rw[ztj c X og,h]
theorem CertOpt.best {a:Rat} (h:CertOpt A b c Y Z a) (e:A.length=b.length) (f:∀r∈A,r.length=c.length) (d:Feas A b c.length X):H7 c X<=a:=by have:=zz1466 d h.y e f;rw[zxv rfl d.len,<-h.vy];exact this
end
structure MatW (w:q) (S:Nat->Prop) (r0:Nat) (d cp:Nat->Nat) (n m:Nat) (A:Nat->Nat->Int):Prop where
 hd:∀i,i<n->w.cell? ⟨r0,i,none⟩=some (.slice (some ⟨d i,0,none⟩) m (cp i))
 hf:∀i,i<n->w.frozen? ⟨r0,i,none⟩=false
 cap:∀i,i<n->m<=cp i/\cp i<=maxLen
 el:∀i j,i<n->j<m->∃P k Q l,w.cell? ⟨d i,j*3,none⟩=some (.bool (decide (A i j<0)))/\w.cell? ⟨d i,j*3+1,none⟩=some (.slice P (A8 (A i j).natAbs).length k)/\w.cell? ⟨d i,j*3+2,none⟩=some (.slice Q (A8 1).length l)/\
  IsQ w S (.agg #[.bool (decide (A i j<0)),.slice P (A8 (A i j).natAbs).length k,.slice Q (A8 1).length l]) ((A i j:Int):Rat)
 ef:∀i o,i<n->o<m*3->w.frozen? ⟨d i,o,none⟩=false
 inj:∀i k,i<n->k<n->d i=d k->i=k
 sep:∀i,i<n->d i≠r0/\¬S (d i)/\d i<w.heap.size
 s0:¬S r0/\r0<w.heap.size
 sS:∀b,S b->b<w.heap.size
theorem MatW.keep {w w':q} {S T:Nat->Prop} {r0:Nat} {cp:Nat->Nat} {n m:Nat} {A:Nat->Nat->Int} (h:MatW w S r0 d cp n m A) (x:w.heap.size<=w'.heap.size)
 (p:w'.heap[r0]? =w.heap[r0]?) (hr:∀i,i<n->w'.heap[d i]? =w.heap[d i]?) (t:∀b,S b->w'.heap[b]? =w.heap[b]?)
 (u:∀b,S b->T b) (g:∀b,T b->S b\/(w.heap.size<=b/\b<w'.heap.size)):MatW w' T r0 d cp n m A where
 hd i hi:=(y p).trans (h.hd i hi)
 hf i hi:=(World.frozen?_of_block p).trans (h.hf i hi)
 cap:=h.cap
 el i j hi hj:=by
  obtain⟨P,k,Q,l,e,f,r,s⟩:=h.el i j hi hj
  exact⟨P,k,Q,l,(y (hr i hi)).trans e,(y (hr i hi)).trans f,(y (hr i hi)).trans r,IsQ.stb.to s fun b c=>⟨u b c,fun o=>y (t b c)⟩⟩
 ef i o hi v:=(World.frozen?_of_block (hr i hi)).trans (h.ef i o hi v);inj:=h.inj;sep i hi:=(by obtain⟨e,f,r⟩:=h.sep i hi;exact⟨e,fun h=>by rcases g _ h with h|h;exact f h;omega,by omega⟩);s0:=⟨fun a=>by rcases g _ a with a|a;exact h.s0.1 a;have:=h.s0.2;omega,by have:=h.s0.2;omega⟩
 sS b c:=by
  rcases g b c with a|a
  ·have:=h.sS b a;omega
  ·exact a.2
theorem MatW.next {w w':q} {S T:Nat->Prop} {r0:Nat} {cp:Nat->Nat} {n m:Nat} {A:Nat->Nat->Int} (h:MatW w S r0 d cp n m A) (a:Below w.heap.size w w')
 (c:∀b,S b->T b) (e:∀b,T b->S b\/(w.heap.size<=b/\b<w'.heap.size)):MatW w' T r0 d cp n m A:=
 h.keep a.size (a.block _ h.s0.2) (fun i g=>a.block _ (h.sep i g).2.2) (fun b f=>a.block _ (h.sS b f)) c e
theorem zrw (w:q) (b:Addr) (c:a):(w.setCell b c).heap.size=w.heap.size:=by simp[World.setCell]
abbrev N8 (w:q) (b j:Nat) (x y z:a):q:=((w.setCell ⟨b,j*3,none⟩ x).setCell ⟨b,j*3+1,none⟩ y).setCell ⟨b,j*3+2,none⟩ z
theorem zqc {w:q} {b:Nat} {x y z:a} {c o:Nat} (h:c≠b\/o<j*3\/j*3+3<=o):(N8 w b j x y z).cell? ⟨c,o,none⟩=w.cell? ⟨c,o,none⟩:=by unfold N8;rw[s _ _ _ _ (fun d=>by injection d with e f;omega),s _ _ _ _ (fun d=>by injection d with e f;omega),s _ _ _ _ (fun d=>by injection d with e f;omega)]
theorem yky {w:q} {b:Nat} {x y z i f g:a} (h:w.cell? ⟨b,j*3,none⟩=some i) (d:w.cell? ⟨b,j*3+1,none⟩=some f) (e:w.cell? ⟨b,j*3+2,none⟩=some g):
 (N8 w b j x y z).cell? ⟨b,j*3,none⟩=some x/\(N8 w b j x y z).cell? ⟨b,j*3+1,none⟩=some y/\(N8 w b j x y z).cell? ⟨b,j*3+2,none⟩=some z:=by
 unfold N8;refine⟨?_,?_,?_⟩
 ·rw[s _ _ _ _ (fun c=>by injection c with d e;omega),s _ _ _ _ (fun c=>by injection c with d e;omega)];exact World.cell?_setCell_same _ _ _ h
 ·rw[s _ _ _ _ (fun c=>by injection c with d e;omega)];refine World.cell?_setCell_same _ _ _ (u:=f) ?_;rw[s _ _ _ _ (fun c=>by injection c with d e;omega)];exact d
 ·refine World.cell?_setCell_same _ _ _ (u:=g) ?_;rw[s _ _ _ _ (fun c=>by injection c with d e;omega),s _ _ _ _ (fun c=>by injection c with d e;omega)];exact e
theorem ykz {w:q} {b:Nat} {x y z:a} (c:Addr):(N8 w b j x y z).frozen? c=w.frozen? c:=by unfold N8;simp
theorem zqw {w:q} {b:Nat} {x y z:a}:(N8 w b j x y z).heap.size=w.heap.size:=by unfold N8;rw[zrw,zrw,zrw]
def zxe (A:Nat->Nat->Int) (i j:Nat) (z:Int):Nat->Nat->Int:=fun a b=>if a=i/\b=j then z else A a b
theorem MatW.put {w:q} {S:Nat->Prop} {r0:Nat} {cp:Nat->Nat} {n m:Nat} {A:Nat->Nat->Int} (h:MatW w S r0 d cp n m A) (u:i<n) (K:j<m) {z:Int} {P Q:Option Addr} {l:Nat}
 (J:IsQ w S (.agg #[.bool (decide (z<0)),.slice P (A8 z.natAbs).length k,.slice Q (A8 1).length l]) ((z:Int):Rat)):
 MatW (N8 w (d i) j (.bool (decide (z<0))) (.slice P (A8 z.natAbs).length k) (.slice Q (A8 1).length l)) S r0 d cp n m (zxe A i j z) where
 hd a ha:=(zqc (.inl (Ne.symm (h.sep i u).1))).trans (h.hd a ha)
 hf a ha:=(ykz _).trans (h.hf a ha)
 cap:=h.cap
 el a b ha f:=by
  have B:L6 S S w (N8 w (d i) j (.bool (decide (z<0))) (.slice P (A8 z.natAbs).length k) (.slice Q (A8 1).length l)):=fun c hc=>⟨hc,fun o=>zqc (.inl fun e=>(h.sep i u).2.1 (by rw[<-e];exact hc))⟩
  by_cases t:a=i/\b=j
  ·obtain⟨rfl,rfl⟩:=t
   obtain⟨x,C,y,D,p,r,s,_⟩:=h.el a b ha f
   obtain⟨E,F,G⟩:=yky (x:= .bool (decide (z<0))) (y:= .slice P (A8 z.natAbs).length k) (z:= .slice Q (A8 1).length l) p r s
   have v:zxe A a b z a b=z:=by unfold zxe;rw[if_pos ⟨rfl,rfl⟩]
   rw[v]
   exact⟨P,k,Q,l,E,F,G,IsQ.stb.to J B⟩
  ·obtain⟨x,C,y,D,p,r,s,H⟩:=h.el a b ha f
   have v:zxe A i j z a b=A a b:=by unfold zxe;rw[if_neg t]
   have L:d a≠d i\/b<j\/j<b:=by
    by_cases e:a=i
    ·have:b≠j:=fun g=>t ⟨e,g⟩
     omega
    ·exact .inl fun g=>e (h.inj a i ha u g)
   rw[v]
   exact⟨x,C,y,D,(zqc og).trans p,(zqc og).trans r,(zqc og).trans s,IsQ.stb.to H B⟩
 ef a o ha I:=(ykz _).trans (h.ef a o ha I);inj:=h.inj;sep a ha:=⟨(h.sep a ha).1,(h.sep a ha).2.1,by rw[zqw];exact(h.sep a ha).2.2⟩;s0:=⟨h.s0.1,by rw[zqw];exact h.s0.2⟩;sS b f:=by rw[zqw];exact h.sS b f
def swF {b:Type} (f:Nat->b) (i k:Nat):Nat->b:=fun a=>if a=i then f k else if a=k then f i else f a
theorem zqj {a:Type} (f:Nat->a) (i k:Nat):swF f i k i=f k:=if_pos rfl
theorem zqk {a:Type} (f:Nat->a) (i k:Nat):swF f i k k=f i:=by
 unfold swF;split
 ·rename_i h;rw[h]
 ·rw[if_pos rfl]
theorem zos {d:Type} (f:Nat->d) {a:Nat} (b:a≠i) (c:a≠k):swF f i k a=f a:=by unfold swF;rw[if_neg b,if_neg c]
theorem MatW.swap {w:q} {S:Nat->Prop} {r0:Nat} {cp:Nat->Nat} {n m:Nat} {A:Nat->Nat->Int} (h:MatW w S r0 d cp n m A) (r:i<n) (t:k<n) (G:i≠k):
 MatW ((w.setCell ⟨r0,i,none⟩ (.slice (some ⟨d k,0,none⟩) m (cp k))).setCell ⟨r0,k,none⟩ (.slice (some ⟨d i,0,none⟩) m (cp i))) S r0 (swF d i k) (swF cp i k) n m (swF A i k):=by
 have oth:∀b o,b≠r0->((w.setCell ⟨r0,i,none⟩ (.slice (some ⟨d k,0,none⟩) m (cp k))).setCell ⟨r0,k,none⟩ (.slice (some ⟨d i,0,none⟩) m (cp i))).cell? ⟨b,o,none⟩=w.cell? ⟨b,o,none⟩:=fun b o p=>(by rw[s _ _ _ _ (fun j=>by injection j with e f;exact p e.symm),s _ _ _ _ (fun j=>by injection j with e f;exact p e.symm)]);have u:∀a,a<n->a=i\/a=k\/(a≠i/\a≠k):=fun a _=>(by omega);refine⟨fun a ha=> ?_,fun a ha=> ?_,fun a ha=> ?_,fun a b ha p=> ?_,fun a o ha F=> ?_,fun a b ha p g=> ?_,fun a ha=> ?_,⟨h.s0.1,by rw[zrw,zrw];exact h.s0.2⟩,fun b p=>by rw[zrw,zrw];exact h.sS b p⟩
 ·rcases u a ha with rfl|rfl|⟨e,f⟩
  ·rw[zqj,zqj,s _ _ _ _ (fun j=>by injection j with e f;omega)];exact World.cell?_setCell_same _ _ _ (h.hd _ r)
  ·rw[zqk,zqk];refine World.cell?_setCell_same _ _ _ (u:= .slice (some ⟨d a,0,none⟩) m (cp a)) ?_;rw[s _ _ _ _ (fun j=>by injection j with e f;omega)];exact h.hd _ t
  ·rw[zos _ e f,zos _ e f,s _ _ _ _ (fun j=>by injection j with B C;omega),s _ _ _ _ (fun j=>by injection j with B C;omega)];exact h.hd a ha
 ·simp only[World.frozen?_setCell];exact h.hf a ha
 ·rcases u a ha with rfl|rfl|⟨e,f⟩
  ·rw[zqj];exact h.cap _ t
  ·rw[zqk];exact h.cap _ r
  ·rw[zos _ e f];exact h.cap _ ha
 ·have E:L6 S S w ((w.setCell ⟨r0,i,none⟩ (.slice (some ⟨d k,0,none⟩) m (cp k))).setCell ⟨r0,k,none⟩ (.slice (some ⟨d i,0,none⟩) m (cp i))):=fun c hc=>⟨hc,fun o=>oth c o fun j=>h.s0.1 (by rw[<-j];exact hc)⟩;rcases u a ha with rfl|rfl|⟨e,f⟩
  ·rw[zqj,zqj];obtain⟨P,D,Q,l,v,x,y,z⟩:=h.el _ b t p;exact⟨P,D,Q,l,(oth _ _ (h.sep _ t).1).trans v,(oth _ _ (h.sep _ t).1).trans x,(oth _ _ (h.sep _ t).1).trans y,IsQ.stb.to z E⟩
  ·rw[zqk,zqk];obtain⟨P,D,Q,l,v,x,y,z⟩:=h.el _ b r p;exact⟨P,D,Q,l,(oth _ _ (h.sep _ r).1).trans v,(oth _ _ (h.sep _ r).1).trans x,(oth _ _ (h.sep _ r).1).trans y,IsQ.stb.to z E⟩
  ·rw[zos _ e f,zos _ e f];obtain⟨P,D,Q,l,v,x,y,z⟩:=h.el _ b ha p;exact⟨P,D,Q,l,(oth _ _ (h.sep _ ha).1).trans v,(oth _ _ (h.sep _ ha).1).trans x,(oth _ _ (h.sep _ ha).1).trans y,IsQ.stb.to z E⟩
 ·simp only[World.frozen?_setCell];rcases u a ha with rfl|rfl|⟨e,f⟩
  ·rw[zqj];exact h.ef _ _ t F
  ·rw[zqk];exact h.ef _ _ r F
  ·rw[zos _ e f];exact h.ef _ _ ha F
 ·rcases u a ha with rfl|rfl|⟨e,f⟩<;>rcases u b p with rfl|rfl|⟨B,C⟩
  ·rfl
  ·rw[zqj,zqk] at g;exact absurd (h.inj _ _ t r g) og
  ·rw[zqj,zos _ B C] at g;exact absurd (h.inj _ _ t p g) og
  ·rw[zqk,zqj] at g;exact absurd (h.inj _ _ r t g) og
  ·rfl
  ·rw[zqk,zos _ B C] at g;exact absurd (h.inj _ _ r p g) og
  ·rw[zos _ e f,zqj] at g;exact absurd (h.inj _ _ ha t g) og
  ·rw[zos _ e f,zqk] at g;exact absurd (h.inj _ _ ha r g) og
  ·rw[zos _ e f,zos _ B C] at g;exact h.inj _ _ ha p g
 ·rw[zrw,zrw];rcases u a ha with rfl|rfl|⟨e,f⟩
  ·rw[zqj];exact h.sep _ t
  ·rw[zqk];exact h.sep _ r
  ·rw[zos _ e f];exact h.sep _ ha
theorem ycz (w:q) (a n:Int) (k: -9223372036854775808<=a) (l:a<=9223372036854775807) (o:1<=n) (p:n<=1000000000):
 Calls Tryz.prog 22 #[.int .i64 a,.int .i64 n] w fun e w'=>e= .returned (.int .i64 (a%n))/\w=w':=by
 have i:=Int.emod_nonneg a (show n≠0 by omega);have j:=Int.emod_lt_of_pos a (show 0<n by omega)
 have b:(a.tmod n=a%n/\(a<0->a%n=0))\/a.tmod n=a%n-n:=by
  rw[Int.tmod_eq_emod];split
  ·rename_i hd;refine .inl ⟨by omega,fun s=> ?_⟩;rcases hd with hd|hd
   ·omega
   ·exact Int.emod_eq_zero_of_dvd hd
  ·exact .inr og
 rcases Int.lt_or_le a 0 with h|h
 ·have r:(n==0)=false:=beq_eq_false_iff_ne.2 og;rcases Int.lt_or_le (a.tmod n) 0 with f|f
  ·(have c:Hid (a.tmod n+n=a%n):=by unfold Hid;rcases b with⟨d,g⟩|d<;>omega);have m: -1000000000<=a.tmod n:=oh c;clear b;go_in;go_wp2;go_ret;exact⟨K2 c.out,rfl⟩
  ·(have c:Hid (a.tmod n=a%n):=by unfold Hid;rcases b with⟨d,g⟩|d<;>omega);clear b;go_in;go_wp2;go_ret;exact⟨K2 c.out,rfl⟩
 ·clear b;go_in;go_wp2;go_ret;exact⟨rfl,rfl⟩
def IsD (w:q) (g:Nat) (l:List Int):Prop:=
 ∃A c k,Row w g 51 [.slice A l.length c,.int .i64 ((k:Nat):Int)]/\IsIL w (fun b=>b<g) (.slice A l.length c) l/\k<=l.length
theorem IsD.lt {w:q} (h:IsD w g l):g<w.heap.size:=by obtain⟨A,c,k,a,_⟩:=h;exact a.lt
theorem IsD.next {w w':q} {B:Nat} (h:IsD w g l) (a:Below B w w') (d:g<B):IsD w' g l:=by obtain⟨A,c,k,e,f,i⟩:=h;exact⟨A,c,k,e.below a d,IsIL.stb.to f (zqg a fun b h=>Nat.lt_trans h d),i⟩
theorem IsD.grown {w w':q} {r:Nat} (h:IsD w g l) (a:w.grownBy w' (some r)) (hr:g<r):IsD w' g l:=by have m:=h.lt;obtain⟨A,c,k,e,f,i⟩:=h;exact⟨A,c,k,e.grown a (fun d=>by cases d;omega),IsIL.stb.to f (ylo a fun b j=>⟨by omega,by omega⟩),i⟩
theorem IsD.far {w:q} (h:IsD w g l) {p:Addr} (d:g<p.block) (e:a):IsD (w.setCell p e) g l:=by obtain⟨A,c,k,i,j,m⟩:=h;refine⟨A,c,k,i.far og e,IsIL.stb.to j fun b n=>⟨n,fun o=> ?_⟩,m⟩;rw[s _ _ _ _ (fun f=>by rw[f] at d;simp at d;omega)]
theorem Only.grown {a b:q} (h:Only g a b):a.grownBy b (some g):=⟨h.os,h.tape,h.output,Nat.le_of_eq h.size.symm,fun k d hr=>h.block k (fun c=>hr (by rw[c]))⟩
def ynz (n:Nat) (a:Ending):Prop:=∃x:Nat,x<n/\a= .returned (.int .i64 (x:Int))
theorem yxo {w:q} (h:IsD w g l) {n:Nat} (al:1<=n) (an:n<=1000000):
 Calls Tryz.prog 31 #[.pointer (some ⟨g,0,none⟩),.int .i64 (n:Int)] w fun p w'=>ynz n p/\IsD w' g l/\Only g w w':=by
 obtain⟨A,c,k,hr,f,ab⟩:=id h;obtain⟨Q,N,M⟩:=F0 hr f h;have e:=hr.cell 0;have B:=hr.cell 1;have E:=hr.frozen 1;have H:l.length<=maxLen:=(by obtain⟨_,_,hv,Y,Z,_⟩:=f;omega);unfold maxLen at H;simp at e B;have aa:=hr.lt;obtain⟨m,i⟩:=nm (l.length);have v:=Lib.hid i;have aq:decide ((n:Int)<1)=false:=(by simp;omega);rcases Nat.lt_or_ge k l.length with I|ah
 ·obtain⟨x,J⟩:∃x,l[k]? =some x:=⟨_,z I⟩;obtain⟨F,b,off,rfl,ag,hc⟩:=yuo f J;have T:=Lib.hid hc;rw[<-i] at e I H ab;have ac:decide (m<=k)=false:=(by simp;omega);have C:=Lib.hid F;clear h hr f J hc i F;go_in;go_wp2_with fail;go_quiet (fail);obtain⟨d,a⟩:=nm (w.drewN nq);have V:d.cell? ⟨g,0,none⟩=some (.slice (some ⟨b,off,none⟩) m c):=(by rw[a];exact e);have W:d.cell? ⟨g,1,none⟩=some (.int .i64 (k:Int)):=(by rw[a];exact B);have X:d.frozen? ⟨g,1,none⟩=false:=(by rw[a];exact E);have L:Hid (d.cell? ⟨b,off+k,none⟩=some (.int .i64 x)):=(by rw[a];exact T.out);have R:Hid (Row d g 51 [.slice (some ⟨b,off,none⟩) m c,.int .i64 (k:Int)]):=(by rw[a,v.out];exact Q.out.drewN nq);have O:Hid (Only g w d):=(by rw[a];exact(Only.refl g w).drewN nq);rw[<-a];clear e B E a;go_wp2_with fail;obtain⟨t,j⟩:=nm (d.setCell ⟨g,1,none⟩ (.int .i64 ((k:Int)+1)));have u:Hid (Row t g 51 [.slice (some ⟨b,off,none⟩) m c,.int .i64 ((k:Int)+1)]):=(by rw[j];exact R.out.set_ 1 _);have P:Hid (Only g w t):=(by rw[j];exact O.out.setCell 1 _);have d0:=u.out.cell 0;have U:=u.out.cell 1;have ad:t.cell? ⟨b,off+k,none⟩=some (.int .i64 x):=(by rw[j,s _ _ _ _ (fun p=>by injection p with Y Z;omega)];exact L.out);simp at d0 U;have ae:IntKind.i64.wrap (k:Int)=(k:Int):=IntWalk.i64_in _ og;have af:(k:Int).toNat=k:=og;have ai:(0:Int)<=(k:Int):=og;have aj:(k:Int)<(m:Int):=og;rw[<-j];clear j V W X;go_quiet ((go_at_call 22;exact Calls.quiet_of_same ((ycz _ x (n:Int) C.out.1 C.out.2 og og).mono fun p w' h=>⟨h.1,h.2.symm⟩)));obtain⟨K,r⟩:=nm (t.drewN nq);have S:Hid (Row K g 51 [.slice (some ⟨b,off,none⟩) m c,.int .i64 ((k:Int)+1)]):=(by rw[r];exact u.out.drewN nq);have D:Hid (Only g w K):=(by rw[r];exact P.out.drewN nq);have m0:=Int.emod_nonneg x (show(n:Int)≠0 by omega);have ao:=Int.emod_lt_of_pos x (show(0:Int)<n by omega);rw[<-r];clear r;go_wp2_with fail;go_ret;refine⟨⟨(x%(n:Int)).toNat,by omega,K2 og⟩,⟨some ⟨b,off,none⟩,c,k+1,by rw[<-v.out];exact S.out,?_,by rw[<-v.out];omega⟩,D.out⟩;exact IsIL.stb.to N.out fun b G=>⟨G,fun o=>y (D.out.block b (by have:b<g:=G;omega))⟩
 ·have ak:k=m:=og;rw[<-i] at e;have ac:decide (m<=k)=true:=(by simp;omega);clear h hr f i;go_in;go_wp2_with fail;go_quiet (fail);go_wp2_with fail;go_ret;exact⟨⟨0,by omega,rfl⟩,M.out.next (Dr.below ⟨nq,rfl⟩ _) aa,(Only.refl g w).drewN nq⟩
theorem ztu {w:q} (h:IsD w g l) (n:Int) (f:1<=n) (i:n<=1000000):
 Calls Tryz.prog 31 #[.pointer (some ⟨g,0,none⟩),.int .i64 n] w fun b w'=>(∃x:Int,0<=x/\x<n/\b= .returned (.int .i64 x))/\IsD w' g l/\Only g w w':=by have b:n=((n.toNat:Nat):Int):=og;rw[b];exact(yxo h (n:=n.toNat) og og).mono fun b w' ⟨⟨x,j,e⟩,c,d⟩=>⟨⟨x,by omega,by omega,e⟩,c,d⟩
section
variable {P : Program} {ops : Array u} {Q : Exit → Act → q → Prop} {Φ : Nat → a → q → Prop} {e : Act} {h : q} {n : Nat}
end
theorem zkc {v:a} (h:t<T.size) (hv:T.getD t undef=v):T[t]? =some v:=by rw[Array.getElem?_eq_getElem h];simp only[Array.getD_eq_getD_getElem?,Array.getElem?_eq_getElem h,Option.getD_some] at hv;rw[hv]
theorem zog (h:t<T.size):∃v,T[t]? =some v/\T.getD t undef=v:=⟨_,zkc h rfl,rfl⟩
theorem M5 {ops:Array u} {A B:Prop} (a:o.guard=none) (h:A):
 if Region.wanted o (yielded ops T)=true then A else B:=by rw[if_pos (by simp[Region.wanted,a])];exact h
theorem zqe {P:Program} {id:Nat} {d:Bool} {Q:Exit->Act->q->Prop} {a:Act} {w:q} (h:∀ops,ops=lit->(Code.region id ops d).wp P Q a w):(Code.region id lit d).wp P Q a w:=h lit rfl
theorem H8 {ops:Array u} (h:ops=lit) (a:lit[j]? =some o):ops[j]? =some o:=by rw[h];exact a
theorem ydy {ops:Array u} (h:ops=lit) (t:Nat) (a:zmm lit t=false):zmm ops t=false:=by rw[h];exact a
theorem M6 {a:Prop} [Decidable a] (h:decide a=true):a:=of_decide_eq_true h
def K4 (T:Array a) (o:u):a:=match o.dst with|some d=>T.getD d undef|none=>undef
def zyg (ops:Array u) (n:Nat):Bool:=
 (List.range ops.size).all fun i=>(ops[i]?).any fun o=>
  (o.dst.all fun d=>decide (d<n)&&(List.range ops.size).all fun j=>decide (j=i)|| !((ops[j]?).any fun a=>a.dst==some d))&&(W7 o).all fun j=>decide (j<i)
section
variable {ops : Array u}
theorem yhx {n:Nat} (h:zyg ops n=true) (g:ops[i]? =some o):
 (∀d,o.dst=some d->d<n/\∀j f,ops[j]? =some f->f.dst=some d->j=i)/\∀j∈W7 o,j<i:=by unfold zyg at h;have m:i<ops.size:=(Array.getElem?_eq_some_iff.1 g).1;have c:=List.all_eq_true.1 h i (List.mem_range.2 m);rw[g] at c;simp only[Option.any_some,Bool.and_eq_true] at c;obtain⟨a,k⟩:=c;refine⟨fun d hd=> ?_,fun j b=>by simpa using List.all_eq_true.1 k j b⟩;rw[hd] at a;simp only[Option.all_some,Bool.and_eq_true,decide_eq_true_eq] at a;refine⟨a.1,fun j f b p=> ?_⟩;have l:j<ops.size:=(Array.getElem?_eq_some_iff.1 b).1;have e:=List.all_eq_true.1 a.2 j (List.mem_range.2 l);rw[b] at e;simp only[Option.any_some,p,beq_self_eq_true,Bool.not_true,Bool.or_false,decide_eq_true_eq] at e;exact e
end
end Go.Proofs.YtlhhbccgfkhflaaGreatDoor
