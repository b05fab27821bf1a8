/-
 The first table of a dictionary,and d c numbers b.
-/
import Derived.Test.YtpbilanpeioonaaGreatDoorProofDualProves05
namespace Go.Proofs.YtpbilanpeioonaaGreatDoor
set_option linter.unusedVariables false
open Go.RowKit
set_option maxRecDepth 100000
set_option maxHeartbeats 8000000
open _root_.Nat renaming le_refl → y, le_trans → E, lt_of_lt_of_le → z, lt_or_ge → F
open _root_.List renaming getD_eq_getElem?_getD → w, getElem?_eq_getElem → C, mem_of_getElem? → D, getElem?_map → B
open _root_.Go.World renaming cell?_setCell_other → q, cell?_of_block → a
open _root_.Go renaming World → e, Value → u
variable {M base g i j k lo o : Nat} {N d : Nat → Nat} {T : Nat → Prop} {f : Nat → Rat} {l : List Int} {r p s x : Option Nat} {t : TypeId} {xs : List u}
def zpt (R:List (List Rat)) (b c:List Rat) (v:Rat) (bas oth:List Nat) (m n:Nat):TB:=
 ⟨fun i j=>if i<m then zms (zwk R b m) i j else if j<n then -(zms [c++[v]] 0 j) else zms [c++[v]] 0 j,1,bas,oth⟩
def zqr (R:List (List Rat)) (b:List Rat) (i:Nat):Nat:=zld (R.getD i []++[b.getD i 0])
def zmg (c:List Rat) (v:Rat):Nat:=zld (c++[v])
def zox (bas:List Nat) (N:Nat->Nat):Nat->Nat->Nat
 |0,_=>1
 |k+1,v=>if bas.getD k 0=v then N k else zox bas N k v
theorem ynt {bas:List Nat} (h:∀i,0<N i):∀k v,0<zox bas N k v
 |0,_=>Nat.one_pos
 |k+1,v=>by
  rw[zox]
  split
  ·exact h k
  ·exact ynt h k v
theorem yns {bas:List Nat} {v:Nat}:∀{k},(∀i,i<k->bas.getD i 0≠v)->zox bas N k v=1
 |0,_=>rfl
 |k+1,h=>by rw[zox,if_neg (h k og)];exact yns fun i a=>h i og
theorem ynq {bas:List Nat}:∀{k},i<k->(∀j,j<k->bas.getD j 0=bas.getD i 0->j=i)->zox bas N k (bas.getD i 0)=N i
 |0,h,_=>by omega
 |k+1,h,hd=>by
  rw[zox]
  by_cases a:bas.getD k 0=bas.getD i 0
  ·rw[if_pos a,hd k og a]
  ·rw[if_neg a]
   have:i≠k:=fun b=>a (by rw[b])
   exact ynq og fun j c=>hd j og
def zoo (R:List (List Rat)) (b:List Rat) (bas:List Nat) (m:Nat):Nat->Nat:=zox bas (zqr R b) m
theorem ynl (R:List (List Rat)) (b:List Rat) (i:Nat):0<zqr R b i:=zzo _
theorem ypb (c:List Rat) (v:Rat):0<zmg c v:=zzo _
theorem zz1447 (R:List (List Rat)) (b:List Rat) (bas:List Nat) (m v:Nat):0<zoo R b bas m v:=ynt (ynl R b) m v
def zpd (i:Nat):RV:=fun x=>if x=i then 1 else 0
theorem yij:∀a,Y4 (List.range a) (Z6 a zpd)=1
 |0=>rfl
 |a+1=>by
  have b:Z6 (a+1) zpd=Z6 a zpd++[zpd a]:=by unfold Z6;rw[List.range_succ,List.map_append];rfl
  rw[List.range_succ,b,ytd a (List.range a) (fun c hc=>by have:=List.mem_range.1 hc;unfold zpd;rw[if_neg og]) (Z6 a zpd) (by unfold Z6;simp),yij a]
  unfold zpd
  rw[if_pos rfl];grind
theorem ywf {f:Nat->Int} {a:Nat->Prop} [DecidablePred a]:zrb (fun x=>if a x then((f x:Int):Rat) else 0):=fun x=>by
 show∃z:Int,(if a x then((f x:Int):Rat) else 0)=(z:Rat)
 split
 ·exact⟨f x,rfl⟩
 ·exact⟨0,rfl⟩
theorem yad {z:Int} (h:z.natAbs<=M): -(M:Rat)<=(z:Rat)/\(z:Rat)<=(M:Rat):=by have a:((M:Nat):Rat)=((M:Int):Rat):=(Rat.intCast_natCast M).symm;rw[a,<-Rat.intCast_neg,Rat.intCast_le_intCast,Rat.intCast_le_intCast];omega
theorem zz1461 {m n:Nat} {t:TB} (hd:t.d=1) (g:t.bas.length=m) (o:t.oth.length=n) (l:(t.bas++t.oth).Nodup) (k:∀v∈t.bas++t.oth,v<m+n) (e:1<=M) (f:∀i j,i<=m->j<=n->(t.A i j).natAbs<=M):TInv M m n t where
 cram:=by
  have c:(0:Rat)=((0:Int):Rat):=rfl
  refine⟨zpd,fun j x=>if x<m+1 then((t.A x j:Int):Rat) else 0,⟨by rw[hd];exact Nat.one_pos,fun i _ x=> ?_,fun j _=>ywf,.inl ?_,fun j _ x=> ?_⟩,fun i _ x=> ?_,fun j h x=> ?_⟩
  ·unfold zpd
   split
   ·exact⟨1,rfl⟩
   ·exact⟨0,rfl⟩
  ·rw[hd,yij];rfl
  ·rw[hd]
   show((1:Int):Rat)*(if x<m+1 then((t.A x j:Int):Rat) else 0)=_
   have d:((1:Int):Rat)=1:=rfl
   rw[d,Rat.one_mul]
   by_cases a:x<m+1
   ·rw[if_pos a,znl a fun i _ b=>by unfold zpd;rw[if_neg (Ne.symm b)];grind]
    unfold zpd;rw[if_pos rfl];grind
   ·rw[if_neg a,zmf fun i b=>by unfold zpd;rw[if_neg og];grind]
  ·unfold zpd
   split
   ·exact yad (z:=1) (by simpa using e)
   ·rw[c];exact yad (by simp)
  ·show _<=(if x<m+1 then((t.A x j:Int):Rat) else 0)/\(if x<m+1 then((t.A x j:Int):Rat) else 0)<=_
   by_cases a:x<m+1
   ·rw[if_pos a];exact yad (f x j og h)
   ·rw[if_neg a,c];exact yad (by simp)
 bl:=g;ol:=o;dist:=l;lt:=k
section
variable {R : List (List Rat)} {b c : List Rat} {v : Rat} {bas oth : List Nat} {m n : Nat}
theorem yzf (g:R.length=m) (k:b.length=m) (f:∀r∈R,r.length=n) (a:i<m) (l:j<=n):
 (((zpt R b c v bas oth m n).A i j:Int):Rat)=(if j<n then(R.getD i []).getD j 0 else b.getD i 0)*((zqr R b i:Nat):Rat):=by
 show((if i<m then zms (zwk R b m) i j else _:Int):Rat)=_;rw[if_pos a];have hr:R[i]? =some (R.getD i []):=(by rw[w,C og];rfl);have e:=yfx (b:=b) (n:=m) (m:=n) a hr;have d:(R.getD i []).length=n:=f _ (D hr);by_cases h:j<n
 ·rw[if_pos h,zzs e (zzg d h)];rfl
 ·obtain rfl:j=n:=og;rw[if_neg h,zzs e (ydc d)];rfl
theorem yzc (hc:c.length=n) (a:j<=n):
 (((zpt R b c v bas oth m n).A m j:Int):Rat)=(if j<n then -(c.getD j 0) else v)*((zmg c v:Nat):Rat):=by
 show((if m<m then _ else if j<n then -(zms [c++[v]] 0 j) else zms [c++[v]] 0 j:Int):Rat)=_;rw[if_neg og];by_cases h:j<n
 ·rw[if_pos h,if_pos h,Rat.intCast_neg,zzs (b:=[c++[v]]) (i:=0) rfl (zzg hc h)];show -(_*((zmg c v:Nat):Rat))=_;grind
 ·obtain rfl:j=n:=og;rw[if_neg h,if_neg h,zzs (b:=[c++[v]]) (i:=0) rfl (ydc hc)];rfl
theorem ylo (x:Nat) (h:0<x):((x:Nat):Rat)*((x:Nat):Rat)⁻¹=1:=Rat.mul_inv_cancel _ (zwc h)
theorem yzd (o:R.length=m) (p:b.length=m) (u:∀r∈R,r.length=n) (hc:c.length=n) (w:bas.length=m) (x:oth.length=n) (t:(bas++oth).Nodup) (q:i<=m) (e:j<=n):
 (L7 (zoo R b bas m) (zmg c v) m n (zpt R b c v bas oth m n)).D i j=if i<m then(if j<n then(R.getD i []).getD j 0 else b.getD i 0) else if j<n then -(c.getD j 0) else v:=by
 have f:=List.nodup_append.1 t;show(if i<=m/\j<=n then(((zpt R b c v bas oth m n).A i j:Int):Rat)*((1:Int):Rat)⁻¹*uc (zoo R b bas m) n (fun j=>oth.getD j 0) j*(ur (zoo R b bas m) (zmg c v) m (fun i=>bas.getD i 0) i)⁻¹ else 0)=_;rw[if_pos ⟨q,e⟩];have g:((1:Int):Rat)⁻¹=1:=zvm (Rat.mul_one 1)
 have l:uc (zoo R b bas m) n (fun j=>oth.getD j 0) j=1:=by
  unfold uc;split
  ·rename_i h;have:zoo R b bas m (oth.getD j 0)=1:=yns fun k s a=>f.2.2 _ (zkp og) _ (zkp (l:=oth) (i:=j) og) a;rw[this];rfl
  ·rfl
 rw[g,l,Rat.mul_one,Rat.mul_one];by_cases h:i<m
 ·rw[if_pos h,yzf o p u h e];have d:ur (zoo R b bas m) (zmg c v) m (fun i=>bas.getD i 0) i=((zqr R b i:Nat):Rat):=(by unfold ur;rw[if_pos h];have:zoo R b bas m (bas.getD i 0)=zqr R b i:=ynq h fun k s a=>zqm f.1 og og a;rw[this]);rw[d,Rat.mul_assoc,ylo _ (ynl R b i),Rat.mul_one]
 ·obtain rfl:i=m:=og;rw[if_neg h,yzc hc e];have d:ur (zoo R b bas i) (zmg c v) i (fun i=>bas.getD i 0) i=((zmg c v:Nat):Rat):=(by unfold ur;rw[if_neg h]);rw[d,Rat.mul_assoc,ylo _ (ypb c v),Rat.mul_one]
end
theorem yjd {m n:Nat} {S T:Dic} (c:∀i,i<m->S.bas i=T.bas i) (b:∀j,j<n->S.oth j=T.oth j) (hD:∀i j,i<=m->j<=n->S.D i j=T.D i j) {x:Nat->Rat} {z s:Rat} (h:Fit1 m n S x z s):Fit1 m n T x z s where
 row i hi:=by
  rw[<-c i hi,<-hD i n og (y _),<-h.row i hi]
  congr 1
  exact U3 fun j a=>by rw[<-hD i j og og,<-b j a]
 obj:=by rw[<-hD m n (y _) (y _),<-h.obj];congr 1;exact U3 fun j a=>by rw[<-hD m j (y _) og,<-b j a]
theorem yun {m n:Nat} {S T:Dic} (c:∀i,i<m->S.bas i=T.bas i) (d:∀j,j<n->S.oth j=T.oth j) (hD:∀i j,i<=m->j<=n->S.D i j=T.D i j):Eqv m n S T:=fun x z s=>
 ⟨yjd c d hD,yjd (fun i a=>(c i a).symm) (fun j b=>(d j b).symm) fun i j a b=>(hD i j a b).symm⟩
theorem yze {R:List (List Rat)} {b c:List Rat} {m n:Nat} (q:R.length=m) (s:b.length=m) (u:∀r∈R,r.length=n) (hc:c.length=n) {bas oth:List Nat} (l:bas=(List.range m).map fun i=>n+i) (p:oth=List.range n):
 Eqv m n (W4 m n (fun i j=>(R.getD i []).getD j 0) (fun i=>b.getD i 0) fun j=>c.getD j 0) (L7 (zoo R b bas m) (zmg c 0) m n (zpt R b c 0 bas oth m n)):=by
 have f:bas.length=m:=(by rw[l];simp);have o:oth.length=n:=(by rw[p];simp);have g:∀i,i<m->bas.getD i 0=n+i:=fun i a=>(by rw[l,w,B,List.getElem?_range a];rfl);have go:∀j,j<n->oth.getD j 0=j:=fun j d=>by rw[p,w,List.getElem?_range d];rfl
 have t:(bas++oth).Nodup:=zzz fun i j a d e=>by
  rw[List.length_append,f,o] at a d
  have key:∀k,k<m+n->(bas++oth).getD k 0=if k<m then n+k else k-m:=fun k v=>by
   rw[w,List.getElem?_append,f];split
   ·rename_i h;rw[<-w];exact g k h
   ·rename_i h;rw[<-w];exact go _ og
  rw[key i a,key j d] at e;split at e<;>split at e<;>omega
 refine yun (fun i a=>(g i a).symm) (fun j d=>(go j d).symm) fun i j a d=> ?_;rw[yzd q s u hc f o t a d];show(if i<m then(if j<n then(R.getD i []).getD j 0 else b.getD i 0) else if j<n then -(c.getD j 0) else 0)=_;rfl
def V6 (n:Nat) (f:Nat->Rat):List Rat:=(List.range n).map f
theorem zwj (n:Nat) (f:Nat->Rat):(V6 n f).length=n:=by unfold V6;simp
theorem ybj {n:Nat} (h:j<n):(V6 n f)[j]? =some (f j):=by unfold V6;rw[B,List.getElem?_range h];rfl
theorem ypk {n:Nat} (h:j<n):(V6 n f).getD j 0=f j:=by rw[w,ybj h];rfl
theorem ybk {n:Nat} {q:Rat} (h:q∈V6 n f):∃j,j<n/\q=f j:=by unfold V6 at h;obtain⟨j,b,a⟩:=List.mem_map.1 h;exact⟨j,List.mem_range.1 b,a.symm⟩
def zqg (A:List (List Rat)) (Y:List Rat) (k:Nat):Rat:=C9 A.length fun i=>(A.getD i []).getD k 0*Y.getD i 0
structure Feas (A:List (List Rat)) (b:List Rat) (n:Nat) (X:List Rat):Prop where
 len:X.length=n
 nn:∀x∈X,0<=x
 le:∀i r,A[i]? =some r->K9 r X<=b.getD i 0
structure Mult (A:List (List Rat)) (b:List Rat) (n:Nat) (f:Nat->Rat) (Y:List Rat):Prop where
 len:Y.length=b.length
 nn:∀y∈Y,0<=y
 ge:∀k,k<n->f k<=zqg A Y k
structure RayQ (A:List (List Rat)) (n:Nat) (Z:List Rat):Prop where
 len:Z.length=n
 nn:∀x∈Z,0<=x
 le:∀r∈A,K9 r Z<=0
structure CertOpt (A:List (List Rat)) (b c X Y:List Rat) (V:Rat):Prop where
 x:Feas A b c.length X
 y:Mult A b c.length (fun k=>c.getD k 0) Y
 vx:K9 c X=V
 vy:K9 b Y=V
structure CertNone (A:List (List Rat)) (b c Y:List Rat):Prop where
 y:Mult A b c.length (fun _=>0) Y
 vy:K9 b Y<0
structure CertRay (A:List (List Rat)) (b c X Z:List Rat):Prop where
 x:Feas A b c.length X
 z:RayQ A c.length Z
 up:0<K9 c Z
section
variable {A : List (List Rat)} {b c : List Rat} {m n : Nat} {S : Dic}
abbrev aF (A:List (List Rat)) (i j:Nat):Rat:=(A.getD i []).getD j 0
abbrev lF (b:List Rat) (i:Nat):Rat:=b.getD i 0
theorem ycv {r:List Rat} {n:Nat} (hr:r.length=n) (f:Nat->Rat):K9 r (V6 n f)=C9 n fun j=>r.getD j 0*f j:=by rw[zub r _ (by rw[zwj,hr]),hr];exact U3 fun j a=>by rw[ypk a]
theorem yjr {A:List (List Rat)} {r:List Rat} (h:A[i]? =some r):A.getD i []=r:=by rw[w,h];rfl
theorem yja (e:A.length=m) (h:∀r∈A,r.length=n) (c:∀v,0<=f v) (d:∀i,i<m->C9 n (fun j=>aF A i j*f j)<=lF b i):Feas A b n (V6 n f) where
 len:=zwj n f
 nn x hx:=by obtain⟨j,_,rfl⟩:=ybk hx;exact c j
 le i r hr:=by have g:i<m:=(by rw[<-e];exact(List.getElem?_eq_some_iff.1 hr).1);have:=d i g;rw[ycv (h r (D hr))];have a:aF A i=fun j=>r.getD j 0:=(by funext j;unfold aF;rw[yjr hr]);rw[show(fun j=>r.getD j 0*f j)=fun j=>aF A i j*f j by rw[a]];exact this
theorem zz1412 (g:A.length=m) (e:∀r∈A,r.length=n) (b:∀v,0<=f v) (c:∀i,i<m->C9 n (fun j=>aF A i j*f j)<=0):RayQ A n (V6 n f) where
 len:=zwj n f
 nn x hx:=by obtain⟨j,_,rfl⟩:=ybk hx;exact b j
 le r hr:=by obtain⟨i,d,rfl⟩:=List.getElem_of_mem hr;have:=c i og;rw[ycv (e _ hr)];have a:aF A i=fun j=>(A[i]).getD j 0:=(by funext j;unfold aF;rw[yjr (C d)]);rw[show(fun j=>(A[i]).getD j 0*f j)=fun j=>aF A i j*f j by rw[a]];exact this
theorem yln (d:A.length=m) (e:b.length=m) {g y:Nat->Rat} (a:∀v,0<=y v) (c:∀k,k<n->g k<=C9 m fun i=>aF A i k*y (n+i)):Mult A b n g (V6 m fun i=>y (n+i)) where
 len:=by rw[zwj,e]
 nn x hx:=by obtain⟨j,_,rfl⟩:=ybk hx;exact a _
 ge k hk:=by have:=c k hk;unfold zqg;rw[d];rw[show C9 m (fun i=>(A.getD i []).getD k 0*(V6 m fun i=>y (n+i)).getD i 0)=C9 m fun i=>aF A i k*y (n+i) from U3 fun i f=>by rw[ypk f]];exact this
def zus (m n:Nat) (S:Dic):List Rat:=V6 n (zki m n S (fun _=>0) 1)
def zxm (m n:Nat) (S:Dic):List Rat:=V6 m fun i=>zkf n S.oth (S.D m) (n+i)
def zxl (m n:Nat) (S:Dic) (r:Nat):List Rat:=V6 m fun i=>zkf n S.oth (S.D r) (n+i)+if S.bas r=n+i then 1 else 0
def zxs (m n:Nat) (S:Dic) (k:Nat):List Rat:=V6 n (zki m n S (fun j=>if j=k then 1 else 0) 0)
theorem zzb {b:List Rat} (a:b.length=m) (f:Nat->Rat):K9 b (V6 m f)=C9 m fun i=>lF b i*f i:=ycv a f
theorem ysc (a:A.length=m) (e:b.length=m) (hc:c.length=n) (q:∀r∈A,r.length=n) (o:Dist m n S) (d:Eqv m n (W4 m n (aF A) (lF b) (lF c)) S) (p:∀j,j<n->S.oth j<n+m)
 (k:∀i,i<m->0<=S.D i n) (l:∀j,j<n->0<=S.D m j):CertOpt A b c (zus m n S) (zxm m n S) (S.D m n):=by obtain⟨s,t,u⟩:=yhk o d k;obtain⟨f,g,h⟩:=yse d p l;subst hc;exact⟨yja a q s t,yln a e h g,by rw[zus,zzb rfl];exact u,by rw[zxm,zzb e];exact f⟩
theorem ysb (i:A.length=m) (a:b.length=m) (hc:c.length=n) (k:Eqv m n (W4 m n (aF A) (lF b) (lF c)) S) (o:∀j,j<n->S.oth j<n+m) {r:Nat} (hr:r<m) (l:S.bas r<n+m)
 (g:S.D r n<0) (h:∀j,j<n->0<=S.D r j):CertNone A b c (zxl m n S r):=by obtain⟨d,e,f⟩:=ysf k o hr l h;subst hc;exact⟨yln (y:=fun v=>zkf c.length S.oth (S.D r) v+if S.bas r=v then 1 else 0) i a f e,by rw[zxl,zzb a,d];exact g⟩
theorem ysd (a:A.length=m) (t:b.length=m) (hc:c.length=n) (f:∀r∈A,r.length=n) (e:Dist m n S) (d:Eqv m n (W4 m n (aF A) (lF b) (lF c)) S) (l:k<n)
 (g:∀i,i<m->0<=S.D i n) (h:S.D m k<0) (j:∀i,i<m->S.D i k<=0):CertRay A b c (zus m n S) (zxs m n S k):=by obtain⟨o,p,_⟩:=yhk e d g;obtain⟨q,s,q3⟩:=ysg e d l h j;subst hc;exact⟨yja a f o p,zz1412 a f q s,by rw[zxs,zzb rfl];exact q3⟩
end
theorem yoq {n:Nat} {g:Nat->Rat} (h:∀i,i<n->f i<=g i):C9 n f<=C9 n g:=by
 induction n with
 |zero=>exact Rat.le_refl
 |succ n ih=>have a:=ih fun i c=>h i og;have b:=h n og;rw[C9,C9];grind
theorem yjq {X:List Rat} (h:∀x∈X,0<=x) (k:Nat):0<=X.getD k 0:=by
 rw[w];cases e:X[k]? with
 |none=>exact Rat.le_refl
 |some x=>exact h x (D e)
section
variable {A : List (List Rat)} {b c X Y Z : List Rat} {n : Nat}
theorem ypl (a:Feas A b n X) (c:Mult A b n f Y) (m:A.length=b.length) (q:∀r∈A,r.length=n):(C9 n fun k=>f k*X.getD k 0)<=K9 b Y:=by have d:(C9 n fun k=>f k*X.getD k 0)<=C9 n fun k=>zqg A Y k*X.getD k 0:=yoq fun k p=>(by have:=Rat.mul_le_mul_of_nonneg_right (c.ge k p) (yjq a.nn k);exact this);have h:(C9 n fun k=>zqg A Y k*X.getD k 0)=C9 A.length fun i=>(C9 n fun k=>(A.getD i []).getD k 0*X.getD k 0)*Y.getD i 0:=(by have g:(C9 n fun k=>zqg A Y k*X.getD k 0)=C9 n fun k=>C9 A.length fun i=>((A.getD i []).getD k 0*X.getD k 0)*Y.getD i 0:=U3 fun k _=>(by unfold zqg;have:X.getD k 0*(C9 A.length fun i=>(A.getD i []).getD k 0*Y.getD i 0)=C9 A.length fun i=>X.getD k 0*((A.getD i []).getD k 0*Y.getD i 0):=(zpa _ _ _).symm;rw[Rat.mul_comm,this];exact U3 fun i _=>by grind);rw[g,zz1472];refine U3 fun i _=> ?_;have:Y.getD i 0*(C9 n fun k=>(A.getD i []).getD k 0*X.getD k 0)=C9 n fun k=>Y.getD i 0*((A.getD i []).getD k 0*X.getD k 0):=(zpa _ _ _).symm;rw[Rat.mul_comm,this];exact U3 fun k _=>by grind);have j:(C9 A.length fun i=>(C9 n fun k=>(A.getD i []).getD k 0*X.getD k 0)*Y.getD i 0)<=C9 A.length fun i=>b.getD i 0*Y.getD i 0:=yoq fun i o=>(by have hr:A[i]? =some (A.getD i []):=(by rw[w,C o];rfl);have:=a.le i _ hr;have e:(A.getD i []).length=n:=q _ (D hr);rw[zub _ _ (by rw[e,a.len]),e] at this;exact Rat.mul_le_mul_of_nonneg_right this (yjq c.nn i));have l:K9 b Y=C9 A.length fun i=>b.getD i 0*Y.getD i 0:=(by rw[zub _ _ c.len.symm,m]);rw[l];rw[h] at d;exact Rat.le_trans d j
theorem ytz (h:c.length=n) (a:X.length=n):K9 c X=C9 n fun k=>c.getD k 0*X.getD k 0:=by rw[zub c X og,h]
theorem CertOpt.best {a:Rat} (h:CertOpt A b c Y Z a) (e:A.length=b.length) (f:∀r∈A,r.length=c.length) (d:Feas A b c.length X):K9 c X<=a:=by have:=ypl d h.y e f;rw[ytz rfl d.len,<-h.vy];exact this
theorem CertNone.no (h:CertNone A b c Y) (e:A.length=b.length) (f:∀r∈A,r.length=c.length) (g:Feas A b c.length X):False:=by have a:=ypl g h.y e f;have d:(C9 c.length fun k=>(0:Rat)*X.getD k 0)=0:=zmf fun k _=>(by grind);have i:=h.vy;rw[d] at a;grind
end
structure MatW (w:e) (S:Nat->Prop) (r0:Nat) (d cp:Nat->Nat) (n m:Nat) (A:Nat->Nat->Int):Prop where
 hd:∀i,i<n->w.cell? ⟨r0,i,none⟩=some (.slice (some ⟨d i,0,none⟩) m (cp i))
 hf:∀i,i<n->w.frozen? ⟨r0,i,none⟩=false
 cap:∀i,i<n->m<=cp i/\cp i<=maxLen
 el:∀i j,i<n->j<m->∃P k Q l,w.cell? ⟨d i,j*3,none⟩=some (.bool (decide (A i j<0)))/\w.cell? ⟨d i,j*3+1,none⟩=some (.slice P (A9 (A i j).natAbs).length k)/\w.cell? ⟨d i,j*3+2,none⟩=some (.slice Q (A9 1).length l)/\
  IsQ w S (.agg #[.bool (decide (A i j<0)),.slice P (A9 (A i j).natAbs).length k,.slice Q (A9 1).length l]) ((A i j:Int):Rat)
 ef:∀i o,i<n->o<m*3->w.frozen? ⟨d i,o,none⟩=false
 inj:∀i k,i<n->k<n->d i=d k->i=k
 sep:∀i,i<n->d i≠r0/\¬S (d i)/\d i<w.heap.size
 s0:¬S r0/\r0<w.heap.size
 sS:∀b,S b->b<w.heap.size
theorem MatW.keep {w w':e} {S:Nat->Prop} {r0:Nat} {cp:Nat->Nat} {n m:Nat} {A:Nat->Nat->Int} (h:MatW w S r0 d cp n m A) (B:w.heap.size<=w'.heap.size)
 (r:w'.heap[r0]? =w.heap[r0]?) (hr:∀i,i<n->w'.heap[d i]? =w.heap[d i]?) (x:∀b,S b->w'.heap[b]? =w.heap[b]?)
 (y:∀b,S b->T b) (q:∀b,T b->S b\/(w.heap.size<=b/\b<w'.heap.size)):MatW w' T r0 d cp n m A where
 hd i hi:=(a r).trans (h.hd i hi)
 hf i hi:=(World.frozen?_of_block r).trans (h.hf i hi)
 cap:=h.cap
 el i j hi hj:=by
  obtain⟨t,k,u,l,g,p,s,v⟩:=h.el i j hi hj
  exact⟨t,k,u,l,(a (hr i hi)).trans g,(a (hr i hi)).trans p,(a (hr i hi)).trans s,IsQ.stb.to v fun b f=>⟨y b f,fun o=>a (x b f)⟩⟩
 ef i o hi z:=(World.frozen?_of_block (hr i hi)).trans (h.ef i o hi z);inj:=h.inj;sep i hi:=(by obtain⟨g,p,s⟩:=h.sep i hi;exact⟨g,fun h=>by rcases q _ h with h|h;exact p h;omega,by omega⟩);s0:=⟨fun c=>by rcases q _ c with c|c;exact h.s0.1 c;have:=h.s0.2;omega,by have:=h.s0.2;omega⟩
 sS b f:=by
  rcases q b f with c|c
  ·have:=h.sS b c;omega
  ·exact c.2
theorem MatW.next {w w':e} {S:Nat->Prop} {r0:Nat} {cp:Nat->Nat} {n m:Nat} {A:Nat->Nat->Int} (h:MatW w S r0 d cp n m A) (a:Below w.heap.size w w')
 (c:∀b,S b->T b) (f:∀b,T b->S b\/(w.heap.size<=b/\b<w'.heap.size)):MatW w' T r0 d cp n m A:=
 h.keep a.size (a.block _ h.s0.2) (fun i j=>a.block _ (h.sep i j).2.2) (fun b g=>a.block _ (h.sS b g)) c f
theorem zsl (w:e) (a:Addr) (b:u):(w.setCell a b).heap.size=w.heap.size:=by simp[World.setCell]
abbrev T4 (w:e) (b j:Nat) (x y z:u):e:=((w.setCell ⟨b,j*3,none⟩ x).setCell ⟨b,j*3+1,none⟩ y).setCell ⟨b,j*3+2,none⟩ z
theorem zqo {w:e} {b:Nat} {x y z:u} {c:Nat} (h:c≠b\/o<j*3\/j*3+3<=o):(T4 w b j x y z).cell? ⟨c,o,none⟩=w.cell? ⟨c,o,none⟩:=by unfold T4;rw[q _ _ _ _ (fun a=>by injection a with d f;omega),q _ _ _ _ (fun a=>by injection a with d f;omega),q _ _ _ _ (fun a=>by injection a with d f;omega)]
theorem ymt {w:e} {b:Nat} {x y z i f g:u} (h:w.cell? ⟨b,j*3,none⟩=some i) (c:w.cell? ⟨b,j*3+1,none⟩=some f) (d:w.cell? ⟨b,j*3+2,none⟩=some g):
 (T4 w b j x y z).cell? ⟨b,j*3,none⟩=some x/\(T4 w b j x y z).cell? ⟨b,j*3+1,none⟩=some y/\(T4 w b j x y z).cell? ⟨b,j*3+2,none⟩=some z:=by
 unfold T4;refine⟨?_,?_,?_⟩
 ·rw[q _ _ _ _ (fun a=>by injection a with c d;omega),q _ _ _ _ (fun a=>by injection a with c d;omega)];exact World.cell?_setCell_same _ _ _ h
 ·rw[q _ _ _ _ (fun a=>by injection a with c d;omega)];refine World.cell?_setCell_same _ _ _ (u:=f) ?_;rw[q _ _ _ _ (fun a=>by injection a with c d;omega)];exact c
 ·refine World.cell?_setCell_same _ _ _ (u:=g) ?_;rw[q _ _ _ _ (fun a=>by injection a with c d;omega),q _ _ _ _ (fun a=>by injection a with c d;omega)];exact d
theorem ymu {w:e} {b:Nat} {x y z:u} (a:Addr):(T4 w b j x y z).frozen? a=w.frozen? a:=by unfold T4;simp
theorem zrk {w:e} {b:Nat} {x y z:u}:(T4 w b j x y z).heap.size=w.heap.size:=by unfold T4;rw[zsl,zsl,zsl]
def zyg (A:Nat->Nat->Int) (i j:Nat) (z:Int):Nat->Nat->Int:=fun a b=>if a=i/\b=j then z else A a b
theorem MatW.put {w:e} {S:Nat->Prop} {r0:Nat} {cp:Nat->Nat} {n m:Nat} {A:Nat->Nat->Int} (h:MatW w S r0 d cp n m A) (x:i<n) (M:j<m) {z:Int} {f g:Option Addr} {l:Nat}
 (L:IsQ w S (.agg #[.bool (decide (z<0)),.slice f (A9 z.natAbs).length k,.slice g (A9 1).length l]) ((z:Int):Rat)):
 MatW (T4 w (d i) j (.bool (decide (z<0))) (.slice f (A9 z.natAbs).length k) (.slice g (A9 1).length l)) S r0 d cp n m (zyg A i j z) where
 hd a ha:=(zqo (.inl (Ne.symm (h.sep i x).1))).trans (h.hd a ha)
 hf a ha:=(ymu _).trans (h.hf a ha)
 cap:=h.cap
 el a b ha q:=by
  have D:L8 S S w (T4 w (d i) j (.bool (decide (z<0))) (.slice f (A9 z.natAbs).length k) (.slice g (A9 1).length l)):=fun c hc=>⟨hc,fun o=>zqo (.inl fun p=>(h.sep i x).2.1 (by rw[<-p];exact hc))⟩
  by_cases v:a=i/\b=j
  ·obtain⟨rfl,rfl⟩:=v
   obtain⟨B,E,C,F,s,t,u,_⟩:=h.el a b ha q
   obtain⟨G,H,I⟩:=ymt (x:= .bool (decide (z<0))) (y:= .slice f (A9 z.natAbs).length k) (z:= .slice g (A9 1).length l) s t u
   have y:zyg A a b z a b=z:=by unfold zyg;rw[if_pos ⟨rfl,rfl⟩]
   rw[y]
   exact⟨f,k,g,l,G,H,I,IsQ.stb.to L D⟩
  ·obtain⟨B,E,C,F,s,t,u,J⟩:=h.el a b ha q
   have y:zyg A i j z a b=A a b:=by unfold zyg;rw[if_neg v]
   have N:d a≠d i\/b<j\/j<b:=by
    by_cases p:a=i
    ·have:b≠j:=fun r=>v ⟨p,r⟩
     omega
    ·exact .inl fun r=>p (h.inj a i ha x r)
   rw[y]
   exact⟨B,E,C,F,(zqo og).trans s,(zqo og).trans t,(zqo og).trans u,IsQ.stb.to J D⟩
 ef a o ha K:=(ymu _).trans (h.ef a o ha K);inj:=h.inj;sep a ha:=⟨(h.sep a ha).1,(h.sep a ha).2.1,by rw[zrk];exact(h.sep a ha).2.2⟩;s0:=⟨h.s0.1,by rw[zrk];exact h.s0.2⟩;sS b q:=by rw[zrk];exact h.sS b q
def swF {b:Type} (f:Nat->b) (i k:Nat):Nat->b:=fun a=>if a=i then f k else if a=k then f i else f a
theorem zqx {a:Type} (f:Nat->a) (i k:Nat):swF f i k i=f k:=if_pos rfl
theorem zqy {a:Type} (f:Nat->a) (i k:Nat):swF f i k k=f i:=by
 unfold swF;split
 ·rename_i h;rw[h]
 ·rw[if_pos rfl]
theorem zpb {d:Type} (f:Nat->d) {a:Nat} (b:a≠i) (c:a≠k):swF f i k a=f a:=by unfold swF;rw[if_neg b,if_neg c]
theorem MatW.swap {w:e} {S:Nat->Prop} {r0:Nat} {cp:Nat->Nat} {n m:Nat} {A:Nat->Nat->Int} (h:MatW w S r0 d cp n m A) (s:i<n) (t:k<n) (I:i≠k):
 MatW ((w.setCell ⟨r0,i,none⟩ (.slice (some ⟨d k,0,none⟩) m (cp k))).setCell ⟨r0,k,none⟩ (.slice (some ⟨d i,0,none⟩) m (cp i))) S r0 (swF d i k) (swF cp i k) n m (swF A i k):=by
 have oth:∀b o,b≠r0->((w.setCell ⟨r0,i,none⟩ (.slice (some ⟨d k,0,none⟩) m (cp k))).setCell ⟨r0,k,none⟩ (.slice (some ⟨d i,0,none⟩) m (cp i))).cell? ⟨b,o,none⟩=w.cell? ⟨b,o,none⟩:=fun b o r=>(by rw[q _ _ _ _ (fun p=>by injection p with f g;exact r f.symm),q _ _ _ _ (fun p=>by injection p with f g;exact r f.symm)]);have u:∀a,a<n->a=i\/a=k\/(a≠i/\a≠k):=fun a _=>(by omega);refine⟨fun a ha=> ?_,fun a ha=> ?_,fun a ha=> ?_,fun a b ha r=> ?_,fun a o ha H=> ?_,fun a b ha r j=> ?_,fun a ha=> ?_,⟨h.s0.1,by rw[zsl,zsl];exact h.s0.2⟩,fun b r=>by rw[zsl,zsl];exact h.sS b r⟩
 ·rcases u a ha with rfl|rfl|⟨f,g⟩
  ·rw[zqx,zqx,q _ _ _ _ (fun p=>by injection p with f g;omega)];exact World.cell?_setCell_same _ _ _ (h.hd _ s)
  ·rw[zqy,zqy];refine World.cell?_setCell_same _ _ _ (u:= .slice (some ⟨d a,0,none⟩) m (cp a)) ?_;rw[q _ _ _ _ (fun p=>by injection p with f g;omega)];exact h.hd _ t
  ·rw[zpb _ f g,zpb _ f g,q _ _ _ _ (fun p=>by injection p with D E;omega),q _ _ _ _ (fun p=>by injection p with D E;omega)];exact h.hd a ha
 ·simp only[World.frozen?_setCell];exact h.hf a ha
 ·rcases u a ha with rfl|rfl|⟨f,g⟩
  ·rw[zqx];exact h.cap _ t
  ·rw[zqy];exact h.cap _ s
  ·rw[zpb _ f g];exact h.cap _ ha
 ·have G:L8 S S w ((w.setCell ⟨r0,i,none⟩ (.slice (some ⟨d k,0,none⟩) m (cp k))).setCell ⟨r0,k,none⟩ (.slice (some ⟨d i,0,none⟩) m (cp i))):=fun c hc=>⟨hc,fun o=>oth c o fun p=>h.s0.1 (by rw[<-p];exact hc)⟩;rcases u a ha with rfl|rfl|⟨f,g⟩
  ·rw[zqx,zqx];obtain⟨v,F,x,l,y,z,B,C⟩:=h.el _ b t r;exact⟨v,F,x,l,(oth _ _ (h.sep _ t).1).trans y,(oth _ _ (h.sep _ t).1).trans z,(oth _ _ (h.sep _ t).1).trans B,IsQ.stb.to C G⟩
  ·rw[zqy,zqy];obtain⟨v,F,x,l,y,z,B,C⟩:=h.el _ b s r;exact⟨v,F,x,l,(oth _ _ (h.sep _ s).1).trans y,(oth _ _ (h.sep _ s).1).trans z,(oth _ _ (h.sep _ s).1).trans B,IsQ.stb.to C G⟩
  ·rw[zpb _ f g,zpb _ f g];obtain⟨v,F,x,l,y,z,B,C⟩:=h.el _ b ha r;exact⟨v,F,x,l,(oth _ _ (h.sep _ ha).1).trans y,(oth _ _ (h.sep _ ha).1).trans z,(oth _ _ (h.sep _ ha).1).trans B,IsQ.stb.to C G⟩
 ·simp only[World.frozen?_setCell];rcases u a ha with rfl|rfl|⟨f,g⟩
  ·rw[zqx];exact h.ef _ _ t H
  ·rw[zqy];exact h.ef _ _ s H
  ·rw[zpb _ f g];exact h.ef _ _ ha H
 ·rcases u a ha with rfl|rfl|⟨f,g⟩<;>rcases u b r with rfl|rfl|⟨D,E⟩
  ·rfl
  ·rw[zqx,zqy] at j;exact absurd (h.inj _ _ t s j) og
  ·rw[zqx,zpb _ D E] at j;exact absurd (h.inj _ _ t r j) og
  ·rw[zqy,zqx] at j;exact absurd (h.inj _ _ s t j) og
  ·rfl
  ·rw[zqy,zpb _ D E] at j;exact absurd (h.inj _ _ s r j) og
  ·rw[zpb _ f g,zqx] at j;exact absurd (h.inj _ _ ha t j) og
  ·rw[zpb _ f g,zqy] at j;exact absurd (h.inj _ _ ha s j) og
  ·rw[zpb _ f g,zpb _ D E] at j;exact h.inj _ _ ha r j
 ·rw[zsl,zsl];rcases u a ha with rfl|rfl|⟨f,g⟩
  ·rw[zqx];exact h.sep _ t
  ·rw[zqy];exact h.sep _ s
  ·rw[zpb _ f g];exact h.sep _ ha
theorem zxi (w:e) (a n:Int) (l: -9223372036854775808<=a) (m:a<=9223372036854775807) (p:1<=n) (q:n<=1000000000):
 Calls Tryz.prog 11 #[.int .i64 a,.int .i64 n] w fun f w'=>f= .returned (.int .i64 (a%n))/\w=w':=by
 have j:=Int.emod_nonneg a (show n≠0 by omega);have k:=Int.emod_lt_of_pos a (show 0<n by omega)
 have b:(a.tmod n=a%n/\(a<0->a%n=0))\/a.tmod n=a%n-n:=by
  rw[Int.tmod_eq_emod];split
  ·rename_i hd;refine .inl ⟨by omega,fun s=> ?_⟩;rcases hd with hd|hd
   ·omega
   ·exact Int.emod_eq_zero_of_dvd hd
  ·exact .inr og
 rcases Int.lt_or_le a 0 with h|h
 ·have r:(n==0)=false:=beq_eq_false_iff_ne.2 og;rcases Int.lt_or_le (a.tmod n) 0 with g|g
  ·(have c:Hid (a.tmod n+n=a%n):=by unfold Hid;rcases b with⟨d,i⟩|d<;>omega);have o: -1000000000<=a.tmod n:=oh c;clear b;go_in;go_wp2;go_ret;exact⟨I9 c.out,rfl⟩
  ·(have c:Hid (a.tmod n=a%n):=by unfold Hid;rcases b with⟨d,i⟩|d<;>omega);clear b;go_in;go_wp2;go_ret;exact⟨I9 c.out,rfl⟩
 ·clear b;go_in;go_wp2;go_ret;exact⟨rfl,rfl⟩
def IsD (w:e) (g:Nat) (l:List Int):Prop:=
 ∃A c k,Row w g 25 [.slice A l.length c,.int .i64 ((k:Nat):Int)]/\IsIL w (fun b=>b<g) (.slice A l.length c) l/\k<=l.length
theorem IsD.lt {w:e} (h:IsD w g l):g<w.heap.size:=by obtain⟨A,c,k,a,_⟩:=h;exact a.lt
theorem IsD.next {w w':e} {B:Nat} (h:IsD w g l) (a:Below B w w') (d:g<B):IsD w' g l:=by obtain⟨A,c,k,f,i,j⟩:=h;exact⟨A,c,k,f.below a d,IsIL.stb.to i (zqs a fun b h=>Nat.lt_trans h d),j⟩
theorem IsD.grown {w w':e} {r:Nat} (h:IsD w g l) (a:w.grownBy w' (some r)) (hr:g<r):IsD w' g l:=by have n:=h.lt;obtain⟨A,c,k,f,i,j⟩:=h;exact⟨A,c,k,f.grown a (fun d=>by cases d;omega),IsIL.stb.to i (ynp a fun b m=>⟨by omega,by omega⟩),j⟩
theorem IsD.far {w:e} (h:IsD w g l) {p:Addr} (a:g<p.block) (d:u):IsD (w.setCell p d) g l:=by obtain⟨A,c,k,i,j,m⟩:=h;refine⟨A,c,k,i.far og d,IsIL.stb.to j fun b n=>⟨n,fun o=> ?_⟩,m⟩;rw[q _ _ _ _ (fun f=>by rw[f] at a;simp at a;omega)]
theorem Only.grown {a b:e} (h:Only g a b):a.grownBy b (some g):=⟨h.os,h.tape,h.output,Nat.le_of_eq h.size.symm,fun k d hr=>h.block k (fun c=>hr (by rw[c]))⟩
def ypx (n:Nat) (a:Ending):Prop:=∃x:Nat,x<n/\a= .returned (.int .i64 (x:Int))
theorem yzi {w:e} (h:IsD w g l) {n:Nat} (an:1<=n) (ao:n<=1000000):
 Calls Tryz.prog 26 #[.pointer (some ⟨g,0,none⟩),.int .i64 (n:Int)] w fun s w'=>ypx n s/\IsD w' g l/\Only g w w':=by
 obtain⟨A,c,k,hr,j,ac⟩:=id h;obtain⟨R,O,N⟩:=H7 hr j h;have i:=hr.cell 0;have z:=hr.cell 1;have E:=hr.frozen 1;have I:l.length<=maxLen:=(by obtain⟨_,_,hv,Z,aa,_⟩:=j;omega);unfold maxLen at I;simp at i z;have ab:=hr.lt;obtain⟨m,p⟩:=nm (l.length);have y:=Lib.hid p;have ar:decide ((n:Int)<1)=false:=(by simp;omega);rcases F k l.length with J|ai
 ·obtain⟨x,K⟩:∃x,l[k]? =some x:=⟨_,C J⟩;obtain⟨G,b,off,rfl,ah,hc⟩:=ywj j K;have U:=Lib.hid hc;rw[<-p] at i J I ac;have ad:decide (m<=k)=false:=(by simp;omega);have B:=Lib.hid G;clear h hr j K hc p G;go_in;go_wp2_with fail;go_quiet (fail);obtain⟨f,d⟩:=nm (w.drewN nq);have W:f.cell? ⟨g,0,none⟩=some (.slice (some ⟨b,off,none⟩) m c):=(by rw[d];exact i);have X:f.cell? ⟨g,1,none⟩=some (.int .i64 (k:Int)):=(by rw[d];exact z);have Y:f.frozen? ⟨g,1,none⟩=false:=(by rw[d];exact E);have M:Hid (f.cell? ⟨b,off+k,none⟩=some (.int .i64 x)):=(by rw[d];exact U.out);have S:Hid (Row f g 25 [.slice (some ⟨b,off,none⟩) m c,.int .i64 (k:Int)]):=(by rw[d,y.out];exact R.out.drewN nq);have P:Hid (Only g w f):=(by rw[d];exact(Only.refl g w).drewN nq);rw[<-d];clear i z E d;go_wp2_with fail;obtain⟨u,r⟩:=nm (f.setCell ⟨g,1,none⟩ (.int .i64 ((k:Int)+1)));have v:Hid (Row u g 25 [.slice (some ⟨b,off,none⟩) m c,.int .i64 ((k:Int)+1)]):=(by rw[r];exact S.out.set_ 1 _);have Q:Hid (Only g w u):=(by rw[r];exact P.out.setCell 1 _);have d0:=v.out.cell 0;have V:=v.out.cell 1;have ae:u.cell? ⟨b,off+k,none⟩=some (.int .i64 x):=(by rw[r,q _ _ _ _ (fun s=>by injection s with Z aa;omega)];exact M.out);simp at d0 V;have af:IntKind.i64.wrap (k:Int)=(k:Int):=IntWalk.i64_in _ og;have ag:(k:Int).toNat=k:=og;have aj:(0:Int)<=(k:Int):=og;have ak:(k:Int)<(m:Int):=og;rw[<-r];clear r W X Y;go_quiet ((go_at_call 11;exact Calls.quiet_of_same ((zxi _ x (n:Int) B.out.1 B.out.2 og og).mono fun s w' h=>⟨h.1,h.2.symm⟩)));obtain⟨L,t⟩:=nm (u.drewN nq);have T:Hid (Row L g 25 [.slice (some ⟨b,off,none⟩) m c,.int .i64 ((k:Int)+1)]):=(by rw[t];exact v.out.drewN nq);have D:Hid (Only g w L):=(by rw[t];exact Q.out.drewN nq);have m0:=Int.emod_nonneg x (show(n:Int)≠0 by omega);have aq:=Int.emod_lt_of_pos x (show(0:Int)<n by omega);rw[<-t];clear t;go_wp2_with fail;go_ret;refine⟨⟨(x%(n:Int)).toNat,by omega,I9 og⟩,⟨some ⟨b,off,none⟩,c,k+1,by rw[<-y.out];exact T.out,?_,by rw[<-y.out];omega⟩,D.out⟩;exact IsIL.stb.to O.out fun b H=>⟨H,fun o=>a (D.out.block b (by have:b<g:=H;omega))⟩
 ·have al:k=m:=og;rw[<-p] at i;have ad:decide (m<=k)=true:=(by simp;omega);clear h hr j p;go_in;go_wp2_with fail;go_quiet (fail);go_wp2_with fail;go_ret;exact⟨⟨0,by omega,rfl⟩,N.out.next (Dr.below ⟨nq,rfl⟩ _) ab,(Only.refl g w).drewN nq⟩
theorem zsc {w:e} (h:IsD w g l) (n:Int) (f:1<=n) (i:n<=1000000):
 Calls Tryz.prog 26 #[.pointer (some ⟨g,0,none⟩),.int .i64 n] w fun a w'=>(∃x:Int,0<=x/\x<n/\a= .returned (.int .i64 x))/\IsD w' g l/\Only g w w':=by have a:n=((n.toNat:Nat):Int):=og;rw[a];exact(yzi h (n:=n.toNat) og og).mono fun a w' ⟨⟨x,j,d⟩,b,c⟩=>⟨⟨x,by omega,by omega,d⟩,b,c⟩
theorem I7 (w:e) (r:Option Nat):w.grownBy w r:=⟨rfl,rfl,rfl,y _,fun _ _ _=>rfl⟩
theorem K1 {a b c:e} (h:a.grownBy b r) (k:b.grownBy c r):a.grownBy c r:=
 ⟨k.os.trans h.os,k.tape.trans h.tape,k.output.trans h.output,E h.size k.size,fun j d hr=>(k.block j (z d h.size) hr).trans (h.block j d hr)⟩
theorem zkk (w:e) (o:Obj) (r:Option Nat):w.grownBy (w.alloc o) r:=K7 (N6 w o)
theorem zks {w w':e} {S:Nat->Prop} (f:w.grownBy w' r) (d:∀b,S b->b<w.heap.size/\some b≠r):L8 S S w w':=fun b c=>⟨c,fun o=>a (f.block b (d b c).1 (d b c).2)⟩
theorem OwnS.own_lt {a:Type} {n:Nat} {R:e->(Nat->Prop)->u->a->Prop} {w:e} {S:Nat->Prop} {v:u} {l:List a} (h:OwnS n t R w base S v l):∀b,v.ownBlock=some b->base<=b/\b<w.heap.size:=by obtain⟨f,c,_⟩:=h;exact fun b d=>c.lt b d
theorem OwnS.grown {f:Type} {n:Nat} {R:e->(Nat->Prop)->u->f->Prop} (o:Stb R) {w w':e} {S:Nat->Prop} {v:u} {l:List f} (h:OwnS n t R w base S v l)
 (d:w.grownBy w' r) (hr:∀b,r=some b->v.ownBlock≠some b/\¬S b):OwnS n t R w' base S v l:=by
 obtain⟨i,j,k,m,c⟩:=h
 have p:v.ownBlock=none\/v.ownBlock≠r:=by
  cases r with
  |none=>cases v.ownBlock<;>simp
  |some b=>exact .inr (hr b rfl).1
 refine⟨i,j.kept d p,k,m.imp fun x y h=>o.to h (zks d fun b a=>⟨(c b a).1,fun g=>(hr b g.symm).2 a⟩),fun b a=>⟨z (c b a).1 d.size,(c b a).2⟩⟩
theorem OwnS.wider {a:Type} {n:Nat} {R:e->(Nat->Prop)->u->a->Prop} (i:Stb R) {w:e} {S:Nat->Prop} {v:u} {l:List a} (h:OwnS n t R w base S v l)
 (j:∀b,S b->T b) (k:∀b,T b->b<w.heap.size/\some b≠v.ownBlock):OwnS n t R w base T v l:=by obtain⟨c,d,f,g,p⟩:=h;exact⟨c,d,f,g.imp fun x y h=>i.to h fun b m=>⟨j b m,fun o=>rfl⟩,k⟩
theorem Row.grownN {w w':e} (h:Row w g t xs) (c:w.grownBy w' r) (hr:∀b,r=some b->g≠b):Row w' g t xs:=h.grown c (fun a=>hr g a.symm rfl)
theorem IsD.grownN {w w':e} (h:IsD w g l) (a:w.grownBy w' r) (hr:∀b,r=some b->g<b):IsD w' g l:=by
 cases r with
 |none=>have m:=h.lt;obtain⟨A,c,k,d,f,i⟩:=h;exact⟨A,c,k,d.grown a (by simp),IsIL.stb.to f (zks a fun b j=>⟨by omega,by simp⟩),i⟩
 |some b=>exact h.grown a (hr b rfl)
structure Kept (p s x:Option Nat) (w w':e):Prop where
 os:w'.os=w.os
 tape:w'.tape=w.tape
 output:w'.output=w.output
 size:w.heap.size<=w'.heap.size
 block:∀k,k<w.heap.size->some k≠p->some k≠s->some k≠x->w'.heap[k]? =w.heap[k]?
theorem Kept.refl (p s x:Option Nat) (w:e):Kept p s x w w:=⟨rfl,rfl,rfl,y _,fun _ _ _ _ _=>rfl⟩
theorem Kept.step {a b c:e} (h:Kept p s x a b) (k:b.grownBy c r) (hr:r=none\/r=p\/r=s\/r=x):Kept p s x a c:=
 ⟨k.os.trans h.os,k.tape.trans h.tape,k.output.trans h.output,E h.size k.size,fun j d f g i=>(k.block j (z d h.size) (by rcases hr with rfl|rfl|rfl|rfl;simp;exact f;exact g;exact i)).trans (h.block j d f g i)⟩
theorem zul {w w':e} {S:Nat->Prop} (h:Kept p s x w w') (d:∀b,S b->b<w.heap.size/\some b≠p/\some b≠s/\some b≠x):L8 S S w w':=fun b c=>⟨c,fun o=>a (h.block b (d b c).1 (d b c).2.1 (d b c).2.2.1 (d b c).2.2.2)⟩
def K4 (lo a:Nat):Nat->Prop:=fun b=>lo<=b/\b<a
theorem IsQ.rngG {w w':e} {v:u} {q:Rat} {a:Nat} (h:IsQ w (K4 lo a) v q) (f:w.grownBy w' r) (g:a<=w.heap.size) (hr:∀b,r=some b->b<lo):IsQ w' (K4 lo a) v q:=
 IsQ.stb.to h (zks f fun b c=>⟨z c.2 g,fun d=>by have:=hr b d.symm;have:=c.1;omega⟩)
theorem zso {f:Program} {w:e} {o:Oper} {a:Act} {k:Act->e->Prop} {A:Exit->Act->e->Prop} {c:TypeId} {n bytes:Nat} (d:ElN f t c n bytes) (s x:Operand) (P:o.op= .call {callee:= .builtin .append,args:= #[s,x],argTypes:= #[t,t]})
 {g:Type} {R:e->(Nat->Prop)->u->g->Prop} (J:Stb R) {h:Nat} {S:Nat->Prop} {v ev:u} {l:List g} {y:g} {aa:TypeId}
 (U:a.eval s=v) (X:a.eval x= .slice (some ⟨h,0,none⟩) 1 1) (hr:Row w h aa ev.cells.toList) (Q:OwnS n c R w base S v l) (N:R w S ev y) (q:ev.cells.size=n)
 (D:∀r∈ev.cells,r.oneCell'=true) (K:(l.length+1)*(bytes+1)<=140737488355328) (L:base<=w.heap.size)
 (I:∀b w',OwnS n c R w' base S b (l++[y])->w.grownBy w' v.ownBlock->(b.ownBlock=v.ownBlock\/b.ownBlock=some w.heap.size)->k (a.put o.dst b) w'):o.wp f a w k A:=by
 obtain⟨i,z,O,Y,V,M,Z⟩:=d.info
 obtain⟨B,E,F,G,H⟩:=Q
 rw[Nat.mul_add,Nat.mul_one] at K
 obtain⟨b,w',T,C,m,_,p⟩:=run_append_own_at (P:=f) w base t o.type c i z n bytes d.und O Y V M Z d.pos v l.length (cellsOf B) E ⟨h,0,none⟩ 1 1 ev.cells.toList (by simp[q])
  (fun j r W=>by rw[Addr.add_lit,Nat.zero_add,hr.cell j];exact W) (by simpa using D) (by unfold maxLen;omega) og L
 unfold Oper.wp execOp
 simp only[P,resolve,invoke,builtin,Sem.run_bind,Sem.run_pure,Result.andThen_ok,List.map_toArray,List.map_cons,List.map_nil,U,X,T]
 exact I b w' (OwnS.app J F G H N q C m p) m p
def NewRow (w:e) (n0:Nat) (t:TypeId) (xs:List u) (v:u):Prop:=∃h,v= .slice (some ⟨h,0,none⟩) 1 1/\n0<=h/\Row w h t xs
theorem NewRow.grown {w w':e} {n0:Nat} {v:u} (h:NewRow w n0 t xs v) (f:w.grownBy w' r) (hr:∀b,r=some b->b<n0):NewRow w' n0 t xs v:=by obtain⟨g,a,c,d⟩:=h;exact⟨g,a,c,d.grownN f fun b a=>by have:=hr b a;omega⟩
theorem zlw {T:Array u} {t:Nat} {v:u} (h:T[t]? =some v):T.getD t undef=v:=by simp[Array.getD_eq_getD_getElem?,h]
theorem ykl {w f c:e} (h:w.grownBy f (some g)) (k:Kept (some g) p s f c) (i:∀b,p=some b->w.heap.size<=b) (l:∀b,s=some b->w.heap.size<=b):w.grownBy c (some g):=
 ⟨k.os.trans h.os,k.tape.trans h.tape,k.output.trans h.output,E h.size k.size,fun j d hr=>(k.block j (z d h.size) hr (fun a=>by have:=i j a.symm;omega) (fun a=>by have:=l j a.symm;omega)).trans (h.block j d hr)⟩
theorem Row.kept {w w':e} (h:Row w g t xs) (k:Kept p s x w w') (a:p≠some g) (b:s≠some g) (c:x≠some g):Row w' g t xs:=(k.block g h.lt (Ne.symm a) (Ne.symm b) (Ne.symm c)).trans h
theorem zvl {w w':e} {n:Nat} (h:w.grownBy w' (some g)) (d:w.heap.size<=n) (o:Nat) (a:u):w.grownBy (w'.setCell ⟨n,o,none⟩ a) (some g):=
 ⟨h.os,h.tape,h.output,by rw[show(w'.setCell ⟨n,o,none⟩ a).heap.size=w'.heap.size by simp[World.setCell]];exact h.size,fun k c hr=>(Below.heap_setCell w' ⟨n,o,none⟩ a k (fun b=>by have:n=k:=b.symm;omega)).trans (h.block k c hr)⟩
theorem ydr {w:e} {b c:Nat} {v x y z:u} (h:w.cell? ⟨b,o,none⟩=some v) (a:b≠c):(T4 w c j x y z).cell? ⟨b,o,none⟩=some v:=(zqo (.inl a)).trans h
theorem zne {w w':e} {c:Nat} {x y z:u} (h:w.grownBy w' (some c)):w.grownBy (T4 w' c j x y z) (some c):=K1 (K1 (K1 h (I0 _ _ _ _)) (I0 _ _ _ _)) (I0 _ _ _ _)
def SN (S:Nat->Prop) (lo:Nat) (w:e):Nat->Prop:=fun b=>S b\/(lo<=b/\b<w.heap.size)
theorem MatW.grow {w w':e} {S:Nat->Prop} {r0:Nat} {cp:Nat->Nat} {n m:Nat} {A:Nat->Nat->Int} (h:MatW w (SN S lo w) r0 d cp n m A) (hlo:lo<=w.heap.size) (g:Below w.heap.size w w'):MatW w' (SN S lo w') r0 d cp n m A:=
 h.next g (fun b f=>by rcases f with a|a;exact .inl a;exact .inr ⟨a.1,z a.2 g.size⟩) fun b f=>by
  rcases f with a|a
  ·exact .inl (.inl a)
  ·rcases F b w.heap.size with c|c
   ·exact .inl (.inr ⟨a.1,c⟩)
   ·exact .inr ⟨c,a.2⟩
theorem MatW.start {w:e} {S:Nat->Prop} {r0:Nat} {cp:Nat->Nat} {n m:Nat} {A:Nat->Nat->Int} (h:MatW w S r0 d cp n m A):MatW w (SN S w.heap.size w) r0 d cp n m A:=
 h.next (Below.refl _ _) (fun b a=> .inl a) fun b a=>by
  rcases a with c|c
  ·exact .inl c
  ·omega
theorem MatW.same {w:e} {S:Nat->Prop} {r0:Nat} {cp:Nat->Nat} {n m:Nat} {A B:Nat->Nat->Int} (h:MatW w S r0 d cp n m A) (c:∀i j,i<n->j<m->A i j=B i j):MatW w S r0 d cp n m B:=
 ⟨h.hd,h.hf,h.cap,fun i j a b=>by rw[<-c i j a b];exact h.el i j a b,h.ef,h.inj,h.sep,h.s0,h.sS⟩
theorem zlp {w:e} {S:Nat->Prop} {v:u} {z:Int} (h:IsQ w S v ((z:Int):Rat)):∃b k f l,v= .agg #[.bool (decide (z<0)),.slice b (A9 z.natAbs).length k,.slice f (A9 1).length l]:=by obtain⟨A,c,B,d,a,_,_⟩:=h;rw[yao] at a;exact⟨A,c,B,d,a⟩
theorem yka (z:Int):((z:Rat)<0)↔z<0:=by have:=yab (z:Rat);rw[Rat.num_intCast,decide_eq_decide] at this;exact this.symm
theorem yob (z:Int):(decide (0<U6 (z:Rat)))=decide (0<z):=by
 unfold U6;rw[decide_eq_decide];rcases Int.lt_trichotomy z 0 with h|h|h
 ·have a:¬((z:Rat)=0):=(by simpa using(show z≠0 by omega));have b:(z:Rat)<0:=(yka z).2 h;rw[if_neg a,if_pos b];omega
 ·subst h;rw[if_pos (by simp)]
 ·have a:¬((z:Rat)=0):=(by simpa using(show z≠0 by omega));have b:¬((z:Rat)<0):=fun c=>(by have:=(yka z).1 c;omega);rw[if_neg a,if_neg b];omega
def ints (m:Nat) (f:Nat->Int):List Rat:=(List.range m).map fun j=>((f j:Int):Rat)
theorem zta (m:Nat) (f:Nat->Int):(ints m f).length=m:=by unfold ints;simp
theorem ywh {m:Nat} {f:Nat->Int} (h:j<m):(ints m f)[j]? =some ((f j:Int):Rat):=by unfold ints;rw[B,List.getElem?_range h];rfl
theorem ykd (m:Nat) (f:Nat->Int):ints (m+1) f=ints m f++[((f m:Int):Rat)]:=by unfold ints;rw[List.range_succ,List.map_append];rfl
structure LineW (w:e) (S:Nat->Prop) (b c m:Nat) (f:Nat->Int):Prop where
 blk:∃cur,w.heap[b]? =some (.cells cur 37 (0,0))
 cap:m<=c/\c<=maxLen
 el:∀j,j<m->∃P k Q l,w.cell? ⟨b,j*3,none⟩=some (.bool (decide (f j<0)))/\w.cell? ⟨b,j*3+1,none⟩=some (.slice P (A9 (f j).natAbs).length k)/\w.cell? ⟨b,j*3+2,none⟩=some (.slice Q (A9 1).length l)/\
  IsQ w S (.agg #[.bool (decide (f j<0)),.slice P (A9 (f j).natAbs).length k,.slice Q (A9 1).length l]) ((f j:Int):Rat)
theorem OwnS.shape {j:Type} {n:Nat} {R:e->(Nat->Prop)->u->j->Prop} {w:e} {S:Nat->Prop} {v:u} {l:List j} (h:OwnS n t R w base S v l) (A:l≠[]):
 ∃b c d a,v= .slice (some ⟨b,0,none⟩) l.length c/\base<=b/\w.heap[b]? =some (.cells d t (0,0))/\l.length<=c/\c<=maxLen/\d.toList.take (l.length*n)=cellsOf a/\Wid n a/\All2 (R w S) a l/\¬S b/\(∀x,S x->x<w.heap.size):=by
 obtain⟨a,k,o,p,i⟩:=h;rcases k.2 with⟨_,f⟩|⟨g,cap,d,f,q,r,s,y,C,m⟩
 ·exact absurd (List.eq_nil_of_length_eq_zero f) A
 ·exact⟨g,cap,d,a,f,q,r,s,y,m,o,p,fun z=>(i g z).2 (by rw[f];rfl),fun x B=>(i x B).1⟩
theorem zrv {w:e} {b:Nat} {a:Array u} {n:Nat} {v:u} (h:w.heap[b]? =some (.cells a t (0,0))) (c:a.toList.take n=xs) (hv:xs[o]? =some v):w.cell? ⟨b,o,none⟩=some v:=by
 rw[cell_of_row w b o _ t (0,0) h];rw[<-c,List.getElem?_take] at hv;split at hv
 ·simpa using hv
 ·cases hv
theorem OwnS.line {w:e} {S:Nat->Prop} {v:u} {m:Nat} {f:Nat->Int} (h:OwnS 3 37 IsR w base S v (C5 (ints m f))) (E:1<=m):
 ∃b c,v= .slice (some ⟨b,0,none⟩) m c/\base<=b/\b<w.heap.size/\¬S b/\LineW w S b c m f:=by have g:(C5 (ints m f)).length=m:=(by simp[C5,zta]);obtain⟨b,c,t,D,rfl,x,a,p,y,d,n,z,A,_⟩:=h.shape (fun i=>by rw[i] at g;simp at g;omega);rw[g] at p d;refine⟨b,c,by rw[g],x,(Array.getElem?_eq_some_iff.1 a).1,A,⟨t,a⟩,⟨p,y⟩,fun j C=> ?_⟩;have hr:(C5 (ints m f))[j]? =some (E9 ((f j:Int):Rat)):=(by unfold C5;rw[B,ywh C];rfl);obtain⟨i,o,q⟩:=z.get hr;obtain⟨r,k,s,l,rfl⟩:=zlp (show IsQ w S i ((f j:Int):Rat) from q);exact⟨r,k,s,l,zrv a d (zof n (i:=0) o rfl),zrv a d (zof n (i:=1) o rfl),zrv a d (zof n (i:=2) o rfl),q⟩
theorem LineW.keep {w w':e} {S:Nat->Prop} {b c m:Nat} {f:Nat->Int} (h:LineW w S b c m f) (d:w'.heap[b]? =w.heap[b]?) (g:∀x,S x->T x/\w'.heap[x]? =w.heap[x]?):LineW w' T b c m f where
 blk:=by rw[d];exact h.blk
 cap:=h.cap
 el j hj:=by obtain⟨n,k,p,l,q,r,s,t⟩:=h.el j hj;exact⟨n,k,p,l,(a d).trans q,(a d).trans r,(a d).trans s,IsQ.stb.to t fun x i=>⟨(g x i).1,fun o=>a (g x i).2⟩⟩
def IsVal (w:e) (S:Nat->Prop) (v x:u):Prop:=v=x
theorem IsVal.stb:Stb IsVal:=fun _ _ _ _ _ _ h _=>h
def heads (k m:Nat) (d cp:Nat->Nat):List u:=(List.range k).map fun i=> .slice (some ⟨d i,0,none⟩) m (cp i)
end Go.Proofs.YtpbilanpeioonaaGreatDoor
