/-
 Rows of rational numbers as rows of whole ones.No program in sight.
-/
import Derived.Test.YtlhhbccgfkhflaaGreatDoorProofSimplexPivots02
namespace Go.Proofs.YtlhhbccgfkhflaaGreatDoor
set_option linter.unusedVariables false
set_option maxRecDepth 100000
set_option maxHeartbeats 8000000
open _root_.Nat renaming le_refl → b, lt_or_ge → g
open _root_.List renaming getD_eq_getElem?_getD → l
open _root_.Rat renaming mul_nonneg → e
variable {K N c i j k m n r v : Nat} {M : List (List Rat)} {cs : List Nat} {f : Nat → Prop} {t : Rat}
theorem zz1437 {a:Int} {d:Nat} {z:Int} (hd:0<d) (h:(a:Rat)/((d:Int):Rat)=(z:Rat)):a.tdiv (d:Int)=z:=by have f:((d:Int):Rat)≠0:=(by intro c;have:(d:Int)=0:=Rat.intCast_inj.1 (by rw[c];rfl);omega);have b:(a:Rat)=(z:Rat)*((d:Int):Rat):=(by rw[<-h,Rat.div_mul_cancel f]);have e:a=z*(d:Int):=(by rw[<-Rat.intCast_mul] at b;exact Rat.intCast_inj.1 b);rw[e];exact Int.mul_tdiv_cancel _ og
def zmn (M:List (List Rat)) (i j:Nat):Int:=((M.getD i []).getD j 0).num*((zks (M.getD i [])/((M.getD i []).getD j 0).den:Nat):Int)
theorem ztc {r:List Rat} {x:Rat} (hr:M[i]? =some r) (c:r[j]? =some x):zmn M i j=x.num*((zks r/x.den:Nat):Int):=by unfold zmn;have a:M.getD i []=r:=(by rw[l,hr,Option.getD_some]);have b:r.getD j 0=x:=(by rw[l,c,Option.getD_some]);rw[a,b]
theorem zyo {b:List (List Rat)} {r:List Rat} {x:Rat} (hr:b[i]? =some r) (e:r[j]? =some x):((zmn b i j:Int):Rat)=x*((zks r:Nat):Rat):=by rw[ztc hr e,Rat.intCast_mul];have hd:x.den∣zks r:=ybv (List.mem_of_getElem? e);obtain⟨c,hc⟩:=hd;have f:zks r/x.den=c:=(by rw[hc];exact Nat.mul_div_cancel_left c x.den_pos);rw[f,hc,Rat.natCast_mul];have g:(x.num:Rat)=x*((x.den:Nat):Rat):=(by have a:=Rat.mkRat_self x;rw[Rat.mkRat_eq_div] at a;have h:((x.den:Nat):Rat)≠0:=yqg x.den_pos;have d:=Rat.div_mul_cancel (a:=(x.num:Rat)) h;rw[a] at d;exact d.symm);rw[g];show x*_*((c:Nat):Rat)=_;grind
def zvb (M:List (List Rat)) (a:List Rat) (k:Nat):List (List Rat):=(List.range k).map fun i=>M.getD i []++[a.getD i 0]
theorem yei {b r:List Rat} {m:Nat} (a:i<n) (hr:M[i]? =some r):(zvb M b n)[i]? =some (r++[b.getD i 0]):=by unfold zvb;rw[List.getElem?_map,List.getElem?_range a,Option.map_some,l,hr];rfl
theorem zyc {r:List Rat} {x:Rat} (b:r.length=m) (a:j<m):(r++[x])[j]? =some (r.getD j 0):=by rw[List.getElem?_append_left og,l,List.getElem?_eq_getElem og];rfl
theorem ybh {r:List Rat} {x:Rat} (a:r.length=m):(r++[x])[m]? =some x:=by rw[List.getElem?_append_right og,a,Nat.sub_self];rfl
theorem yry (a b:List RV):W7 cs (a++(fun _=>0)::b)=0:=by have h:=ztw cs a b (fun _=>0) (fun _=>0) 0 0;have c:(fun x:Nat=>(0:Rat)*(fun _=>(0:Rat)) x+0*(fun _=>(0:Rat)) x)=fun _=>0:=(by funext x;grind);rw[c] at h;rw[h];grind
theorem yge (c d:List RV) (a:Nat->Rat) (B:Nat->RV):∀K,W7 cs (c++(fun x=>C4 K fun k=>a k*B k x)::d)=C4 K fun k=>a k*W7 cs (c++B k::d)
 |0=>yry c d
 |K+1=>by
  have h:=ztw cs c d (fun x=>C4 K fun k=>a k*B k x) (B K) 1 (a K)
  have f:(fun x=>C4 (K+1) fun k=>a k*B k x)=fun x=>1*(fun x=>C4 K fun k=>a k*B k x) x+a K*B K x:=by funext x;simp only[C4];grind
  rw[f,h,yge c d a B K,C4]
  grind
theorem yrv (b c:List RV) (a:Rat) (v:RV):W7 cs (b++(fun x=>a*v x)::c)=a*W7 cs (b++v::c):=by have h:=ztw cs b c v v a 0;have d:(fun x:Nat=>a*v x+0*v x)=fun x=>a*v x:=(by funext x;grind);rw[d] at h;rw[h];grind
def N2 (B:Nat->RV) (i:Nat) (v:RV):Nat->RV:=fun k=>if k=i then v else B k
def Y7 (K:Nat) (B:Nat->RV):List RV:=(List.range K).map B
theorem yrd (f:i<K) (B:Nat->RV):∃b c,∀v,Y7 K (N2 B i v)=b++v::c:=by
 refine⟨(List.range i).map B,(List.range (K-1-i)).map fun k=>B (i+1+k),fun v=> ?_⟩;unfold Y7;have e:K=i+(1+(K-1-i)):=og;conv=>lhs;rw[e,List.range_add,List.range_add]
 rw[List.map_append,List.map_map,List.map_append,List.map_map];congr 1
 ·exact List.map_congr_left fun k a=>if_neg (by have:=List.mem_range.1 a;omega)
 ·have d:List.range 1=[0]:=rfl;rw[d];show N2 B i v (i+0)::_=_;congr 1
  ·exact if_pos rfl
  ·exact List.map_congr_left fun k a=>by show N2 B i v (i+(1+k))=_;rw[N2,if_neg og];congr 1;omega
theorem yre (B:Nat->RV):Y7 K (N2 B i (B i))=Y7 K B:=List.map_congr_left fun k _=>by unfold N2;split;rename_i h;rw[h];rfl
theorem yrx (m:i<K) (n:k<K) (h:k≠i) (B:Nat->RV):W7 cs (Y7 K (N2 B i (B k)))=0:=by
 obtain⟨x,y,o,p,f,b⟩:∃x y,x<y/\y<K/\N2 B i (B k) x=B k/\N2 B i (B k) y=B k:=by
  rcases g k i with c|c
  ·exact⟨k,i,c,m,if_neg h,if_pos rfl⟩
  ·exact⟨i,k,by omega,n,if_pos rfl,if_neg h⟩
 obtain⟨a,j⟩:=nm (N2 B i (B k));rw[<-j] at f b⊢
 have d:Y7 K a=(List.range x).map a++B k::((List.range (y-x-1)).map (fun z=>a (x+1+z))++B k::(List.range (K-1-y)).map fun z=>a (y+1+z)):=by
  unfold Y7;have l:K=x+(1+((y-x-1)+(1+(K-1-y)))):=og;conv=>lhs;rw[l,List.range_add,List.range_add,List.range_add,List.range_add]
  have e:List.range 1=[0]:=rfl;simp only[e,List.map_append,List.map_map,List.map_cons,List.cons_append,List.nil_append];congr 1;congr 1;congr 1
  ·exact List.map_congr_left fun z _=>by show a (x+(1+z))=_;congr 1;omega
  ·congr 1
   ·show a (x+(1+((y-x-1)+0)))=_;rw[show x+(1+((y-x-1)+0))=y by omega,b]
   ·exact List.map_congr_left fun z _=>by show a (x+(1+((y-x-1)+(1+z))))=_;congr 1;omega
 rw[d];exact yrt cs (B k) _ _ _
theorem ygd (c:i<K) {B:Nat->RV} {v:RV} {d:Rat} {a:Nat->Rat} (h:∀x,d*v x=C4 K fun k=>a k*B k x):
 d*W7 cs (Y7 K (N2 B i v))=a i*W7 cs (Y7 K B):=by
 obtain⟨f,g,b⟩:=yrd c B;have j:(fun x=>d*v x)=fun x=>C4 K fun k=>a k*B k x:=funext h;have e:=yrv (cs:=cs) f g d v;rw[j,yge] at e;rw[b,<-e,znb c fun k l m=> ?_]
 ·rw[<-b (B i),yre]
 ·rw[<-b (B k),yrx c l m];grind
structure Cram (K n:Nat) (A:Nat->Nat->Int) (d:Nat) (B O:Nat->RV):Prop where
 d0:0<d
 intB:∀i,i<K->zqb (B i)
 intO:∀j,j<=n->zqb (O j)
 det:((d:Int):Rat)=W7 (List.range K) (Y7 K B)\/((d:Int):Rat)= -W7 (List.range K) (Y7 K B)
 rel:∀j,j<=n->∀x,((d:Int):Rat)*O j x=C4 K fun i=>(A i j:Rat)*B i x
def zso (M:Nat) (v:RV):Prop:=∀x,-(M:Rat)<=v x/\v x<=(M:Rat)
theorem zwb {d:Nat} (h:0<d):((d:Int):Rat)≠0:=by intro a;have:(d:Int)=0:=Rat.intCast_inj.1 (by rw[a];rfl);omega
theorem Cram.elem {d:Nat} {A:Nat->Nat->Int} {B b:Nat->RV} (h:Cram K n A d B b) (g:i<K) (k:j<=n):
 (A i j:Rat)=W7 (List.range K) (Y7 K (N2 B i (b j)))\/(A i j:Rat)= -W7 (List.range K) (Y7 K (N2 B i (b j))):=by
 have c:=ygd (cs:=List.range K) g (h.rel j k);have e:=zwb h.d0;obtain⟨X,f⟩:=nm (W7 (List.range K) (Y7 K (N2 B i (b j))));obtain⟨D,hD⟩:=nm (((d:Int):Rat));have a:=h.det;rw[<-f] at c⊢;rw[<-hD] at c e a;rcases a with a|a
 ·left;rw[<-a] at c;have:D*(X-A i j)=0:=(by grind);rcases Rat.mul_eq_zero.1 this with h|h
  ·exact absurd h e
  ·grind
 ·right;have:D*(X+A i j)=0:=(by grind);rcases Rat.mul_eq_zero.1 this with h|h
  ·exact absurd h e
  ·grind
def zlh (A:Nat->Nat->Int) (d r c:Nat):Nat->Nat->Int:=fun i j=>
 if i=r then(if j=c then(d:Int) else A r j)
 else if j=c then -(A i c) else zld (A i j) (A r c) (A i c) (A r j) d
def zng (A:Nat->Nat->Int) (d r c:Nat):Nat->Nat->Int:=fun i j=>if A r c<0 then -(zlh A d r c i j) else zlh A d r c i j
theorem Cram.piv {d:Nat} {A:Nat->Nat->Int} {B b:Nat->RV} (h:Cram K n A d B b) (hr:r<K) (hc:c<n) (W:A r c≠0):
 Cram K n (zng A d r c) (A r c).natAbs (N2 B r (b c)) (N2 b c (B r))/\
 ∀i j,i<K->j<=n->i≠r->j≠c->((zlh A d r c i j:Int):Rat)=((A i j:Rat)*(A r c:Rat)-(A i c:Rat)*(A r j:Rat))/((d:Int):Rat):=by
 obtain⟨g,p⟩:=nm (A r c);obtain⟨D,hD⟩:=nm (((d:Int):Rat));have Q:=zwb h.d0;rw[<-hD] at Q;have X:(g:Rat)≠0:=(by intro C;have t:g=0:=Rat.intCast_inj.1 (by rw[C];rfl);rw[p] at t;exact W t);obtain⟨q,Y⟩:=nm (D⁻¹);have Z:D*q=1:=(by rw[Y];exact Rat.mul_inv_cancel _ Q);obtain⟨s,w⟩:∃s:Nat->Nat->Rat,s=fun i j=>if i=r then(if j=c then D else(A r j:Rat)) else if j=c then -(A i c:Rat) else((A i j:Rat)*(g:Rat)-(A i c:Rat)*(A r j:Rat))*q:=⟨_,rfl⟩;have aa:∀j,j<=n->∀x,D*b j x=C4 K fun i=>(A i j:Rat)*B i x:=(by rw[hD];exact h.rel);have split:∀(f:Nat->Rat),C4 K f=f r+C4 K fun i=>if i=r then 0 else f i:=by intro f;have t:C4 K f=C4 K fun j=>(if j=r then f r else 0)+(if j=r then 0 else f j):=R4 fun j _=>(by split<;>grind);rw[t,zto,znb hr fun j _ l=>if_neg l,if_pos rfl]
 have hrel:∀j,j<=n->∀x,(g:Rat)*N2 b c (B r) j x=C4 K fun i=>s i j*N2 B r (b c) i x:=by
  intro j l x;have P:=aa c og x;rw[split] at P;obtain⟨E,H⟩:=nm (C4 K fun i=>if i=r then 0 else(A i c:Rat)*B i x);rw[<-H,<-p] at P;rw[split];by_cases m:j=c
  ·have F:(C4 K fun i=>if i=r then(0:Rat) else s i j*N2 B r (b c) i x)=(-1)*E:=by
    rw[H,<-zor];refine R4 fun i _=> ?_;by_cases e:i=r
    ·rw[if_pos e,if_pos e];grind
    ·rw[if_neg e,if_neg e,w,N2,if_neg e];simp only[if_neg e,if_pos m];grind
   rw[F,w,N2,N2,if_pos m,if_pos rfl];simp only[if_true,if_pos m];grind
  ·have U:=aa j l x;rw[split] at U;obtain⟨M,O⟩:=nm (C4 K fun i=>if i=r then 0 else(A i j:Rat)*B i x);rw[<-O] at U
   have F:(C4 K fun i=>if i=r then(0:Rat) else s i j*N2 B r (b c) i x)=((g:Rat)*q)*M+(-((A r j:Rat)*q))*E:=by
    rw[O,H,<-zor,<-zor,<-zto];refine R4 fun i _=> ?_;by_cases e:i=r
    ·rw[if_pos e,if_pos e,if_pos e];grind
    ·rw[if_neg e,if_neg e,if_neg e,w,N2,if_neg e];simp only[if_neg e,if_neg m];grind
   rw[F,w,N2,N2,if_neg m,if_pos rfl];simp only[if_true,if_neg m];have u:M=D*b j x-(A r j:Rat)*B r x:=(by grind);have G:E=D*b c x-(g:Rat)*B r x:=(by grind);rw[u,G];have ac:(g:Rat)*b j x=(g:Rat)*(D*q)*b j x:=(by rw[Z];grind);have ad:(A r j:Rat)*b c x=(A r j:Rat)*(D*q)*b c x:=(by rw[Z];grind);grind
 have S:∀i,i<K->zqb (N2 B r (b c) i):=fun i o=>(by unfold N2;split;exact h.intO c og;exact h.intB i o);have T:∀j,j<=n->zqb (N2 b c (B r) j):=fun j l=>(by unfold N2;split;exact h.intB r hr;exact h.intO j l);have J:(g:Rat)=W7 (List.range K) (Y7 K (N2 B r (b c)))\/(g:Rat)= -W7 (List.range K) (Y7 K (N2 B r (b c))):=by rw[p];exact h.elem hr og
 have ab:∀i j,i<K->j<=n->∃z:Int,s i j=(z:Rat):=by
  intro i j o l;have t:=ygd (cs:=List.range K) o (hrel j l)
  obtain⟨z,y⟩:=yru (List.range K) (Y7 K (N2 (N2 B r (b c)) i (N2 b c (B r) j))) (fun v hv=>by
   obtain⟨k,L,rfl⟩:=List.mem_map.1 hv;have L:=List.mem_range.1 L;show zqb (if k=i then _ else _);split
   ·exact T j l
   ·exact S k L)
  rw[y] at t;rcases J with N|N
  ·refine⟨z,?_⟩;rw[<-N] at t;have:(g:Rat)*((z:Rat)-s i j)=0:=(by grind);rcases Rat.mul_eq_zero.1 this with h|h
   ·exact absurd h X
   ·grind
  ·refine⟨-z,?_⟩;have:(g:Rat)*((z:Rat)+s i j)=0:=(by grind);rcases Rat.mul_eq_zero.1 this with h|h
   ·exact absurd h X
   ·rw[Rat.intCast_neg];grind
 have R:∀a:Rat,a/D=a*q:=fun a=>by rw[Y];exact Rat.div_def a D
 have I:∀i j,i<K->j<=n->((zlh A d r c i j:Int):Rat)=s i j:=by
  intro i j o l;rw[w];unfold zlh;by_cases e:i=r
  ·simp only[if_pos e];by_cases m:j=c
   ·simp only[if_pos m];exact hD.symm
   ·simp only[if_neg m]
  ·simp only[if_neg e];by_cases m:j=c
   ·simp only[if_pos m];rw[Rat.intCast_neg]
   ·simp only[if_neg m];obtain⟨z,y⟩:=ab i j o l;rw[w] at y;simp only[if_neg e,if_neg m] at y;rw[y];congr 1;unfold zld;refine zz1437 h.d0 ?_;rw[<-hD,R,Rat.intCast_sub,Rat.intCast_mul,Rat.intCast_mul,<-p];exact y
 refine⟨⟨by rw[<-p];have:g≠0:=by rw[p];exact W
            omega,S,T,?_,?_⟩,fun i j o l e m=> ?_⟩
 ·rw[<-p];rcases Int.natAbs_eq g with C|C
  ·rw[<-C];exact J
  ·have u:((g.natAbs:Int):Rat)= -(g:Rat):=(by rw[<-Rat.intCast_neg];congr 1;omega);rw[u];rcases J with h|h
   ·right;rw[h]
   ·left;rw[h];grind
 ·intro j l x;have t:=hrel j l x;rw[<-p];by_cases V:g<0
  ·have u:((g.natAbs:Int):Rat)= -(g:Rat):=(by rw[<-Rat.intCast_neg];congr 1;omega);rw[u];have G:(C4 K fun i=>((zng A d r c i j:Int):Rat)*N2 B r (b c) i x)=(-1)*C4 K fun i=>s i j*N2 B r (b c) i x:=(by rw[<-zor];refine R4 fun i o=> ?_;rw[zng,<-p,if_pos V,Rat.intCast_neg,I i j o l];grind);rw[G,<-t];grind
  ·have u:((g.natAbs:Int):Rat)=(g:Rat):=(by congr 1;omega);rw[u,t];refine R4 fun i o=> ?_;rw[zng,<-p,if_neg V,I i j o l]
 ·rw[I i j o l,w,<-p,<-hD,R];simp only[if_neg e,if_neg m]
theorem ypi {F:List RV->Rat} {M f:Rat} (u:0<=M) (hF:∀r:List RV,r.length=n->(∀v∈r,∀x,-M<=v x/\v x<=M)-> -f<=F r/\F r<=f) (hf:0<=f) (post:List RV):∀pre:List RV,pre.length+post.length=n+1->(∀v∈pre,∀x,-M<=v x/\v x<=M)->(∀v∈post,∀x,-M<=v x/\v x<=M)->
 -(((post.length:Nat):Rat)*(M*f))<=Y5 F c pre post/\Y5 F c pre post<=((post.length:Nat):Rat)*(M*f):=by
 induction post with
 |nil=>intro pre _ _ _;simp only[Y5,List.length_nil];constructor<;>grind
 |cons v post ih=>intro pre k j i;have hv:=i v (by simp) c;have p:=hF (pre++post) (by simp at k⊢;omega) (fun a d=>by rcases List.mem_append.1 d with h|h;exact j a h;exact i a (by simp[h]));have w:=ih (pre++[v]) (by simp at k⊢;omega) (fun a d=>by rcases List.mem_append.1 d with h|h;exact j a h;exact i a (by simp at h;simp[h])) (fun a d=>i a (by simp[d]));obtain⟨y,m⟩:=nm (F (pre++post));rw[<-m] at p;have t:v c*y<=M*f:=(by have q:=e (show 0<=M-v c by grind) (show 0<=f+y by grind);have s:=e (show 0<=M+v c by grind) (show 0<=f-y by grind);grind);have b2: -(M*f)<=v c*y:=(by have q:=e (show 0<=M-v c by grind) (show 0<=f-y by grind);have s:=e (show 0<=M+v c by grind) (show 0<=f+y by grind);grind);have o:(((v::post).length:Nat):Rat)=((post.length:Nat):Rat)+1:=(by rw[List.length_cons];exact Rat.natCast_add _ _);rw[Y5,<-m,o];constructor<;>grind
def N9 (M:Nat):Nat->Nat
 |0=>1
 |k+1=>(k+1)*(M*N9 M k)
theorem yav {M:Nat}:∀(cs:List Nat) (rows:List RV),rows.length=cs.length->(∀v∈rows,zso M v)-> -(((N9 M cs.length:Nat)):Rat)<=W7 cs rows/\W7 cs rows<=((N9 M cs.length:Nat):Rat)
 |[],[],_,_=>by simp only[W7,N9,List.length_nil];constructor<;>decide
 |c::cs,rows,a,h=>by
  have f:=ypi (F:=W7 cs) (M:=(M:Rat)) (f:=((N9 M cs.length:Nat):Rat)) (n:=cs.length) (c:=c) (by exact Rat.natCast_nonneg) (fun r hr hv=>yav cs r hr hv) (by exact Rat.natCast_nonneg) rows [] (by rw[a];simp) (fun v hv=>by cases hv) h
  have d:((N9 M (c::cs).length:Nat):Rat)=((rows.length:Nat):Rat)*((M:Rat)*((N9 M cs.length:Nat):Rat)):=by
   rw[a,List.length_cons,N9,Rat.natCast_mul,Rat.natCast_mul]
  rw[d];exact f
theorem Cram.small {d M:Nat} {A:Nat->Nat->Int} {B c:Nat->RV} (h:Cram K n A d B c) (f:∀i,i<K->zso M (B i)) (s:∀j,j<=n->zso M (c j)):d<=N9 M K/\∀i j,i<K->j<=n->(A i j).natAbs<=N9 M K:=by
 have key:∀(z:Int) (X:Rat),((z:Rat)=X\/(z:Rat)= -X)-> -((N9 M K:Nat):Rat)<=X->X<=((N9 M K:Nat):Rat)->z.natAbs<=N9 M K:=(by intro z X o a u;(have p: -(((N9 M K:Nat):Int):Rat)<=(z:Rat):=by show -((N9 M K:Nat):Rat)<=_;rcases o with h|h<;>rw[h]<;>grind);(have q:(z:Rat)<=(((N9 M K:Nat):Int):Rat):=by show _<=((N9 M K:Nat):Rat);rcases o with h|h<;>rw[h]<;>grind);rw[<-Rat.intCast_neg,Rat.intCast_le_intCast] at p;rw[Rat.intCast_le_intCast] at q;omega);have m:∀b,(Y7 K b).length=(List.range K).length:=fun b=>(by simp[Y7]);have g:∀b:Nat->RV,(∀i,i<K->zso M (b i))->∀v∈Y7 K b,zso M v:=fun b r v hv=>(by obtain⟨k,e,rfl⟩:=List.mem_map.1 hv;exact r k (List.mem_range.1 e));refine⟨?_,fun i j t l=> ?_⟩
 ·have a:=yav (List.range K) (Y7 K B) (m B) (g B f);rw[List.length_range] at a;exact key (d:Int) _ h.det a.1 a.2
 ·have a:=yav (List.range K) (Y7 K (N2 B i (c j))) (m _) (g _ fun k e=>by unfold N2;split;exact s j l;exact f k e);rw[List.length_range] at a;exact key _ _ (h.elem t l) a.1 a.2
structure Dic where
 bas:Nat->Nat
 oth:Nat->Nat
 D:Nat->Nat->Rat
def N5 (f:Nat->Nat) (i v:Nat):Nat->Nat:=fun k=>if k=i then v else f k
def F0 (D:Nat->Nat->Rat) (r c:Nat):Nat->Nat->Rat:=fun i j=>
 if i=r then(if j=c then(D r c)⁻¹ else(D r c)⁻¹*D r j)
 else if j=c then -((D r c)⁻¹*D i c) else D i j-(D r c)⁻¹*D i c*D r j
def zkj (a:Dic) (r c:Nat):Dic:=⟨N5 a.bas r (a.oth c),N5 a.oth c (a.bas r),F0 a.D r c⟩
theorem zoo (f:Nat->Nat) (i v:Nat):N5 f i v i=v:=if_pos rfl
theorem zop (f:Nat->Nat) (v:Nat) (h:k≠i):N5 f i v k=f k:=if_neg h
theorem zzt (h:c<n) (f:Nat->Rat):C4 n f=f c+C4 n fun j=>if j=c then 0 else f j:=by have a:C4 n f=C4 n fun j=>(if j=c then f c else 0)+(if j=c then 0 else f j):=R4 fun j _=>(by split<;>grind);rw[a,zto,znb h fun j _ b=>if_neg b,if_pos rfl]
theorem zz1426 {f:Nat->Rat} (h:C4 n f<0):∃j,j<n/\f j<0:=by
 induction n with
 |zero=>exact absurd h (by simp only[C4];decide)
 |succ n ih=>
  rw[C4] at h;rcases Rat.le_total (a:=0) (b:=(f n)) with c|c
  ·obtain⟨j,d,a⟩:=ih (by grind);exact⟨j,by omega,a⟩
  ·by_cases a:f n=0
   ·obtain⟨j,d,a⟩:=ih (by grind);exact⟨j,by omega,a⟩
   ·exact⟨n,by omega,by grind⟩
theorem zz1389 {D:Nat->Nat->Rat} (hc:c<n) (p:D r c≠0) {X X':Nat->Rat} {g:Rat} (l:∀j,j≠c->X' j=X j) (m:X' c=g)
 (h:g+C4 n (fun j=>D r j*X j)=D r n*t):(X c+C4 n (fun j=>F0 D r c r j*X' j)=F0 D r c r n*t)/\
 ∀i,i≠r->∀y,y+C4 n (fun j=>D i j*X j)=D i n*t->y+C4 n (fun j=>F0 D r c i j*X' j)=F0 D r c i n*t:=by
 obtain⟨q,b⟩:=nm ((D r c)⁻¹);have v:D r c*q=1:=(by rw[b];exact Rat.mul_inv_cancel _ p);obtain⟨R,e⟩:=nm (C4 n fun j=>if j=c then 0 else D r j*X j);have hr:g+(D r c*X c+R)=D r n*t:=(by rw[e,<-zzt hc (fun j=>D r j*X j)];exact h);have o:n≠c:=og;refine⟨?_,fun i f y s=> ?_⟩
 ·have d:(C4 n fun j=>if j=c then 0 else F0 D r c r j*X' j)=q*R:=by
   rw[e,<-zor];refine R4 fun j _=> ?_;by_cases a:j=c
   ·rw[if_pos a,if_pos a];grind
   ·rw[if_neg a,if_neg a,l j a,F0,if_pos rfl,if_neg a,<-b];grind
  rw[zzt hc,d,m,F0,if_pos rfl,if_pos rfl,F0,if_pos rfl,if_neg o,<-b];grind
 ·obtain⟨B,k⟩:=nm (C4 n fun j=>if j=c then 0 else D i j*X j);have u:y+(D i c*X c+B)=D i n*t:=by rw[k,<-zzt hc (fun j=>D i j*X j)];exact s
  have d:(C4 n fun j=>if j=c then 0 else F0 D r c i j*X' j)=B+(-(q*D i c))*R:=by
   rw[e,k,<-zor,<-zto];refine R4 fun j _=> ?_;by_cases a:j=c
   ·rw[if_pos a,if_pos a,if_pos a];grind
   ·rw[if_neg a,if_neg a,if_neg a,l j a,F0,if_neg f,if_neg a,<-b];grind
  rw[zzt hc,d,m,F0,if_neg f,if_pos rfl,F0,if_neg f,if_neg o,<-b];grind
structure Dist (m n:Nat) (S:Dic):Prop where
 bb:∀i j,i<m->j<m->S.bas i=S.bas j->i=j
 oo:∀i j,i<n->j<n->S.oth i=S.oth j->i=j
 bo:∀i j,i<m->j<n->S.bas i≠S.oth j
theorem Dist.piv {b:Dic} (h:Dist m n b) (hr:r<m) (hc:c<n):Dist m n (zkj b r c) where
 bb i j hi a e:=by
  simp only[zkj,N5] at e
  split at e<;>split at e
  ·omega
  ·exact absurd e.symm (h.bo j c a hc)
  ·exact absurd e (h.bo i c hi hc)
  ·exact h.bb i j hi a e
 oo i j hi a e:=by
  simp only[zkj,N5] at e;split at e<;>split at e
  ·omega
  ·exact absurd e (h.bo r j hr a)
  ·exact absurd e.symm (h.bo r i hr hi)
  ·exact h.oo i j hi a e
 bo i j hi a e:=by
  simp only[zkj,N5] at e;split at e<;>split at e
  ·exact h.bo r c hr hc e.symm
  ·rename_i d f;exact f (h.oo j c a hc e.symm)
  ·rename_i d f;exact d (h.bb i r hi hr e)
  ·exact h.bo i j hi a e
structure Fit1 (m n:Nat) (S:Dic) (x:Nat->Rat) (z t:Rat):Prop where
 row:∀i,i<m->x (S.bas i)+C4 n (fun j=>S.D i j*x (S.oth j))=S.D i n*t
 obj:z+C4 n (fun j=>S.D m j*x (S.oth j))=S.D m n*t
theorem Fit1.piv {a:Dic} {x:Nat->Rat} {z:Rat} (h:Fit1 m n a x z t) (hr:r<m) (hc:c<n) (g:a.D r c≠0):Fit1 m n (zkj a r c) x z t:=by
 have b:=zz1389 (D:=a.D) (X:=fun j=>x (a.oth j)) (X':=fun j=>x (N5 a.oth c (a.bas r) j)) hc g (fun j f=>by show x (N5 _ _ _ _)=_;rw[zop _ _ f]) (by show x (N5 _ _ _ _)=_;rw[zoo]) (h.row r hr);refine⟨fun i e=> ?_,b.2 m og z h.obj⟩;by_cases d:i=r
 ·subst d;show x (N5 a.bas i (a.oth c) i)+_=_;rw[zoo];exact b.1
 ·show x (N5 a.bas r (a.oth c) i)+_=_;rw[zop _ _ d];exact b.2 i d _ (h.row i e)
def zka (m n:Nat) (a:Dic) (X:Nat->Rat) (t:Rat) (v:Nat):Rat:=
 C4 m (fun i=>if a.bas i=v then a.D i n*t-C4 n (fun j=>a.D i j*X j) else 0)+C4 n (fun j=>if a.oth j=v then X j else 0)
theorem zvo {a:Dic} (h:Dist m n a) (X:Nat->Rat) (t:Rat) (c:i<m):zka m n a X t (a.bas i)=a.D i n*t-C4 n (fun j=>a.D i j*X j):=by unfold zka;rw[znb c fun j d e=>if_neg fun b=>e (h.bb j i d c b),if_pos rfl,zlp fun j d=>if_neg fun b=>h.bo i j c d b.symm];grind
theorem zyb {a:Dic} (h:Dist m n a) (X:Nat->Rat) (t:Rat) (c:j<n):zka m n a X t (a.oth j)=X j:=by unfold zka;rw[zlp fun i d=>if_neg fun b=>h.bo i j d c b,znb c fun k e f=>if_neg fun b=>f (h.oo k j e c b),if_pos rfl];grind
theorem yhi {a:Dic} (X:Nat->Rat) (t:Rat) (c:∀i,i<m->a.bas i≠v) (d:∀j,j<n->a.oth j≠v):zka m n a X t v=0:=by unfold zka;rw[zlp fun i b=>if_neg (c i b),zlp fun i b=>if_neg (d i b)];grind
theorem yhj {b:Dic} (h:Dist m n b) (X:Nat->Rat) (t:Rat) (a:Nat->Rat):C4 n (fun j=>a j*zka m n b X t (b.oth j))=C4 n fun j=>a j*X j:=
 R4 fun j c=>by show a j*zka m n b X t (b.oth j)=a j*X j;rw[zyb h X t c]
theorem fromO_sum' {b:Dic} (h:Dist m n b) (X:Nat->Rat) (t:Rat) (a:Nat->Rat) {c:Nat->Nat} (e:∀j,j<n->b.oth j=c j):C4 n (fun j=>a j*zka m n b X t (c j))=C4 n fun j=>a j*X j:=
 R4 fun j d=>by show a j*zka m n b X t (c j)=a j*X j;rw[<-e j d,zyb h X t d]
theorem zya {a:Dic} (h:Dist m n a) (X:Nat->Rat) (t:Rat):Fit1 m n a (zka m n a X t) (a.D m n*t-C4 n (fun j=>a.D m j*X j)) t where
 row i hi:=by
  rw[zvo h X t hi,yhj h X t (a.D i)]
  grind
 obj:=by rw[yhj h X t (a.D m)];grind
theorem zz1400 {d a:Dic} (e:Dist m n d) (p:∀i,i<m->d.bas i=a.bas i) (o:∀j,j<n->d.oth j=a.oth j)
 (h:∀x z t,Fit1 m n d x z t->Fit1 m n a x z t):∀i j,i<=m->j<=n->d.D i j=a.D i j:=by
 have key:∀(X:Nat->Rat) (t:Rat) (i:Nat),i<=m->d.D i n*t-C4 n (fun j=>d.D i j*X j)=a.D i n*t-C4 n (fun j=>a.D i j*X j):=by
  intro X t i f;have hF:=h _ _ _ (zya e X t);rcases g i m with c|c
  ·have b:=hF.row i c;rw[<-p i c,zvo e X t c,fromO_sum' e X t (a.D i) o] at b;grind
  ·obtain rfl:i=m:=og;have b:=hF.obj;rw[fromO_sum' e X t (a.D i) o] at b;grind
 intro i j f q;rcases g j n with c|c
 ·have b:=key (fun k=>if k=j then 1 else 0) 0 i f;rw[znb c fun k _ l=>by show _*(if k=j then(1:Rat) else 0)=0;rw[if_neg l];grind,znb c fun k _ l=>by show _*(if k=j then(1:Rat) else 0)=0;rw[if_neg l];grind] at b;simp only[if_pos] at b;grind
 ·obtain rfl:j=n:=og;have b:=key (fun _=>0) 1 i f;rw[zlp fun k _=>by grind,zlp fun k _=>by grind] at b;grind
structure BlandAt (m n:Nat) (S:Dic) (r c:Nat):Prop where
 hc:c<n
 hr:r<m
 cost:S.D m c<0
 least:∀j,j<n->S.D m j<0->S.oth c<=S.oth j
 pos:0<S.D r c
 ratio:∀i,i<m->0<S.D i c->S.D r n*S.D i c<S.D i n*S.D r c\/(S.D r n*S.D i c=S.D i n*S.D r c/\S.bas r<=S.bas i)
theorem inv_pos {a:Rat} (h:0<a):0<a⁻¹:=Rat.inv_pos.2 h
theorem ylk {a:Dic} (h:BlandAt m n a r c) (d:∀i,i<m->0<=a.D i n):∀i,i<m->0<=(zkj a r c).D i n:=by
 intro i g;have b:=inv_pos h.pos;have x:=Rat.mul_inv_cancel _ (Rat.ne_of_gt h.pos);have k:n≠c:=(by have:=h.hc;omega);have l:=d r h.hr;have y:=d i g;by_cases j:i=r
 ·show 0<=F0 a.D r c i n;rw[F0,if_pos j,if_neg k];exact e (Rat.le_of_lt b) l
 ·show 0<=F0 a.D r c i n;rw[F0,if_neg j,if_neg k];rcases Rat.le_total (a:=(a.D i c)) (b:=0) with o|o
  ·have:=e (e (Rat.le_of_lt b) (show 0<=-(a.D i c) by grind)) l;grind
  ·by_cases p:a.D i c=0
   ·rw[p];grind
   ·have s:0<a.D i c:=(by grind);(have t:a.D r n*a.D i c<=a.D i n*a.D r c:=by rcases h.ratio i g s with h|h<;>grind);have f:=Rat.mul_le_mul_of_nonneg_left t (Rat.le_of_lt b);have u:(a.D r c)⁻¹*(a.D i n*a.D r c)=a.D i n:=(by rw[Rat.mul_comm (a.D i n),<-Rat.mul_assoc,Rat.mul_comm _ (a.D r c),x,Rat.one_mul]);rw[u] at f;obtain⟨q,w⟩:=nm ((a.D r c)⁻¹);rw[<-w] at f⊢;have v:q*a.D i c*a.D r n=q*(a.D r n*a.D i c):=(by rw[Rat.mul_assoc,Rat.mul_comm (a.D i c)]);rw[v];grind
theorem ynq {x:Nat}:∀d,f x->¬f (x+d)->∃q,x<=q/\q<x+d/\f q/\¬f (q+1):=by
 intro d;induction d with
 |zero=>intro i j;exact absurd i j
 |succ d ih=>
  intro i j;by_cases h:f (x+d)
  ·exact⟨x+d,by omega,by omega,h,j⟩
  ·obtain⟨q,a,m,c,k⟩:=ih i h;exact⟨q,a,by omega,c,k⟩
theorem yed {a c l:Nat} (n:f a↔f c) (o:a<=k/\k<c) (p:a<=l/\l<c) (j:f k) (m:¬f l):
 (∃q,a<=q/\q<c/\f q/\¬f (q+1))/\∃q,a<=q/\q<c/\¬f q/\f (q+1):=by
 have up:∀x y,a<=x->x<=y->y<=c->f x->¬f y->∃q,a<=q/\q<c/\f q/\¬f (q+1):=(by intro x y s t u d e;obtain⟨q,w,z,q3,g⟩:=ynq (f:=f) (y-x) d (by rw[show x+(y-x)=y by omega];exact e);exact⟨q,by omega,by omega,q3,g⟩);have i:∀x y,a<=x->x<=y->y<=c->¬f x->f y->∃q,a<=q/\q<c/\¬f q/\f (q+1):=(by intro x y s t u d e;obtain⟨q,w,z,q3,g⟩:=ynq (f:=fun v=>¬f v) (y-x) d (by show¬¬f (x+(y-x));rw[show x+(y-x)=y by omega];exact fun h=>h e);exact⟨q,by omega,by omega,q3,Classical.not_not.1 g⟩);by_cases h:f a
 ·exact⟨up a l (b _) p.1 og h m,i l c p.1 og (b _) m (n.1 h)⟩
 ·exact⟨up k c o.1 og (b _) j (fun r=>h (n.2 r)),i a k (b _) o.1 og h j⟩
theorem yyv:∀(K:Nat) (f:Nat->Nat),(∀i,f i<K)->∃i j,i<j/\f i=f j:=by
 have key:∀(K:Nat) (f:Nat->Nat),(∀i,i<=K->f i<K)->∃i j,i<j/\j<=K/\f i=f j:=by
  intro K;induction K with
  |zero=>intro f h;exact absurd (h 0 (b _)) (Nat.not_lt_zero _)
  |succ K ih=>
   intro f h;by_cases g:∃i,i<=K/\f i=f (K+1)
   ·obtain⟨i,d,c⟩:=g;exact⟨i,K+1,by omega,b _,c⟩
   ·have e:∀i,i<=K->f i≠f (K+1):=fun i d c=>g ⟨i,d,c⟩;have p:=h (K+1) (b _);obtain⟨i,j,l,m,c⟩:=ih (fun i=>if f i<f (K+1) then f i else f i-1) (fun i d=>by have n:=h i og;have k:=e i d;show(if f i<f (K+1) then f i else f i-1)<K;split<;>omega);refine⟨i,j,l,by omega,?_⟩;have k:=e i og;have o:=e j m;have c:(if f i<f (K+1) then f i else f i-1)=if f j<f (K+1) then f j else f j-1:=c;split at c<;>split at c<;>omega
 intro K f h;obtain⟨i,j,a,_,c⟩:=key K f (fun i _=>h i);exact⟨i,j,a,c⟩
def zno (N:Nat) (f:Nat->Nat):Nat->Nat
 |0=>0
 |k+1=>zno N f k*N+f k
theorem yga {f:Nat->Nat}:∀k,(∀i,i<k->f i<N)->zno N f k<N^k
 |0,_=>by simp[zno]
 |k+1,h=>by
  have a:=yga k fun i j=>h i og
  have d:=h k og
  have c:(zno N f k+1)*N<=N^k*N:=Nat.mul_le_mul_right _ a
  rw[zno,Nat.pow_succ]
  rw[Nat.add_mul,Nat.one_mul] at c
  omega
theorem yfz {f a:Nat->Nat}:∀k,(∀i,i<k->f i<N)->(∀i,i<k->a i<N)->zno N f k=zno N a k->∀i,i<k->f i=a i
 |0,_,_,_,i,c=>absurd c (Nat.not_lt_zero _)
 |k+1,hf,hg,d,i,c=>by
  have n:=hf k og
  have o:=hg k og
  rw[zno,zno] at d
  have j:f k=a k:=by
   have:=congrArg (·%N) d
   simpa[Nat.add_mod,Nat.mod_eq_of_lt n,Nat.mod_eq_of_lt o] using this
  have m:zno N f k=zno N a k:=Nat.eq_of_mul_eq_mul_right og (show zno N f k*N=zno N a k*N by omega);rcases g i k with h|h
  ·exact yfz k (fun i c=>hf i og) (fun i c=>hg i og) m i h
  ·obtain rfl:i=k:=og;exact j
def zla (m:Nat) (a:Dic) (v:Nat):Prop:=∃i,i<m/\a.bas i=v
theorem yuz {a:Dic} (hr:r<m) (d:zla m a v) (e:¬zla m (zkj a r c) v):v=a.bas r:=by
 obtain⟨i,f,rfl⟩:=d;by_cases b:i=r
 ·rw[b]
 ·exact absurd ⟨i,f,zop _ _ b⟩ e
theorem yuy {a:Dic} (d:¬zla m a v) (e:zla m (zkj a r c) v):v=a.oth c:=by
 obtain⟨i,f,rfl⟩:=e;by_cases b:i=r
 ·rw[b];exact zoo _ _ _
 ·exact absurd ⟨i,f,(zop _ _ b).symm⟩ d
theorem yfa (s:Nat->Dic) (r c:Nat->Nat) (G:∀k,s (k+1)=zkj (s k) (r k) (c k)) (y:∀k,BlandAt m n (s k) (r k) (c k))
 (hD:Dist m n (s 0)) (aL:(∀i,i<m->(s 0).bas i<N)/\∀j,j<n->(s 0).oth j<N) (aK:∀i,i<m->0<=(s 0).D i n):False:=by
 have K:∀k,Dist m n (s k):=by
  intro k;induction k with
  |zero=>exact hD
  |succ k ih=>rw[G];exact ih.piv (y k).hr (y k).hc
 have M:∀k,(∀i,i<m->(s k).bas i<N)/\∀j,j<n->(s k).oth j<N:=by
  intro k;induction k with
  |zero=>exact aL
  |succ k ih=>
   rw[G];refine⟨fun i p=> ?_,fun j D=> ?_⟩
   ·show N5 _ _ _ _<N;unfold N5;split
    ·exact ih.2 _ (y k).hc
    ·exact ih.1 i p
   ·show N5 _ _ _ _<N;unfold N5;split
    ·exact ih.1 _ (y k).hr
    ·exact ih.2 j D
 have aT:∀k i,i<m->0<=(s k).D i n:=by
  intro k;induction k with
  |zero=>exact aK
  |succ k ih=>rw[G];exact ylk (y k) ih
 have ae:∀k d x z t,Fit1 m n (s k) x z t->Fit1 m n (s (k+d)) x z t:=by
  intro k d;induction d with
  |zero=>exact fun x z t h=>h
  |succ d ih=>intro x z t h;rw[<-Nat.add_assoc,G];exact(ih x z t h).piv (y _).hr (y _).hc (Rat.ne_of_gt (y _).pos)
 obtain⟨a,o,av,aO⟩:=yyv (N^(m+n)) (fun k=>zno N (fun i=>if i<m then(s k).bas i else(s k).oth (i-m)) (m+n)) (fun k=>yga _ fun i p=>by
  show(if i<m then(s k).bas i else(s k).oth (i-m))<N;split
  ·exact(M k).1 i ‹_›
  ·exact(M k).2 _ og)
 have aq:∀i,i<m+n->(if i<m then(s a).bas i else(s a).oth (i-m))=if i<m then(s o).bas i else(s o).oth (i-m):=by
  refine yfz (m+n) (fun i p=> ?_) (fun i p=> ?_) aO
  ·show(if i<m then(s a).bas i else(s a).oth (i-m))<N;split
   ·exact(M a).1 i ‹_›
   ·exact(M a).2 _ og
  ·show(if i<m then(s o).bas i else(s o).oth (i-m))<N;split
   ·exact(M o).1 i ‹_›
   ·exact(M o).2 _ og
 have aa:∀i,i<m->(s a).bas i=(s o).bas i:=fun i p=>(by have:=aq i og;rwa[if_pos p,if_pos p] at this);have ai:∀j,j<n->(s a).oth j=(s o).oth j:=fun j D=>(by have:=aq (m+j) og;rwa[if_neg og,if_neg og,Nat.add_sub_cancel_left] at this);have P:∀i j,i<=m->j<=n->(s a).D i j=(s o).D i j:=zz1400 (K a) aa ai fun x z t h=>by have:=ae a (o-a) x z t h;rwa[show a+(o-a)=o by omega] at this
 have aW:∀x z t,Fit1 m n (s o) x z t->Fit1 m n (s a) x z t:=by
  intro x z t h;refine⟨fun i p=> ?_,?_⟩
  ·have u:=h.row i p;rw[aa i p,P i n og (b _),show C4 n (fun j=>(s a).D i j*x ((s a).oth j))=C4 n (fun j=>(s o).D i j*x ((s o).oth j)) from R4 fun j D=>by rw[P i j og og,ai j D]];exact u
  ·have u:=h.obj;rw[P m n (b _) (b _),show C4 n (fun j=>(s a).D m j*x ((s a).oth j))=C4 n (fun j=>(s o).D m j*x ((s o).oth j)) from R4 fun j D=>by rw[P m j (b _) og,ai j D]];exact u
 have aV:∀k C,a<=k->k<o->a<=C->C<o->∀x z t,Fit1 m n (s k) x z t->Fit1 m n (s C) x z t:=(by intro k C L F af ag x z t h;have w:=ae k (o-k) x z t h;rw[show k+(o-k)=o by omega] at w;have A:=ae a (C-a) x z t (aW x z t w);rwa[show a+(C-a)=C by omega] at A);(have aC:∀k,(s (k+1)).D m n=(s k).D m n-((s k).D (r k) (c k))⁻¹*(s k).D m (c k)*(s k).D (r k) n:=by intro k;have w:=(y k).hc;have A:=(y k).hr;rw[G];show F0 _ _ _ _ _=_;rw[F0,if_neg og,if_neg og]);have az:∀k,0<=-(((s k).D (r k) (c k))⁻¹*(s k).D m (c k)*(s k).D (r k) n):=by intro k;have w:=e (e (Rat.le_of_lt (inv_pos (y k).pos)) (show 0<=-((s k).D m (c k)) by have:=(y k).cost;grind)) (aT k _ (y k).hr);grind
 have aA:∀k d,(s k).D m n<=(s (k+d)).D m n:=by
  intro k d;induction d with
  |zero=>exact Rat.le_refl
  |succ d ih=>have w:=aC (k+d);have A:=az (k+d);rw[<-Nat.add_assoc];grind
 have aH:∀k,a<=k->k<o->(s k).D (r k) n=0:=by
  intro k L F;have w:=aA a (k-a);have A:=aA (k+1) (o-(k+1));rw[show a+(k-a)=k by omega] at w;rw[show k+1+(o-(k+1))=o by omega] at A;have B:=P m n (b _) (b _);have H:=aC k;have O:((s k).D (r k) (c k))⁻¹*(s k).D m (c k)*(s k).D (r k) n=0:=(by have:=az k;grind);have Y:=inv_pos (y k).pos;have Z:=(y k).cost;rcases Rat.mul_eq_zero.1 O with h|h
  ·rcases Rat.mul_eq_zero.1 h with h|h
   ·rw[h] at Y;exact absurd Y Rat.lt_irrefl
   ·rw[h] at Z;exact absurd Z Rat.lt_irrefl
  ·exact h
 have aM:∀v k,a<=k->k<o->((∀i,i<m->(s k).bas i=v->(s k).D i n=0)↔∀i,i<m->(s (k+1)).bas i=v->(s (k+1)).D i n=0):=by
  intro v k L F;have aj:=aH k L F;have hr:=(y k).hr;have hc:=(y k).hc;have an:∀i,i≠r k->(s (k+1)).bas i=(s k).bas i:=fun i p=>(by rw[G];exact zop _ _ p);(have ao:∀i,i≠r k->(s (k+1)).D i n=(s k).D i n:=fun i p=>by rw[G];show F0 _ _ _ _ _=_;rw[F0,if_neg p,if_neg og,aj];grind);(have aJ:(s (k+1)).D (r k) n=0:=by rw[G];show F0 _ _ _ _ _=_;rw[F0,if_pos rfl,if_neg og,aj];grind);refine⟨fun h i p u=> ?_,fun h i p u=> ?_⟩
  ·by_cases I:i=r k
   ·rw[I];exact aJ
   ·rw[ao i I];exact h i p (by rw[<-an i I];exact u)
  ·by_cases I:i=r k
   ·rw[I];exact aj
   ·rw[<-ao i I];exact h i p (by rw[an i I];exact u)
 have au:∀v d,a+d<=o->((∀i,i<m->(s a).bas i=v->(s a).D i n=0)↔∀i,i<m->(s (a+d)).bas i=v->(s (a+d)).D i n=0):=by
  intro v d;induction d with
  |zero=>exact fun _=>Iff.rfl
  |succ d ih=>intro h;exact(ih og).trans (by rw[<-Nat.add_assoc];exact aM v (a+d) og og)
 have aN:∀v k C,a<=k->k<o->a<=C->C<o->(∀i,i<m->(s k).bas i=v->(s k).D i n=0)->∀i,i<m->(s C).bas i=v->(s C).D i n=0:=by intro v k C L F af ag h;have w:=au v (k-a) og;have A:=au v (C-a) og;rw[show a+(k-a)=k by omega] at w;rw[show a+(C-a)=C by omega] at A;exact A.1 (w.2 h)
 obtain⟨f,Q,R,ah⟩:∃f,a<=f/\f<o/\∀k,a<=k->k<o->(s k).oth (c k)<=(s f).oth (c f):=by
  have:∀d,a+d<o->∃f,a<=f/\f<o/\∀k,a<=k->k<=a+d->(s k).oth (c k)<=(s f).oth (c f):=by
   intro d;induction d with
   |zero=>intro h;exact⟨a,b _,av,fun k w A=>by rw[show k=a by omega];exact b _⟩
   |succ d ih=>
    intro h;obtain⟨f,w,A,B⟩:=ih og;rcases Nat.le_total ((s (a+(d+1))).oth (c (a+(d+1)))) ((s f).oth (c f)) with H|H
    ·refine⟨f,w,A,fun k U aI=> ?_⟩;by_cases u:k=a+(d+1)
     ·rw[u];exact H
     ·exact B k U og
    ·refine⟨a+(d+1),by omega,h,fun k U aI=> ?_⟩;by_cases u:k=a+(d+1)
     ·rw[u];exact b _
     ·exact Nat.le_trans (B k U og) H
  obtain⟨f,w,A,B⟩:=this (o-1-a) og;exact⟨f,w,A,fun k U aI=>B k U og⟩
 obtain⟨t,T⟩:=nm ((s f).oth (c f));rw[<-T] at ah;have ab:∀v,zla m (s a) v↔zla m (s o) v:=fun v=>⟨fun⟨i,p,u⟩=>⟨i,p,by rw[<-aa i p];exact u⟩,fun⟨i,p,u⟩=>⟨i,p,by rw[aa i p];exact u⟩⟩;have aB:∀k j,j<n->¬zla m (s k) ((s k).oth j):=fun k j D ⟨i,p,u⟩=>(K k).bo i j p D u;have aP:∀v k C,a<=k->k<o->a<=C->C<o->zla m (s k) v->¬zla m (s C) v->v<=t:=by intro v k C L F af ag w A;obtain⟨_,q,V,W,q3,X⟩:=yed (f:=fun k=>zla m (s k) v) (ab v) ⟨L,F⟩ ⟨af,ag⟩ w A;have B:zla m (s (q+1)) v:=X;rw[G] at B;rw[yuy q3 B];exact ah q V W
 obtain⟨k,S,F,aD⟩:∃k,a<=k/\k<o/\(s k).bas (r k)=t:=by
  have w:zla m (s (f+1)) t:=⟨r f,(y f).hr,by rw[G,T];exact zoo _ _ _⟩;have A:¬zla m (s f) t:=(by rw[T];exact aB f _ (y f).hc);have fin:∀q,zla m (s q) t->¬zla m (s (q+1)) t->(s q).bas (r q)=t:=fun q B H=>(by rw[G] at H;exact(yuz (y q).hr B H).symm);by_cases hg:f+1<o
  ·obtain⟨⟨q,V,W,q3,X⟩,_⟩:=yed (f:=fun k=>zla m (s k) t) (ab t) (k:=f+1) (l:=f) ⟨by omega,hg⟩ ⟨Q,R⟩ w A;exact⟨q,V,W,fin q q3 X⟩
  ·have aQ:f+1=o:=og;rw[aQ] at w;have B:=(ab t).2 w;obtain⟨⟨q,V,W,q3,X⟩,_⟩:=yed (f:=fun k=>zla m (s k) t) (ab t) (k:=a) (l:=f) ⟨b _,av⟩ ⟨Q,R⟩ B A;exact⟨q,V,W,fin q q3 X⟩
 have ay:=(y k).hc;have aU:=(y k).hr;have ar:∀i,C4 n (fun j=>(s k).D i j*(if j=c k then(1:Rat) else 0))=(s k).D i (c k):=(by intro i;rw[znb ay fun j _ D=>by show _*(if j=c k then(1:Rat) else 0)=0;rw[if_neg D];grind,if_pos rfl];grind);have hF:=aV k f S F Q R _ _ _ (zya (K k) (fun j=>if j=c k then 1 else 0) 0);obtain⟨d,hd⟩:=nm (zka m n (s k) (fun j=>if j=c k then 1 else 0) 0);rw[<-hd] at hF;have ak:∀i,i<m->d ((s k).bas i)= -((s k).D i (c k)):=(by intro i p;rw[hd,zvo (K k) _ _ p,ar];grind);have al:∀j,j<n->d ((s k).oth j)=if j=c k then 1 else 0:=(by intro j D;rw[hd,zyb (K k) _ _ D]);have aS:=hF.obj;rw[ar] at aS;have aR:C4 n (fun j=>(s f).D m j*d ((s f).oth j))<0:=(by have:=(y k).cost;grind);obtain⟨j,D,J⟩:=zz1426 aR;have J:(s f).D m j*d ((s f).oth j)<0:=J;obtain⟨E,ac⟩:=nm ((s f).oth j);rw[<-ac] at J;have ad:d E≠0:=fun u=>(by rw[u] at J;grind);have aE:¬zla m (s f) E:=by rw[ac];exact aB f j D
 have aG:zla m (s k) E\/E=(s k).oth (c k):=by
  by_cases w:zla m (s k) E
  ·exact .inl w
  ·by_cases A:∃i,i<n/\(s k).oth i=E
   ·obtain⟨i,p,rfl⟩:=A;rw[al i p] at ad;by_cases B:i=c k
    ·rw[B];exact .inr rfl
    ·rw[if_neg B] at ad;exact absurd rfl ad
   ·refine absurd ?_ ad;rw[hd];exact yhi _ _ (fun i p u=>w ⟨i,p,u⟩) (fun i p u=>A ⟨i,p,u⟩)
 have aY:E<=t:=by
  rcases aG with h|h
  ·exact aP E k f S F Q R h aE
  ·rw[h];exact ah k S F
 have aX:d t<0:=(by rw[<-aD,ak _ aU];have:=(y k).pos;grind);rcases Rat.le_total (a:=0) (b:=((s f).D m j)) with w|w
 ·have A:(s f).D m j≠0:=fun u=>by rw[u] at J;grind
  have B:d E<0:=by
   rcases Rat.le_total (a:=0) (b:=(d E)) with h|h
   ·have:=e w h;grind
   ·grind
  have H:E≠t:=fun u=>(by rw[ac,T] at u;have u:=(K f).oo j (c f) D (y f).hc u;rw[u] at w;have:=(y f).cost;grind);rcases aG with O|O
  ·obtain⟨i,p,u⟩:=O;rw[<-u,ak i p] at B;have Y:=aN E f k Q R S F (fun i p u=>absurd ⟨i,p,u⟩ aE) i p u;have Z:=aH k S F;rcases(y k).ratio i p (by grind) with h|h
   ·rw[Y,Z] at h;grind
   ·have:=h.2;rw[aD,u] at this;omega
  ·rw[O,al _ ay,if_pos rfl] at B;exact absurd B (by decide)
 ·have A:(s f).D m j<0:=by
   by_cases u:(s f).D m j=0
   ·rw[u] at J;grind
   ·grind
  have B:=(y f).least j D A;rw[<-T,<-ac] at B;have H:E=t:=og;rw[H] at J;have:=e (show 0<=-((s f).D m j) by grind) (show 0<=-(d t) by grind);grind
end Go.Proofs.YtlhhbccgfkhflaaGreatDoor
