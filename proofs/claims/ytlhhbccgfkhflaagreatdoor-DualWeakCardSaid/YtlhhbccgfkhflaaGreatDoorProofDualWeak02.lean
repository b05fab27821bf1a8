/-
 Tables in whole numbers:the pivots of a table divide exactly,and c numbers stay small (b d).
-/
import Derived.Test.YtlhhbccgfkhflaaGreatDoorProofDualWeak01
namespace Go.Proofs.YtlhhbccgfkhflaaGreatDoor
set_option linter.unusedVariables false
set_option maxRecDepth 100000
set_option maxHeartbeats 8000000
open _root_.Nat renaming le_refl → b, lt_or_ge → g
open _root_.Rat renaming mul_nonneg → e
variable {K M N c i j k m n r v : Nat} {cs : List Nat} {f : Nat → Prop} {t : Rat}
theorem yrk (a b:List RV):W5 cs (a++(fun _=>0)::b)=0:=by have h:=zui cs a b (fun _=>0) (fun _=>0) 0 0;have c:(fun x:Nat=>(0:Rat)*(fun _=>(0:Rat)) x+0*(fun _=>(0:Rat)) x)=fun _=>0:=(by funext x;grind);rw[c] at h;rw[h];grind
theorem ygi (c d:List RV) (a:Nat->Rat) (B:Nat->RV):∀K,W5 cs (c++(fun x=>C6 K fun k=>a k*B k x)::d)=C6 K fun k=>a k*W5 cs (c++B k::d)
 |0=>yrk c d
 |K+1=>by
  have h:=zui cs c d (fun x=>C6 K fun k=>a k*B k x) (B K) 1 (a K)
  have f:(fun x=>C6 (K+1) fun k=>a k*B k x)=fun x=>1*(fun x=>C6 K fun k=>a k*B k x) x+a K*B K x:=by funext x;simp only[C6];grind
  rw[f,h,ygi c d a B K,C6]
  grind
theorem yrh (b c:List RV) (a:Rat) (v:RV):W5 cs (b++(fun x=>a*v x)::c)=a*W5 cs (b++v::c):=by have h:=zui cs b c v v a 0;have d:(fun x:Nat=>a*v x+0*v x)=fun x=>a*v x:=(by funext x;grind);rw[d] at h;rw[h];grind
def N0 (B:Nat->RV) (i:Nat) (v:RV):Nat->RV:=fun k=>if k=i then v else B k
def Y0 (K:Nat) (B:Nat->RV):List RV:=(List.range K).map B
theorem yqx (f:i<K) (B:Nat->RV):∃b c,∀v,Y0 K (N0 B i v)=b++v::c:=by
 refine⟨(List.range i).map B,(List.range (K-1-i)).map fun k=>B (i+1+k),fun v=> ?_⟩;unfold Y0;have e:K=i+(1+(K-1-i)):=og;conv=>lhs;rw[e,List.range_add,List.range_add]
 rw[List.map_append,List.map_map,List.map_append,List.map_map];congr 1
 ·exact List.map_congr_left fun k a=>if_neg (by have:=List.mem_range.1 a;omega)
 ·have d:List.range 1=[0]:=rfl;rw[d];show N0 B i v (i+0)::_=_;congr 1
  ·exact if_pos rfl
  ·exact List.map_congr_left fun k a=>by show N0 B i v (i+(1+k))=_;rw[N0,if_neg og];congr 1;omega
theorem yqy (B:Nat->RV):Y0 K (N0 B i (B i))=Y0 K B:=List.map_congr_left fun k _=>by unfold N0;split;rename_i h;rw[h];rfl
theorem yrj (m:i<K) (n:k<K) (h:k≠i) (B:Nat->RV):W5 cs (Y0 K (N0 B i (B k)))=0:=by
 obtain⟨x,y,o,p,f,b⟩:∃x y,x<y/\y<K/\N0 B i (B k) x=B k/\N0 B i (B k) y=B k:=by
  rcases g k i with c|c
  ·exact⟨k,i,c,m,if_neg h,if_pos rfl⟩
  ·exact⟨i,k,by omega,n,if_pos rfl,if_neg h⟩
 obtain⟨a,j⟩:=nm (N0 B i (B k));rw[<-j] at f b⊢
 have d:Y0 K a=(List.range x).map a++B k::((List.range (y-x-1)).map (fun z=>a (x+1+z))++B k::(List.range (K-1-y)).map fun z=>a (y+1+z)):=by
  unfold Y0;have l:K=x+(1+((y-x-1)+(1+(K-1-y)))):=og;conv=>lhs;rw[l,List.range_add,List.range_add,List.range_add,List.range_add]
  have e:List.range 1=[0]:=rfl;simp only[e,List.map_append,List.map_map,List.map_cons,List.cons_append,List.nil_append];congr 1;congr 1;congr 1
  ·exact List.map_congr_left fun z _=>by show a (x+(1+z))=_;congr 1;omega
  ·congr 1
   ·show a (x+(1+((y-x-1)+0)))=_;rw[show x+(1+((y-x-1)+0))=y by omega,b]
   ·exact List.map_congr_left fun z _=>by show a (x+(1+((y-x-1)+(1+z))))=_;congr 1;omega
 rw[d];exact yrf cs (B k) _ _ _
theorem ygh (c:i<K) {B:Nat->RV} {v:RV} {d:Rat} {a:Nat->Rat} (h:∀x,d*v x=C6 K fun k=>a k*B k x):
 d*W5 cs (Y0 K (N0 B i v))=a i*W5 cs (Y0 K B):=by
 obtain⟨f,g,b⟩:=yqx c B;have j:(fun x=>d*v x)=fun x=>C6 K fun k=>a k*B k x:=funext h;have e:=yrh (cs:=cs) f g d v;rw[j,ygi] at e;rw[b,<-e,zmz c fun k l m=> ?_]
 ·rw[<-b (B i),yqy]
 ·rw[<-b (B k),yrj c l m];grind
structure Cram (K n:Nat) (A:Nat->Nat->Int) (d:Nat) (B O:Nat->RV):Prop where
 d0:0<d
 intB:∀i,i<K->zqm (B i)
 intO:∀j,j<=n->zqm (O j)
 det:((d:Int):Rat)=W5 (List.range K) (Y0 K B)\/((d:Int):Rat)= -W5 (List.range K) (Y0 K B)
 rel:∀j,j<=n->∀x,((d:Int):Rat)*O j x=C6 K fun i=>(A i j:Rat)*B i x
def zsz (M:Nat) (v:RV):Prop:=∀x,-(M:Rat)<=v x/\v x<=(M:Rat)
theorem zwn {d:Nat} (h:0<d):((d:Int):Rat)≠0:=by intro a;have:(d:Int)=0:=Rat.intCast_inj.1 (by rw[a];rfl);omega
theorem Cram.elem {d:Nat} {A:Nat->Nat->Int} {B b:Nat->RV} (h:Cram K n A d B b) (g:i<K) (k:j<=n):
 (A i j:Rat)=W5 (List.range K) (Y0 K (N0 B i (b j)))\/(A i j:Rat)= -W5 (List.range K) (Y0 K (N0 B i (b j))):=by
 have c:=ygh (cs:=List.range K) g (h.rel j k);have e:=zwn h.d0;obtain⟨X,f⟩:=nm (W5 (List.range K) (Y0 K (N0 B i (b j))));obtain⟨D,hD⟩:=nm (((d:Int):Rat));have a:=h.det;rw[<-f] at c⊢;rw[<-hD] at c e a;rcases a with a|a
 ·left;rw[<-a] at c;have:D*(X-A i j)=0:=(by grind);rcases Rat.mul_eq_zero.1 this with h|h
  ·exact absurd h e
  ·grind
 ·right;have:D*(X+A i j)=0:=(by grind);rcases Rat.mul_eq_zero.1 this with h|h
  ·exact absurd h e
  ·grind
def zli (A:Nat->Nat->Int) (d r c:Nat):Nat->Nat->Int:=fun i j=>
 if i=r then(if j=c then(d:Int) else A r j)
 else if j=c then -(A i c) else zlc (A i j) (A r c) (A i c) (A r j) d
def zno (A:Nat->Nat->Int) (d r c:Nat):Nat->Nat->Int:=fun i j=>if A r c<0 then -(zli A d r c i j) else zli A d r c i j
theorem Cram.piv {d:Nat} {A:Nat->Nat->Int} {B b:Nat->RV} (h:Cram K n A d B b) (hr:r<K) (hc:c<n) (W:A r c≠0):
 Cram K n (zno A d r c) (A r c).natAbs (N0 B r (b c)) (N0 b c (B r))/\
 ∀i j,i<K->j<=n->i≠r->j≠c->((zli A d r c i j:Int):Rat)=((A i j:Rat)*(A r c:Rat)-(A i c:Rat)*(A r j:Rat))/((d:Int):Rat):=by
 obtain⟨g,p⟩:=nm (A r c);obtain⟨D,hD⟩:=nm (((d:Int):Rat));have Q:=zwn h.d0;rw[<-hD] at Q;have X:(g:Rat)≠0:=(by intro C;have t:g=0:=Rat.intCast_inj.1 (by rw[C];rfl);rw[p] at t;exact W t);obtain⟨q,Y⟩:=nm (D⁻¹);have Z:D*q=1:=(by rw[Y];exact Rat.mul_inv_cancel _ Q);obtain⟨s,w⟩:∃s:Nat->Nat->Rat,s=fun i j=>if i=r then(if j=c then D else(A r j:Rat)) else if j=c then -(A i c:Rat) else((A i j:Rat)*(g:Rat)-(A i c:Rat)*(A r j:Rat))*q:=⟨_,rfl⟩;have aa:∀j,j<=n->∀x,D*b j x=C6 K fun i=>(A i j:Rat)*B i x:=(by rw[hD];exact h.rel);have split:∀(f:Nat->Rat),C6 K f=f r+C6 K fun i=>if i=r then 0 else f i:=by intro f;have t:C6 K f=C6 K fun j=>(if j=r then f r else 0)+(if j=r then 0 else f j):=M8 fun j _=>(by split<;>grind);rw[t,zsa,zmz hr fun j _ l=>if_neg l,if_pos rfl]
 have hrel:∀j,j<=n->∀x,(g:Rat)*N0 b c (B r) j x=C6 K fun i=>s i j*N0 B r (b c) i x:=by
  intro j l x;have P:=aa c og x;rw[split] at P;obtain⟨E,H⟩:=nm (C6 K fun i=>if i=r then 0 else(A i c:Rat)*B i x);rw[<-H,<-p] at P;rw[split];by_cases m:j=c
  ·have F:(C6 K fun i=>if i=r then(0:Rat) else s i j*N0 B r (b c) i x)=(-1)*E:=by
    rw[H,<-znu];refine M8 fun i _=> ?_;by_cases e:i=r
    ·rw[if_pos e,if_pos e];grind
    ·rw[if_neg e,if_neg e,w,N0,if_neg e];simp only[if_neg e,if_pos m];grind
   rw[F,w,N0,N0,if_pos m,if_pos rfl];simp only[if_true,if_pos m];grind
  ·have U:=aa j l x;rw[split] at U;obtain⟨M,O⟩:=nm (C6 K fun i=>if i=r then 0 else(A i j:Rat)*B i x);rw[<-O] at U
   have F:(C6 K fun i=>if i=r then(0:Rat) else s i j*N0 B r (b c) i x)=((g:Rat)*q)*M+(-((A r j:Rat)*q))*E:=by
    rw[O,H,<-znu,<-znu,<-zsa];refine M8 fun i _=> ?_;by_cases e:i=r
    ·rw[if_pos e,if_pos e,if_pos e];grind
    ·rw[if_neg e,if_neg e,if_neg e,w,N0,if_neg e];simp only[if_neg e,if_neg m];grind
   rw[F,w,N0,N0,if_neg m,if_pos rfl];simp only[if_true,if_neg m];have u:M=D*b j x-(A r j:Rat)*B r x:=(by grind);have G:E=D*b c x-(g:Rat)*B r x:=(by grind);rw[u,G];have ac:(g:Rat)*b j x=(g:Rat)*(D*q)*b j x:=(by rw[Z];grind);have ad:(A r j:Rat)*b c x=(A r j:Rat)*(D*q)*b c x:=(by rw[Z];grind);grind
 have S:∀i,i<K->zqm (N0 B r (b c) i):=fun i o=>(by unfold N0;split;exact h.intO c og;exact h.intB i o);have T:∀j,j<=n->zqm (N0 b c (B r) j):=fun j l=>(by unfold N0;split;exact h.intB r hr;exact h.intO j l);have J:(g:Rat)=W5 (List.range K) (Y0 K (N0 B r (b c)))\/(g:Rat)= -W5 (List.range K) (Y0 K (N0 B r (b c))):=by rw[p];exact h.elem hr og
 have ab:∀i j,i<K->j<=n->∃z:Int,s i j=(z:Rat):=by
  intro i j o l;have t:=ygh (cs:=List.range K) o (hrel j l)
  obtain⟨z,y⟩:=yrg (List.range K) (Y0 K (N0 (N0 B r (b c)) i (N0 b c (B r) j))) (fun v hv=>by
   obtain⟨k,L,rfl⟩:=List.mem_map.1 hv;have L:=List.mem_range.1 L;show zqm (if k=i then _ else _);split
   ·exact T j l
   ·exact S k L)
  rw[y] at t;rcases J with N|N
  ·refine⟨z,?_⟩;rw[<-N] at t;have:(g:Rat)*((z:Rat)-s i j)=0:=(by grind);rcases Rat.mul_eq_zero.1 this with h|h
   ·exact absurd h X
   ·grind
  ·refine⟨-z,?_⟩;have:(g:Rat)*((z:Rat)+s i j)=0:=(by grind);rcases Rat.mul_eq_zero.1 this with h|h
   ·exact absurd h X
   ·rw[Rat.intCast_neg];grind
 have R:∀a:Rat,a/D=a*q:=fun a=>by rw[Y];exact Rat.div_def a D
 have I:∀i j,i<K->j<=n->((zli A d r c i j:Int):Rat)=s i j:=by
  intro i j o l;rw[w];unfold zli;by_cases e:i=r
  ·simp only[if_pos e];by_cases m:j=c
   ·simp only[if_pos m];exact hD.symm
   ·simp only[if_neg m]
  ·simp only[if_neg e];by_cases m:j=c
   ·simp only[if_pos m];rw[Rat.intCast_neg]
   ·simp only[if_neg m];obtain⟨z,y⟩:=ab i j o l;rw[w] at y;simp only[if_neg e,if_neg m] at y;rw[y];congr 1;unfold zlc;refine zz1437 h.d0 ?_;rw[<-hD,R,Rat.intCast_sub,Rat.intCast_mul,Rat.intCast_mul,<-p];exact y
 refine⟨⟨by rw[<-p];have:g≠0:=by rw[p];exact W
            omega,S,T,?_,?_⟩,fun i j o l e m=> ?_⟩
 ·rw[<-p];rcases Int.natAbs_eq g with C|C
  ·rw[<-C];exact J
  ·have u:((g.natAbs:Int):Rat)= -(g:Rat):=(by rw[<-Rat.intCast_neg];congr 1;omega);rw[u];rcases J with h|h
   ·right;rw[h]
   ·left;rw[h];grind
 ·intro j l x;have t:=hrel j l x;rw[<-p];by_cases V:g<0
  ·have u:((g.natAbs:Int):Rat)= -(g:Rat):=(by rw[<-Rat.intCast_neg];congr 1;omega);rw[u];have G:(C6 K fun i=>((zno A d r c i j:Int):Rat)*N0 B r (b c) i x)=(-1)*C6 K fun i=>s i j*N0 B r (b c) i x:=(by rw[<-znu];refine M8 fun i o=> ?_;rw[zno,<-p,if_pos V,Rat.intCast_neg,I i j o l];grind);rw[G,<-t];grind
  ·have u:((g.natAbs:Int):Rat)=(g:Rat):=(by congr 1;omega);rw[u,t];refine M8 fun i o=> ?_;rw[zno,<-p,if_neg V,I i j o l]
 ·rw[I i j o l,w,<-p,<-hD,R];simp only[if_neg e,if_neg m]
theorem yos {F:List RV->Rat} {M f:Rat} (t:0<=M) (hF:∀r:List RV,r.length=n->(∀v∈r,∀x,-M<=v x/\v x<=M)-> -f<=F r/\F r<=f) (hf:0<=f) (post:List RV):∀pre:List RV,pre.length+post.length=n+1->(∀v∈pre,∀x,-M<=v x/\v x<=M)->(∀v∈post,∀x,-M<=v x/\v x<=M)->
 -(((post.length:Nat):Rat)*(M*f))<=X9 F c pre post/\X9 F c pre post<=((post.length:Nat):Rat)*(M*f):=by
 induction post with
 |nil=>intro pre _ _ _;simp only[X9,List.length_nil];constructor<;>grind
 |cons v post ih=>intro pre k j i;have hv:=i v (by simp) c;have o:=hF (pre++post) (by simp at k⊢;omega) (fun a d=>by rcases List.mem_append.1 d with h|h;exact j a h;exact i a (by simp[h]));have u:=ih (pre++[v]) (by simp at k⊢;omega) (fun a d=>by rcases List.mem_append.1 d with h|h;exact j a h;exact i a (by simp at h;simp[h])) (fun a d=>i a (by simp[d]));obtain⟨y,l⟩:=nm (F (pre++post));rw[<-l] at o;have s:v c*y<=M*f:=(by have p:=e (show 0<=M-v c by grind) (show 0<=f+y by grind);have q:=e (show 0<=M+v c by grind) (show 0<=f-y by grind);grind);have b2: -(M*f)<=v c*y:=(by have p:=e (show 0<=M-v c by grind) (show 0<=f-y by grind);have q:=e (show 0<=M+v c by grind) (show 0<=f+y by grind);grind);have m:(((v::post).length:Nat):Rat)=((post.length:Nat):Rat)+1:=(by rw[List.length_cons];exact Rat.natCast_add _ _);rw[X9,<-l,m];constructor<;>grind
def M3 (M:Nat):Nat->Nat
 |0=>1
 |k+1=>(k+1)*(M*M3 M k)
theorem ybk:∀(cs:List Nat) (rows:List RV),rows.length=cs.length->(∀v∈rows,zsz M v)-> -(((M3 M cs.length:Nat)):Rat)<=W5 cs rows/\W5 cs rows<=((M3 M cs.length:Nat):Rat)
 |[],[],_,_=>by simp only[W5,M3,List.length_nil];constructor<;>decide
 |c::cs,rows,a,h=>by
  have f:=yos (F:=W5 cs) (M:=(M:Rat)) (f:=((M3 M cs.length:Nat):Rat)) (n:=cs.length) (c:=c) (by exact Rat.natCast_nonneg) (fun r hr hv=>ybk cs r hr hv) (by exact Rat.natCast_nonneg) rows [] (by rw[a];simp) (fun v hv=>by cases hv) h
  have d:((M3 M (c::cs).length:Nat):Rat)=((rows.length:Nat):Rat)*((M:Rat)*((M3 M cs.length:Nat):Rat)):=by
   rw[a,List.length_cons,M3,Rat.natCast_mul,Rat.natCast_mul]
  rw[d];exact f
theorem Cram.small {d:Nat} {A:Nat->Nat->Int} {B c:Nat->RV} (h:Cram K n A d B c) (f:∀i,i<K->zsz M (B i)) (s:∀j,j<=n->zsz M (c j)):d<=M3 M K/\∀i j,i<K->j<=n->(A i j).natAbs<=M3 M K:=by
 have key:∀(z:Int) (X:Rat),((z:Rat)=X\/(z:Rat)= -X)-> -((M3 M K:Nat):Rat)<=X->X<=((M3 M K:Nat):Rat)->z.natAbs<=M3 M K:=(by intro z X o a u;(have p: -(((M3 M K:Nat):Int):Rat)<=(z:Rat):=by show -((M3 M K:Nat):Rat)<=_;rcases o with h|h<;>rw[h]<;>grind);(have q:(z:Rat)<=(((M3 M K:Nat):Int):Rat):=by show _<=((M3 M K:Nat):Rat);rcases o with h|h<;>rw[h]<;>grind);rw[<-Rat.intCast_neg,Rat.intCast_le_intCast] at p;rw[Rat.intCast_le_intCast] at q;omega);have m:∀b,(Y0 K b).length=(List.range K).length:=fun b=>(by simp[Y0]);have g:∀b:Nat->RV,(∀i,i<K->zsz M (b i))->∀v∈Y0 K b,zsz M v:=fun b r v hv=>(by obtain⟨k,e,rfl⟩:=List.mem_map.1 hv;exact r k (List.mem_range.1 e));refine⟨?_,fun i j t l=> ?_⟩
 ·have a:=ybk (List.range K) (Y0 K B) (m B) (g B f);rw[List.length_range] at a;exact key (d:Int) _ h.det a.1 a.2
 ·have a:=ybk (List.range K) (Y0 K (N0 B i (c j))) (m _) (g _ fun k e=>by unfold N0;split;exact s j l;exact f k e);rw[List.length_range] at a;exact key _ _ (h.elem t l) a.1 a.2
structure Dic where
 bas:Nat->Nat
 oth:Nat->Nat
 D:Nat->Nat->Rat
def O7 (f:Nat->Nat) (i v:Nat):Nat->Nat:=fun k=>if k=i then v else f k
def K5 (D:Nat->Nat->Rat) (r c:Nat):Nat->Nat->Rat:=fun i j=>
 if i=r then(if j=c then(D r c)⁻¹ else(D r c)⁻¹*D r j)
 else if j=c then -((D r c)⁻¹*D i c) else D i j-(D r c)⁻¹*D i c*D r j
def zla (a:Dic) (r c:Nat):Dic:=⟨O7 a.bas r (a.oth c),O7 a.oth c (a.bas r),K5 a.D r c⟩
theorem zoq (f:Nat->Nat) (i v:Nat):O7 f i v i=v:=if_pos rfl
theorem zor (f:Nat->Nat) (v:Nat) (h:k≠i):O7 f i v k=f k:=if_neg h
theorem yac (h:c<n) (f:Nat->Rat):C6 n f=f c+C6 n fun j=>if j=c then 0 else f j:=by have a:C6 n f=C6 n fun j=>(if j=c then f c else 0)+(if j=c then 0 else f j):=M8 fun j _=>(by split<;>grind);rw[a,zsa,zmz h fun j _ b=>if_neg b,if_pos rfl]
theorem zz1428 {f:Nat->Rat} (h:C6 n f<0):∃j,j<n/\f j<0:=by
 induction n with
 |zero=>exact absurd h (by simp only[C6];decide)
 |succ n ih=>
  rw[C6] at h;rcases Rat.le_total (a:=0) (b:=(f n)) with c|c
  ·obtain⟨j,d,a⟩:=ih (by grind);exact⟨j,by omega,a⟩
  ·by_cases a:f n=0
   ·obtain⟨j,d,a⟩:=ih (by grind);exact⟨j,by omega,a⟩
   ·exact⟨n,by omega,by grind⟩
theorem zz1383 {D:Nat->Nat->Rat} (hc:c<n) (p:D r c≠0) {X X':Nat->Rat} {g:Rat} (l:∀j,j≠c->X' j=X j) (m:X' c=g)
 (h:g+C6 n (fun j=>D r j*X j)=D r n*t):(X c+C6 n (fun j=>K5 D r c r j*X' j)=K5 D r c r n*t)/\
 ∀i,i≠r->∀y,y+C6 n (fun j=>D i j*X j)=D i n*t->y+C6 n (fun j=>K5 D r c i j*X' j)=K5 D r c i n*t:=by
 obtain⟨q,b⟩:=nm ((D r c)⁻¹);have v:D r c*q=1:=(by rw[b];exact Rat.mul_inv_cancel _ p);obtain⟨R,e⟩:=nm (C6 n fun j=>if j=c then 0 else D r j*X j);have hr:g+(D r c*X c+R)=D r n*t:=(by rw[e,<-yac hc (fun j=>D r j*X j)];exact h);have o:n≠c:=og;refine⟨?_,fun i f y s=> ?_⟩
 ·have d:(C6 n fun j=>if j=c then 0 else K5 D r c r j*X' j)=q*R:=by
   rw[e,<-znu];refine M8 fun j _=> ?_;by_cases a:j=c
   ·rw[if_pos a,if_pos a];grind
   ·rw[if_neg a,if_neg a,l j a,K5,if_pos rfl,if_neg a,<-b];grind
  rw[yac hc,d,m,K5,if_pos rfl,if_pos rfl,K5,if_pos rfl,if_neg o,<-b];grind
 ·obtain⟨B,k⟩:=nm (C6 n fun j=>if j=c then 0 else D i j*X j);have u:y+(D i c*X c+B)=D i n*t:=by rw[k,<-yac hc (fun j=>D i j*X j)];exact s
  have d:(C6 n fun j=>if j=c then 0 else K5 D r c i j*X' j)=B+(-(q*D i c))*R:=by
   rw[e,k,<-znu,<-zsa];refine M8 fun j _=> ?_;by_cases a:j=c
   ·rw[if_pos a,if_pos a,if_pos a];grind
   ·rw[if_neg a,if_neg a,if_neg a,l j a,K5,if_neg f,if_neg a,<-b];grind
  rw[yac hc,d,m,K5,if_neg f,if_pos rfl,K5,if_neg f,if_neg o,<-b];grind
structure Dist (m n:Nat) (S:Dic):Prop where
 bb:∀i j,i<m->j<m->S.bas i=S.bas j->i=j
 oo:∀i j,i<n->j<n->S.oth i=S.oth j->i=j
 bo:∀i j,i<m->j<n->S.bas i≠S.oth j
theorem Dist.piv {b:Dic} (h:Dist m n b) (hr:r<m) (hc:c<n):Dist m n (zla b r c) where
 bb i j hi a e:=by
  simp only[zla,O7] at e
  split at e<;>split at e
  ·omega
  ·exact absurd e.symm (h.bo j c a hc)
  ·exact absurd e (h.bo i c hi hc)
  ·exact h.bb i j hi a e
 oo i j hi a e:=by
  simp only[zla,O7] at e;split at e<;>split at e
  ·omega
  ·exact absurd e (h.bo r j hr a)
  ·exact absurd e.symm (h.bo r i hr hi)
  ·exact h.oo i j hi a e
 bo i j hi a e:=by
  simp only[zla,O7] at e;split at e<;>split at e
  ·exact h.bo r c hr hc e.symm
  ·rename_i d f;exact f (h.oo j c a hc e.symm)
  ·rename_i d f;exact d (h.bb i r hi hr e)
  ·exact h.bo i j hi a e
structure Fit1 (m n:Nat) (S:Dic) (x:Nat->Rat) (z t:Rat):Prop where
 row:∀i,i<m->x (S.bas i)+C6 n (fun j=>S.D i j*x (S.oth j))=S.D i n*t
 obj:z+C6 n (fun j=>S.D m j*x (S.oth j))=S.D m n*t
theorem Fit1.piv {a:Dic} {x:Nat->Rat} {z:Rat} (h:Fit1 m n a x z t) (hr:r<m) (hc:c<n) (g:a.D r c≠0):Fit1 m n (zla a r c) x z t:=by
 have b:=zz1383 (D:=a.D) (X:=fun j=>x (a.oth j)) (X':=fun j=>x (O7 a.oth c (a.bas r) j)) hc g (fun j f=>by show x (O7 _ _ _ _)=_;rw[zor _ _ f]) (by show x (O7 _ _ _ _)=_;rw[zoq]) (h.row r hr);refine⟨fun i e=> ?_,b.2 m og z h.obj⟩;by_cases d:i=r
 ·subst d;show x (O7 a.bas i (a.oth c) i)+_=_;rw[zoq];exact b.1
 ·show x (O7 a.bas r (a.oth c) i)+_=_;rw[zor _ _ d];exact b.2 i d _ (h.row i e)
def Z9 (m n:Nat) (a:Dic) (X:Nat->Rat) (t:Rat) (v:Nat):Rat:=
 C6 m (fun i=>if a.bas i=v then a.D i n*t-C6 n (fun j=>a.D i j*X j) else 0)+C6 n (fun j=>if a.oth j=v then X j else 0)
theorem zwe {a:Dic} (h:Dist m n a) (X:Nat->Rat) (t:Rat) (c:i<m):Z9 m n a X t (a.bas i)=a.D i n*t-C6 n (fun j=>a.D i j*X j):=by unfold Z9;rw[zmz c fun j d e=>if_neg fun b=>e (h.bb j i d c b),if_pos rfl,zlk fun j d=>if_neg fun b=>h.bo i j c d b.symm];grind
theorem zyb {a:Dic} (h:Dist m n a) (X:Nat->Rat) (t:Rat) (c:j<n):Z9 m n a X t (a.oth j)=X j:=by unfold Z9;rw[zlk fun i d=>if_neg fun b=>h.bo i j d c b,zmz c fun k e f=>if_neg fun b=>f (h.oo k j e c b),if_pos rfl];grind
theorem yhj {a:Dic} (X:Nat->Rat) (t:Rat) (c:∀i,i<m->a.bas i≠v) (d:∀j,j<n->a.oth j≠v):Z9 m n a X t v=0:=by unfold Z9;rw[zlk fun i b=>if_neg (c i b),zlk fun i b=>if_neg (d i b)];grind
theorem yhk {b:Dic} (h:Dist m n b) (X:Nat->Rat) (t:Rat) (a:Nat->Rat):C6 n (fun j=>a j*Z9 m n b X t (b.oth j))=C6 n fun j=>a j*X j:=
 M8 fun j c=>by show a j*Z9 m n b X t (b.oth j)=a j*X j;rw[zyb h X t c]
theorem fromO_sum' {b:Dic} (h:Dist m n b) (X:Nat->Rat) (t:Rat) (a:Nat->Rat) {c:Nat->Nat} (e:∀j,j<n->b.oth j=c j):C6 n (fun j=>a j*Z9 m n b X t (c j))=C6 n fun j=>a j*X j:=
 M8 fun j d=>by show a j*Z9 m n b X t (c j)=a j*X j;rw[<-e j d,zyb h X t d]
theorem zya {a:Dic} (h:Dist m n a) (X:Nat->Rat) (t:Rat):Fit1 m n a (Z9 m n a X t) (a.D m n*t-C6 n (fun j=>a.D m j*X j)) t where
 row i hi:=by
  rw[zwe h X t hi,yhk h X t (a.D i)]
  grind
 obj:=by rw[yhk h X t (a.D m)];grind
theorem zz1392 {d a:Dic} (e:Dist m n d) (p:∀i,i<m->d.bas i=a.bas i) (o:∀j,j<n->d.oth j=a.oth j)
 (h:∀x z t,Fit1 m n d x z t->Fit1 m n a x z t):∀i j,i<=m->j<=n->d.D i j=a.D i j:=by
 have key:∀(X:Nat->Rat) (t:Rat) (i:Nat),i<=m->d.D i n*t-C6 n (fun j=>d.D i j*X j)=a.D i n*t-C6 n (fun j=>a.D i j*X j):=by
  intro X t i f;have hF:=h _ _ _ (zya e X t);rcases g i m with c|c
  ·have b:=hF.row i c;rw[<-p i c,zwe e X t c,fromO_sum' e X t (a.D i) o] at b;grind
  ·obtain rfl:i=m:=og;have b:=hF.obj;rw[fromO_sum' e X t (a.D i) o] at b;grind
 intro i j f q;rcases g j n with c|c
 ·have b:=key (fun k=>if k=j then 1 else 0) 0 i f;rw[zmz c fun k _ l=>by show _*(if k=j then(1:Rat) else 0)=0;rw[if_neg l];grind,zmz c fun k _ l=>by show _*(if k=j then(1:Rat) else 0)=0;rw[if_neg l];grind] at b;simp only[if_pos] at b;grind
 ·obtain rfl:j=n:=og;have b:=key (fun _=>0) 1 i f;rw[zlk fun k _=>by grind,zlk fun k _=>by grind] at b;grind
structure BlandAt (m n:Nat) (S:Dic) (r c:Nat):Prop where
 hc:c<n
 hr:r<m
 cost:S.D m c<0
 least:∀j,j<n->S.D m j<0->S.oth c<=S.oth j
 pos:0<S.D r c
 ratio:∀i,i<m->0<S.D i c->S.D r n*S.D i c<S.D i n*S.D r c\/(S.D r n*S.D i c=S.D i n*S.D r c/\S.bas r<=S.bas i)
theorem inv_pos {a:Rat} (h:0<a):0<a⁻¹:=Rat.inv_pos.2 h
theorem yli {a:Dic} (h:BlandAt m n a r c) (d:∀i,i<m->0<=a.D i n):∀i,i<m->0<=(zla a r c).D i n:=by
 intro i g;have b:=inv_pos h.pos;have x:=Rat.mul_inv_cancel _ (Rat.ne_of_gt h.pos);have k:n≠c:=(by have:=h.hc;omega);have l:=d r h.hr;have y:=d i g;by_cases j:i=r
 ·show 0<=K5 a.D r c i n;rw[K5,if_pos j,if_neg k];exact e (Rat.le_of_lt b) l
 ·show 0<=K5 a.D r c i n;rw[K5,if_neg j,if_neg k];rcases Rat.le_total (a:=(a.D i c)) (b:=0) with o|o
  ·have:=e (e (Rat.le_of_lt b) (show 0<=-(a.D i c) by grind)) l;grind
  ·by_cases p:a.D i c=0
   ·rw[p];grind
   ·have s:0<a.D i c:=(by grind);(have t:a.D r n*a.D i c<=a.D i n*a.D r c:=by rcases h.ratio i g s with h|h<;>grind);have f:=Rat.mul_le_mul_of_nonneg_left t (Rat.le_of_lt b);have u:(a.D r c)⁻¹*(a.D i n*a.D r c)=a.D i n:=(by rw[Rat.mul_comm (a.D i n),<-Rat.mul_assoc,Rat.mul_comm _ (a.D r c),x,Rat.one_mul]);rw[u] at f;obtain⟨q,w⟩:=nm ((a.D r c)⁻¹);rw[<-w] at f⊢;have v:q*a.D i c*a.D r n=q*(a.D r n*a.D i c):=(by rw[Rat.mul_assoc,Rat.mul_comm (a.D i c)]);rw[v];grind
theorem ynh {x:Nat}:∀d,f x->¬f (x+d)->∃q,x<=q/\q<x+d/\f q/\¬f (q+1):=by
 intro d;induction d with
 |zero=>intro i j;exact absurd i j
 |succ d ih=>
  intro i j;by_cases h:f (x+d)
  ·exact⟨x+d,by omega,by omega,h,j⟩
  ·obtain⟨q,a,l,c,k⟩:=ih i h;exact⟨q,a,by omega,c,k⟩
theorem yee {a c l:Nat} (n:f a↔f c) (o:a<=k/\k<c) (p:a<=l/\l<c) (j:f k) (m:¬f l):
 (∃q,a<=q/\q<c/\f q/\¬f (q+1))/\∃q,a<=q/\q<c/\¬f q/\f (q+1):=by
 have up:∀x y,a<=x->x<=y->y<=c->f x->¬f y->∃q,a<=q/\q<c/\f q/\¬f (q+1):=(by intro x y s t u d e;obtain⟨q,w,z,q3,g⟩:=ynh (f:=f) (y-x) d (by rw[show x+(y-x)=y by omega];exact e);exact⟨q,by omega,by omega,q3,g⟩);have i:∀x y,a<=x->x<=y->y<=c->¬f x->f y->∃q,a<=q/\q<c/\¬f q/\f (q+1):=(by intro x y s t u d e;obtain⟨q,w,z,q3,g⟩:=ynh (f:=fun v=>¬f v) (y-x) d (by show¬¬f (x+(y-x));rw[show x+(y-x)=y by omega];exact fun h=>h e);exact⟨q,by omega,by omega,q3,Classical.not_not.1 g⟩);by_cases h:f a
 ·exact⟨up a l (b _) p.1 og h m,i l c p.1 og (b _) m (n.1 h)⟩
 ·exact⟨up k c o.1 og (b _) j (fun r=>h (n.2 r)),i a k (b _) o.1 og h j⟩
theorem yyt:∀(K:Nat) (f:Nat->Nat),(∀i,f i<K)->∃i j,i<j/\f i=f j:=by
 have key:∀(K:Nat) (f:Nat->Nat),(∀i,i<=K->f i<K)->∃i j,i<j/\j<=K/\f i=f j:=by
  intro K;induction K with
  |zero=>intro f h;exact absurd (h 0 (b _)) (Nat.not_lt_zero _)
  |succ K ih=>
   intro f h;by_cases g:∃i,i<=K/\f i=f (K+1)
   ·obtain⟨i,d,c⟩:=g;exact⟨i,K+1,by omega,b _,c⟩
   ·have e:∀i,i<=K->f i≠f (K+1):=fun i d c=>g ⟨i,d,c⟩;have p:=h (K+1) (b _);obtain⟨i,j,l,m,c⟩:=ih (fun i=>if f i<f (K+1) then f i else f i-1) (fun i d=>by have n:=h i og;have k:=e i d;show(if f i<f (K+1) then f i else f i-1)<K;split<;>omega);refine⟨i,j,l,by omega,?_⟩;have k:=e i og;have o:=e j m;have c:(if f i<f (K+1) then f i else f i-1)=if f j<f (K+1) then f j else f j-1:=c;split at c<;>split at c<;>omega
 intro K f h;obtain⟨i,j,a,_,c⟩:=key K f (fun i _=>h i);exact⟨i,j,a,c⟩
def znw (N:Nat) (f:Nat->Nat):Nat->Nat
 |0=>0
 |k+1=>znw N f k*N+f k
theorem yge {f:Nat->Nat}:∀k,(∀i,i<k->f i<N)->znw N f k<N^k
 |0,_=>by simp[znw]
 |k+1,h=>by
  have a:=yge k fun i j=>h i og
  have d:=h k og
  have c:(znw N f k+1)*N<=N^k*N:=Nat.mul_le_mul_right _ a
  rw[znw,Nat.pow_succ]
  rw[Nat.add_mul,Nat.one_mul] at c
  omega
theorem ygd {f a:Nat->Nat}:∀k,(∀i,i<k->f i<N)->(∀i,i<k->a i<N)->znw N f k=znw N a k->∀i,i<k->f i=a i
 |0,_,_,_,i,c=>absurd c (Nat.not_lt_zero _)
 |k+1,hf,j,d,i,c=>by
  have n:=hf k og
  have o:=j k og
  rw[znw,znw] at d
  have l:f k=a k:=by
   have:=congrArg (·%N) d
   simpa[Nat.add_mod,Nat.mod_eq_of_lt n,Nat.mod_eq_of_lt o] using this
  have m:znw N f k=znw N a k:=Nat.eq_of_mul_eq_mul_right og (show znw N f k*N=znw N a k*N by omega);rcases g i k with h|h
  ·exact ygd k (fun i c=>hf i og) (fun i c=>j i og) m i h
  ·obtain rfl:i=k:=og;exact l
def zlb (m:Nat) (a:Dic) (v:Nat):Prop:=∃i,i<m/\a.bas i=v
theorem yui {a:Dic} (hr:r<m) (d:zlb m a v) (e:¬zlb m (zla a r c) v):v=a.bas r:=by
 obtain⟨i,f,rfl⟩:=d;by_cases b:i=r
 ·rw[b]
 ·exact absurd ⟨i,f,zor _ _ b⟩ e
theorem yuh {a:Dic} (d:¬zlb m a v) (e:zlb m (zla a r c) v):v=a.oth c:=by
 obtain⟨i,f,rfl⟩:=e;by_cases b:i=r
 ·rw[b];exact zoq _ _ _
 ·exact absurd ⟨i,f,(zor _ _ b).symm⟩ d
theorem yfh (s:Nat->Dic) (r c:Nat->Nat) (F:∀k,s (k+1)=zla (s k) (r k) (c k)) (w:∀k,BlandAt m n (s k) (r k) (c k))
 (hD:Dist m n (s 0)) (aK:(∀i,i<m->(s 0).bas i<N)/\∀j,j<n->(s 0).oth j<N) (aJ:∀i,i<m->0<=(s 0).D i n):False:=by
 have J:∀k,Dist m n (s k):=by
  intro k;induction k with
  |zero=>exact hD
  |succ k ih=>rw[F];exact ih.piv (w k).hr (w k).hc
 have L:∀k,(∀i,i<m->(s k).bas i<N)/\∀j,j<n->(s k).oth j<N:=by
  intro k;induction k with
  |zero=>exact aK
  |succ k ih=>
   rw[F];refine⟨fun i o=> ?_,fun j C=> ?_⟩
   ·show O7 _ _ _ _<N;unfold O7;split
    ·exact ih.2 _ (w k).hc
    ·exact ih.1 i o
   ·show O7 _ _ _ _<N;unfold O7;split
    ·exact ih.1 _ (w k).hr
    ·exact ih.2 j C
 have aT:∀k i,i<m->0<=(s k).D i n:=by
  intro k;induction k with
  |zero=>exact aJ
  |succ k ih=>rw[F];exact yli (w k) ih
 have ad:∀k d x z t,Fit1 m n (s k) x z t->Fit1 m n (s (k+d)) x z t:=by
  intro k d;induction d with
  |zero=>exact fun x z t h=>h
  |succ d ih=>intro x z t h;rw[<-Nat.add_assoc,F];exact(ih x z t h).piv (w _).hr (w _).hc (Rat.ne_of_gt (w _).pos)
 obtain⟨a,l,au,aN⟩:=yyt (N^(m+n)) (fun k=>znw N (fun i=>if i<m then(s k).bas i else(s k).oth (i-m)) (m+n)) (fun k=>yge _ fun i o=>by
  show(if i<m then(s k).bas i else(s k).oth (i-m))<N;split
  ·exact(L k).1 i ‹_›
  ·exact(L k).2 _ og)
 have ao:∀i,i<m+n->(if i<m then(s a).bas i else(s a).oth (i-m))=if i<m then(s l).bas i else(s l).oth (i-m):=by
  refine ygd (m+n) (fun i o=> ?_) (fun i o=> ?_) aN
  ·show(if i<m then(s a).bas i else(s a).oth (i-m))<N;split
   ·exact(L a).1 i ‹_›
   ·exact(L a).2 _ og
  ·show(if i<m then(s l).bas i else(s l).oth (i-m))<N;split
   ·exact(L l).1 i ‹_›
   ·exact(L l).2 _ og
 have Z:∀i,i<m->(s a).bas i=(s l).bas i:=fun i o=>(by have:=ao i og;rwa[if_pos o,if_pos o] at this);have ah:∀j,j<n->(s a).oth j=(s l).oth j:=fun j C=>(by have:=ao (m+j) og;rwa[if_neg og,if_neg og,Nat.add_sub_cancel_left] at this);have O:∀i j,i<=m->j<=n->(s a).D i j=(s l).D i j:=zz1392 (J a) Z ah fun x z t h=>by have:=ad a (l-a) x z t h;rwa[show a+(l-a)=l by omega] at this
 have aW:∀x z t,Fit1 m n (s l) x z t->Fit1 m n (s a) x z t:=by
  intro x z t h;refine⟨fun i o=> ?_,?_⟩
  ·have p:=h.row i o;rw[Z i o,O i n og (b _),show C6 n (fun j=>(s a).D i j*x ((s a).oth j))=C6 n (fun j=>(s l).D i j*x ((s l).oth j)) from M8 fun j C=>by rw[O i j og og,ah j C]];exact p
  ·have p:=h.obj;rw[O m n (b _) (b _),show C6 n (fun j=>(s a).D m j*x ((s a).oth j))=C6 n (fun j=>(s l).D m j*x ((s l).oth j)) from M8 fun j C=>by rw[O m j (b _) og,ah j C]];exact p
 have aV:∀k B,a<=k->k<l->a<=B->B<l->∀x z t,Fit1 m n (s k) x z t->Fit1 m n (s B) x z t:=(by intro k B K E ae af x z t h;have u:=ad k (l-k) x z t h;rw[show k+(l-k)=l by omega] at u;have y:=ad a (B-a) x z t (aW x z t u);rwa[show a+(B-a)=B by omega] at y);(have aB:∀k,(s (k+1)).D m n=(s k).D m n-((s k).D (r k) (c k))⁻¹*(s k).D m (c k)*(s k).D (r k) n:=by intro k;have u:=(w k).hc;have y:=(w k).hr;rw[F];show K5 _ _ _ _ _=_;rw[K5,if_neg og,if_neg og]);have ay:∀k,0<=-(((s k).D (r k) (c k))⁻¹*(s k).D m (c k)*(s k).D (r k) n):=by intro k;have u:=e (e (Rat.le_of_lt (inv_pos (w k).pos)) (show 0<=-((s k).D m (c k)) by have:=(w k).cost;grind)) (aT k _ (w k).hr);grind
 have az:∀k d,(s k).D m n<=(s (k+d)).D m n:=by
  intro k d;induction d with
  |zero=>exact Rat.le_refl
  |succ d ih=>have u:=aB (k+d);have y:=ay (k+d);rw[<-Nat.add_assoc];grind
 have aG:∀k,a<=k->k<l->(s k).D (r k) n=0:=by
  intro k K E;have u:=az a (k-a);have y:=az (k+1) (l-(k+1));rw[show a+(k-a)=k by omega] at u;rw[show k+1+(l-(k+1))=l by omega] at y;have A:=O m n (b _) (b _);have G:=aB k;have M:((s k).D (r k) (c k))⁻¹*(s k).D m (c k)*(s k).D (r k) n=0:=(by have:=ay k;grind);have X:=inv_pos (w k).pos;have Y:=(w k).cost;rcases Rat.mul_eq_zero.1 M with h|h
  ·rcases Rat.mul_eq_zero.1 h with h|h
   ·rw[h] at X;exact absurd X Rat.lt_irrefl
   ·rw[h] at Y;exact absurd Y Rat.lt_irrefl
  ·exact h
 have aL:∀v k,a<=k->k<l->((∀i,i<m->(s k).bas i=v->(s k).D i n=0)↔∀i,i<m->(s (k+1)).bas i=v->(s (k+1)).D i n=0):=by
  intro v k K E;have ai:=aG k K E;have hr:=(w k).hr;have hc:=(w k).hc;have al:∀i,i≠r k->(s (k+1)).bas i=(s k).bas i:=fun i o=>(by rw[F];exact zor _ _ o);(have an:∀i,i≠r k->(s (k+1)).D i n=(s k).D i n:=fun i o=>by rw[F];show K5 _ _ _ _ _=_;rw[K5,if_neg o,if_neg og,ai];grind);(have aI:(s (k+1)).D (r k) n=0:=by rw[F];show K5 _ _ _ _ _=_;rw[K5,if_pos rfl,if_neg og,ai];grind);refine⟨fun h i o p=> ?_,fun h i o p=> ?_⟩
  ·by_cases H:i=r k
   ·rw[H];exact aI
   ·rw[an i H];exact h i o (by rw[<-al i H];exact p)
  ·by_cases H:i=r k
   ·rw[H];exact ai
   ·rw[<-an i H];exact h i o (by rw[al i H];exact p)
 have ar:∀v d,a+d<=l->((∀i,i<m->(s a).bas i=v->(s a).D i n=0)↔∀i,i<m->(s (a+d)).bas i=v->(s (a+d)).D i n=0):=by
  intro v d;induction d with
  |zero=>exact fun _=>Iff.rfl
  |succ d ih=>intro h;exact(ih og).trans (by rw[<-Nat.add_assoc];exact aL v (a+d) og og)
 have aM:∀v k B,a<=k->k<l->a<=B->B<l->(∀i,i<m->(s k).bas i=v->(s k).D i n=0)->∀i,i<m->(s B).bas i=v->(s B).D i n=0:=by intro v k B K E ae af h;have u:=ar v (k-a) og;have y:=ar v (B-a) og;rw[show a+(k-a)=k by omega] at u;rw[show a+(B-a)=B by omega] at y;exact y.1 (u.2 h)
 obtain⟨f,P,Q,ag⟩:∃f,a<=f/\f<l/\∀k,a<=k->k<l->(s k).oth (c k)<=(s f).oth (c f):=by
  have:∀d,a+d<l->∃f,a<=f/\f<l/\∀k,a<=k->k<=a+d->(s k).oth (c k)<=(s f).oth (c f):=by
   intro d;induction d with
   |zero=>intro h;exact⟨a,b _,au,fun k u y=>by rw[show k=a by omega];exact b _⟩
   |succ d ih=>
    intro h;obtain⟨f,u,y,A⟩:=ih og;rcases Nat.le_total ((s (a+(d+1))).oth (c (a+(d+1)))) ((s f).oth (c f)) with G|G
    ·refine⟨f,u,y,fun k T aH=> ?_⟩;by_cases p:k=a+(d+1)
     ·rw[p];exact G
     ·exact A k T og
    ·refine⟨a+(d+1),by omega,h,fun k T aH=> ?_⟩;by_cases p:k=a+(d+1)
     ·rw[p];exact b _
     ·exact Nat.le_trans (A k T og) G
  obtain⟨f,u,y,A⟩:=this (l-1-a) og;exact⟨f,u,y,fun k T aH=>A k T og⟩
 obtain⟨t,S⟩:=nm ((s f).oth (c f));rw[<-S] at ag;have aa:∀v,zlb m (s a) v↔zlb m (s l) v:=fun v=>⟨fun⟨i,o,p⟩=>⟨i,o,by rw[<-Z i o];exact p⟩,fun⟨i,o,p⟩=>⟨i,o,by rw[Z i o];exact p⟩⟩;have aA:∀k j,j<n->¬zlb m (s k) ((s k).oth j):=fun k j C ⟨i,o,p⟩=>(J k).bo i j o C p;have aO:∀v k B,a<=k->k<l->a<=B->B<l->zlb m (s k) v->¬zlb m (s B) v->v<=t:=by intro v k B K E ae af u y;obtain⟨_,q,U,V,q3,W⟩:=yee (f:=fun k=>zlb m (s k) v) (aa v) ⟨K,E⟩ ⟨ae,af⟩ u y;have A:zlb m (s (q+1)) v:=W;rw[F] at A;rw[yuh q3 A];exact ag q U V
 obtain⟨k,R,E,aC⟩:∃k,a<=k/\k<l/\(s k).bas (r k)=t:=by
  have u:zlb m (s (f+1)) t:=⟨r f,(w f).hr,by rw[F,S];exact zoq _ _ _⟩;have y:¬zlb m (s f) t:=(by rw[S];exact aA f _ (w f).hc);have fin:∀q,zlb m (s q) t->¬zlb m (s (q+1)) t->(s q).bas (r q)=t:=fun q A G=>(by rw[F] at G;exact(yui (w q).hr A G).symm);by_cases aP:f+1<l
  ·obtain⟨⟨q,U,V,q3,W⟩,_⟩:=yee (f:=fun k=>zlb m (s k) t) (aa t) (k:=f+1) (l:=f) ⟨by omega,aP⟩ ⟨P,Q⟩ u y;exact⟨q,U,V,fin q q3 W⟩
  ·have aQ:f+1=l:=og;rw[aQ] at u;have A:=(aa t).2 u;obtain⟨⟨q,U,V,q3,W⟩,_⟩:=yee (f:=fun k=>zlb m (s k) t) (aa t) (k:=a) (l:=f) ⟨b _,au⟩ ⟨P,Q⟩ A y;exact⟨q,U,V,fin q q3 W⟩
 have av:=(w k).hc;have aU:=(w k).hr;have aq:∀i,C6 n (fun j=>(s k).D i j*(if j=c k then(1:Rat) else 0))=(s k).D i (c k):=(by intro i;rw[zmz av fun j _ C=>by show _*(if j=c k then(1:Rat) else 0)=0;rw[if_neg C];grind,if_pos rfl];grind);have hF:=aV k f R E P Q _ _ _ (zya (J k) (fun j=>if j=c k then 1 else 0) 0);obtain⟨d,hd⟩:=nm (Z9 m n (s k) (fun j=>if j=c k then 1 else 0) 0);rw[<-hd] at hF;have aj:∀i,i<m->d ((s k).bas i)= -((s k).D i (c k)):=(by intro i o;rw[hd,zwe (J k) _ _ o,aq];grind);have ak:∀j,j<n->d ((s k).oth j)=if j=c k then 1 else 0:=(by intro j C;rw[hd,zyb (J k) _ _ C]);have aS:=hF.obj;rw[aq] at aS;have aR:C6 n (fun j=>(s f).D m j*d ((s f).oth j))<0:=(by have:=(w k).cost;grind);obtain⟨j,C,I⟩:=zz1428 aR;have I:(s f).D m j*d ((s f).oth j)<0:=I;obtain⟨D,ab⟩:=nm ((s f).oth j);rw[<-ab] at I;have ac:d D≠0:=fun p=>(by rw[p] at I;grind);have aD:¬zlb m (s f) D:=by rw[ab];exact aA f j C
 have aE:zlb m (s k) D\/D=(s k).oth (c k):=by
  by_cases u:zlb m (s k) D
  ·exact .inl u
  ·by_cases y:∃i,i<n/\(s k).oth i=D
   ·obtain⟨i,o,rfl⟩:=y;rw[ak i o] at ac;by_cases A:i=c k
    ·rw[A];exact .inr rfl
    ·rw[if_neg A] at ac;exact absurd rfl ac
   ·refine absurd ?_ ac;rw[hd];exact yhj _ _ (fun i o p=>u ⟨i,o,p⟩) (fun i o p=>y ⟨i,o,p⟩)
 have aY:D<=t:=by
  rcases aE with h|h
  ·exact aO D k f R E P Q h aD
  ·rw[h];exact ag k R E
 have aX:d t<0:=(by rw[<-aC,aj _ aU];have:=(w k).pos;grind);rcases Rat.le_total (a:=0) (b:=((s f).D m j)) with u|u
 ·have y:(s f).D m j≠0:=fun p=>by rw[p] at I;grind
  have A:d D<0:=by
   rcases Rat.le_total (a:=0) (b:=(d D)) with h|h
   ·have:=e u h;grind
   ·grind
  have G:D≠t:=fun p=>(by rw[ab,S] at p;have p:=(J f).oo j (c f) C (w f).hc p;rw[p] at u;have:=(w f).cost;grind);rcases aE with M|M
  ·obtain⟨i,o,p⟩:=M;rw[<-p,aj i o] at A;have X:=aM D f k P Q R E (fun i o p=>absurd ⟨i,o,p⟩ aD) i o p;have Y:=aG k R E;rcases(w k).ratio i o (by grind) with h|h
   ·rw[X,Y] at h;grind
   ·have:=h.2;rw[aC,p] at this;omega
  ·rw[M,ak _ av,if_pos rfl] at A;exact absurd A (by decide)
 ·have y:(s f).D m j<0:=by
   by_cases p:(s f).D m j=0
   ·rw[p] at I;grind
   ·grind
  have A:=(w f).least j C y;rw[<-S,<-ab] at A;have G:D=t:=og;rw[G] at I;have:=e (show 0<=-((s f).D m j) by grind) (show 0<=-(d t) by grind);grind
end Go.Proofs.YtlhhbccgfkhflaaGreatDoor
