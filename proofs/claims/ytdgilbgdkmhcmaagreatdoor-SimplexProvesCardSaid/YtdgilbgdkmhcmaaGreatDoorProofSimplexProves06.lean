/-
 The contract of parlourlaw04's atLeast.
-/
import Derived.Test.YtdgilbgdkmhcmaaGreatDoorProofSimplexProves05
namespace Go.Proofs.YtdgilbgdkmhcmaaGreatDoor
open Go.RowKit
set_option linter.unusedVariables false
set_option maxRecDepth 100000
set_option maxHeartbeats 8000000
open _root_.Nat renaming le_refl → e, lt_or_ge → d
open _root_.Rat renaming mul_nonneg → g
variable {K M N c i j k m n r v : Nat} {b : List Rat} {cs : List Nat} {f : Nat → Prop} {t : Rat}
def Z0 (a b:List Rat):Bool:=(List.range a.length).all fun i=>decide (b.getD i 0<=a.getD i 0)
theorem zvb {a:List Rat} (h:∀j,j<a.length->b.getD j 0<=a.getD j 0):Z0 a b=true:=List.all_eq_true.2 fun i c=>decide_eq_true (h i (List.mem_range.1 c))
theorem yrl {a:List Rat} (c:j<a.length) (h:¬b.getD j 0<=a.getD j 0):Z0 a b=false:=List.all_eq_false.2 ⟨j,List.mem_range.2 c,by simpa using h⟩
theorem ydh {w:World} {af ag:Value} {a:List Rat} (ha:IsV w (C2 w) af (C0 a)) (v:IsV w (C2 w) ag (C0 b)) (D:a.length=b.length) (sa:∀q∈a,Sz q 100000) (sb:∀q∈b,Sz q 100000):
 Calls Tryz.prog 15 #[af,ag] w fun f w'=>f= .returned (.bool (Z0 a b))/\Below w.heap.size w w':=by
 obtain⟨J,K,ai,aj⟩:=Z5 ha v sa sb;obtain⟨A,aA,rfl,an⟩:=M5 ha;obtain⟨B,aB,rfl,ao⟩:=M5 v;have t:(C0 a).length=a.length:=U6 a;have u:(C0 b).length=a.length:=(by rw[U6,D]);obtain⟨n,g⟩:=nm (a.length);rw[t,<-g] at J an;rw[u,<-g] at K ao;rw[t,u,<-g];obtain⟨l,ah⟩:=C4 g D;obtain⟨r,hr⟩:=nm (Z0 a b);have N:=Lib.hid hr;rw[<-hr];have aC:=L7;clear ha v sa sb t u g D hr;go_in;go_wp2_with fail;go_loopw [5] (fun i wr=>∃k:Nat,k<=n/\i= .int .i64 (k:Int)/\Below w.heap.size w wr/\Hid (∀j,j<k->b.getD j 0<=a.getD j 0)) (fun i _=>n-(intOf i).toNat);case atStart=>exact⟨0,Nat.zero_le _,rfl,Below.refl _ _,fun j C=>by omega⟩
 case round=>
  obtain⟨k,aE,rfl,m,hrel⟩:=hrel;have p:=Lib.hid m;have O:=Lib.hid hrel.out;clear hrel;rcases d k n with E|aD
  ·obtain⟨x,F,ac⟩:=zoe (l:=a) (j:=k) (by rw[<-l.out];exact E);obtain⟨y,G,ad⟩:=zoe (l:=b) (j:=k) (by rw[<-ah.out,<-l.out];exact E);obtain⟨ay,aM,aq,aI,au,aK,rfl,ak,aa,T,U,V⟩:=zlc (IsV.stb.to J.out (E7 m)) ac;obtain⟨az,aN,ar,aJ,av,aL,rfl,al,ab,d0,W,X⟩:=zlc (IsV.stb.to K.out (E7 m)) ad;have Y:Hid (a.getD k 0=x):=(by rw[Hid,List.getD_eq_getElem?_getD,F];rfl);have Z:Hid (b.getD k 0=y):=(by rw[Hid,List.getD_eq_getElem?_getD,G];rfl);obtain⟨R,S⟩:=C4 (ai.out x (List.mem_of_getElem? F)) (aj.out y (List.mem_of_getElem? G));have P:Hid (IsQ wr (C2 wr) _ x):=Lib.hid aa;have Q:Hid (IsQ wr (C2 wr) _ y):=Lib.hid ab;have aG:(0:Int)<=(k:Int):=og;have aH:(k:Int)<(n:Int):=og;have L:=Lib.hid E;obtain⟨ae,e⟩:=nm (zna x y);have M:=Lib.hid e
   have hc:(ae<0/\Hid (¬y<=x))\/(0<=ae/\Hid (y<=x)):=by
    rcases Decidable.em (x<y) with h|h
    ·exact .inl ⟨by rw[e];exact cmpQ_neg.2 h,Rat.not_le.2 h⟩
    ·exact .inr ⟨Int.not_lt.1 fun f=>h (cmpQ_neg.1 (by rw[<-e];exact f)),Rat.not_lt.1 h⟩
   clear F G ac ad aa ab m e ak al;rcases hc with⟨e,H⟩|⟨e,H⟩
   ·go_wp2_with fail;have c:=zmh T U V d0 W X
    go_region_held3 (SH.mk _ c).s
     (exact c.out _ bel)
     (first
       |(go_at_call 17;(with_reducible refine Calls.mono (zyn (uQ _ P) (uQ _ Q) R.out S.out) ?_);rw[<-M.out];rintro f I ⟨rfl,z⟩))
    have o:=nB p (show Below wr.heap.size wr I from bel);clear z c;go_wp2_with fail;have s:Hid (r=false):=(by rw[Hid,N.out];exact yrl (j:=k) (by rw[<-l.out];exact L.out) (by rw[Y.out,Z.out];exact H.out));go_ret;exact⟨by show Ending.returned (.bool _)=_;rw[s.out],o.out⟩
   ·go_wp2_with fail;have c:=zmh T U V d0 W X
    go_region_held3 (SH.mk _ c).s
     (exact c.out _ bel)
     (first
       |(go_at_call 17;(with_reducible refine Calls.mono (zyn (uQ _ P) (uQ _ Q) R.out S.out) ?_);rw[<-M.out];rintro f I ⟨rfl,z⟩))
    have o:=nB p (show Below wr.heap.size wr I from bel);clear z c;go_wp2_with fail;go_roundw
    case rel=>
     refine⟨k+1,L.out,by go_num,o.out,fun j C=> ?_⟩;rcases d j k with h|h
     ·exact O.out j h
     ·obtain rfl:j=k:=og;rw[Y.out,Z.out];exact H.out
    case measure=>simp[intOf];omega
  ·obtain rfl:k=n:=og;have s:Hid (r=true):=(by rw[Hid,N.out];exact zvb fun j C=>O.out j (by rw[l.out];exact C));go_wp2_with fail;go_ret;exact⟨by rw[s.out];simp,p.out⟩
theorem ypk (a b:List RV):T7 cs (a++(fun _=>0)::b)=0:=by have h:=zth cs a b (fun _=>0) (fun _=>0) 0 0;have c:(fun x:Nat=>(0:Rat)*(fun _=>(0:Rat)) x+0*(fun _=>(0:Rat)) x)=fun _=>0:=(by funext x;grind);rw[c] at h;rw[h];grind
theorem yeo (b c:List RV) (a:Nat->Rat) (B:Nat->RV):∀K,T7 cs (b++(fun x=>C5 K fun k=>a k*B k x)::c)=C5 K fun k=>a k*T7 cs (b++B k::c)
 |0=>ypk b c
 |K+1=>by
  have h:=zth cs b c (fun x=>C5 K fun k=>a k*B k x) (B K) 1 (a K)
  have f:(fun x=>C5 (K+1) fun k=>a k*B k x)=fun x=>1*(fun x=>C5 K fun k=>a k*B k x) x+a K*B K x:=by funext x;simp only[C5];grind
  rw[f,h,yeo b c a B K,C5]
  grind
theorem yph (b c:List RV) (a:Rat) (v:RV):T7 cs (b++(fun x=>a*v x)::c)=a*T7 cs (b++v::c):=by have h:=zth cs b c v v a 0;have d:(fun x:Nat=>a*v x+0*v x)=fun x=>a*v x:=(by funext x;grind);rw[d] at h;rw[h];grind
def M0 (B:Nat->RV) (i:Nat) (v:RV):Nat->RV:=fun k=>if k=i then v else B k
def W0 (K:Nat) (B:Nat->RV):List RV:=(List.range K).map B
theorem you (f:i<K) (B:Nat->RV):∃b c,∀v,W0 K (M0 B i v)=b++v::c:=by
 refine⟨(List.range i).map B,(List.range (K-1-i)).map fun k=>B (i+1+k),fun v=> ?_⟩;unfold W0;have e:K=i+(1+(K-1-i)):=og;conv=>lhs;rw[e,List.range_add,List.range_add]
 rw[List.map_append,List.map_map,List.map_append,List.map_map];congr 1
 ·exact List.map_congr_left fun k a=>if_neg (by have:=List.mem_range.1 a;omega)
 ·have d:List.range 1=[0]:=rfl;rw[d];show M0 B i v (i+0)::_=_;congr 1
  ·exact if_pos rfl
  ·exact List.map_congr_left fun k a=>by show M0 B i v (i+(1+k))=_;rw[M0,if_neg og];congr 1;omega
theorem yov (B:Nat->RV):W0 K (M0 B i (B i))=W0 K B:=List.map_congr_left fun k _=>by unfold M0;split;rename_i h;rw[h];rfl
theorem ypj (m:i<K) (n:k<K) (h:k≠i) (B:Nat->RV):T7 cs (W0 K (M0 B i (B k)))=0:=by
 obtain⟨x,y,o,p,g,b⟩:∃x y,x<y/\y<K/\M0 B i (B k) x=B k/\M0 B i (B k) y=B k:=by
  rcases d k i with c|c
  ·exact⟨k,i,c,m,if_neg h,if_pos rfl⟩
  ·exact⟨i,k,by omega,n,if_pos rfl,if_neg h⟩
 obtain⟨a,j⟩:=nm (M0 B i (B k));rw[<-j] at g b⊢
 have e:W0 K a=(List.range x).map a++B k::((List.range (y-x-1)).map (fun z=>a (x+1+z))++B k::(List.range (K-1-y)).map fun z=>a (y+1+z)):=by
  unfold W0;have l:K=x+(1+((y-x-1)+(1+(K-1-y)))):=og;conv=>lhs;rw[l,List.range_add,List.range_add,List.range_add,List.range_add]
  have f:List.range 1=[0]:=rfl;simp only[f,List.map_append,List.map_map,List.map_cons,List.cons_append,List.nil_append];congr 1;congr 1;congr 1
  ·exact List.map_congr_left fun z _=>by show a (x+(1+z))=_;congr 1;omega
  ·congr 1
   ·show a (x+(1+((y-x-1)+0)))=_;rw[show x+(1+((y-x-1)+0))=y by omega,b]
   ·exact List.map_congr_left fun z _=>by show a (x+(1+((y-x-1)+(1+z))))=_;congr 1;omega
 rw[e];exact ypf cs (B k) _ _ _
theorem yen (c:i<K) {B:Nat->RV} {v:RV} {d:Rat} {a:Nat->Rat} (h:∀x,d*v x=C5 K fun k=>a k*B k x):
 d*T7 cs (W0 K (M0 B i v))=a i*T7 cs (W0 K B):=by
 obtain⟨f,g,b⟩:=you c B;have j:(fun x=>d*v x)=fun x=>C5 K fun k=>a k*B k x:=funext h;have e:=yph (cs:=cs) f g d v;rw[j,yeo] at e;rw[b,<-e,zmn c fun k l m=> ?_]
 ·rw[<-b (B i),yov]
 ·rw[<-b (B k),ypj c l m];grind
structure Cram (K n:Nat) (A:Nat->Nat->Int) (d:Nat) (B O:Nat->RV):Prop where
 d0:0<d
 intB:∀i,i<K->zpa (B i)
 intO:∀j,j<=n->zpa (O j)
 det:((d:Int):Rat)=T7 (List.range K) (W0 K B)\/((d:Int):Rat)= -T7 (List.range K) (W0 K B)
 rel:∀j,j<=n->∀x,((d:Int):Rat)*O j x=C5 K fun i=>(A i j:Rat)*B i x
def zrz (M:Nat) (v:RV):Prop:=∀x,-(M:Rat)<=v x/\v x<=(M:Rat)
theorem zvj {d:Nat} (h:0<d):((d:Int):Rat)≠0:=by intro a;have:(d:Int)=0:=Rat.intCast_inj.1 (by rw[a];rfl);omega
theorem Cram.elem {d:Nat} {A:Nat->Nat->Int} {B b:Nat->RV} (h:Cram K n A d B b) (g:i<K) (k:j<=n):
 (A i j:Rat)=T7 (List.range K) (W0 K (M0 B i (b j)))\/(A i j:Rat)= -T7 (List.range K) (W0 K (M0 B i (b j))):=by
 have c:=yen (cs:=List.range K) g (h.rel j k);have e:=zvj h.d0;obtain⟨X,f⟩:=nm (T7 (List.range K) (W0 K (M0 B i (b j))));obtain⟨D,hD⟩:=nm (((d:Int):Rat));have a:=h.det;rw[<-f] at c⊢;rw[<-hD] at c e a;rcases a with a|a
 ·left;rw[<-a] at c;have:D*(X-A i j)=0:=(by grind);rcases Rat.mul_eq_zero.1 this with h|h
  ·exact absurd h e
  ·grind
 ·right;have:D*(X+A i j)=0:=(by grind);rcases Rat.mul_eq_zero.1 this with h|h
  ·exact absurd h e
  ·grind
def zkx (A:Nat->Nat->Int) (d r c:Nat):Nat->Nat->Int:=fun i j=>
 if i=r then(if j=c then(d:Int) else A r j)
 else if j=c then -(A i c) else zkt (A i j) (A r c) (A i c) (A r j) d
def zmu (A:Nat->Nat->Int) (d r c:Nat):Nat->Nat->Int:=fun i j=>if A r c<0 then -(zkx A d r c i j) else zkx A d r c i j
theorem Cram.piv {d:Nat} {A:Nat->Nat->Int} {B b:Nat->RV} (h:Cram K n A d B b) (hr:r<K) (hc:c<n) (W:A r c≠0):
 Cram K n (zmu A d r c) (A r c).natAbs (M0 B r (b c)) (M0 b c (B r))/\
 ∀i j,i<K->j<=n->i≠r->j≠c->((zkx A d r c i j:Int):Rat)=((A i j:Rat)*(A r c:Rat)-(A i c:Rat)*(A r j:Rat))/((d:Int):Rat):=by
 obtain⟨g,p⟩:=nm (A r c);obtain⟨D,hD⟩:=nm (((d:Int):Rat));have Q:=zvj h.d0;rw[<-hD] at Q;have X:(g:Rat)≠0:=(by intro C;have t:g=0:=Rat.intCast_inj.1 (by rw[C];rfl);rw[p] at t;exact W t);obtain⟨q,Y⟩:=nm (D⁻¹);have Z:D*q=1:=(by rw[Y];exact Rat.mul_inv_cancel _ Q);obtain⟨s,w⟩:∃s:Nat->Nat->Rat,s=fun i j=>if i=r then(if j=c then D else(A r j:Rat)) else if j=c then -(A i c:Rat) else((A i j:Rat)*(g:Rat)-(A i c:Rat)*(A r j:Rat))*q:=⟨_,rfl⟩;have aa:∀j,j<=n->∀x,D*b j x=C5 K fun i=>(A i j:Rat)*B i x:=(by rw[hD];exact h.rel);have split:∀(f:Nat->Rat),C5 K f=f r+C5 K fun i=>if i=r then 0 else f i:=by intro f;have t:C5 K f=C5 K fun j=>(if j=r then f r else 0)+(if j=r then 0 else f j):=P7 fun j _=>(by split<;>grind);rw[t,zro,zmn hr fun j _ l=>if_neg l,if_pos rfl]
 have hrel:∀j,j<=n->∀x,(g:Rat)*M0 b c (B r) j x=C5 K fun i=>s i j*M0 B r (b c) i x:=by
  intro j l x;have P:=aa c og x;rw[split] at P;obtain⟨E,H⟩:=nm (C5 K fun i=>if i=r then 0 else(A i c:Rat)*B i x);rw[<-H,<-p] at P;rw[split];by_cases m:j=c
  ·have F:(C5 K fun i=>if i=r then(0:Rat) else s i j*M0 B r (b c) i x)=(-1)*E:=by
    rw[H,<-zoh];refine P7 fun i _=> ?_;by_cases e:i=r
    ·rw[if_pos e,if_pos e];grind
    ·rw[if_neg e,if_neg e,w,M0,if_neg e];simp only[if_neg e,if_pos m];grind
   rw[F,w,M0,M0,if_pos m,if_pos rfl];simp only[if_true,if_pos m];grind
  ·have U:=aa j l x;rw[split] at U;obtain⟨M,O⟩:=nm (C5 K fun i=>if i=r then 0 else(A i j:Rat)*B i x);rw[<-O] at U
   have F:(C5 K fun i=>if i=r then(0:Rat) else s i j*M0 B r (b c) i x)=((g:Rat)*q)*M+(-((A r j:Rat)*q))*E:=by
    rw[O,H,<-zoh,<-zoh,<-zro];refine P7 fun i _=> ?_;by_cases e:i=r
    ·rw[if_pos e,if_pos e,if_pos e];grind
    ·rw[if_neg e,if_neg e,if_neg e,w,M0,if_neg e];simp only[if_neg e,if_neg m];grind
   rw[F,w,M0,M0,if_neg m,if_pos rfl];simp only[if_true,if_neg m];have u:M=D*b j x-(A r j:Rat)*B r x:=(by grind);have G:E=D*b c x-(g:Rat)*B r x:=(by grind);rw[u,G];have ac:(g:Rat)*b j x=(g:Rat)*(D*q)*b j x:=(by rw[Z];grind);have ad:(A r j:Rat)*b c x=(A r j:Rat)*(D*q)*b c x:=(by rw[Z];grind);grind
 have S:∀i,i<K->zpa (M0 B r (b c) i):=fun i o=>(by unfold M0;split;exact h.intO c og;exact h.intB i o);have T:∀j,j<=n->zpa (M0 b c (B r) j):=fun j l=>(by unfold M0;split;exact h.intB r hr;exact h.intO j l);have J:(g:Rat)=T7 (List.range K) (W0 K (M0 B r (b c)))\/(g:Rat)= -T7 (List.range K) (W0 K (M0 B r (b c))):=by rw[p];exact h.elem hr og
 have ab:∀i j,i<K->j<=n->∃z:Int,s i j=(z:Rat):=by
  intro i j o l;have t:=yen (cs:=List.range K) o (hrel j l)
  obtain⟨z,y⟩:=ypg (List.range K) (W0 K (M0 (M0 B r (b c)) i (M0 b c (B r) j))) (fun v hv=>by
   obtain⟨k,L,rfl⟩:=List.mem_map.1 hv;have L:=List.mem_range.1 L;show zpa (if k=i then _ else _);split
   ·exact T j l
   ·exact S k L)
  rw[y] at t;rcases J with N|N
  ·refine⟨z,?_⟩;rw[<-N] at t;have:(g:Rat)*((z:Rat)-s i j)=0:=(by grind);rcases Rat.mul_eq_zero.1 this with h|h
   ·exact absurd h X
   ·grind
  ·refine⟨-z,?_⟩;have:(g:Rat)*((z:Rat)+s i j)=0:=(by grind);rcases Rat.mul_eq_zero.1 this with h|h
   ·exact absurd h X
   ·rw[Rat.intCast_neg];grind
 have R:∀a:Rat,a/D=a*q:=fun a=>by rw[Y];exact Rat.div_def a D
 have I:∀i j,i<K->j<=n->((zkx A d r c i j:Int):Rat)=s i j:=by
  intro i j o l;rw[w];unfold zkx;by_cases e:i=r
  ·simp only[if_pos e];by_cases m:j=c
   ·simp only[if_pos m];exact hD.symm
   ·simp only[if_neg m]
  ·simp only[if_neg e];by_cases m:j=c
   ·simp only[if_pos m];rw[Rat.intCast_neg]
   ·simp only[if_neg m];obtain⟨z,y⟩:=ab i j o l;rw[w] at y;simp only[if_neg e,if_neg m] at y;rw[y];congr 1;unfold zkt;refine zz1363 h.d0 ?_;rw[<-hD,R,Rat.intCast_sub,Rat.intCast_mul,Rat.intCast_mul,<-p];exact y
 refine⟨⟨by rw[<-p];have:g≠0:=by rw[p];exact W
            omega,S,T,?_,?_⟩,fun i j o l e m=> ?_⟩
 ·rw[<-p];rcases Int.natAbs_eq g with C|C
  ·rw[<-C];exact J
  ·have u:((g.natAbs:Int):Rat)= -(g:Rat):=(by rw[<-Rat.intCast_neg];congr 1;omega);rw[u];rcases J with h|h
   ·right;rw[h]
   ·left;rw[h];grind
 ·intro j l x;have t:=hrel j l x;rw[<-p];by_cases V:g<0
  ·have u:((g.natAbs:Int):Rat)= -(g:Rat):=(by rw[<-Rat.intCast_neg];congr 1;omega);rw[u];have G:(C5 K fun i=>((zmu A d r c i j:Int):Rat)*M0 B r (b c) i x)=(-1)*C5 K fun i=>s i j*M0 B r (b c) i x:=(by rw[<-zoh];refine P7 fun i o=> ?_;rw[zmu,<-p,if_pos V,Rat.intCast_neg,I i j o l];grind);rw[G,<-t];grind
  ·have u:((g.natAbs:Int):Rat)=(g:Rat):=(by congr 1;omega);rw[u,t];refine P7 fun i o=> ?_;rw[zmu,<-p,if_neg V,I i j o l]
 ·rw[I i j o l,w,<-p,<-hD,R];simp only[if_neg e,if_neg m]
theorem yms {F:List RV->Rat} {M f:Rat} (t:0<=M) (hF:∀r:List RV,r.length=n->(∀v∈r,∀x,-M<=v x/\v x<=M)-> -f<=F r/\F r<=f) (hf:0<=f) (post:List RV):∀pre:List RV,pre.length+post.length=n+1->(∀v∈pre,∀x,-M<=v x/\v x<=M)->(∀v∈post,∀x,-M<=v x/\v x<=M)->
 -(((post.length:Nat):Rat)*(M*f))<=V6 F c pre post/\V6 F c pre post<=((post.length:Nat):Rat)*(M*f):=by
 induction post with
 |nil=>intro pre _ _ _;simp only[V6,List.length_nil];constructor<;>grind
 |cons v post ih=>intro pre k j i;have hv:=i v (by simp) c;have o:=hF (pre++post) (by simp at k⊢;omega) (fun a b=>by rcases List.mem_append.1 b with h|h;exact j a h;exact i a (by simp[h]));have u:=ih (pre++[v]) (by simp at k⊢;omega) (fun a b=>by rcases List.mem_append.1 b with h|h;exact j a h;exact i a (by simp at h;simp[h])) (fun a b=>i a (by simp[b]));obtain⟨y,l⟩:=nm (F (pre++post));rw[<-l] at o;have s:v c*y<=M*f:=(by have p:=g (show 0<=M-v c by grind) (show 0<=f+y by grind);have q:=g (show 0<=M+v c by grind) (show 0<=f-y by grind);grind);have b2: -(M*f)<=v c*y:=(by have p:=g (show 0<=M-v c by grind) (show 0<=f-y by grind);have q:=g (show 0<=M+v c by grind) (show 0<=f+y by grind);grind);have m:(((v::post).length:Nat):Rat)=((post.length:Nat):Rat)+1:=(by rw[List.length_cons];exact Rat.natCast_add _ _);rw[V6,<-l,m];constructor<;>grind
def K6 (M:Nat):Nat->Nat
 |0=>1
 |k+1=>(k+1)*(M*K6 M k)
theorem yab:∀(cs:List Nat) (rows:List RV),rows.length=cs.length->(∀v∈rows,zrz M v)-> -(((K6 M cs.length:Nat)):Rat)<=T7 cs rows/\T7 cs rows<=((K6 M cs.length:Nat):Rat)
 |[],[],_,_=>by simp only[T7,K6,List.length_nil];constructor<;>decide
 |c::cs,rows,a,h=>by
  have f:=yms (F:=T7 cs) (M:=(M:Rat)) (f:=((K6 M cs.length:Nat):Rat)) (n:=cs.length) (c:=c) (by exact Rat.natCast_nonneg) (fun r hr hv=>yab cs r hr hv) (by exact Rat.natCast_nonneg) rows [] (by rw[a];simp) (fun v hv=>by cases hv) h
  have b:((K6 M (c::cs).length:Nat):Rat)=((rows.length:Nat):Rat)*((M:Rat)*((K6 M cs.length:Nat):Rat)):=by
   rw[a,List.length_cons,K6,Rat.natCast_mul,Rat.natCast_mul]
  rw[b];exact f
theorem Cram.small {d:Nat} {A:Nat->Nat->Int} {B c:Nat->RV} (h:Cram K n A d B c) (f:∀i,i<K->zrz M (B i)) (s:∀j,j<=n->zrz M (c j)):d<=K6 M K/\∀i j,i<K->j<=n->(A i j).natAbs<=K6 M K:=by
 have key:∀(z:Int) (X:Rat),((z:Rat)=X\/(z:Rat)= -X)-> -((K6 M K:Nat):Rat)<=X->X<=((K6 M K:Nat):Rat)->z.natAbs<=K6 M K:=(by intro z X o a u;(have p: -(((K6 M K:Nat):Int):Rat)<=(z:Rat):=by show -((K6 M K:Nat):Rat)<=_;rcases o with h|h<;>rw[h]<;>grind);(have q:(z:Rat)<=(((K6 M K:Nat):Int):Rat):=by show _<=((K6 M K:Nat):Rat);rcases o with h|h<;>rw[h]<;>grind);rw[<-Rat.intCast_neg,Rat.intCast_le_intCast] at p;rw[Rat.intCast_le_intCast] at q;omega);have m:∀b,(W0 K b).length=(List.range K).length:=fun b=>(by simp[W0]);have g:∀b:Nat->RV,(∀i,i<K->zrz M (b i))->∀v∈W0 K b,zrz M v:=fun b r v hv=>(by obtain⟨k,e,rfl⟩:=List.mem_map.1 hv;exact r k (List.mem_range.1 e));refine⟨?_,fun i j t l=> ?_⟩
 ·have a:=yab (List.range K) (W0 K B) (m B) (g B f);rw[List.length_range] at a;exact key (d:Int) _ h.det a.1 a.2
 ·have a:=yab (List.range K) (W0 K (M0 B i (c j))) (m _) (g _ fun k e=>by unfold M0;split;exact s j l;exact f k e);rw[List.length_range] at a;exact key _ _ (h.elem t l) a.1 a.2
structure Dic where
 bas:Nat->Nat
 oth:Nat->Nat
 D:Nat->Nat->Rat
def O0 (f:Nat->Nat) (i v:Nat):Nat->Nat:=fun k=>if k=i then v else f k
def J8 (D:Nat->Nat->Rat) (r c:Nat):Nat->Nat->Rat:=fun i j=>
 if i=r then(if j=c then(D r c)⁻¹ else(D r c)⁻¹*D r j)
 else if j=c then -((D r c)⁻¹*D i c) else D i j-(D r c)⁻¹*D i c*D r j
def zko (a:Dic) (r c:Nat):Dic:=⟨O0 a.bas r (a.oth c),O0 a.oth c (a.bas r),J8 a.D r c⟩
theorem znp (f:Nat->Nat) (i v:Nat):O0 f i v i=v:=if_pos rfl
theorem znq (f:Nat->Nat) (v:Nat) (h:k≠i):O0 f i v k=f k:=if_neg h
theorem zyx (h:c<n) (f:Nat->Rat):C5 n f=f c+C5 n fun j=>if j=c then 0 else f j:=by have a:C5 n f=C5 n fun j=>(if j=c then f c else 0)+(if j=c then 0 else f j):=P7 fun j _=>(by split<;>grind);rw[a,zro,zmn h fun j _ b=>if_neg b,if_pos rfl]
theorem zz1354 {f:Nat->Rat} (h:C5 n f<0):∃j,j<n/\f j<0:=by
 induction n with
 |zero=>exact absurd h (by simp only[C5];decide)
 |succ n ih=>
  rw[C5] at h;rcases Rat.le_total (a:=0) (b:=(f n)) with b|b
  ·obtain⟨j,c,a⟩:=ih (by grind);exact⟨j,by omega,a⟩
  ·by_cases a:f n=0
   ·obtain⟨j,c,a⟩:=ih (by grind);exact⟨j,by omega,a⟩
   ·exact⟨n,by omega,by grind⟩
theorem yyn {D:Nat->Nat->Rat} (hc:c<n) (p:D r c≠0) {X X':Nat->Rat} {g:Rat} (l:∀j,j≠c->X' j=X j) (m:X' c=g)
 (h:g+C5 n (fun j=>D r j*X j)=D r n*t):(X c+C5 n (fun j=>J8 D r c r j*X' j)=J8 D r c r n*t)/\
 ∀i,i≠r->∀y,y+C5 n (fun j=>D i j*X j)=D i n*t->y+C5 n (fun j=>J8 D r c i j*X' j)=J8 D r c i n*t:=by
 obtain⟨q,b⟩:=nm ((D r c)⁻¹);have v:D r c*q=1:=(by rw[b];exact Rat.mul_inv_cancel _ p);obtain⟨R,e⟩:=nm (C5 n fun j=>if j=c then 0 else D r j*X j);have hr:g+(D r c*X c+R)=D r n*t:=(by rw[e,<-zyx hc (fun j=>D r j*X j)];exact h);have o:n≠c:=og;refine⟨?_,fun i f y s=> ?_⟩
 ·have d:(C5 n fun j=>if j=c then 0 else J8 D r c r j*X' j)=q*R:=by
   rw[e,<-zoh];refine P7 fun j _=> ?_;by_cases a:j=c
   ·rw[if_pos a,if_pos a];grind
   ·rw[if_neg a,if_neg a,l j a,J8,if_pos rfl,if_neg a,<-b];grind
  rw[zyx hc,d,m,J8,if_pos rfl,if_pos rfl,J8,if_pos rfl,if_neg o,<-b];grind
 ·obtain⟨B,k⟩:=nm (C5 n fun j=>if j=c then 0 else D i j*X j);have u:y+(D i c*X c+B)=D i n*t:=by rw[k,<-zyx hc (fun j=>D i j*X j)];exact s
  have d:(C5 n fun j=>if j=c then 0 else J8 D r c i j*X' j)=B+(-(q*D i c))*R:=by
   rw[e,k,<-zoh,<-zro];refine P7 fun j _=> ?_;by_cases a:j=c
   ·rw[if_pos a,if_pos a,if_pos a];grind
   ·rw[if_neg a,if_neg a,if_neg a,l j a,J8,if_neg f,if_neg a,<-b];grind
  rw[zyx hc,d,m,J8,if_neg f,if_pos rfl,J8,if_neg f,if_neg o,<-b];grind
structure Dist (m n:Nat) (S:Dic):Prop where
 bb:∀i j,i<m->j<m->S.bas i=S.bas j->i=j
 oo:∀i j,i<n->j<n->S.oth i=S.oth j->i=j
 bo:∀i j,i<m->j<n->S.bas i≠S.oth j
theorem Dist.piv {b:Dic} (h:Dist m n b) (hr:r<m) (hc:c<n):Dist m n (zko b r c) where
 bb i j hi a e:=by
  simp only[zko,O0] at e
  split at e<;>split at e
  ·omega
  ·exact absurd e.symm (h.bo j c a hc)
  ·exact absurd e (h.bo i c hi hc)
  ·exact h.bb i j hi a e
 oo i j hi a e:=by
  simp only[zko,O0] at e;split at e<;>split at e
  ·omega
  ·exact absurd e (h.bo r j hr a)
  ·exact absurd e.symm (h.bo r i hr hi)
  ·exact h.oo i j hi a e
 bo i j hi a e:=by
  simp only[zko,O0] at e;split at e<;>split at e
  ·exact h.bo r c hr hc e.symm
  ·rename_i d f;exact f (h.oo j c a hc e.symm)
  ·rename_i d f;exact d (h.bb i r hi hr e)
  ·exact h.bo i j hi a e
structure Fit1 (m n:Nat) (S:Dic) (x:Nat->Rat) (z t:Rat):Prop where
 row:∀i,i<m->x (S.bas i)+C5 n (fun j=>S.D i j*x (S.oth j))=S.D i n*t
 obj:z+C5 n (fun j=>S.D m j*x (S.oth j))=S.D m n*t
theorem Fit1.piv {a:Dic} {x:Nat->Rat} {z:Rat} (h:Fit1 m n a x z t) (hr:r<m) (hc:c<n) (g:a.D r c≠0):Fit1 m n (zko a r c) x z t:=by
 have b:=yyn (D:=a.D) (X:=fun j=>x (a.oth j)) (X':=fun j=>x (O0 a.oth c (a.bas r) j)) hc g (fun j f=>by show x (O0 _ _ _ _)=_;rw[znq _ _ f]) (by show x (O0 _ _ _ _)=_;rw[znp]) (h.row r hr);refine⟨fun i e=> ?_,b.2 m og z h.obj⟩;by_cases d:i=r
 ·subst d;show x (O0 a.bas i (a.oth c) i)+_=_;rw[znp];exact b.1
 ·show x (O0 a.bas r (a.oth c) i)+_=_;rw[znq _ _ d];exact b.2 i d _ (h.row i e)
def Y6 (m n:Nat) (a:Dic) (X:Nat->Rat) (t:Rat) (v:Nat):Rat:=
 C5 m (fun i=>if a.bas i=v then a.D i n*t-C5 n (fun j=>a.D i j*X j) else 0)+C5 n (fun j=>if a.oth j=v then X j else 0)
theorem zuz {a:Dic} (h:Dist m n a) (X:Nat->Rat) (t:Rat) (c:i<m):Y6 m n a X t (a.bas i)=a.D i n*t-C5 n (fun j=>a.D i j*X j):=by unfold Y6;rw[zmn c fun j d e=>if_neg fun b=>e (h.bb j i d c b),if_pos rfl,zld fun j d=>if_neg fun b=>h.bo i j c d b.symm];grind
theorem zxb {a:Dic} (h:Dist m n a) (X:Nat->Rat) (t:Rat) (c:j<n):Y6 m n a X t (a.oth j)=X j:=by unfold Y6;rw[zld fun i d=>if_neg fun b=>h.bo i j d c b,zmn c fun k e f=>if_neg fun b=>f (h.oo k j e c b),if_pos rfl];grind
theorem yfq {a:Dic} (X:Nat->Rat) (t:Rat) (c:∀i,i<m->a.bas i≠v) (d:∀j,j<n->a.oth j≠v):Y6 m n a X t v=0:=by unfold Y6;rw[zld fun i b=>if_neg (c i b),zld fun i b=>if_neg (d i b)];grind
theorem yfr {b:Dic} (h:Dist m n b) (X:Nat->Rat) (t:Rat) (a:Nat->Rat):C5 n (fun j=>a j*Y6 m n b X t (b.oth j))=C5 n fun j=>a j*X j:=
 P7 fun j c=>by show a j*Y6 m n b X t (b.oth j)=a j*X j;rw[zxb h X t c]
theorem fromO_sum' {b:Dic} (h:Dist m n b) (X:Nat->Rat) (t:Rat) (a:Nat->Rat) {c:Nat->Nat} (e:∀j,j<n->b.oth j=c j):C5 n (fun j=>a j*Y6 m n b X t (c j))=C5 n fun j=>a j*X j:=
 P7 fun j d=>by show a j*Y6 m n b X t (c j)=a j*X j;rw[<-e j d,zxb h X t d]
theorem zxa {a:Dic} (h:Dist m n a) (X:Nat->Rat) (t:Rat):Fit1 m n a (Y6 m n a X t) (a.D m n*t-C5 n (fun j=>a.D m j*X j)) t where
 row i hi:=by
  rw[zuz h X t hi,yfr h X t (a.D i)]
  grind
 obj:=by rw[yfr h X t (a.D m)];grind
theorem yyy {e a:Dic} (f:Dist m n e) (p:∀i,i<m->e.bas i=a.bas i) (o:∀j,j<n->e.oth j=a.oth j)
 (h:∀x z t,Fit1 m n e x z t->Fit1 m n a x z t):∀i j,i<=m->j<=n->e.D i j=a.D i j:=by
 have key:∀(X:Nat->Rat) (t:Rat) (i:Nat),i<=m->e.D i n*t-C5 n (fun j=>e.D i j*X j)=a.D i n*t-C5 n (fun j=>a.D i j*X j):=by
  intro X t i g;have hF:=h _ _ _ (zxa f X t);rcases d i m with c|c
  ·have b:=hF.row i c;rw[<-p i c,zuz f X t c,fromO_sum' f X t (a.D i) o] at b;grind
  ·obtain rfl:i=m:=og;have b:=hF.obj;rw[fromO_sum' f X t (a.D i) o] at b;grind
 intro i j g q;rcases d j n with c|c
 ·have b:=key (fun k=>if k=j then 1 else 0) 0 i g;rw[zmn c fun k _ l=>by show _*(if k=j then(1:Rat) else 0)=0;rw[if_neg l];grind,zmn c fun k _ l=>by show _*(if k=j then(1:Rat) else 0)=0;rw[if_neg l];grind] at b;simp only[if_pos] at b;grind
 ·obtain rfl:j=n:=og;have b:=key (fun _=>0) 1 i g;rw[zld fun k _=>by grind,zld fun k _=>by grind] at b;grind
structure BlandAt (m n:Nat) (S:Dic) (r c:Nat):Prop where
 hc:c<n
 hr:r<m
 cost:S.D m c<0
 least:∀j,j<n->S.D m j<0->S.oth c<=S.oth j
 pos:0<S.D r c
 ratio:∀i,i<m->0<S.D i c->S.D r n*S.D i c<S.D i n*S.D r c\/(S.D r n*S.D i c=S.D i n*S.D r c/\S.bas r<=S.bas i)
theorem inv_pos {a:Rat} (h:0<a):0<a⁻¹:=Rat.inv_pos.2 h
theorem yiz {a:Dic} (h:BlandAt m n a r c) (d:∀i,i<m->0<=a.D i n):∀i,i<m->0<=(zko a r c).D i n:=by
 intro i f;have b:=inv_pos h.pos;have x:=Rat.mul_inv_cancel _ (Rat.ne_of_gt h.pos);have k:n≠c:=(by have:=h.hc;omega);have l:=d r h.hr;have y:=d i f;by_cases j:i=r
 ·show 0<=J8 a.D r c i n;rw[J8,if_pos j,if_neg k];exact g (Rat.le_of_lt b) l
 ·show 0<=J8 a.D r c i n;rw[J8,if_neg j,if_neg k];rcases Rat.le_total (a:=(a.D i c)) (b:=0) with o|o
  ·have:=g (g (Rat.le_of_lt b) (show 0<=-(a.D i c) by grind)) l;grind
  ·by_cases p:a.D i c=0
   ·rw[p];grind
   ·have s:0<a.D i c:=(by grind);(have t:a.D r n*a.D i c<=a.D i n*a.D r c:=by rcases h.ratio i f s with h|h<;>grind);have e:=Rat.mul_le_mul_of_nonneg_left t (Rat.le_of_lt b);have u:(a.D r c)⁻¹*(a.D i n*a.D r c)=a.D i n:=(by rw[Rat.mul_comm (a.D i n),<-Rat.mul_assoc,Rat.mul_comm _ (a.D r c),x,Rat.one_mul]);rw[u] at e;obtain⟨q,w⟩:=nm ((a.D r c)⁻¹);rw[<-w] at e⊢;have v:q*a.D i c*a.D r n=q*(a.D r n*a.D i c):=(by rw[Rat.mul_assoc,Rat.mul_comm (a.D i c)]);rw[v];grind
theorem ylf {x:Nat}:∀d,f x->¬f (x+d)->∃q,x<=q/\q<x+d/\f q/\¬f (q+1):=by
 intro d;induction d with
 |zero=>intro i j;exact absurd i j
 |succ d ih=>
  intro i j;by_cases h:f (x+d)
  ·exact⟨x+d,by omega,by omega,h,j⟩
  ·obtain⟨q,a,b,c,k⟩:=ih i h;exact⟨q,a,by omega,c,k⟩
theorem ycn {a b l:Nat} (n:f a↔f b) (o:a<=k/\k<b) (p:a<=l/\l<b) (j:f k) (m:¬f l):
 (∃q,a<=q/\q<b/\f q/\¬f (q+1))/\∃q,a<=q/\q<b/\¬f q/\f (q+1):=by
 have up:∀x y,a<=x->x<=y->y<=b->f x->¬f y->∃q,a<=q/\q<b/\f q/\¬f (q+1):=(by intro x y s t u c d;obtain⟨q,w,z,q3,g⟩:=ylf (f:=f) (y-x) c (by rw[show x+(y-x)=y by omega];exact d);exact⟨q,by omega,by omega,q3,g⟩);have i:∀x y,a<=x->x<=y->y<=b->¬f x->f y->∃q,a<=q/\q<b/\¬f q/\f (q+1):=(by intro x y s t u c d;obtain⟨q,w,z,q3,g⟩:=ylf (f:=fun v=>¬f v) (y-x) c (by show¬¬f (x+(y-x));rw[show x+(y-x)=y by omega];exact fun h=>h d);exact⟨q,by omega,by omega,q3,Classical.not_not.1 g⟩);by_cases h:f a
 ·exact⟨up a l (e _) p.1 og h m,i l b p.1 og (e _) m (n.1 h)⟩
 ·exact⟨up k b o.1 og (e _) j (fun r=>h (n.2 r)),i a k (e _) o.1 og h j⟩
theorem ywg:∀(K:Nat) (f:Nat->Nat),(∀i,f i<K)->∃i j,i<j/\f i=f j:=by
 have key:∀(K:Nat) (f:Nat->Nat),(∀i,i<=K->f i<K)->∃i j,i<j/\j<=K/\f i=f j:=by
  intro K;induction K with
  |zero=>intro f h;exact absurd (h 0 (e _)) (Nat.not_lt_zero _)
  |succ K ih=>
   intro f h;by_cases g:∃i,i<=K/\f i=f (K+1)
   ·obtain⟨i,c,b⟩:=g;exact⟨i,K+1,by omega,e _,b⟩
   ·have d:∀i,i<=K->f i≠f (K+1):=fun i c b=>g ⟨i,c,b⟩;have p:=h (K+1) (e _);obtain⟨i,j,l,m,b⟩:=ih (fun i=>if f i<f (K+1) then f i else f i-1) (fun i c=>by have n:=h i og;have k:=d i c;show(if f i<f (K+1) then f i else f i-1)<K;split<;>omega);refine⟨i,j,l,by omega,?_⟩;have k:=d i og;have o:=d j m;have b:(if f i<f (K+1) then f i else f i-1)=if f j<f (K+1) then f j else f j-1:=b;split at b<;>split at b<;>omega
 intro K f h;obtain⟨i,j,a,_,b⟩:=key K f (fun i _=>h i);exact⟨i,j,a,b⟩
def znb (N:Nat) (f:Nat->Nat):Nat->Nat
 |0=>0
 |k+1=>znb N f k*N+f k
theorem yel {f:Nat->Nat}:∀k,(∀i,i<k->f i<N)->znb N f k<N^k
 |0,_=>by simp[znb]
 |k+1,h=>by
  have a:=yel k fun i j=>h i og
  have c:=h k og
  have b:(znb N f k+1)*N<=N^k*N:=Nat.mul_le_mul_right _ a
  rw[znb,Nat.pow_succ]
  rw[Nat.add_mul,Nat.one_mul] at b
  omega
theorem yek {f a:Nat->Nat}:∀k,(∀i,i<k->f i<N)->(∀i,i<k->a i<N)->znb N f k=znb N a k->∀i,i<k->f i=a i
 |0,_,_,_,i,b=>absurd b (Nat.not_lt_zero _)
 |k+1,hf,hg,c,i,b=>by
  have m:=hf k og
  have n:=hg k og
  rw[znb,znb] at c
  have j:f k=a k:=by
   have:=congrArg (·%N) c
   simpa[Nat.add_mod,Nat.mod_eq_of_lt m,Nat.mod_eq_of_lt n] using this
  have l:znb N f k=znb N a k:=Nat.eq_of_mul_eq_mul_right og (show znb N f k*N=znb N a k*N by omega);rcases d i k with h|h
  ·exact yek k (fun i b=>hf i og) (fun i b=>hg i og) l i h
  ·obtain rfl:i=k:=og;exact j
def zkq (m:Nat) (a:Dic) (v:Nat):Prop:=∃i,i<m/\a.bas i=v
theorem yse {a:Dic} (hr:r<m) (d:zkq m a v) (e:¬zkq m (zko a r c) v):v=a.bas r:=by
 obtain⟨i,f,rfl⟩:=d;by_cases b:i=r
 ·rw[b]
 ·exact absurd ⟨i,f,znq _ _ b⟩ e
theorem ysd {a:Dic} (d:¬zkq m a v) (e:zkq m (zko a r c) v):v=a.oth c:=by
 obtain⟨i,f,rfl⟩:=e;by_cases b:i=r
 ·rw[b];exact znp _ _ _
 ·exact absurd ⟨i,f,(znq _ _ b).symm⟩ d
theorem ydk (s:Nat->Dic) (r c:Nat->Nat) (E:∀k,s (k+1)=zko (s k) (r k) (c k)) (u:∀k,BlandAt m n (s k) (r k) (c k))
 (hD:Dist m n (s 0)) (aJ:(∀i,i<m->(s 0).bas i<N)/\∀j,j<n->(s 0).oth j<N) (aI:∀i,i<m->0<=(s 0).D i n):False:=by
 have I:∀k,Dist m n (s k):=by
  intro k;induction k with
  |zero=>exact hD
  |succ k ih=>rw[E];exact ih.piv (u k).hr (u k).hc
 have K:∀k,(∀i,i<m->(s k).bas i<N)/\∀j,j<n->(s k).oth j<N:=by
  intro k;induction k with
  |zero=>exact aJ
  |succ k ih=>
   rw[E];refine⟨fun i l=> ?_,fun j B=> ?_⟩
   ·show O0 _ _ _ _<N;unfold O0;split
    ·exact ih.2 _ (u k).hc
    ·exact ih.1 i l
   ·show O0 _ _ _ _<N;unfold O0;split
    ·exact ih.1 _ (u k).hr
    ·exact ih.2 j B
 have aR:∀k i,i<m->0<=(s k).D i n:=by
  intro k;induction k with
  |zero=>exact aI
  |succ k ih=>rw[E];exact yiz (u k) ih
 have ac:∀k d x z t,Fit1 m n (s k) x z t->Fit1 m n (s (k+d)) x z t:=by
  intro k d;induction d with
  |zero=>exact fun x z t h=>h
  |succ d ih=>intro x z t h;rw[<-Nat.add_assoc,E];exact(ih x z t h).piv (u _).hr (u _).hc (Rat.ne_of_gt (u _).pos)
 obtain⟨a,b,ar,aM⟩:=ywg (N^(m+n)) (fun k=>znb N (fun i=>if i<m then(s k).bas i else(s k).oth (i-m)) (m+n)) (fun k=>yel _ fun i l=>by
  show(if i<m then(s k).bas i else(s k).oth (i-m))<N;split
  ·exact(K k).1 i ‹_›
  ·exact(K k).2 _ og)
 have an:∀i,i<m+n->(if i<m then(s a).bas i else(s a).oth (i-m))=if i<m then(s b).bas i else(s b).oth (i-m):=by
  refine yek (m+n) (fun i l=> ?_) (fun i l=> ?_) aM
  ·show(if i<m then(s a).bas i else(s a).oth (i-m))<N;split
   ·exact(K a).1 i ‹_›
   ·exact(K a).2 _ og
  ·show(if i<m then(s b).bas i else(s b).oth (i-m))<N;split
   ·exact(K b).1 i ‹_›
   ·exact(K b).2 _ og
 have Y:∀i,i<m->(s a).bas i=(s b).bas i:=fun i l=>(by have:=an i og;rwa[if_pos l,if_pos l] at this);have ag:∀j,j<n->(s a).oth j=(s b).oth j:=fun j B=>(by have:=an (m+j) og;rwa[if_neg og,if_neg og,Nat.add_sub_cancel_left] at this);have M:∀i j,i<=m->j<=n->(s a).D i j=(s b).D i j:=yyy (I a) Y ag fun x z t h=>by have:=ac a (b-a) x z t h;rwa[show a+(b-a)=b by omega] at this
 have aU:∀x z t,Fit1 m n (s b) x z t->Fit1 m n (s a) x z t:=by
  intro x z t h;refine⟨fun i l=> ?_,?_⟩
  ·have o:=h.row i l;rw[Y i l,M i n og (e _),show C5 n (fun j=>(s a).D i j*x ((s a).oth j))=C5 n (fun j=>(s b).D i j*x ((s b).oth j)) from P7 fun j B=>by rw[M i j og og,ag j B]];exact o
  ·have o:=h.obj;rw[M m n (e _) (e _),show C5 n (fun j=>(s a).D m j*x ((s a).oth j))=C5 n (fun j=>(s b).D m j*x ((s b).oth j)) from P7 fun j B=>by rw[M m j (e _) og,ag j B]];exact o
 have aT:∀k A,a<=k->k<b->a<=A->A<b->∀x z t,Fit1 m n (s k) x z t->Fit1 m n (s A) x z t:=(by intro k A J D ad ae x z t h;have p:=ac k (b-k) x z t h;rw[show k+(b-k)=b by omega] at p;have w:=ac a (A-a) x z t (aU x z t p);rwa[show a+(A-a)=A by omega] at w);(have aA:∀k,(s (k+1)).D m n=(s k).D m n-((s k).D (r k) (c k))⁻¹*(s k).D m (c k)*(s k).D (r k) n:=by intro k;have p:=(u k).hc;have w:=(u k).hr;rw[E];show J8 _ _ _ _ _=_;rw[J8,if_neg og,if_neg og]);have av:∀k,0<=-(((s k).D (r k) (c k))⁻¹*(s k).D m (c k)*(s k).D (r k) n):=by intro k;have p:=g (g (Rat.le_of_lt (inv_pos (u k).pos)) (show 0<=-((s k).D m (c k)) by have:=(u k).cost;grind)) (aR k _ (u k).hr);grind
 have ay:∀k d,(s k).D m n<=(s (k+d)).D m n:=by
  intro k d;induction d with
  |zero=>exact Rat.le_refl
  |succ d ih=>have p:=aA (k+d);have w:=av (k+d);rw[<-Nat.add_assoc];grind
 have aE:∀k,a<=k->k<b->(s k).D (r k) n=0:=by
  intro k J D;have p:=ay a (k-a);have w:=ay (k+1) (b-(k+1));rw[show a+(k-a)=k by omega] at p;rw[show k+1+(b-(k+1))=b by omega] at w;have y:=M m n (e _) (e _);have F:=aA k;have L:((s k).D (r k) (c k))⁻¹*(s k).D m (c k)*(s k).D (r k) n=0:=(by have:=av k;grind);have W:=inv_pos (u k).pos;have X:=(u k).cost;rcases Rat.mul_eq_zero.1 L with h|h
  ·rcases Rat.mul_eq_zero.1 h with h|h
   ·rw[h] at W;exact absurd W Rat.lt_irrefl
   ·rw[h] at X;exact absurd X Rat.lt_irrefl
  ·exact h
 have aK:∀v k,a<=k->k<b->((∀i,i<m->(s k).bas i=v->(s k).D i n=0)↔∀i,i<m->(s (k+1)).bas i=v->(s (k+1)).D i n=0):=by
  intro v k J D;have ah:=aE k J D;have hr:=(u k).hr;have hc:=(u k).hc;have ak:∀i,i≠r k->(s (k+1)).bas i=(s k).bas i:=fun i l=>(by rw[E];exact znq _ _ l);(have al:∀i,i≠r k->(s (k+1)).D i n=(s k).D i n:=fun i l=>by rw[E];show J8 _ _ _ _ _=_;rw[J8,if_neg l,if_neg og,ah];grind);(have aH:(s (k+1)).D (r k) n=0:=by rw[E];show J8 _ _ _ _ _=_;rw[J8,if_pos rfl,if_neg og,ah];grind);refine⟨fun h i l o=> ?_,fun h i l o=> ?_⟩
  ·by_cases G:i=r k
   ·rw[G];exact aH
   ·rw[al i G];exact h i l (by rw[<-ak i G];exact o)
  ·by_cases G:i=r k
   ·rw[G];exact ah
   ·rw[<-al i G];exact h i l (by rw[ak i G];exact o)
 have aq:∀v d,a+d<=b->((∀i,i<m->(s a).bas i=v->(s a).D i n=0)↔∀i,i<m->(s (a+d)).bas i=v->(s (a+d)).D i n=0):=by
  intro v d;induction d with
  |zero=>exact fun _=>Iff.rfl
  |succ d ih=>intro h;exact(ih og).trans (by rw[<-Nat.add_assoc];exact aK v (a+d) og og)
 have aL:∀v k A,a<=k->k<b->a<=A->A<b->(∀i,i<m->(s k).bas i=v->(s k).D i n=0)->∀i,i<m->(s A).bas i=v->(s A).D i n=0:=by intro v k A J D ad ae h;have p:=aq v (k-a) og;have w:=aq v (A-a) og;rw[show a+(k-a)=k by omega] at p;rw[show a+(A-a)=A by omega] at w;exact w.1 (p.2 h)
 obtain⟨f,O,P,af⟩:∃f,a<=f/\f<b/\∀k,a<=k->k<b->(s k).oth (c k)<=(s f).oth (c f):=by
  have:∀d,a+d<b->∃f,a<=f/\f<b/\∀k,a<=k->k<=a+d->(s k).oth (c k)<=(s f).oth (c f):=by
   intro d;induction d with
   |zero=>intro h;exact⟨a,e _,ar,fun k p w=>by rw[show k=a by omega];exact e _⟩
   |succ d ih=>
    intro h;obtain⟨f,p,w,y⟩:=ih og;rcases Nat.le_total ((s (a+(d+1))).oth (c (a+(d+1)))) ((s f).oth (c f)) with F|F
    ·refine⟨f,p,w,fun k S aG=> ?_⟩;by_cases o:k=a+(d+1)
     ·rw[o];exact F
     ·exact y k S og
    ·refine⟨a+(d+1),by omega,h,fun k S aG=> ?_⟩;by_cases o:k=a+(d+1)
     ·rw[o];exact e _
     ·exact Nat.le_trans (y k S og) F
  obtain⟨f,p,w,y⟩:=this (b-1-a) og;exact⟨f,p,w,fun k S aG=>y k S og⟩
 obtain⟨t,R⟩:=nm ((s f).oth (c f));rw[<-R] at af;have Z:∀v,zkq m (s a) v↔zkq m (s b) v:=fun v=>⟨fun⟨i,l,o⟩=>⟨i,l,by rw[<-Y i l];exact o⟩,fun⟨i,l,o⟩=>⟨i,l,by rw[Y i l];exact o⟩⟩;have az:∀k j,j<n->¬zkq m (s k) ((s k).oth j):=fun k j B ⟨i,l,o⟩=>(I k).bo i j l B o;have aN:∀v k A,a<=k->k<b->a<=A->A<b->zkq m (s k) v->¬zkq m (s A) v->v<=t:=by intro v k A J D ad ae p w;obtain⟨_,q,T,U,q3,V⟩:=ycn (f:=fun k=>zkq m (s k) v) (Z v) ⟨J,D⟩ ⟨ad,ae⟩ p w;have y:zkq m (s (q+1)) v:=V;rw[E] at y;rw[ysd q3 y];exact af q T U
 obtain⟨k,Q,D,aB⟩:∃k,a<=k/\k<b/\(s k).bas (r k)=t:=by
  have p:zkq m (s (f+1)) t:=⟨r f,(u f).hr,by rw[E,R];exact znp _ _ _⟩;have w:¬zkq m (s f) t:=(by rw[R];exact az f _ (u f).hc);have fin:∀q,zkq m (s q) t->¬zkq m (s (q+1)) t->(s q).bas (r q)=t:=fun q y F=>(by rw[E] at F;exact(yse (u q).hr y F).symm);by_cases hg:f+1<b
  ·obtain⟨⟨q,T,U,q3,V⟩,_⟩:=ycn (f:=fun k=>zkq m (s k) t) (Z t) (k:=f+1) (l:=f) ⟨by omega,hg⟩ ⟨O,P⟩ p w;exact⟨q,T,U,fin q q3 V⟩
  ·have aO:f+1=b:=og;rw[aO] at p;have y:=(Z t).2 p;obtain⟨⟨q,T,U,q3,V⟩,_⟩:=ycn (f:=fun k=>zkq m (s k) t) (Z t) (k:=a) (l:=f) ⟨e _,ar⟩ ⟨O,P⟩ y w;exact⟨q,T,U,fin q q3 V⟩
 have au:=(u k).hc;have aS:=(u k).hr;have ao:∀i,C5 n (fun j=>(s k).D i j*(if j=c k then(1:Rat) else 0))=(s k).D i (c k):=(by intro i;rw[zmn au fun j _ B=>by show _*(if j=c k then(1:Rat) else 0)=0;rw[if_neg B];grind,if_pos rfl];grind);have hF:=aT k f Q D O P _ _ _ (zxa (I k) (fun j=>if j=c k then 1 else 0) 0);obtain⟨d,hd⟩:=nm (Y6 m n (s k) (fun j=>if j=c k then 1 else 0) 0);rw[<-hd] at hF;have ai:∀i,i<m->d ((s k).bas i)= -((s k).D i (c k)):=(by intro i l;rw[hd,zuz (I k) _ _ l,ao];grind);have aj:∀j,j<n->d ((s k).oth j)=if j=c k then 1 else 0:=(by intro j B;rw[hd,zxb (I k) _ _ B]);have aQ:=hF.obj;rw[ao] at aQ;have aP:C5 n (fun j=>(s f).D m j*d ((s f).oth j))<0:=(by have:=(u k).cost;grind);obtain⟨j,B,H⟩:=zz1354 aP;have H:(s f).D m j*d ((s f).oth j)<0:=H;obtain⟨C,aa⟩:=nm ((s f).oth j);rw[<-aa] at H;have ab:d C≠0:=fun o=>(by rw[o] at H;grind);have aC:¬zkq m (s f) C:=by rw[aa];exact az f j B
 have aD:zkq m (s k) C\/C=(s k).oth (c k):=by
  by_cases p:zkq m (s k) C
  ·exact .inl p
  ·by_cases w:∃i,i<n/\(s k).oth i=C
   ·obtain⟨i,l,rfl⟩:=w;rw[aj i l] at ab;by_cases y:i=c k
    ·rw[y];exact .inr rfl
    ·rw[if_neg y] at ab;exact absurd rfl ab
   ·refine absurd ?_ ab;rw[hd];exact yfq _ _ (fun i l o=>p ⟨i,l,o⟩) (fun i l o=>w ⟨i,l,o⟩)
 have aW:C<=t:=by
  rcases aD with h|h
  ·exact aN C k f Q D O P h aC
  ·rw[h];exact af k Q D
 have aV:d t<0:=(by rw[<-aB,ai _ aS];have:=(u k).pos;grind);rcases Rat.le_total (a:=0) (b:=((s f).D m j)) with p|p
 ·have w:(s f).D m j≠0:=fun o=>by rw[o] at H;grind
  have y:d C<0:=by
   rcases Rat.le_total (a:=0) (b:=(d C)) with h|h
   ·have:=g p h;grind
   ·grind
  have F:C≠t:=fun o=>(by rw[aa,R] at o;have o:=(I f).oo j (c f) B (u f).hc o;rw[o] at p;have:=(u f).cost;grind);rcases aD with L|L
  ·obtain⟨i,l,o⟩:=L;rw[<-o,ai i l] at y;have W:=aL C f k O P Q D (fun i l o=>absurd ⟨i,l,o⟩ aC) i l o;have X:=aE k Q D;rcases(u k).ratio i l (by grind) with h|h
   ·rw[W,X] at h;grind
   ·have:=h.2;rw[aB,o] at this;omega
  ·rw[L,aj _ au,if_pos rfl] at y;exact absurd y (by decide)
 ·have w:(s f).D m j<0:=by
   by_cases o:(s f).D m j=0
   ·rw[o] at H;grind
   ·grind
  have y:=(u f).least j B w;rw[<-R,<-aa] at y;have F:C=t:=og;rw[F] at H;have:=g (show 0<=-((s f).D m j) by grind) (show 0<=-(d t) by grind);grind
end Go.Proofs.YtdgilbgdkmhcmaaGreatDoor
