/-
 The first table of a dictionary,and d c numbers b.
-/
import Derived.Test.YtlhhbccgfkhflaaGreatDoorProofSimplexPivots05
namespace Go.Proofs.YtlhhbccgfkhflaaGreatDoor
set_option linter.unusedVariables false
open Go.RowKit
open Go Go.RowKit
set_option maxRecDepth 100000
set_option maxHeartbeats 8000000
open _root_.Nat renaming le_refl → K, lt_of_lt_of_le → Z
open _root_.List renaming getD_eq_getElem?_getD → y, getElem?_eq_getElem → aa, mem_of_getElem? → ab, getElem?_map → Y
open _root_.Go.World renaming cell?_of_block → V
open _root_.Go renaming World → p, Value → q, TypeId → O, Program → U, Oper → D
variable {M j : Nat} {N : Nat → Nat} {f : Nat → Rat}
def zmp (R:List (List Rat)) (b c:List Rat) (v:Rat) (bas oth:List Nat) (m n:Nat):TB:=
 ⟨fun i j=>if i<m then zmn (zvb R b m) i j else if j<n then -(zmn [c++[v]] 0 j) else zmn [c++[v]] 0 j,1,bas,oth⟩
def zpu (R:List (List Rat)) (b:List Rat) (i:Nat):Nat:=zks (R.getD i []++[b.getD i 0])
def zkz (c:List Rat) (v:Rat):Nat:=zks (c++[v])
def zon (bas:List Nat) (N:Nat->Nat):Nat->Nat->Nat
 |0,_=>1
 |k+1,v=>if bas.getD k 0=v then N k else zon bas N k v
theorem ylz {bas:List Nat} (h:∀i,0<N i):∀k v,0<zon bas N k v
 |0,_=>Nat.one_pos
 |k+1,v=>by
  rw[zon]
  split
  ·exact h k
  ·exact ylz h k v
theorem yly {bas:List Nat} {v:Nat}:∀{k},(∀i,i<k->bas.getD i 0≠v)->zon bas N k v=1
 |0,_=>rfl
 |k+1,h=>by rw[zon,if_neg (h k og)];exact yly fun i a=>h i og
theorem ylw {bas:List Nat} {i:Nat}:∀{k},i<k->(∀j,j<k->bas.getD j 0=bas.getD i 0->j=i)->zon bas N k (bas.getD i 0)=N i
 |0,h,_=>by omega
 |k+1,h,hd=>by
  rw[zon]
  by_cases a:bas.getD k 0=bas.getD i 0
  ·rw[if_pos a,hd k og a]
  ·rw[if_neg a]
   have:i≠k:=fun b=>a (by rw[b])
   exact ylw og fun j c=>hd j og
def zna (R:List (List Rat)) (b:List Rat) (bas:List Nat) (m:Nat):Nat->Nat:=zon bas (zpu R b) m
theorem ylq (R:List (List Rat)) (b:List Rat) (i:Nat):0<zpu R b i:=zyk _
theorem ynm (c:List Rat) (v:Rat):0<zkz c v:=zyk _
theorem zz1403 (R:List (List Rat)) (b:List Rat) (bas:List Nat) (m v:Nat):0<zna R b bas m v:=ylz (ylq R b) m v
def zou (i:Nat):RV:=fun x=>if x=i then 1 else 0
theorem ygf:∀a,W7 (List.range a) (Y7 a zou)=1
 |0=>rfl
 |a+1=>by
  have b:Y7 (a+1) zou=Y7 a zou++[zou a]:=by unfold Y7;rw[List.range_succ,List.map_append];rfl
  rw[List.range_succ,b,yrs a (List.range a) (fun c hc=>by have:=List.mem_range.1 hc;unfold zou;rw[if_neg og]) (Y7 a zou) (by unfold Y7;simp),ygf a]
  unfold zou
  rw[if_pos rfl];grind
theorem yvb {f:Nat->Int} {a:Nat->Prop} [DecidablePred a]:zqb (fun x=>if a x then((f x:Int):Rat) else 0):=fun x=>by
 show∃z:Int,(if a x then((f x:Int):Rat) else 0)=(z:Rat)
 split
 ·exact⟨f x,rfl⟩
 ·exact⟨0,rfl⟩
theorem zyx {z:Int} (h:z.natAbs<=M): -(M:Rat)<=(z:Rat)/\(z:Rat)<=(M:Rat):=by have a:((M:Nat):Rat)=((M:Int):Rat):=(Rat.intCast_natCast M).symm;rw[a,<-Rat.intCast_neg,Rat.intCast_le_intCast,Rat.intCast_le_intCast];omega
theorem zz1417 {m n:Nat} {a:TB} (hd:a.d=1) (h:a.bas.length=m) (p:a.oth.length=n) (o:(a.bas++a.oth).Nodup) (l:∀v∈a.bas++a.oth,v<m+n) (f:1<=M) (g:∀i j,i<=m->j<=n->(a.A i j).natAbs<=M):TInv M m n a where
 cram:=by
  have d:(0:Rat)=((0:Int):Rat):=rfl
  refine⟨zou,fun j x=>if x<m+1 then((a.A x j:Int):Rat) else 0,⟨by rw[hd];exact Nat.one_pos,fun i _ x=> ?_,fun j _=>yvb,.inl ?_,fun j _ x=> ?_⟩,fun i _ x=> ?_,fun j k x=> ?_⟩
  ·unfold zou
   split
   ·exact⟨1,rfl⟩
   ·exact⟨0,rfl⟩
  ·rw[hd,ygf];rfl
  ·rw[hd]
   show((1:Int):Rat)*(if x<m+1 then((a.A x j:Int):Rat) else 0)=_
   have e:((1:Int):Rat)=1:=rfl
   rw[e,Rat.one_mul]
   by_cases b:x<m+1
   ·rw[if_pos b,znb b fun i _ c=>by unfold zou;rw[if_neg (Ne.symm c)];grind]
    unfold zou;rw[if_pos rfl];grind
   ·rw[if_neg b,zlp fun i c=>by unfold zou;rw[if_neg og];grind]
  ·unfold zou
   split
   ·exact zyx (z:=1) (by simpa using f)
   ·rw[d];exact zyx (by simp)
  ·show _<=(if x<m+1 then((a.A x j:Int):Rat) else 0)/\(if x<m+1 then((a.A x j:Int):Rat) else 0)<=_
   by_cases b:x<m+1
   ·rw[if_pos b];exact zyx (g x j og k)
   ·rw[if_neg b,d];exact zyx (by simp)
 bl:=h;ol:=p;dist:=o;lt:=l
section
variable {R : List (List Rat)} {b c : List Rat} {v : Rat} {bas oth : List Nat} {m n : Nat}
theorem yxq (g:R.length=m) (k:b.length=m) (f:∀r∈R,r.length=n) {i:Nat} (a:i<m) (l:j<=n):
 (((zmp R b c v bas oth m n).A i j:Int):Rat)=(if j<n then(R.getD i []).getD j 0 else b.getD i 0)*((zpu R b i:Nat):Rat):=by
 show((if i<m then zmn (zvb R b m) i j else _:Int):Rat)=_;rw[if_pos a];have hr:R[i]? =some (R.getD i []):=(by rw[y,aa og];rfl);have e:=yei (b:=b) (n:=m) (m:=n) a hr;have d:(R.getD i []).length=n:=f _ (ab hr);by_cases h:j<n
 ·rw[if_pos h,zyo e (zyc d h)];rfl
 ·obtain rfl:j=n:=og;rw[if_neg h,zyo e (ybh d)];rfl
theorem yxn (hc:c.length=n) (a:j<=n):
 (((zmp R b c v bas oth m n).A m j:Int):Rat)=(if j<n then -(c.getD j 0) else v)*((zkz c v:Nat):Rat):=by
 show((if m<m then _ else if j<n then -(zmn [c++[v]] 0 j) else zmn [c++[v]] 0 j:Int):Rat)=_;rw[if_neg og];by_cases h:j<n
 ·rw[if_pos h,if_pos h,Rat.intCast_neg,zyo (b:=[c++[v]]) (i:=0) rfl (zyc hc h)];show -(_*((zkz c v:Nat):Rat))=_;grind
 ·obtain rfl:j=n:=og;rw[if_neg h,if_neg h,zyo (b:=[c++[v]]) (i:=0) rfl (ybh hc)];rfl
theorem yjn (x:Nat) (h:0<x):((x:Nat):Rat)*((x:Nat):Rat)⁻¹=1:=Rat.mul_inv_cancel _ (zuu h)
theorem yxo (o:R.length=m) (p:b.length=m) (u:∀r∈R,r.length=n) (hc:c.length=n) (w:bas.length=m) (x:oth.length=n) (t:(bas++oth).Nodup) {i:Nat} (q:i<=m) (e:j<=n):
 (L6 (zna R b bas m) (zkz c v) m n (zmp R b c v bas oth m n)).D i j=if i<m then(if j<n then(R.getD i []).getD j 0 else b.getD i 0) else if j<n then -(c.getD j 0) else v:=by
 have f:=List.nodup_append.1 t;show(if i<=m/\j<=n then(((zmp R b c v bas oth m n).A i j:Int):Rat)*((1:Int):Rat)⁻¹*uc (zna R b bas m) n (fun j=>oth.getD j 0) j*(ur (zna R b bas m) (zkz c v) m (fun i=>bas.getD i 0) i)⁻¹ else 0)=_;rw[if_pos ⟨q,e⟩];have g:((1:Int):Rat)⁻¹=1:=zub (Rat.mul_one 1)
 have l:uc (zna R b bas m) n (fun j=>oth.getD j 0) j=1:=by
  unfold uc;split
  ·rename_i h;have:zna R b bas m (oth.getD j 0)=1:=yly fun k s a=>f.2.2 _ (zlw og) _ (zlw (l:=oth) (i:=j) og) a;rw[this];rfl
  ·rfl
 rw[g,l,Rat.mul_one,Rat.mul_one];by_cases h:i<m
 ·rw[if_pos h,yxq o p u h e];have d:ur (zna R b bas m) (zkz c v) m (fun i=>bas.getD i 0) i=((zpu R b i:Nat):Rat):=(by unfold ur;rw[if_pos h];have:zna R b bas m (bas.getD i 0)=zpu R b i:=ylw h fun k s a=>zqj f.1 og og a;rw[this]);rw[d,Rat.mul_assoc,yjn _ (ylq R b i),Rat.mul_one]
 ·obtain rfl:i=m:=og;rw[if_neg h,yxn hc e];have d:ur (zna R b bas i) (zkz c v) i (fun i=>bas.getD i 0) i=((zkz c v:Nat):Rat):=(by unfold ur;rw[if_neg h]);rw[d,Rat.mul_assoc,yjn _ (ynm c v),Rat.mul_one]
end
theorem ybc {m n:Nat} {S T:Dic} (c:∀i,i<m->S.bas i=T.bas i) (b:∀j,j<n->S.oth j=T.oth j) (hD:∀i j,i<=m->j<=n->S.D i j=T.D i j) {x:Nat->Rat} {z s:Rat} (h:Fit1 m n S x z s):Fit1 m n T x z s where
 row i hi:=by
  rw[<-c i hi,<-hD i n og (K _),<-h.row i hi]
  congr 1
  exact R4 fun j a=>by rw[<-hD i j og og,<-b j a]
 obj:=by rw[<-hD m n (K _) (K _),<-h.obj];congr 1;exact R4 fun j a=>by rw[<-hD m j (K _) og,<-b j a]
theorem yth {m n:Nat} {S T:Dic} (c:∀i,i<m->S.bas i=T.bas i) (d:∀j,j<n->S.oth j=T.oth j) (hD:∀i j,i<=m->j<=n->S.D i j=T.D i j):Eqv m n S T:=fun x z s=>
 ⟨ybc c d hD,ybc (fun i a=>(c i a).symm) (fun j b=>(d j b).symm) fun i j a b=>(hD i j a b).symm⟩
theorem yxp {R:List (List Rat)} {b c:List Rat} {m n:Nat} (q:R.length=m) (s:b.length=m) (u:∀r∈R,r.length=n) (hc:c.length=n) {bas oth:List Nat} (l:bas=(List.range m).map fun i=>n+i) (p:oth=List.range n):
 Eqv m n (M0 m n (fun i j=>(R.getD i []).getD j 0) (fun i=>b.getD i 0) fun j=>c.getD j 0) (L6 (zna R b bas m) (zkz c 0) m n (zmp R b c 0 bas oth m n)):=by
 have f:bas.length=m:=(by rw[l];simp);have o:oth.length=n:=(by rw[p];simp);have g:∀i,i<m->bas.getD i 0=n+i:=fun i a=>(by rw[l,y,Y,List.getElem?_range a];rfl);have go:∀j,j<n->oth.getD j 0=j:=fun j d=>by rw[p,y,List.getElem?_range d];rfl
 have t:(bas++oth).Nodup:=zun fun i j a d e=>by
  rw[List.length_append,f,o] at a d
  have key:∀k,k<m+n->(bas++oth).getD k 0=if k<m then n+k else k-m:=fun k v=>by
   rw[y,List.getElem?_append,f];split
   ·rename_i h;rw[<-y];exact g k h
   ·rename_i h;rw[<-y];exact go _ og
  rw[key i a,key j d] at e;split at e<;>split at e<;>omega
 refine yth (fun i a=>(g i a).symm) (fun j d=>(go j d).symm) fun i j a d=> ?_;rw[yxo q s u hc f o t a d];show(if i<m then(if j<n then(R.getD i []).getD j 0 else b.getD i 0) else if j<n then -(c.getD j 0) else 0)=_;rfl
structure TabE (w:p) (base:Nat) (S:Nat->Prop) (B:Nat->Option Nat) (m n:Nat) (hd:Nat->q) (H e d s G:q) (sb:Nat) (F:Nat->Nat->Int) (Q C:Nat->Int) (sc:Nat->Nat) (bas oth:List Nat):Prop where
 tab:TabO w base S B m m n hd H e F Q
 cost:OwnS 3 30 IsR w base S d (C2 (ints n C))/\d.ownBlock=B 5
 basO:OwnS 1 3 IsIV w base (fun _=>False) s (bas.map fun(x:Nat)=>(x:Int))/\s.ownBlock=B 0
 othO:OwnS 1 3 IsIV w base (fun _=>False) G (oth.map fun(x:Nat)=>(x:Int))/\G.ownBlock=B 1
 scl:B 2=some sb/\∀v,v∈bas++oth->∃P k,w.cell? ⟨sb,v,none⟩=some (.slice P (A9 (sc v)).length k)/\NumS w S (.slice P (A9 (sc v)).length k) (sc v)
def zkv:q->Option Addr
 | .slice a _ _=>a
 |_=>none
def zlr:q->Nat
 | .slice _ _ c=>c
 |_=>0
def J9 (hd:Nat->q) (e d:q) (m l:Nat):q:=if l=m then e else if l=m+1 then d else hd l
def zli (m l:Nat):Nat:=if l=m then 4 else if l=m+1 then 5 else 7+l
def zns (F:Nat->Nat->Int) (Q C:Nat->Int) (m l j:Nat):Int:=if l=m then Q j else if l=m+1 then C j else F l j
theorem ykq {m l k:Nat} (d:l<m+2) (c:k<m+2) (h:zli m l=zli m k):l=k:=by
 have key:∀l,(l=m/\zli m l=4)\/(l=m+1/\zli m l=5)\/(l≠m/\l≠m+1/\zli m l=7+l):=fun l=>by
  unfold zli;by_cases a:l=m
  ·exact .inl ⟨a,if_pos a⟩
  ·by_cases b:l=m+1
   ·exact .inr (.inl ⟨b,by rw[if_neg a,if_pos b]⟩)
   ·exact .inr (.inr ⟨a,b,by rw[if_neg a,if_neg b]⟩)
 rcases key l with a|a|a<;>rcases key k with b|b|b<;>omega
theorem zuq {m l:Nat}:zli m l=4\/zli m l=5\/7<=zli m l:=by
 unfold zli;split
 ·exact .inl rfl
 ·split
  ·exact .inr (.inl rfl)
  ·exact .inr (.inr og)
section
variable {w W : p} {base m n sb : Nat} {S : Nat → Prop} {B : Nat → Option Nat} {hd : Nat → q} {H e d s G : q} {F : Nat → Nat → Int} {Q C : Nat → Int} {sc : Nat → Nat} {bas oth : List Nat}
theorem TabE.line (h:TabE w base S B m n hd H e d s G sb F Q C sc bas oth) {l:Nat} (f:l<m+2):
 OwnS 3 30 IsR w base S (J9 hd e d m l) (C2 (ints (F9 m n l) (zns F Q C m l)))/\(J9 hd e d m l).ownBlock=B (zli m l):=by
 unfold J9 zli;by_cases b:l=m
 ·subst b;rw[if_pos rfl,if_pos rfl,M9];have a:zns F Q C l l=Q:=(by funext j;unfold zns;rw[if_pos rfl]);rw[a];exact h.tab.rests
 ·rw[if_neg b,if_neg b];by_cases c:l=m+1
  ·subst c;rw[if_pos rfl,if_pos rfl,U6];have a:zns F Q C m (m+1)=C:=(by funext j;unfold zns;rw[if_neg b,if_pos rfl]);rw[a];exact h.cost
  ·rw[if_neg c,if_neg c,J4 og];have a:zns F Q C m l=F l:=(by funext j;unfold zns;rw[if_neg b,if_neg c]);rw[a];exact h.tab.rows l og
theorem TabE.shape (h:TabE w base S B m n hd H e d s G sb F Q C sc bas oth) {l:Nat} (t:l<m+2):
 J9 hd e d m l= .slice (zkv (J9 hd e d m l)) (F9 m n l) (zlr (J9 hd e d m l))/\F9 m n l<=zlr (J9 hd e d m l)/\zlr (J9 hd e d m l)<=maxLen/\
 (1<=F9 m n l->∃b,zkv (J9 hd e d m l)=some ⟨b,0,none⟩/\B (zli m l)=some b):=by obtain⟨o,p⟩:=h.line t;obtain⟨a,c,f,i,q,g⟩:=o.head;have u:(C2 (ints (F9 m n l) (zns F Q C m l))).length=F9 m n l:=(by simp[C2,zqs]);rw[u] at f i g;rw[p] at g;refine⟨by rw[f];rfl,by rw[f];exact i,by rw[f];exact q,fun r=> ?_⟩;obtain⟨b,j,k⟩:=g r;exact⟨b,by rw[f];exact j,k⟩
def H9 (v:q):Nat:=match zkv v with
 |some a=>a.block
 |none=>0
theorem zz1404 (h:TabE w base S B m n hd H e d s G sb F Q C sc bas oth) (X:bas.length=m) (Z:oth.length=n) (bd:m+n<=1000) {A lo0 top:Nat} {z:Int} {D T P ac:Option Addr} {ae af k ao:Nat}
 (aC:Below w.heap.size w W) (hg:(lo0<=A/\A<base)\/w.heap.size<=A) (hlo:lo0<=base) (a8:base<=w.heap.size) (aO:∀b,S b->base<=b)
 (aQ:NumS w S (.slice D (A9 1).length ae) 1) (aX:NumS w S (.slice T (A9 top).length af) top) (aY:IsQ w S (.agg #[.bool (decide (z<0)),.slice P (A9 z.natAbs).length k,.slice ac (A9 1).length ao]) ((z:Int):Rat))
 (aB:Row W A 98 [s,G,H,e,d,.bool (decide (z<0)),.slice P (A9 z.natAbs).length k,.slice ac (A9 1).length ao,.slice D (A9 1).length ae,.slice (some ⟨sb,0,none⟩) (m+n) (m+n),.slice T (A9 top).length af,.int .i64 0,.int .i64 (-1),.int .i64 0]):
 ∃(t:Nat->Prop) (ab:Lay),SchG W t lo0 W.heap.size A ab m n sc top (zns F Q C m) z 1 bas oth 0 (-1) 0:=by
 obtain⟨ra,rc,aj,r1,r2,r3⟩:=h.tab.heads.1.head;have an:((List.range m).map hd).length=m:=(by simp);rw[an] at aj r1 r3;rw[h.tab.heads.2] at r3;obtain⟨ba,bc,eb,ay,b2,ad⟩:=h.basO.1.head;have aP:(bas.map fun(x:Nat)=>(x:Int)).length=m:=(by simp[X]);rw[aP] at eb ay ad;rw[h.basO.2] at ad;obtain⟨oa,oc,ai,aH,a0,ar⟩:=h.othO.1.head;have aU:(oth.map fun(x:Nat)=>(x:Int)).length=n:=(by simp[Z]);rw[aU] at ai aH ar;rw[h.othO.2] at ar;obtain⟨ab,aM⟩:=nm (⟨fun l=>H9 (J9 hd e d m l),fun l=>zlr (J9 hd e d m l),fun l=>zkv (J9 hd e d m l),H9 H,rc,ra,H9 s,bc,ba,H9 G,oc,oa,sb,m+n,some ⟨sb,0,none⟩⟩:Lay);have sep:=h.tab.sep;have aS:A<W.heap.size:=aB.lt;have a9:=aC.size;have aA:=h.scl.1;have O:∀r b,B r=some b->b≠A:=fun r b g az=>(by have:=sep.lt r b g;omega);have R:∀l,l<m+2->1<=F9 m n l->zkv (J9 hd e d m l)=some ⟨H9 (J9 hd e d m l),0,none⟩/\B (zli m l)=some (H9 (J9 hd e d m l)):=fun l p a=>(by obtain⟨_,_,_,aW⟩:=h.shape p;obtain⟨b,j,q⟩:=aW a;unfold H9;rw[j];exact⟨rfl,q⟩);have aI:1<=m->ra=some ⟨H9 H,0,none⟩/\B 3=some (H9 H):=fun a=>(by obtain⟨b,j,q⟩:=r3 a;unfold H9 zkv;rw[aj,j];exact⟨rfl,q⟩);have J:1<=m->ba=some ⟨H9 s,0,none⟩/\B 0=some (H9 s):=fun a=>(by obtain⟨b,j,q⟩:=ad a;unfold H9 zkv;rw[eb,j];exact⟨rfl,q⟩);have L:1<=n->oa=some ⟨H9 G,0,none⟩/\B 1=some (H9 G):=fun a=>(by obtain⟨b,j,q⟩:=ar a;unfold H9 zkv;rw[ai,j];exact⟨rfl,q⟩);obtain⟨t,N⟩:∃t:Nat->Prop,t=fun b=>S b\/B 3=some b\/B 2=some b:=⟨_,rfl⟩;have sS:∀b,S b->t b:=fun b f=>by rw[N];exact .inl f
 have av:∀b,t b->base<=b/\b<w.heap.size:=fun b f=>by
  rw[N] at f;rcases f with f|f|f
  ·exact⟨aO b f,sep.q b f⟩
  ·exact⟨(sep.lt _ b f).1,(sep.lt _ b f).2.1⟩
  ·exact⟨(sep.lt _ b f).1,(sep.lt _ b f).2.1⟩
 have aq:∀r b,r≠3->r≠2->B r=some b->¬t b:=fun r b U M g f=>by
  rw[N] at f;rcases f with f|f|f
  ·exact(sep.lt r b g).2.2 f
  ·exact sep.ne 3 r b (Ne.symm U) f g
  ·exact sep.ne 2 r b (Ne.symm M) f g
 have I:∀b,b<w.heap.size->W.heap[b]? =w.heap[b]? :=fun b f=>aC.block b f;have au:K6 S (SN t W.heap.size W) w W:=fun b f=>⟨.inl (sS b f),fun o=>V (I b (sep.q b f))⟩;have a5:K6 S t w W:=fun b f=>⟨sS b f,fun o=>V (I b (sep.q b f))⟩;have aG:∀l,l<m+2->1<=F9 m n l->LineW w S (H9 (J9 hd e d m l)) (zlr (J9 hd e d m l)) (F9 m n l) (zns F Q C m l):=fun l p a=>(by obtain⟨b,c,g,_,_,_,aN⟩:=(h.line p).1.line a;have j:H9 (J9 hd e d m l)=b:=(by unfold H9;rw[g];rfl);have q:zlr (J9 hd e d m l)=c:=(by rw[g];rfl);rw[j,q];exact aN);refine⟨t,ab,?_⟩;subst aM
 refine⟨⟨fun l p a=>(aG l p a).keep (I _ (aG l p a).lt) fun x aa=>⟨.inl (sS x aa),I x (sep.q x aa)⟩,fun l k p aD a M g=> ?_,fun l p a=> ?_,fun b f=>by have:=(av b f).2;omega,K _⟩,
  fun l p a=>(R l p a).1,fun l p=>⟨(h.shape p).2.1,(h.shape p).2.2.1⟩,⟨P,k,ac,ao,D,ae,T,af,?_,IsQ.stb.to aY au,IsK.stb.to aQ au,IsK.stb.to aX au⟩,fun i u=> ?_,⟨r1,r2,ay,b2,aH,a0,K _,by show m+n<=maxLen;unfold maxLen;omega⟩,
  fun a=>⟨(J a).1,?_⟩,fun a=>⟨(L a).1,?_⟩,fun v hv=> ?_,⟨by omega,aS,fun f=>by have:=av A f;omega⟩,fun a=> ?_,fun a=> ?_,fun a M=> ?_,fun l p a=> ?_,⟨X,Z⟩⟩
 ·have E:=(R l p a).2;have aT:=(R k aD M).2;exact Classical.byContradiction fun O=>sep.ne _ _ _ (fun az=>O (ykq p aD az)) E (by rw[aT];exact congrArg some g.symm)
 ·have E:=(R l p a).2;have:=sep.lt _ _ E;have aV:=zuq (m:=m) (l:=l);exact⟨by show H9 _<_;omega,aq _ _ og og E⟩
 ·show Row W A _ [.slice ba m bc,.slice oa n oc,.slice ra m rc,.slice (zkv (J9 hd e d m m)) m (zlr (J9 hd e d m m)),.slice (zkv (J9 hd e d m (m+1))) n (zlr (J9 hd e d m (m+1))),_,_,_,_,_,_,_,_,_];have j:=(h.shape (l:=m) og).1;have q:=(h.shape (l:=m+1) og).1;rw[M9] at j;rw[U6] at q;have ag:J9 hd e d m m=e:=if_pos rfl;have ah:J9 hd e d m (m+1)=d:=(by unfold J9;rw[if_neg og,if_pos rfl]);rw[<-j,<-q,ag,ah,<-eb,<-ai,<-aj];exact aB
 ·have a:1<=m:=og;have aE:=(aI a).2;refine⟨(aI a).1,by rw[N];exact .inr (.inl aE),?_⟩;show W.cell? ⟨H9 H,i,none⟩=some (.slice (zkv (J9 hd e d m i)) n (zlr (J9 hd e d m i)));have j:=(h.shape (l:=i) og).1;rw[J4 u] at j;have q:J9 hd e d m i=hd i:=(by unfold J9;rw[if_neg og,if_neg og]);have hc:(hd i).cells[0]? =some (hd i):=(by obtain⟨x,y,z,aa⟩:∃x y z,hd i= .slice x y z:=⟨_,_,_,q▸j⟩;rw[aa];rfl);rw[<-j,q,V (I _ (sep.lt _ _ aE).2.1)];obtain⟨b,c,a6,a7,ag,_,a1,_,_,a2,a3,a4,_,_⟩:=h.tab.heads.1.shape (fun g=>by rw[g] at an;simp at an;omega);have ah:H9 H=b:=(by unfold H9;rw[ag];rfl);rw[ah];have hr:((List.range m).map hd)[i]? =some (hd i):=(by rw[Y,List.getElem?_range u];rfl);obtain⟨g,aR,al⟩:=a4.get hr;have al:g=_:=al;subst al;have:=znp a1 a2 (zmi a3 (i:=0) aR hc);rwa[Nat.mul_one,Nat.add_zero] at this
 ·obtain⟨b,c,g,u⟩:=h.basO.1.intW (by rw[X];exact a);have j:H9 s=b:=(by unfold H9;rw[g];rfl);rw[X] at u;show IntW W (H9 s) m _;rw[j];exact u.keep (I _ u.lt)
 ·obtain⟨b,c,g,u⟩:=h.othO.1.intW (by rw[Z];exact a);have j:H9 G=b:=(by unfold H9;rw[g];rfl);rw[Z] at u;show IntW W (H9 G) n _;rw[j];exact u.keep (I _ u.lt)
 ·obtain⟨aJ,aZ,aK,aL⟩:=h.scl.2 v hv;refine⟨rfl,by rw[N];exact .inr (.inr aA),aJ,aZ,?_,IsK.stb.to aL a5⟩;rw[<-aK];exact V (I _ (sep.lt _ _ aA).2.1)
 ·have U:=sep.lt _ _ (J a).2;exact⟨by show lo0<=H9 s;omega,by show H9 s<_;omega,aq 0 _ og og (J a).2,O 0 _ (J a).2⟩
 ·have U:=sep.lt _ _ (L a).2;exact⟨by show lo0<=H9 G;omega,by show H9 G<_;omega,aq 1 _ og og (L a).2,O 1 _ (L a).2⟩
 ·exact fun g=>sep.ne 0 1 _ og (J a).2 (by rw[(L M).2];exact congrArg some (show H9 G=H9 s from g.symm))
 ·have E:=(R l p a).2;have U:=sep.lt _ _ E;have aV:=zuq (m:=m) (l:=l);exact⟨by show lo0<=H9 _;omega,O _ _ E,fun ak g=>sep.ne _ 0 _ og E (by rw[(J ak).2];exact congrArg some (show H9 s=H9 _ from g.symm)),fun ak g=>sep.ne _ 1 _ og E (by rw[(L ak).2];exact congrArg some (show H9 G=H9 _ from g.symm))⟩
end
section
variable {P : U} {ops : Array D} {Q : Exit → Act → p → Prop} {Φ : Nat → q → p → (Nat → Option q) → Prop} {ac : Nat → p → Prop} {J : p → (Nat → Option q) → Prop} {E : Nat → p → q → p → Prop} {ad : Act} {ae : p} {n : Nat}
end
theorem zz1474 {P:U} {w:p} {ops:Array D} {rest:List D} {o:D} {a:Act} {Q:Exit->Act->p->Prop} {d c:O} {n bytes:Nat} (E:ElN P d c n bytes) (M:o.guard=none) (s x:Operand) (T:o.op= .call {callee:= .builtin .append,args:= #[s,x],argTypes:= #[d,d]})
 {I:Type} {R:p->(Nat->Prop)->q->I->Prop} (G:Stb R) {base h:Nat} {S:Nat->Prop} {v ev:q} {l:List I} {y:I} {ac:O}
 (W:a.eval s=v) (Z:a.eval x= .slice (some ⟨h,0,none⟩) 1 1) (hr:Row w h ac ev.cells.toList) (V:OwnS n c R w base S v l) (L:R w S ev y) (g:ev.cells.size=n)
 (r:∀u∈ev.cells,u.oneCell'=true) (H:(l.length+1)*(bytes+1)<=140737488355328) (J:base<=w.heap.size)
 (F:∀b w',OwnS n c R w' base S b (l++[y])->w.grownBy w' v.ownBlock->(b.ownBlock=v.ownBlock\/b.ownBlock=some w.heap.size)->wpList P ops Q rest (a.put o.dst b) w'):wpList P ops Q (o::rest) a w:=by
 obtain⟨i,z,N,aa,X,K,ab⟩:=E.info
 obtain⟨k,t,A,B,C⟩:=V
 rw[Nat.mul_add,Nat.mul_one] at H
 exact wpList_append_own_at _ M s x d T base c i z n bytes E.und N aa X K ab E.pos v l.length (cellsOf k) W t ⟨h,0,none⟩ 1 1 ev.cells.toList Z (by simp[g])
  (fun j u Y=>by rw[Addr.add_lit,Nat.zero_add,hr.cell j];exact Y) (by simpa using r) (by unfold maxLen;omega) og J fun b w' m e _ f=>F b w' (OwnS.app G A B C L g m e f) e f
def twX (w:p) (x:Option q):Prop:=∀u,x=some u->∀b,u.ownBlock=some b->b<w.heap.size
theorem twX.grown {w w':p} {x:Option q} {r:Option Nat} (h:twX w x) (c:w.grownBy w' r):twX w' x:=fun u a b d=>Z (h u a b d) c.size
theorem twX.none (w:p):twX w none:=fun u a=>by cases a
section
variable {I : Type} {n : Nat} {T : O} {R : p → (Nat → Prop) → q → I → Prop} {w w' : p} {base n0 : Nat} {S : Nat → Prop} {z L v u : q} {l : List I} {x : Option q} {r : Option Nat}
def AppK (n:Nat) (T:O) (R:p->(Nat->Prop)->q->I->Prop) (w:p) (base n0:Nat) (S:Nat->Prop) (z v:q) (l:List I) (x:Option q):Prop:=
 OwnS n T R w base S v l/\x=some v/\(v.ownBlock=z.ownBlock\/∃b,v.ownBlock=some b/\n0<=b)
def App2 (n:Nat) (T:O) (R:p->(Nat->Prop)->q->I->Prop) (w:p) (base n0:Nat) (S:Nat->Prop) (L v:q) (l:List I) (x:Option q):Prop:=
 OwnS n T R w base S v l/\(v.ownBlock=L.ownBlock\/∃b,v.ownBlock=some b/\n0<=b/\b<w.heap.size/\∀u,x=some u->u.ownBlock≠some b)
theorem ynr {b:Nat} (h:v.ownBlock=z.ownBlock\/∃b,v.ownBlock=some b/\n0<=b) (e:b<n0) (d:z.ownBlock≠some b):v.ownBlock≠some b:=by
 rcases h with h|⟨c,h,hc⟩
 ·rw[h];exact d
 ·rw[h];intro a;cases a;omega
theorem AppK.grown (d:Stb R) (h:AppK n T R w base n0 S z v l x) (c:w.grownBy w' r) (hr:∀b,r=some b->b<n0/\z.ownBlock≠some b/\¬S b):AppK n T R w' base n0 S z v l x:=
 ⟨h.1.grown d c fun b a=>⟨ynr h.2.2 (hr b a).1 (hr b a).2.1,(hr b a).2.2⟩,h.2⟩
theorem App2.grown (j:Stb R) (h:App2 n T R w base n0 S L v l x) (i:w.grownBy w' r) (hr:∀b,r=some b->b<n0/\L.ownBlock≠some b/\¬S b):App2 n T R w' base n0 S L v l x:=
 ⟨h.1.grown j i fun b e=>⟨ynr (n0:=n0) (h.2.imp id fun⟨c,a,d,_⟩=>⟨c,a,d⟩) (hr b e).1 (hr b e).2.1,(hr b e).2.2⟩,h.2.imp id fun⟨c,a,d,f,g⟩=>⟨c,a,d,Z f i.size,g⟩⟩
end
section
variable {P : U} {o : D} {a : Act} {w : p} {Φ : Nat → q → p → (Nat → Option q) → Prop} {blk : Nat → Option Nat} {h : p → Prop} {Q : Exit → Act → p → Prop} {i k : Nat} {X : Nat → Option q}
end
section
variable {P : U} {ops : Array D} {Q : Exit → Act → p → Prop} {md : Region.Mode} {tl : List Nat} {S C : p → Prop}
def Early (tl:List Nat) (listed:Array Bool):Prop:=∀a∈tl,listed.getD a false=false
theorem Early.less {listed:Array Bool} {i:Nat} (h:Early tl (listed.setIfInBounds i true)):Early tl listed:=fun b c=>by
 have a:=h b c
 cases e:listed.getD b false with
 |false=>rfl
 |true=>rw[getD_set_true e] at a;cases a
theorem Early.more {listed:Array Bool} {i:Nat} (h:Early tl listed) (c:i∉tl):Early tl (listed.setIfInBounds i true):=fun d a=>by
 rw[_root_.Go.getD_set_ne false (fun b=>c (by rw[b];exact a))]
 exact h d a
def zmg (P:U) (md:Region.Mode) (ops:Array D) (Q:Exit->Act->p->Prop) (tl:List Nat) (S C:p->Prop):Nat->Array Bool->Act->p->Prop
 |0,listed,a,w=>Region.ready md ops listed=[]/\Q .normal a w
 |t+1,listed,a,w=>
  (Region.ready md ops listed=[]->Q .normal a w)/\
  ∀i∈Region.ready md ops listed,wpOp P ops Q i (fun b w'=>(S w'/\(Early tl (listed.setIfInBounds i true)->C w'))/\zmg P md ops Q tl S C t (listed.setIfInBounds i true) b w') a w
theorem yod:∀(t:Nat) (listed:Array Bool) (a:Act) (w:p),zmg P md ops Q tl S C t listed a w->wpAny P md ops Q t listed a w
 |0,_,_,_,h=>h
 |t+1,_,_,_,h=>⟨h.1,fun i d=>wpOp_mono (fun b w' c=>yod t _ b w' c.2) (h.2 i d)⟩
theorem zz1369 {i:Nat} {listed:Array Bool} {e:D} (hr:i∈Region.ready md ops listed) (f:∀a∈e.after,Region.binds md a=true->listed.getD a.on false=true):∀a∈e.after,Region.binds md a=true->a.on≠i:=fun a h g heq=>by
 have b:=f a h g
 have d:=(mem_ready.1 hr).1
 rw[heq] at b
 rcases Nat.lt_or_ge i listed.size with c|c
 ·simp[c] at d b;rw[d] at b;cases b
 ·simp[Array.getElem?_eq_none c] at b
theorem yoc {T:p->Prop} {i:Nat} {g:D} {v:q} (F:ops[i]? =some g) (M:∀(j:Nat) (o:D) n b,ops[j]? =some o->o.op≠.select n b)
 (ad:∀c a w,Q (.panic c) (a.put g.dst v) w->Q (.panic c) a w) (ak:i∉tl)
 (ae:∀(x:Array Bool) (w:p) (j:Nat) (d:D),ops[j]? =some d->(∀f∈d.after,Region.binds md f=true->f.on≠i)->(Early tl x\/∀w,S w->T w)->S w->(Early tl (x.setIfInBounds j true)->C w)->T w/\(Early tl (x.setIfInBounds j true)\/∀w,S w->T w)):
 ∀(t:Nat) (listed:Array Bool) (a:Act) (w:p),
  (∀j d,ops[j]? =some d->j≠i->listed.getD j true=false->(∀f∈d.after,Region.binds md f=true->f.on≠i)->g.apart ops d=true)->
  i∈Region.ready md ops listed->YieldsIf P ops T g v a->T w->S w->(Early tl listed->C w)->(Early tl listed\/∀w,S w->T w)->
  zmg P md ops Q tl S C t (listed.setIfInBounds i true) (a.put g.dst v) w->zmg P md ops Q tl S C (t+1) listed a w:=by
 intro t;induction t with
 |zero=>
  intro listed a w _ hr u E B z G m;refine⟨fun h=>(by rw[h] at hr;cases hr),fun j r=> ?_⟩;by_cases e:j=i
  ·subst e;exact u.wpOp F E ⟨⟨B,fun h=>z h.less⟩,m⟩
  ·have:=ready_mono r e;rw[m.1] at this;cases this
 |succ t ih=>
  intro listed a w H hr u E B z G m;refine⟨fun h=>(by rw[h] at hr;cases hr),fun j r=> ?_⟩;by_cases e:j=i
  ·subst e;exact u.wpOp F E ⟨⟨B,fun h=>z h.less⟩,m⟩
  ·have X:=m.2 j (ready_mono r e);obtain⟨J,d,s,af⟩:=mem_ready.1 r;have L:=zz1369 hr af;have ac:=wpOp_putIf s (H j d s e J L) (fun n b=>M i g n b F) (fun n b=>M j d n b s) ad u X
   have ag:∀k ok,ops[k]? =some ok->k≠i->(listed.setIfInBounds j true).getD k true=false->
    (∀f∈ok.after,Region.binds md f=true->f.on≠i)->g.apart ops ok=true:=fun k ok ah ai R aj=>by
    refine H k ok ah ai ?_ aj
    by_cases I:j=k
    ·subst I;exact J
    ·rw[_root_.Go.getD_set_ne true I] at R;exact R
   refine wpOp_mono (fun W w' l=> ?_) ac;have A:Early tl (listed.setIfInBounds j true)->C w':=fun h=>l.2.1.2 (by rw[Array.setIfInBounds_comm _ _ (Ne.symm e)];exact h.more ak);have N:=ae listed w' j d s L G l.2.1.1 A;refine⟨⟨l.2.1.1,A⟩,ih (listed.setIfInBounds j true) W w' ag (ready_mono hr (Ne.symm e)) l.1 N.1 l.2.1.1 A N.2 ?_⟩;rw[Array.setIfInBounds_comm _ _ e];exact l.2.2
def Region.waits (md:Region.Mode) (ops:Array D) (tl:List Nat) (i:Nat):Bool:=tl.all fun b=>((ops[b]?).map fun o=>o.after.any fun a=>Region.binds md a&&a.on==i).getD false
def Region.none (tl:List Nat) (listed:Array Bool):Bool:=tl.all fun a=> !listed.getD a false
theorem yxw {listed:Array Bool} (h:Region.none tl listed=true):Early tl listed:=fun b a=>by
 have:=List.all_eq_true.1 h b a
 simpa using this
theorem zz1433 {i:Nat} {g:D} {v:q} {t:Nat} {listed:Array Bool} {a:Act} {w:p} (dst:Option Tmp) (m:ops[i]? =some g) (hd:g.dst=dst) (z:Region.noSelect ops=true) (hf:Region.free md ops listed i=true)
 (hr:(Region.ready md ops listed).contains i=true) (E:Region.wanted g (yielded ops a.tmps)=true) (n:∀c a w,Q (.panic c) (a.put dst v) w->Q (.panic c) a w)
 (B:tl.contains i=false) (F:Region.waits md ops tl i=true) (u:Region.none tl listed=true)
 (G:∀w,S w->C w->(execOp a.eval g).run P w= .ok (.value v) w) (d:S w) (e:C w)
 (h:zmg P md ops Q tl S C t (listed.setIfInBounds i true) (a.put dst v) w):zmg P md ops Q tl S C (t+1) listed a w:=by
 subst hd;have A:i∉tl:=(by simpa using B);refine yoc (T:=fun w=>S w/\C w) m (Region.noSelect_spec z) n A (fun H w j I y x b d e=> ?_) t listed a w (Region.free_spec m hf) (by simpa using hr) (.inl ⟨E,fun w h=>G w h.1 h.2⟩) ⟨d,e⟩ d (fun _=>e) (.inl (yxw u)) h;have l:j∉tl:=fun l=>(by have f:=List.all_eq_true.1 F j l;rw[y] at f;simp only[Option.map_some,Option.getD_some,Array.any_eq_true,Bool.and_eq_true,beq_iff_eq] at f;obtain⟨k,s,o,r⟩:=f;exact x _ (Array.getElem_mem s) o r);rcases b with b|b
 ·have:=b.more l;exact⟨⟨d,e this⟩,.inl this⟩
 ·exact⟨b w d,.inr b⟩
theorem zz1434 {i:Nat} {g:D} {v:q} {t:Nat} {listed:Array Bool} {a:Act} {w:p} (dst:Option Tmp) (e:ops[i]? =some g) (hd:g.dst=dst) (k:Region.noSelect ops=true) (hf:Region.free md ops listed i=true)
 (hr:(Region.ready md ops listed).contains i=true) (o:Region.wanted g (yielded ops a.tmps)=true) (f:∀c a w,Q (.panic c) (a.put dst v) w->Q (.panic c) a w)
 (n:tl.contains i=false) (r:∀w,S w->(execOp a.eval g).run P w= .ok (.value v) w) (b:S w) (d:Region.none tl listed=true->C w)
 (h:zmg P md ops Q tl S C t (listed.setIfInBounds i true) (a.put dst v) w):zmg P md ops Q tl S C (t+1) listed a w:=by subst hd;have m:i∉tl:=(by simpa using n);refine yoc (T:=S) e (Region.noSelect_spec k) f m (fun u w j A z y x b d=>⟨b,.inr fun _ h=>h⟩) t listed a w (Region.free_spec e hf) (by simpa using hr) (.inl ⟨o,r⟩) b b (fun h=>d ?_) (.inr fun _ h=>h) h;exact List.all_eq_true.2 fun s l=>by rw[h s l];rfl
theorem zpd {i:Nat} {g:D} {t:Nat} {listed:Array Bool} {a:Act} {w:p} (hr:Region.ready md ops listed=[i]) (m:ops[i]? =some g) (n:Region.wanted g (yielded ops a.tmps)=true)
 (h:∀b:Act->p->Prop,Shut (∀a w,S w->C w->(S w->C w->zmg P md ops Q tl S C t (listed.setIfInBounds i true) a w)->b a w)->Oper.wp P g a w b Q):zmg P md ops Q tl S C (t+1) listed a w:=by refine⟨fun c=>(by rw[hr] at c;cases c),fun j f=> ?_⟩;rw[hr,List.mem_singleton] at f;subst f;refine wpOp_step m fun b k=> ?_;rw[if_pos n];exact h b fun a w e d l=>k a w ⟨⟨e,fun _=>d⟩,l e d⟩
theorem ztf {i:Nat} {g:D} {t:Nat} {listed:Array Bool} {a:Act} {w:p} (hr:Region.ready md ops listed=[i]) (f:ops[i]? =some g) (r:Region.wanted g (yielded ops a.tmps)=true) (q:tl.contains i=true) (o:listed.size=ops.size)
 (h:∀b:Act->p->Prop,Shut (∀a w,S w->(S w->zmg P md ops Q tl S C t (listed.setIfInBounds i true) a w)->b a w)->Oper.wp P g a w b Q):zmg P md ops Q tl S C (t+1) listed a w:=by refine⟨fun d=>(by rw[hr] at d;cases d),fun j c=> ?_⟩;rw[hr,List.mem_singleton] at c;subst c;refine wpOp_step f fun b l=> ?_;rw[if_pos r];refine h b fun a w e m=>l a w ⟨⟨e,fun n=> ?_⟩,m e⟩;have k:=n j (by simpa using q);have c:j<listed.size:=(by rw[o];exact(Array.getElem?_eq_some_iff.1 f).1);simp[c] at k
theorem zrj {listed:Array Bool} {a:Act} {w:p} (hr:Region.ready md ops listed=[]) (h:Q .normal a w):∀t,zmg P md ops Q tl S C t listed a w
 |0=>⟨hr,h⟩
 |_+1=>⟨fun _=>h,by rw[hr];simp⟩
theorem zsa (tl:List Nat) (S C:p->Prop) {id:Nat} {a:Act} {w:p} (d:P.follows .mixedOrders=true) (c:S w.drew) (b:C w.drew)
 (h:S w.drew->C w.drew->zmg P .any ops Q tl S C ops.size (Array.replicate ops.size false) a w.drew):(Code.region id ops true).wp P Q a w:=
 wp_region_any d (yod _ _ _ _ (h c b))
section
variable {g : D} {v : q} {t : Nat} {listed : Array Bool} {a : Act} {w : p}
theorem pA (i:Nat) (s:Tmp) {q:Prop} (k:q) (l:ops[i]? =some g:=by rfl) (hd:g.dst=some s:=by rfl) (o:Region.noSelect ops=true:=by kernel_rfl) (hf:Region.free md ops listed i=true:=by kernel_rfl)
 (hr:(Region.ready md ops listed).contains i=true:=by kernel_rfl) (r:Region.wanted g (yielded ops a.tmps)=true:=by rfl) (e:∀c a w,Q (.panic c) (a.put (some s) v) w->Q (.panic c) a w:=by exact fun _ _ _ h=>h)
 (p:tl.contains i=false:=by kernel_rfl) (u:Region.waits md ops tl i=true:=by kernel_rfl) (n:Region.none tl listed=true:=by kernel_rfl)
 (x:∀w,S w->C w->(execOp a.eval g).run P w= .ok (.value v) w:=by(intro w j d;(try dsimp only at j d);go_simp;(try(with_reducible rfl)))) (f:S w:=by assumption) (b:C w:=by assumption)
 (h:q->zmg P md ops Q tl S C t (listed.setIfInBounds i true) (a.put (some s) v) w:=by(intro m;simp only[Act.put,_root_.List.setIfInBounds_toArray,_root_.List.set_cons_zero,_root_.List.set_cons_succ];exact m)):zmg P md ops Q tl S C (t+1) listed a w:=zz1433 (some s) l hd o hf hr r e p u n x f b (h k)
theorem pB (i:Nat) (s:Tmp) {q:Prop} (k:q) (j:ops[i]? =some g:=by rfl) (hd:g.dst=some s:=by rfl) (m:Region.noSelect ops=true:=by kernel_rfl) (hf:Region.free md ops listed i=true:=by kernel_rfl)
 (hr:(Region.ready md ops listed).contains i=true:=by kernel_rfl) (o:Region.wanted g (yielded ops a.tmps)=true:=by rfl) (d:∀c a w,Q (.panic c) (a.put (some s) v) w->Q (.panic c) a w:=by exact fun _ _ _ h=>h)
 (n:tl.contains i=false:=by kernel_rfl)
 (p:∀w,S w->(execOp a.eval g).run P w= .ok (.value v) w:=by(intro w f;(try dsimp only at f);go_simp;(try(with_reducible rfl)))) (e:S w:=by assumption) (b:Region.none tl listed=true->C w:=by first|exact fun _=>by assumption|exact fun h=>absurd h (by decide))
 (h:q->zmg P md ops Q tl S C t (listed.setIfInBounds i true) (a.put (some s) v) w:=by(intro l;simp only[Act.put,_root_.List.setIfInBounds_toArray,_root_.List.set_cons_zero,_root_.List.set_cons_succ];exact l)):zmg P md ops Q tl S C (t+1) listed a w:=zz1434 (some s) j hd m hf hr o d n p e b (h k)
end
end
def G9 (n:Nat) (f:Nat->Rat):List Rat:=(List.range n).map f
theorem T4 (n:Nat) (f:Nat->Rat):(G9 n f).length=n:=by unfold G9;simp
theorem znz {n:Nat} (h:j<n):(G9 n f)[j]? =some (f j):=by unfold G9;rw[Y,List.getElem?_range h];rfl
theorem zxa {n:Nat} (h:j<n):(G9 n f).getD j 0=f j:=by rw[y,znz h];rfl
theorem zpi {n:Nat} {q:Rat} (h:q∈G9 n f):∃j,j<n/\q=f j:=by unfold G9 at h;obtain⟨j,b,a⟩:=List.mem_map.1 h;exact⟨j,List.mem_range.1 b,a.symm⟩
def zqd (A:List (List Rat)) (a:List Rat) (k:Nat):Rat:=C4 A.length fun i=>(A.getD i []).getD k 0*a.getD i 0
structure Feas (A:List (List Rat)) (b:List Rat) (n:Nat) (X:List Rat):Prop where
 len:X.length=n
 nn:∀x∈X,0<=x
 le:∀i r,A[i]? =some r->K7 r X<=b.getD i 0
structure Mult (A:List (List Rat)) (b:List Rat) (n:Nat) (f:Nat->Rat) (Y:List Rat):Prop where
 len:Y.length=b.length
 nn:∀y∈Y,0<=y
 ge:∀k,k<n->f k<=zqd A Y k
structure RayQ (A:List (List Rat)) (n:Nat) (Z:List Rat):Prop where
 len:Z.length=n
 nn:∀x∈Z,0<=x
 le:∀r∈A,K7 r Z<=0
structure CertOpt (A:List (List Rat)) (b c X Y:List Rat) (V:Rat):Prop where
 x:Feas A b c.length X
 y:Mult A b c.length (fun k=>c.getD k 0) Y
 vx:K7 c X=V
 vy:K7 b Y=V
structure CertNone (A:List (List Rat)) (b c Y:List Rat):Prop where
 y:Mult A b c.length (fun _=>0) Y
 vy:K7 b Y<0
structure CertRay (A:List (List Rat)) (b c X Z:List Rat):Prop where
 x:Feas A b c.length X
 z:RayQ A c.length Z
 up:0<K7 c Z
section
variable {A : List (List Rat)} {b c : List Rat} {m n : Nat} {S : Dic}
abbrev aF (A:List (List Rat)) (i j:Nat):Rat:=(A.getD i []).getD j 0
abbrev lF (b:List Rat) (i:Nat):Rat:=b.getD i 0
theorem zvn {r:List Rat} {n:Nat} (hr:r.length=n) (f:Nat->Rat):K7 r (G9 n f)=C4 n fun j=>r.getD j 0*f j:=by rw[zrk r _ (by rw[T4,hr]),hr];exact R4 fun j a=>by rw[zxa a]
theorem yhr {A:List (List Rat)} {i:Nat} {r:List Rat} (h:A[i]? =some r):A.getD i []=r:=by rw[y,h];rfl
theorem yha (e:A.length=m) (h:∀r∈A,r.length=n) (c:∀v,0<=f v) (d:∀i,i<m->C4 n (fun j=>aF A i j*f j)<=lF b i):Feas A b n (G9 n f) where
 len:=T4 n f
 nn x hx:=by obtain⟨j,_,rfl⟩:=zpi hx;exact c j
 le i r hr:=by have g:i<m:=(by rw[<-e];exact(List.getElem?_eq_some_iff.1 hr).1);have:=d i g;rw[zvn (h r (ab hr))];have a:aF A i=fun j=>r.getD j 0:=(by funext j;unfold aF;rw[yhr hr]);rw[show(fun j=>r.getD j 0*f j)=fun j=>aF A i j*f j by rw[a]];exact this
theorem zz1367 (g:A.length=m) (e:∀r∈A,r.length=n) (b:∀v,0<=f v) (c:∀i,i<m->C4 n (fun j=>aF A i j*f j)<=0):RayQ A n (G9 n f) where
 len:=T4 n f
 nn x hx:=by obtain⟨j,_,rfl⟩:=zpi hx;exact b j
 le r hr:=by obtain⟨i,d,rfl⟩:=List.getElem_of_mem hr;have:=c i og;rw[zvn (e _ hr)];have a:aF A i=fun j=>(A[i]).getD j 0:=(by funext j;unfold aF;rw[yhr (aa d)]);rw[show(fun j=>(A[i]).getD j 0*f j)=fun j=>aF A i j*f j by rw[a]];exact this
theorem yjm (e:A.length=m) (f:b.length=m) {a y:Nat->Rat} (c:∀v,0<=y v) (d:∀k,k<n->a k<=C4 m fun i=>aF A i k*y (n+i)):Mult A b n a (G9 m fun i=>y (n+i)) where
 len:=by rw[T4,f]
 nn x hx:=by obtain⟨j,_,rfl⟩:=zpi hx;exact c _
 ge k hk:=by have:=d k hk;unfold zqd;rw[e];rw[show C4 m (fun i=>(A.getD i []).getD k 0*(G9 m fun i=>y (n+i)).getD i 0)=C4 m fun i=>aF A i k*y (n+i) from R4 fun i g=>by rw[zxa g]];exact this
def ztg (m n:Nat) (S:Dic):List Rat:=G9 n (zka m n S (fun _=>0) 1)
def zwd (m n:Nat) (S:Dic):List Rat:=G9 m fun i=>Z7 n S.oth (S.D m) (n+i)
def zwc (m n:Nat) (S:Dic) (r:Nat):List Rat:=G9 m fun i=>Z7 n S.oth (S.D r) (n+i)+if S.bas r=n+i then 1 else 0
def zwk (m n:Nat) (S:Dic) (k:Nat):List Rat:=G9 n (zka m n S (fun j=>if j=k then 1 else 0) 0)
theorem zxx {b:List Rat} (a:b.length=m) (f:Nat->Rat):K7 b (G9 m f)=C4 m fun i=>lF b i*f i:=zvn a f
theorem yqo (a:A.length=m) (e:b.length=m) (hc:c.length=n) (q:∀r∈A,r.length=n) (o:Dist m n S) (d:Eqv m n (M0 m n (aF A) (lF b) (lF c)) S) (p:∀j,j<n->S.oth j<n+m)
 (k:∀i,i<m->0<=S.D i n) (l:∀j,j<n->0<=S.D m j):CertOpt A b c (ztg m n S) (zwd m n S) (S.D m n):=by obtain⟨s,t,u⟩:=yfi o d k;obtain⟨f,g,h⟩:=yqq d p l;subst hc;exact⟨yha a q s t,yjm a e h g,by rw[ztg,zxx rfl];exact u,by rw[zwd,zxx e];exact f⟩
theorem yqn (i:A.length=m) (a:b.length=m) (hc:c.length=n) (k:Eqv m n (M0 m n (aF A) (lF b) (lF c)) S) (o:∀j,j<n->S.oth j<n+m) {r:Nat} (hr:r<m) (l:S.bas r<n+m)
 (g:S.D r n<0) (h:∀j,j<n->0<=S.D r j):CertNone A b c (zwc m n S r):=by obtain⟨d,e,f⟩:=yqr k o hr l h;subst hc;exact⟨yjm (y:=fun v=>Z7 c.length S.oth (S.D r) v+if S.bas r=v then 1 else 0) i a f e,by rw[zwc,zxx a,d];exact g⟩
theorem yqp (a:A.length=m) (t:b.length=m) (hc:c.length=n) (f:∀r∈A,r.length=n) (e:Dist m n S) (d:Eqv m n (M0 m n (aF A) (lF b) (lF c)) S) {k:Nat} (l:k<n)
 (g:∀i,i<m->0<=S.D i n) (h:S.D m k<0) (j:∀i,i<m->S.D i k<=0):CertRay A b c (ztg m n S) (zwk m n S k):=by obtain⟨o,p,_⟩:=yfi e d g;obtain⟨q,s,q3⟩:=yqs e d l h j;subst hc;exact⟨yha a f o p,zz1367 a f q s,by rw[zwk,zxx rfl];exact q3⟩
end
end Go.Proofs.YtlhhbccgfkhflaaGreatDoor
