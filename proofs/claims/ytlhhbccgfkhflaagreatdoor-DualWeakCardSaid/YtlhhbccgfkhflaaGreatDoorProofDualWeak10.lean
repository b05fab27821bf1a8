/-
 The numbers that package simplex lays out are the certificates' numbers.
-/
import Derived.Test.YtlhhbccgfkhflaaGreatDoorProofDualWeak09
namespace Go.Proofs.YtlhhbccgfkhflaaGreatDoor
set_option linter.unusedVariables false
open Go.RowKit
set_option maxRecDepth 100000
set_option maxHeartbeats 8000000
open _root_.Nat renaming le_refl → E, le_trans → D, lt_of_lt_of_le → J, zero_le → O
open _root_.List renaming getD_eq_getElem?_getD → z, getElem?_eq_getElem → F, mem_of_getElem? → G, length_map → H, getElem?_map → I
open _root_.Go renaming World → s, Value → e
variable {K b base c g i j u : Nat} {L : Nat → Prop} {l : List Rat} {r d x : Option Nat} {va y : e} {A : s} {xs : List e}
theorem zux {z:Int} {d v:Nat}:J4 z u d v=(z:Rat)*((d:Int):Rat)⁻¹*((u:Nat):Rat)*((v:Nat):Rat)⁻¹:=by unfold J4;have h:(((d:Nat):Rat)*((v:Nat):Rat))⁻¹=((v:Nat):Rat)⁻¹*((d:Nat):Rat)⁻¹:=Rat.inv_mul_rev _ _;have a:((d:Int):Rat)=((d:Nat):Rat):=rfl;rw[Rat.div_def,h,a];grind
section
variable {sc : Nat → Nat} {top m n : Nat} {t : TB}
theorem yro (a:i<m):(K7 sc top m n t).D i n=J4 (t.A i n) 1 t.d (sc (t.bas.getD i 0)):=by rw[zux];show(if i<=m/\n<=n then _ else _)=_;rw[if_pos ⟨by omega,E _⟩];unfold uc ur;rw[if_neg (Nat.lt_irrefl _),if_pos a];rfl
theorem yrn (a:j<n):(K7 sc top m n t).D m j=J4 (t.A m j) (sc (t.oth.getD j 0)) t.d top:=by rw[zux];show(if m<=m/\j<=n then _ else _)=_;rw[if_pos ⟨E _,by omega⟩];unfold uc ur;rw[if_pos a,if_neg (Nat.lt_irrefl _)]
theorem ygm (a:i<m) (b:j<n):(K7 sc top m n t).D i j=J4 (t.A i j) (sc (t.oth.getD j 0)) t.d (sc (t.bas.getD i 0)):=by rw[zux];show(if i<=m/\j<=n then _ else _)=_;rw[if_pos ⟨by omega,by omega⟩];unfold uc ur;rw[if_pos b,if_pos a]
theorem yrp:(K7 sc top m n t).D m n=J4 (t.A m n) 1 t.d top:=by rw[zux];show(if m<=m/\n<=n then _ else _)=_;rw[if_pos ⟨E _,E _⟩];unfold uc ur;rw[if_neg (Nat.lt_irrefl _),if_neg (Nat.lt_irrefl _)];rfl
theorem yxv {z:Int} {d v:Nat}:J4 (-z) u d v= -J4 z u d v:=by rw[zux,zux,Rat.intCast_neg];grind
theorem ykv:K1 n 0 (fun _=>0) (fun i=>t.bas.getD i 0) (fun i=>J4 (t.A i n) 1 t.d (sc (t.bas.getD i 0))) m=ztz m n (K7 sc top m n t):=by
 unfold K1 ztz T8;refine List.map_congr_left fun v hv=> ?_;unfold Z9;have b:C6 n (fun j=>if(K7 sc top m n t).oth j=v then(0:Rat) else 0)=0:=zlk fun j d=>(by split<;>rfl);rw[b,Nat.zero_add,M8 (f:=fun i=>if t.bas.getD i 0=v then J4 (t.A i n) 1 t.d (sc (t.bas.getD i 0)) else 0) (g:=fun i=>if(K7 sc top m n t).bas i=v then(K7 sc top m n t).D i n*1-C6 n (fun j=>(K7 sc top m n t).D i j*0) else 0) fun i c=> ?_]
 ·grind
 ·have a:C6 n (fun j=>(K7 sc top m n t).D i j*0)=0:=zlk fun j d=>Rat.mul_zero _;rw[a,yro c];show(if t.bas.getD i 0=v then _ else _)=(if t.bas.getD i 0=v then _ else _);split
  ·grind
  ·rfl
theorem yzv:K1 m n (fun _=>0) (fun j=>t.oth.getD j 0) (fun j=>J4 (t.A m j) (sc (t.oth.getD j 0)) t.d top) n=zwp m n (K7 sc top m n t):=by unfold K1 zwp T8 Z7;refine List.map_congr_left fun v hv=> ?_;rw[M8 (f:=fun j=>if t.oth.getD j 0=n+v then J4 (t.A m j) (sc (t.oth.getD j 0)) t.d top else 0) (g:=fun j=>if(K7 sc top m n t).oth j=n+v then(K7 sc top m n t).D m j else 0) fun j a=>by rw[yrn a];rfl];grind
theorem yzy {r:Nat} (hr:r<m):K1 m n (fun v=>if t.bas.getD r 0=n+v then 1 else 0) (fun j=>t.oth.getD j 0) (fun j=>J4 (t.A r j) (sc (t.oth.getD j 0)) t.d (sc (t.bas.getD r 0))) n=zwo m n (K7 sc top m n t) r:=by unfold K1 zwo T8 Z7;refine List.map_congr_left fun v hv=> ?_;rw[M8 (f:=fun j=>if t.oth.getD j 0=n+v then J4 (t.A r j) (sc (t.oth.getD j 0)) t.d (sc (t.bas.getD r 0)) else 0) (g:=fun j=>if(K7 sc top m n t).oth j=n+v then(K7 sc top m n t).D r j else 0) fun j a=>by rw[ygm hr a];rfl];show(if t.bas.getD r 0=n+v then(1:Rat) else 0)+_=_+(if t.bas.getD r 0=n+v then(1:Rat) else 0);exact Rat.add_comm _ _
theorem zz1366 (hc:c<n):K1 n 0 (fun v=>if t.oth.getD c 0=0+v then 1 else 0) (fun i=>t.bas.getD i 0) (fun i=>J4 (-(t.A i c)) (sc (t.oth.getD c 0)) t.d (sc (t.bas.getD i 0))) m=zwt m n (K7 sc top m n t) c:=by
 unfold K1 zwt T8;refine List.map_congr_left fun v hv=> ?_;unfold Z9;have d:C6 n (fun j=>if(K7 sc top m n t).oth j=v then(if j=c then(1:Rat) else 0) else 0)=if t.oth.getD c 0=v then 1 else 0:=(by rw[zmz hc fun j f a=>by rw[if_neg a];split<;>rfl,if_pos rfl];rfl);rw[d,Nat.zero_add,M8 (f:=fun i=>if t.bas.getD i 0=v then J4 (-(t.A i c)) (sc (t.oth.getD c 0)) t.d (sc (t.bas.getD i 0)) else 0) (g:=fun i=>if(K7 sc top m n t).bas i=v then(K7 sc top m n t).D i n*0-C6 n (fun j=>(K7 sc top m n t).D i j*(if j=c then 1 else 0)) else 0) fun i e=> ?_]
 ·show(if t.oth.getD c 0=0+v then(1:Rat) else 0)+_=_+(if t.oth.getD c 0=v then(1:Rat) else 0);rw[Nat.zero_add];exact Rat.add_comm _ _
 ·have b:C6 n (fun j=>(K7 sc top m n t).D i j*(if j=c then 1 else 0))=(K7 sc top m n t).D i c:=(by rw[zmz hc fun j f a=>by rw[if_neg a];exact Rat.mul_zero _,if_pos rfl];exact Rat.mul_one _);rw[b,ygm e hc,yxv];show(if t.bas.getD i 0=v then _ else _)=(if t.bas.getD i 0=v then _ else _);split
  ·grind
  ·rfl
end
theorem zz1449 {w:s} {v:e} {q:Rat} (h:IsQ w (C5 w) v q):Calls Tryz.prog 94 #[v] w fun f w'=>f= .returned (.bool (!(zkz q)))/\Below w.heap.size w w':=by
 have d:=Lib.hid h;obtain⟨neg,A,o,B,p,rfl,_,_,_⟩:=F9 h;obtain⟨t,j⟩:=nm ((A8 q.num.natAbs).length);obtain⟨u,k⟩:=nm ((A8 q.den).length);rw[<-j,<-k] at d⊢;obtain⟨b,a⟩:=nm (zkz q);rw[<-a];have m:=Lib.hid a;clear h j k a;have z:=N9;obtain⟨C,r,g,l,n⟩:=J9 w #[.bool neg,.slice A t o,.slice B u p] 30;obtain⟨x,y,b2⟩:=C0 l;have B0:=Lib.hid g;clear g l n;go_in;go_wp2_with fail;clear r;refine(ybt (IsQ.stb.next d.out B0.out)).mono ?_;rw[<-m.out];rintro f D ⟨rfl,i⟩;have c:=nB B0 i;clear i;cases b
 ·go_wp2_with fail;go_ret;exact⟨rfl,c.out⟩
 ·go_wp2_with fail;go_ret;exact⟨rfl,c.out⟩
theorem yuj {w:s} {v:e} (h:IsV w (C5 w) v (C4 l)) (u:∀q∈l,zkz q=true):
 Calls Tryz.prog 157 #[v,.func (.func 94) #[] #[]] w fun j w'=>j= .returned (.int .i64 (-1))/\Below w.heap.size w w':=by
 obtain⟨i,B⟩:=C7 h u;obtain⟨A,c,rfl,H⟩:=J6 h;obtain⟨n,b⟩:=nm (l.length);rw[zqx,<-b] at i H⊢;have z:=Lib.hid b;clear h u b;have N:=N9;go_in;go_wp2_with fail;go_loopw [8,5] (fun d _ wr=>∃k:Nat,k<=n/\d= .int .i64 (k:Int)/\Below w.heap.size w wr) (fun d _ _=>n-(intOf d).toNat);case atStart=>exact⟨0,O _,rfl,Below.refl _ _⟩
 case round=>
  obtain⟨k,S,rfl,a⟩:=hrel;have g:=Lib.hid a;rcases Nat.lt_or_ge k n with p|P
  ·obtain⟨q,r,t⟩:=zph (l:=l) (j:=k) (by rw[<-z.out];exact p);obtain⟨M,T,I,J,K,L,rfl,_,o,D,E,F⟩:=zmt (IsV.stb.to i.out (C9 a)) t;obtain⟨C,y⟩:=C7 (zpd o) (B.out q (G r));have f:Hid (k+1<=n):=p;have Q:(0:Int)<=(k:Int):=og;have R:(k:Int)<(n:Int):=og;clear r t o a;go_wp2_with fail;refine(zz1449 C.out).mono ?_;rw[y.out];rintro j U ⟨rfl,m⟩;have x:=nB g m;clear m D E F;go_wp2_with fail;go_roundw;(case rel=>exact⟨k+1,f.out,by go_num,x.out⟩);case measure=>simp[intOf];have:=f.out;omega
  ·obtain rfl:k=n:=og;clear a;go_wp2_with fail;go_ret;exact⟨rfl,g.out⟩
theorem yhz {w:s} {v:e} (h:IsV w (C5 w) v (C4 l)) (c:∀q∈l,zkz q=true):
 Calls Tryz.prog 93 #[v,.func (.func 94) #[] #[]] w fun a w'=>a= .returned (.bool false)/\Below w.heap.size w w':=by obtain⟨f,g⟩:=C7 h c;clear h c;go_in;go_wp2_with fail;refine(yuj f.out g.out).mono ?_;rintro a i ⟨rfl,b⟩;have d:=Lib.hid b;clear b;go_wp2_with fail;go_ret;exact⟨rfl,d.out⟩
structure FineP (p:ProgQ) (N M:Nat):Prop where
 good:Good p 1024
 n0:0<N
 m0:0<M
 fA:∀row∈p.A,∀q∈row,q.den∣N/\q.num.natAbs<=M
 fB:∀q∈p.B,q.den∣N/\q.num.natAbs<=M
 fC:∀q∈p.C,q.den∣N/\q.num.natAbs<=M
def zpp (q:Rat):Prop:=Sz q 3/\q.den∣2/\q.num.natAbs<=8
theorem ywt {a:Int} (ha:a.natAbs<=8) (d:b=1\/b=2):(mkRat a b).den∣2/\(mkRat a b).num.natAbs<=8:=by
 have c:(mkRat a b).den∣b:=by
  have:=Rat.den_mkRat a b;rw[this];split
  ·exact Nat.one_dvd b
  ·exact Nat.div_dvd_of_dvd (Nat.gcd_dvd_left _ _)
 have e:(mkRat a b).num.natAbs<=a.natAbs:=by
  rw[Rat.num_mkRat];split
  ·simp
  ·exact Int.natAbs_ediv_le_natAbs _ _
 refine⟨?_,by omega⟩;rcases d with rfl|rfl
 ·exact Nat.dvd_trans c (by decide)
 ·exact c
theorem ytg {p:ProgQ} (h:Good p 1024) (b:∀row∈p.A,∀q∈row,zpp q) (c:∀q∈p.B,zpp q) (d:∀q∈p.C,zpp q):FineP p 2 8:=
 ⟨h,by omega,by omega,fun r hr q a=>(b r hr q a).2,fun q a=>(c q a).2,fun q a=>(d q a).2⟩
theorem yhg {N:Nat}:∀(l:List Rat) (o:Nat),o∣N->(∀q∈l,q.den∣N)->l.foldl (fun o q=>Nat.lcm o q.den) o∣N
 |[],o,a,_=>a
 |q::l,o,a,h=>yhg l _ (Nat.lcm_dvd a (h q (by simp))) fun r hr=>h r (by simp[hr])
theorem ycj {N:Nat} (h:∀q∈l,q.den∣N):zkr l∣N:=yhg l 1 (Nat.one_dvd N) h
theorem yjd {N M:Nat} {x:Rat} (a:0<N) (h:∀q∈l,q.den∣N) (b:x.num.natAbs<=M):(x.num*((zkr l/x.den:Nat):Int)).natAbs<=M*N:=by rw[Int.natAbs_mul,Int.natAbs_natCast];exact Nat.mul_le_mul b (D (Nat.div_le_self _ _) (Nat.le_of_dvd a (ycj h)))
def zlw (m n:Nat):List Nat:=(List.range m).map fun i=>n+i
theorem zvt (m n:Nat):(zlw m n).length=m:=by unfold zlw;simp
theorem ype {m n:Nat} (a:i<m):(zlw m n).getD i 0=n+i:=by unfold zlw;rw[z,I,List.getElem?_range a];rfl
theorem yyg {n:Nat} (a:j<n):(List.range n).getD j 0=j:=by rw[z,List.getElem?_range a];rfl
theorem ywp (h:j<l.length):l.getD j 0∈l:=by rw[z,F h];exact List.getElem_mem h
def newP (p:ProgQ):TB:=zpg p.A p.B p.C 0 (zlw p.B.length p.C.length) (List.range p.C.length) p.B.length p.C.length
def Z0 (p:ProgQ):Nat->Nat:=zof p.A p.B (zlw p.B.length p.C.length) p.B.length
def zkq (p:ProgQ):Nat:=zlt p.C 0
section
variable {p : ProgQ} {N M : Nat}
theorem yxp (m n:Nat):(zlw m n++List.range n).Nodup:=zyw fun i j b c a=>by
 have d:(List.range n).length=n:=by simp
 rw[List.length_append,zvt,d] at b c
 have key:∀k,k<m+n->(zlw m n++List.range n).getD k 0=if k<m then n+k else k-m:=fun k e=>by
  rw[z,List.getElem?_append,zvt]
  split
  ·rename_i h;rw[<-z];exact ype h
  ·rename_i h;rw[<-z];exact yyg og
 rw[key i b,key j c] at a
 split at a<;>split at a<;>omega
theorem FineP.row (h:FineP p N M) (a:i<p.B.length):∃r,p.A[i]? =some r/\p.A.getD i []=r/\r∈p.A/\r.length=p.C.length:=by have hr:p.A[i]? =some (p.A.getD i []):=(by rw[z,F (by have:=h.good.rows;omega)];rfl);exact⟨_,hr,rfl,G hr,h.good.cols _ (G hr)⟩
theorem FineP.wide (h:FineP p N M) (b:i<p.B.length):∀q∈p.A.getD i []++[p.B.getD i 0],q.den∣N/\q.num.natAbs<=M:=fun q a=>by
 obtain⟨r,hr,c,d,e⟩:=h.row b
 rw[c] at a
 rcases List.mem_append.1 a with a|a
 ·exact h.fA r d q a
 ·rw[List.mem_singleton] at a
  subst a
  exact h.fB _ (ywp b)
theorem FineP.cost (h:FineP p N M):∀q∈p.C++[0],q.den∣N/\q.num.natAbs<=M:=fun q a=>by
 rcases List.mem_append.1 a with a|a
 ·exact h.fC q a
 ·rw[List.mem_singleton] at a
  subst a
  exact⟨Nat.one_dvd N,O _⟩
theorem FineP.small (h:FineP p N M):∀i j,i<=p.B.length->j<=p.C.length->((newP p).A i j).natAbs<=M*N:=fun i j l b=>by
 have e:∀j,j<=p.C.length->(zmg [p.C++[0]] 0 j).natAbs<=M*N:=fun j b=>by
  have c:j<(p.C++[(0:Rat)]).length:=by simp;omega
  rw[ztr (M:=[p.C++[0]]) (i:=0) rfl (F c)]
  exact yjd h.n0 (fun q d=>(h.cost q d).1) (h.cost _ (List.getElem_mem c)).2
 show(if i<p.B.length then zmg (zvn p.A p.B p.B.length) i j else if j<p.C.length then -(zmg [p.C++[0]] 0 j) else zmg [p.C++[0]] 0 j:Int).natAbs<=_
 split
 ·rename_i a
  obtain⟨r,hr,g,m,c⟩:=h.row a
  have k:=yen (b:=p.B) (n:=p.B.length) (m:=p.C.length) a hr
  have f:j<(r++[p.B.getD i 0]).length:=by simp;omega
  rw[ztr k (F f)]
  have hd:=h.wide a
  rw[g] at hd
  exact yjd h.n0 (fun q d=>(hd q d).1) (hd _ (List.getElem_mem f)).2
 ·split
  ·rw[Int.natAbs_neg];exact e j b
  ·exact e j b
theorem FineP.inv (h:FineP p N M):TInv (M*N) p.B.length p.C.length (newP p):=
 zz1416 rfl (zvt _ _) (by show(List.range _).length=_;simp) (yxp _ _) (fun v hv=>by
  rcases List.mem_append.1 hv with hv|hv
  ·unfold newP zpg zlw at hv
   obtain⟨i,a,rfl⟩:=List.mem_map.1 hv
   have:=List.mem_range.1 a
   omega
  ·have:v∈List.range p.C.length:=hv
   have:=List.mem_range.1 this
   omega) (Nat.mul_pos h.m0 h.n0) h.small
theorem FineP.ok (h:FineP p N M):OkT (M*N) p.B.length p.C.length (Z0 p) (zkq p) (U3 p.B.length p.C.length (aF p.A) (lF p.B) (lF p.C)) (newP p) where
 inv:=h.inv
 eqv:=yxk h.good.rows rfl h.good.cols rfl rfl rfl
theorem ylq {bas:List Nat} {f:Nat->Nat} {N:Nat} (a:0<N):∀k,(∀i,i<k->f i<=N)->∀v,zop bas f k v<=N
 |0,_,_=>a
 |k+1,h,v=>by
  rw[zop]
  split
  ·exact h k og
  ·exact ylq a k (fun i b=>h i og) v
theorem FineP.sc_le (h:FineP p N M) (v:Nat):Z0 p v<=N:=ylq h.n0 _ (fun i a=>Nat.le_of_dvd h.n0 (ycj fun q b=>(h.wide a q b).1)) v
theorem FineP.top_le (h:FineP p N M):zkq p<=N:=Nat.le_of_dvd h.n0 (ycj fun q a=>(h.cost q a).1)
theorem FineP.sc0 (h:FineP p N M) (v:Nat):0<Z0 p v:=zz1395 _ _ _ _ _
theorem FineP.top0 (h:FineP p N M):0<zkq p:=ynd _ _
theorem FineP.scok (h:FineP p N M) (a:(A8 N).length<=100000):ScOk (Z0 p) (zkq p):=
 ⟨fun v=>D (zkn (h.sc_le v)) a,h.sc0,D (zkn h.top_le) a,h.top0⟩
end
theorem ywu {z:Int} {d k:Nat} (b:z.natAbs<=K) (c:d<=K) (a:(A8 K).length<=k) (f:1<=k):Sz (mkRat z d) k:=by
 by_cases hd:d=0
 ·subst hd;rw[Rat.mkRat_zero];exact⟨by show(A8 0).length<=k;rw[T6];simp,by show(A8 1).length<=k;rw[zlg];exact f⟩
 ·have g:(mkRat z d).num=z/(d.gcd z.natAbs:Int):=(by rw[Rat.num_mkRat,if_neg hd]);have e:(mkRat z d).den=d/d.gcd z.natAbs:=(by rw[Rat.den_mkRat];simp[hd]);refine⟨D (zkn ?_) a,D (zkn ?_) a⟩
  ·rw[g];exact D (Int.natAbs_ediv_le_natAbs _ _) b
  ·rw[e];exact D (Nat.div_le_self _ _) c
theorem yjv {z:Int} {d v N k:Nat} (e:z.natAbs<=K) (c:u<=N) (hd:d<=K) (hv:v<=N) (b:(A8 (K*N)).length<=k) (a:1<=k):Sz (J4 z u d v) k:=by rw[yju];refine ywu ?_ (Nat.mul_le_mul hd hv) b a;unfold sg;have:=Nat.mul_le_mul e c;split<;>omega
theorem ykd {k:Nat} (a:1<=k):Sz (1:Rat) k:=⟨by show(A8 1).length<=k;rw[zlg];exact a,by show(A8 1).length<=k;rw[zlg];exact a⟩
theorem zsc {k:Nat} (a:1<=k):Sz (0:Rat) k:=⟨by show(A8 0).length<=k;rw[T6];simp,by show(A8 1).length<=k;rw[zlg];exact a⟩
theorem zwv {f off k:Nat} {b:Nat->Rat} {key:Nat->Nat} {X:Nat->Rat} (l:∀i j,i<k->j<k->key i=key j->i=j) {q:Rat} (h:q∈K1 f off b key X k):(∃v,q=b v)\/∃i v,i<k/\key i=off+v/\q=b v+X i:=by
 unfold K1 at h;obtain⟨v,hv,rfl⟩:=yah h;by_cases e:∃i,i<k/\key i=off+v
 ·obtain⟨i,a,d⟩:=e;refine .inr ⟨i,v,a,d,?_⟩;rw[zmz a fun j g m=>by rw[if_neg fun c=>m (l j i g a (c.trans d.symm))],if_pos d]
 ·refine .inl ⟨v,?_⟩;rw[zlk fun i a=>by rw[if_neg fun c=>e ⟨i,a,c⟩]];exact Rat.add_zero _
def zsd (p:ProgQ) (k:Nat) (s:Sol):Prop:=
 (∃X Y v,s=⟨1,E0 v,C4 X,C4 Y,[]⟩/\CertOpt p.A p.B p.C X Y v/\Sz v k/\(∀q∈X,Sz q k)/\∀q∈Y,Sz q k)\/
 (∃Y,s=⟨2,E0 0,[],C4 Y,[]⟩/\CertNone p.A p.B p.C Y/\∀q∈Y,Sz q k)\/
 ∃X Z,s=⟨3,E0 0,C4 X,[],C4 Z⟩/\CertRay p.A p.B p.C X Z/\(∀q∈X,Sz q k)/\∀q∈Z,Sz q k
section
variable {p : ProgQ} {N M k : Nat} {t : TB} {h : Dic}
theorem ybe {m n:Nat} (h:TInv M m n t):∀i j,i<m->j<m->t.bas.getD i 0=t.bas.getD j 0->i=j:=fun i j c d a=>by
 have b:=h.bl
 exact zqa (List.nodup_append.1 h.dist).1 og og a
theorem yki {m n:Nat} (h:TInv M m n t):∀i j,i<n->j<n->t.oth.getD i 0=t.oth.getD j 0->i=j:=fun i j c d a=>by
 have b:=h.ol
 exact zqa (List.nodup_append.1 h.dist).2.1 og og a
theorem yfi {m n:Nat} (h:TInv M m n t) (b:i<m) (c:j<n):t.bas.getD i 0≠t.oth.getD j 0:=by have a:=h.bl;have d:=h.ol;exact(List.nodup_append.1 h.dist).2.2 _ (zkh og) _ (zkh og)
theorem ydb {m n:Nat} {sc:Nat->Nat} {top:Nat} (hI:TInv M m n t) (g:K=M3 M (m+1)) (l:∀v,sc v<=N) (o:top<=N) (h:0<N) (e:(A8 (K*N)).length<=k) (a:1<=k) {d:Nat} (b:i<=m) (c:j<=n) (f:u<=N) (hd:d<=N):Sz (J4 (t.A i j) u t.d d) k/\Sz (J4 (-(t.A i j)) u t.d d) k:=by subst g;refine⟨yjv (hI.small.2 i j b c) f hI.small.1 hd e a,yjv ?_ f hI.small.1 hd e a⟩;rw[Int.natAbs_neg];exact hI.small.2 i j b c
theorem yow (h:FineP p N M) (m:(A8 (M3 (M*N) (p.B.length+1)*N)).length<=k) (b:1<=k) (a:OkT (M*N) p.B.length p.C.length (Z0 p) (zkq p) (U3 p.B.length p.C.length (aF p.A) (lF p.B) (lF p.C)) t) (f:∀i,i<p.B.length->0<=t.A i p.C.length) (g:zlq p.B.length p.C.length t=none):
 zsd p k ⟨1,E0 (J4 (t.A p.B.length p.C.length) 1 t.d (zkq p)),C4 (K1 p.C.length 0 (fun _=>0) (fun i=>t.bas.getD i 0) (fun i=>J4 (t.A i p.C.length) 1 t.d (Z0 p (t.bas.getD i 0))) p.B.length),C4 (K1 p.B.length p.C.length (fun _=>0) (fun j=>t.oth.getD j 0) (fun j=>J4 (t.A p.B.length j) (Z0 p (t.oth.getD j 0)) t.d (zkq p)) p.C.length),[]⟩:=by
 have hc:=ysk h.sc0 h.top0 h.good.rows rfl rfl h.good.cols a f g;have e:=fun {i j u d:Nat}=>ydb a.inv rfl h.sc_le h.top_le h.n0 m b (i:=i) (j:=j) (u:=u) (d:=d);rw[<-ykv,<-yzv,yrp] at hc;refine .inl ⟨_,_,_,rfl,hc,(e (E _) (E _) h.n0 h.top_le).1,fun q c=> ?_,fun q c=> ?_⟩
 ·rcases zwv (ybe a.inv) c with⟨v,rfl⟩|⟨i,v,l,_,rfl⟩
  ·exact zsc b
  ·rw[Rat.zero_add];exact(e og (E _) h.n0 (h.sc_le _)).1
 ·rcases zwv (yki a.inv) c with⟨v,rfl⟩|⟨i,v,l,_,rfl⟩
  ·exact zsc b
  ·rw[Rat.zero_add];exact(e (E _) og (h.sc_le _) h.top_le).1
theorem yov (h:FineP p N M) (l:(A8 (M3 (M*N) (p.B.length+1)*N)).length<=k) (b:1<=k) (a:OkT (M*N) p.B.length p.C.length (Z0 p) (zkq p) (U3 p.B.length p.C.length (aF p.A) (lF p.B) (lF p.C)) t) {r:Nat} (c:zom p.B.length p.C.length t=some r) (f:zpc p.C.length t r=none):
 zsd p k ⟨2,E0 0,[],C4 (K1 p.B.length p.C.length (fun v=>if t.bas.getD r 0=p.C.length+v then 1 else 0) (fun j=>t.oth.getD j 0) (fun j=>J4 (t.A r j) (Z0 p (t.oth.getD j 0)) t.d (Z0 p (t.bas.getD r 0))) p.C.length),[]⟩:=by
 have hc:=ysj h.sc0 h.top0 h.good.rows rfl rfl a c f;have hr:=(zmq c).1;have n:=fun {i j u d:Nat}=>ydb a.inv rfl h.sc_le h.top_le h.n0 l b (i:=i) (j:=j) (u:=u) (d:=d);rw[<-yzy hr] at hc;refine .inr (.inl ⟨_,rfl,hc,fun q m=> ?_⟩);rcases zwv (yki a.inv) m with⟨v,rfl⟩|⟨i,v,g,hv,rfl⟩
 ·split
  ·exact ykd b
  ·exact zsc b
 ·rw[if_neg fun e=>yfi a.inv hr g (e.trans hv.symm),Rat.zero_add];exact(n og og (h.sc_le _) (h.sc_le _)).1
theorem yoy (h:FineP p N M) (r:(A8 (M3 (M*N) (p.B.length+1)*N)).length<=k) (b:1<=k) (a:OkT (M*N) p.B.length p.C.length (Z0 p) (zkq p) (U3 p.B.length p.C.length (aF p.A) (lF p.B) (lF p.C)) t) (o:∀i,i<p.B.length->0<=t.A i p.C.length) (g:zlq p.B.length p.C.length t=some c) (s:znk p.B.length p.C.length t c=none):
 zsd p k ⟨3,E0 0,C4 (K1 p.C.length 0 (fun _=>0) (fun i=>t.bas.getD i 0) (fun i=>J4 (t.A i p.C.length) 1 t.d (Z0 p (t.bas.getD i 0))) p.B.length),[],C4 (K1 p.C.length 0 (fun v=>if t.oth.getD c 0=0+v then 1 else 0) (fun i=>t.bas.getD i 0) (fun i=>J4 (-(t.A i c)) (Z0 p (t.oth.getD c 0)) t.d (Z0 p (t.bas.getD i 0))) p.B.length)⟩:=by
 have hc:=ysl h.sc0 h.top0 h.good.rows rfl rfl h.good.cols a o g s;have f:=(zmq g).1;have m:=fun {i j u d:Nat}=>ydb a.inv rfl h.sc_le h.top_le h.n0 r b (i:=i) (j:=j) (u:=u) (d:=d);rw[<-ykv,<-zz1366 f] at hc;refine .inr (.inr ⟨_,_,rfl,hc,fun q e=> ?_,fun q e=> ?_⟩)
 ·rcases zwv (ybe a.inv) e with⟨v,rfl⟩|⟨i,v,l,_,rfl⟩
  ·exact zsc b
  ·rw[Rat.zero_add];exact(m og (E _) h.n0 (h.sc_le _)).1
 ·rcases zwv (ybe a.inv) e with⟨v,rfl⟩|⟨i,v,l,hv,rfl⟩
  ·split
   ·exact ykd b
   ·exact zsc b
  ·rw[if_neg fun n=>yfi a.inv l f (hv.trans n.symm),Rat.zero_add];exact(m og og (h.sc_le _) (h.sc_le _)).2
theorem zuc {q:Rat} {k:Nat} (h:Sz q k) (a:k<=1024):zkz q=true:=by unfold zkz;rw[decide_eq_true_eq];exact⟨D h.1 a,D h.2 a⟩
end
abbrev ymj (st:Int) (v:Rat) (X D R:List Rat):Sol:=⟨st,E0 v,C4 X,C4 D,C4 R⟩
section
variable {q : ProgQ} {X Y R : List Rat} {v f : Rat}
theorem yjs (l:List Rat):(zlv (C4 l)=false)↔∀x∈l,0<=x:=by
 rw[yfe,List.any_eq_false];constructor
 ·intro h x a;have:=h x a;rw[decide_eq_true_eq] at this;exact Rat.not_lt.1 this
 ·intro h x a;rw[decide_eq_true_eq];exact Rat.not_lt.2 (h x a)
theorem ygy (h:Good q 1024) (j:X.length=q.C.length):W6 q.A q.B X=true↔Feas q.A q.B q.C.length X:=by
 unfold W6;rw[Bool.and_eq_true,Bool.not_eq_true',yjs,List.all_eq_true];constructor
 ·rintro⟨c,b⟩;refine⟨j,b,fun i r hr=> ?_⟩;have d:=(List.getElem?_eq_some_iff.1 hr).1;have g:q.B[i]? =some (q.B.getD i 0):=(by rw[z,F (by have:=h.rows;omega)];rfl);have a:(q.A.zip q.B)[i]? =some (r,q.B.getD i 0):=(by rw[List.getElem?_zip_eq_some];exact⟨hr,g⟩);have:=c _ (G a);exact of_decide_eq_true this
 ·rintro⟨c,b,f⟩;refine⟨fun p k=> ?_,b⟩;obtain⟨i,d,e⟩:=List.getElem_of_mem k;have a:(q.A.zip q.B)[i]? =some p:=(by rw[F d,e]);rw[List.getElem?_zip_eq_some] at a;have:=f i p.1 a.1;rw[z,a.2] at this;exact decide_eq_true this
theorem zxr (A:List (List Rat)) (Y:List Rat) (k:Nat) (d:Y.length=A.length):H7 (U1 A k) Y=zkx A Y k:=by have b:(U1 A k).length=A.length:=(by unfold U1;simp);rw[ztj (U1 A k) Y og,b];unfold zkx;refine M8 fun i c=> ?_;have a:(U1 A k).getD i 0=(A.getD i []).getD k 0:=(by unfold U1;rw[z,I,z (l:=A),F c];rfl);rw[a]
theorem ymp (e:Good q 1024) {C:List Rat} (c:Y.length=q.B.length):Y4 q.A C Y=true↔Mult q.A q.B C.length (fun k=>C.getD k 0) Y:=by
 unfold Y4;rw[Bool.and_eq_true,Bool.not_eq_true',yjs,List.all_eq_true];constructor
 ·rintro⟨d,a⟩;refine⟨c,a,fun k b=> ?_⟩;have:=of_decide_eq_true (d k (List.mem_range.2 b));rwa[zxr _ _ _ (by rw[c,e.rows])] at this
 ·rintro⟨d,a,f⟩;refine⟨fun k b=> ?_,a⟩;rw[decide_eq_true_eq,zxr _ _ _ (by rw[c,e.rows])];exact f k (List.mem_range.1 b)
end
theorem yjl {f:Rat} (hf:0<f) (h:∀x∈l,0<=x):∀x∈l.map (·*f),0<=x:=fun x a=>by
 obtain⟨y,b,rfl⟩:=List.mem_map.1 a
 exact Rat.mul_nonneg (h y b) (Rat.le_of_lt hf)
theorem yhr (l:List Rat) (f:Rat) (k:Nat):(l.map (·*f)).getD k 0=l.getD k 0*f:=by
 rw[z,z,I];cases l[k]? with
 |none=>show(0:Rat)=0*f;grind
 |some x=>rfl
theorem ybp {a:List Rat} (h:a.length=l.length) (f:Rat):H7 a (l.map (·*f))=H7 a l*f:=by rw[ztj a (l.map (·*f)) (by rw[H];exact h),ztj a l h];have:(C6 a.length fun i=>a.getD i 0*l.getD i 0)*f=f*C6 a.length fun i=>a.getD i 0*l.getD i 0:=Rat.mul_comm _ _;rw[this,<-znu];exact M8 fun i b=>by rw[yhr];grind
theorem yqw (A:List (List Rat)) (Y:List Rat) (f:Rat) (k:Nat):zkx A (Y.map (·*f)) k=f*zkx A Y k:=by unfold zkx;rw[<-znu];exact M8 fun i a=>by rw[yhr];grind
theorem CertNone.mul {A:List (List Rat)} {b c Y:List Rat} {f:Rat} (h:CertNone A b c Y) (hf:0<f):CertNone A b c (Y.map (·*f)) where
 y:=⟨by rw[H];exact h.y.len,yjl hf h.y.nn,fun k a=>by
  rw[yqw]
  exact Rat.mul_nonneg (Rat.le_of_lt hf) (h.y.ge k a)⟩
 vy:=by rw[ybp h.y.len.symm];have:=Rat.mul_pos (show(0:Rat)< -(H7 b Y) by have:=h.vy;grind) hf;grind
theorem CertRay.mul {A:List (List Rat)} {b c X Z:List Rat} {f:Rat} (h:CertRay A b c X Z) (a:∀r∈A,r.length=c.length) (hf:0<f):CertRay A b c X (Z.map (·*f)) where
 x:=h.x
 z:=⟨by rw[H];exact h.z.len,yjl hf h.z.nn,fun r hr=>by
  rw[ybp ((a r hr).trans h.z.len.symm)]
  have:=Rat.mul_nonneg (show(0:Rat)<=-(H7 r Z) by have:=h.z.le r hr;grind) (Rat.le_of_lt hf)
  grind⟩
 up:=by rw[ybp h.z.len.symm];exact Rat.mul_pos h.up hf
section
variable {q : ProgQ} {X Y Z : List Rat} {v f : Rat}
theorem rawV_inj':∀{l m:List Rat},C4 l=C4 m->l=m
 |[],[],_=>rfl
 |[],y::m,h=>by cases h
 |x::l,[],h=>by cases h
 |x::l,y::m,h=>by
  have h:E0 x::C4 l=E0 y::C4 m:=h
  injection h with a b
  rw[ylg a,rawV_inj' b]
end
theorem G0 {ops lit:Array Oper} (h:ops=lit) {o b:Oper} (a:ops[j]? =some b) (c:lit[j]? =some o:=by rfl):o=b:=by rw[h,c] at a;exact Option.some.inj a
theorem X7 {T A:Array e} {t:Nat} {v:e} (h:T[t]? =A[t]?) (hv:A[t]? =some v:=by rfl):T[t]? =some v:=h.trans hv
section
variable {P : Program} {ops lit : Array Oper} {o a : Oper} {T : Array e} {X : Nat → Option e} {Φ : Nat → e → s → (Nat → Option e) → Prop} {W : s} {v : e}
theorem zkk (c:∀j a,j∈W7 o->ops[j]? =some a->X j=some (K4 T a)/\Φ j (K4 T a) W X) (f:ops=lit) (j t:Nat) (d:decide (j∈W7 o)=true:=by kernel_rfl) (e:lit[j]? =some a:=by rfl) (hd:a.dst=some t:=by rfl) (g:t<T.size:=by(try dsimp only);omega):
 ∃v,T[t]? =some v/\Φ j v W X:=by have h:=(c j a (M6 d) (by rw[f];exact e)).2;have b:K4 T a=T.getD t undef:=(by unfold K4;rw[hd]);rw[b] at h;exact⟨_,zkc g rfl,h⟩
theorem slY (c:∀j a,j∈W7 o->ops[j]? =some a->X j=some (K4 T a)/\Φ j (K4 T a) W X) (f:ops=lit) (j:Nat) {t:Nat} (b:T[t]? =some v) (d:decide (j∈W7 o)=true:=by kernel_rfl) (e:lit[j]? =some a:=by rfl) (hd:a.dst=some t:=by rfl):X j=some v:=by have h:=(c j a (M6 d) (by rw[f];exact e)).1;rw[h];unfold K4;rw[hd];simp[Array.getD_eq_getD_getElem?,b]
theorem M7 (d:∀j a,j∈W7 o->ops[j]? =some a->X j=some (K4 T a)/\Φ j (K4 T a) W X) (g:ops=lit) (j t:Nat) (e:decide (j∈W7 o)=true:=by kernel_rfl) (f:lit[j]? =some a:=by rfl) (hd:a.dst=some t:=by rfl) (i:t<T.size:=by(try dsimp only);omega)
 (hv:∀u,Φ j u W X->u=v:=by exact fun _ h=>h):T[t]? =some v:=by obtain⟨u,b,c⟩:=zkk d g j t e f hd i;rw[b,hv u c]
theorem I9 {a:Act} {w:s} {c:s->Prop} {b:s->Prop} {f:e->s->(Nat->Option e)->Prop} {d:Exit->Act->s->Prop} {B:Prop} (h:∀K:Act->s->Prop,(∀v w',b w'->c w'->f (if o.dst.isSome then v else undef) w' (K6 X i (if o.dst.isSome then v else undef))->K (a.put o.dst v) w')->o.wp P a w K d) (j:o.guard=none:=by rfl):
 if Region.wanted o (yielded ops T)=true then o.wp P a w (fun g w'=>∃v,g=a.put o.dst v/\b w'/\c w'/\f (if o.dst.isSome then v else undef) w' (K6 X i (if o.dst.isSome then v else undef))) d else B:=M5 j (zz1420 h)
end
theorem ykl {v:e} {n0:Nat} (h:v.ownBlock=va.ownBlock\/∃b,v.ownBlock=some b/\n0<=b) (f:b<n0) (d:va.ownBlock≠some b):v.ownBlock≠some b:=by
 rcases h with h|⟨c,h,hc⟩
 ·rw[h];exact d
 ·rw[h];intro a;cases a;omega
theorem zuu {X:Nat->Option e} {k:Nat} {u:e} {a:Nat} (h:∃u,X 4=some u/\∀b,u.ownBlock=some b->b<a) (f:X k=none):∃v,K6 X k u 4=some v/\∀b,v.ownBlock=some b->b<a:=by obtain⟨v,c,d⟩:=h;exact⟨v,zra c f,d⟩
theorem ycw {X:Nat->Option e} {k m n:Nat} {u:e} (h:∃u,X 4=some u/\∀b,u.ownBlock=some b->b<m) (d:X k=none) (g:m<=n):∃v,K6 X k u 4=some v/\∀b,v.ownBlock=some b->b<n:=by obtain⟨v,a,c⟩:=h;exact⟨v,zra a d,fun b f=>J (c b f) g⟩
def PRat (w:s) (n0:Nat) (L:Nat->Prop) (v:e):Prop:=∃q a b,zpp q/\(n0<=a/\a<=b)/\b<=w.heap.size/\L a/\IsQ w (G6 a b) v q
def PRow (w:s) (n0:Nat) (L:Nat->Prop) (v:e):Prop:=∃q a b c,zpp q/\(n0<=a/\a<=b)/\b<=w.heap.size/\L a/\IsQ w (G6 a b) c q/\NewRow w n0 30 c.cells.toList v
def PApp (w:s) (base n0:Nat) (L:Nat->Prop) (d:Nat->Prop) (y:e) (l:List Raw) (v:e):Prop:=
 ∃q c a,zpp q/\(n0<=c/\c<=a)/\a<=w.heap.size/\L c/\OwnS 3 30 IsR w base (fun b=>d b\/G6 c a b) v (l++[E0 q])/\(v.ownBlock=y.ownBlock\/∃b,v.ownBlock=some b/\a<=b/\n0<=b)
theorem PRat.grown {w w':s} {n0:Nat} {M:Nat->Prop} {v:e} (h:PRat w n0 L v) (f:w.grownBy w' r) (hr:∀b,r=some b->b<n0) (l:∀a,L a->M a):PRat w' n0 M v:=by obtain⟨q,a,m,i,c,d,j,k⟩:=h;exact⟨q,a,m,i,c,D d f.size,l _ j,k.rngG f d fun b g=>J (hr b g) c.1⟩
theorem PRow.grown {w w':s} {n0:Nat} {M:Nat->Prop} {v:e} (h:PRow w n0 L v) (d:w.grownBy w' r) (hr:∀b,r=some b->b<n0) (m:∀a,L a->M a):PRow w' n0 M v:=by obtain⟨q,a,n,c,i,f,g,j,k,l⟩:=h;exact⟨q,a,n,c,i,f,D g d.size,m _ j,k.rngG d g fun b c=>J (hr b c) f.1,l.grown d hr⟩
theorem PApp.grown {w w':s} {n0:Nat} {M i:Nat->Prop} {v:e} {l:List Raw} (h:PApp w base n0 L i y l v) (k:w.grownBy w' r) (hr:∀b,r=some b->b<n0) (hv:∀b,r=some b->y.ownBlock≠some b/\¬i b) (u:∀g,L g->M g):PApp w' base n0 M i y l v:=by
 obtain⟨q,g,x,m,n,o,p,t,j⟩:=h;refine⟨q,g,x,m,n,D o k.size,u _ p,t.grown IsR.stb k fun b f=>⟨ykl (n0:=n0) (j.imp id fun⟨c,a,_,d⟩=>⟨c,a,d⟩) (hr b f) (hv b f).1,fun h=> ?_⟩,j⟩;rcases h with h|h
 ·exact(hv b f).2 h
 ·have:=hr b f;have:=h.1;omega
def ztd (g:Nat) (va y:e):Nat->Option Nat:=fun k=>match k with|4=>va.ownBlock|8=>some g|11=>some g|15=>y.ownBlock|_=>none
def zvu (g:Nat) (a:e):Nat->Option Nat:=fun k=>match k with|3=>some g|7=>a.ownBlock|_=>none
def yaq (g P:Nat) (va y:e) (R:Option Addr) (m c:Nat) (n0 base:Nat) (d f:Nat->Prop) (A:List (List Rat)) (B r:List Rat) (i:Nat) (v:e) (w:s) (X:Nat->Option e):Prop:=
 match i with
 |0=>v= .pointer (some ⟨P,0,none⟩)
 |1=>v=va
 |2=>v= .slice R m c
 |3=>NewRow w n0 26 [.slice R m c] v
 |4=>(OwnS 1 26 IsV w base d v (I0 A++[C4 r])/\(v.ownBlock=va.ownBlock\/∃b,v.ownBlock=some b/\n0<=b))
 |5=>v= .pointer (some ⟨P,1,none⟩)
 |6=>v=y
 |7=>v= .pointer (some ⟨g,0,none⟩)
 |8=>(∃x:Int,0<=x/\x<=11/\v= .int .i64 x)/\(∃u,X 4=some u/\∀b,u.ownBlock=some b->b<w.heap.size)
 |9=>(∃x:Int,-3<=x/\x<=8/\v= .int .i64 x)
 |10=>v= .pointer (some ⟨g,0,none⟩)
 |11=>(∃x:Int,0<=x/\x<=1/\v= .int .i64 x)/\(∃u,X 4=some u/\∀b,u.ownBlock=some b->b<w.heap.size)
 |12=>(∃x:Int,1<=x/\x<=2/\v= .int .i64 x)
 |13=>PRat w n0 (fun a=>∃u,X 4=some u/\∀b,u.ownBlock=some b->b<a) v
 |14=>PRow w n0 (fun a=>∃u,X 4=some u/\∀b,u.ownBlock=some b->b<a) v
 |15=>PApp w base n0 (fun a=>∃u,X 4=some u/\∀b,u.ownBlock=some b->b<a) f y (C4 B) v
 |16=>v= .pointer (some ⟨P,0,none⟩)
 |_=>True
def yar (g P:Nat) (a:e) (n0 base:Nat) (b:Nat->Prop) (C:List Rat) (i:Nat) (v:e) (w:s) (X:Nat->Option e):Prop:=
 match i with
 |0=>v= .pointer (some ⟨P,2,none⟩)
 |1=>v=a
 |2=>v= .pointer (some ⟨g,0,none⟩)
 |3=>(∃x:Int,0<=x/\x<=8/\v= .int .i64 x)
 |4=>(∃x:Int,-5<=x/\x<=3/\v= .int .i64 x)
 |5=>PRat w n0 (fun _=>True) v
 |6=>PRow w n0 (fun _=>True) v
 |7=>PApp w base n0 (fun _=>True) b a (C4 C) v
 |_=>True
theorem yyk {P:Nat} {R:Option Addr} {m o:Nat} {n0:Nat} {l n:Nat->Prop} {A:List (List Rat)} {B r:List Rat} (d:∀k b,ztd g va y k=some b->b<n0/\(k≠4->va.ownBlock≠some b/\¬l b)/\(k≠15->y.ownBlock≠some b/\¬n b)):
 ∀i k v w w' X u,i≠k->X k=none->yaq g P va y R m o n0 base l n A B r i v w X->w.grownBy w' (ztd g va y k)->yaq g P va y R m o n0 base l n A B r i v w' (K6 X k u):=fun i k v w w' X u a j h f=>match i,a,h with
 |0,a,h=>h
 |1,a,h=>h
 |2,a,h=>h
 |3,a,h=>h.grown f fun b c=>(d k b c).1
 |4,a,h=>⟨h.1.grown IsV.stb f fun b c=>⟨ykl h.2 (d k b c).1 ((d k b c).2.1 (Ne.symm a)).1,((d k b c).2.1 (Ne.symm a)).2⟩,h.2⟩
 |5,a,h=>h
 |6,a,h=>h
 |7,a,h=>h
 |8,a,h=>⟨h.1,ycw h.2 j f.size⟩
 |9,a,h=>h
 |10,a,h=>h
 |11,a,h=>⟨h.1,ycw h.2 j f.size⟩
 |12,a,h=>h
 |13,a,h=>h.grown f (fun b c=>(d k b c).1) (fun p h=>zuu h j)
 |14,a,h=>h.grown f (fun b c=>(d k b c).1) (fun p h=>zuu h j)
 |15,a,h=>h.grown f (fun b c=>(d k b c).1) (fun b c=>(d k b c).2.2 (Ne.symm a)) (fun p h=>zuu h j)
 |16,a,h=>h
 |_+17,_,_=>trivial
theorem yyl {P:Nat} {d:e} {n0:Nat} {j:Nat->Prop} {C:List Rat} (f:∀k b,zvu g d k=some b->b<n0/\(k≠7->d.ownBlock≠some b/\¬j b)):
 ∀i k v w w' X u,i≠k->X k=none->yar g P d n0 base j C i v w X->w.grownBy w' (zvu g d k)->yar g P d n0 base j C i v w' (K6 X k u):=fun i k v w w' X u a m h l=>match i,a,h with
 |0,a,h=>h
 |1,a,h=>h
 |2,a,h=>h
 |3,a,h=>h
 |4,a,h=>h
 |5,a,h=>h.grown l (fun b c=>(f k b c).1) (fun _ h=>h)
 |6,a,h=>h.grown l (fun b c=>(f k b c).1) (fun _ h=>h)
 |7,a,h=>h.grown l (fun b c=>(f k b c).1) (fun b c=>(f k b c).2 (Ne.symm a)) (fun _ h=>h)
 |_+8,_,_=>trivial
def yoe (base:Nat) (va y c:e) (a b:Nat->Prop) (A:List (List Rat)) (B r:List Rat) (i:Nat) (w:s):Prop:=(i=4->OwnS 1 26 IsV w base a va (I0 A)/\IsV w a c (C4 r))/\(i=15->OwnS 3 30 IsR w base b y (C4 B))
def yof (base:Nat) (b:e) (a:Nat->Prop) (C:List Rat) (i:Nat) (w:s):Prop:=i=7->OwnS 3 30 IsR w base a b (C4 C)
def JD (g P:Nat) (l:List Int) (xs:List e) (d x:Option Nat) (A:s) (w:s):Prop:=IsD w g l/\Row w P 54 xs/\Kept (some g) d x A w
theorem JD.step {P:Nat} {l:List Int} {w w':s} (h:JD g P l xs d x A w) (c:w.grownBy w' r) (hr:r=none\/r=d\/r=x) (e:∀b,r=some b->g<b/\P≠b):JD g P l xs d x A w':=
 ⟨h.1.grownN c fun b a=>(e b a).1,h.2.1.grownN c fun b a=>(e b a).2,h.2.2.step c (by rcases hr with h|h|h;exact .inl h;exact .inr (.inr (.inl h));exact .inr (.inr (.inr h)))⟩
theorem JD.draw {P:Nat} {l:List Int} {w w':s} (h:JD g P l xs d x A w) (hD:IsD w' g l) (a:Only g w w') (b:P≠g):JD g P l xs d x A w':=
 ⟨hD,h.2.1.only a b,h.2.2.step a.grown (.inr (.inl rfl))⟩
end Go.Proofs.YtlhhbccgfkhflaaGreatDoor
