/-
 The numbers that package simplex lays out are the certificates' numbers.
-/
import Derived.Test.YtpbilanpeioonaaGreatDoorProofDualProves10
namespace Go.Proofs.YtpbilanpeioonaaGreatDoor
set_option linter.unusedVariables false
open Go.RowKit
set_option maxRecDepth 100000
set_option maxHeartbeats 8000000
open _root_.Nat renaming le_refl → x, le_trans → y, lt_of_lt_of_le → F, zero_le → G
open _root_.List renaming getD_eq_getElem?_getD → w, getElem?_eq_getElem → B, mem_of_getElem? → D, length_map → E, getElem?_map → h
open _root_.Bool renaming and_eq_true → d
open _root_.Go renaming World → o, Value → e
variable {K P b base c g i j u : Nat} {L : Nat → Prop} {l : List Rat} {r z A : Option Nat} {a s : e} {C : o} {xs : List e}
theorem zvw {z:Int} {d v:Nat}:J5 z u d v=(z:Rat)*((d:Int):Rat)⁻¹*((u:Nat):Rat)*((v:Nat):Rat)⁻¹:=by unfold J5;have h:(((d:Nat):Rat)*((v:Nat):Rat))⁻¹=((v:Nat):Rat)⁻¹*((d:Nat):Rat)⁻¹:=Rat.inv_mul_rev _ _;have a:((d:Int):Rat)=((d:Nat):Rat):=rfl;rw[Rat.div_def,h,a];grind
section
variable {sc : Nat → Nat} {top m n : Nat} {t : TB}
theorem ytn (a:i<m):(L7 sc top m n t).D i n=J5 (t.A i n) 1 t.d (sc (t.bas.getD i 0)):=by rw[zvw];show(if i<=m/\n<=n then _ else _)=_;rw[if_pos ⟨by omega,x _⟩];unfold uc ur;rw[if_neg (Nat.lt_irrefl _),if_pos a];rfl
theorem ytm (a:j<n):(L7 sc top m n t).D m j=J5 (t.A m j) (sc (t.oth.getD j 0)) t.d top:=by rw[zvw];show(if m<=m/\j<=n then _ else _)=_;rw[if_pos ⟨x _,by omega⟩];unfold uc ur;rw[if_pos a,if_neg (Nat.lt_irrefl _)]
theorem yim (a:i<m) (b:j<n):(L7 sc top m n t).D i j=J5 (t.A i j) (sc (t.oth.getD j 0)) t.d (sc (t.bas.getD i 0)):=by rw[zvw];show(if i<=m/\j<=n then _ else _)=_;rw[if_pos ⟨by omega,by omega⟩];unfold uc ur;rw[if_pos b,if_pos a]
theorem yto:(L7 sc top m n t).D m n=J5 (t.A m n) 1 t.d top:=by rw[zvw];show(if m<=m/\n<=n then _ else _)=_;rw[if_pos ⟨x _,x _⟩];unfold uc ur;rw[if_neg (Nat.lt_irrefl _),if_neg (Nat.lt_irrefl _)];rfl
theorem yzo {z:Int} {d v:Nat}:J5 (-z) u d v= -J5 z u d v:=by rw[zvw,zvw,Rat.intCast_neg];grind
theorem ymr:K5 n 0 (fun _=>0) (fun i=>t.bas.getD i 0) (fun i=>J5 (t.A i n) 1 t.d (sc (t.bas.getD i 0))) m=zus m n (L7 sc top m n t):=by
 unfold K5 zus V6;refine List.map_congr_left fun v hv=> ?_;unfold zki;have b:C9 n (fun j=>if(L7 sc top m n t).oth j=v then(0:Rat) else 0)=0:=zmf fun j d=>(by split<;>rfl);rw[b,Nat.zero_add,U3 (f:=fun i=>if t.bas.getD i 0=v then J5 (t.A i n) 1 t.d (sc (t.bas.getD i 0)) else 0) (g:=fun i=>if(L7 sc top m n t).bas i=v then(L7 sc top m n t).D i n*1-C9 n (fun j=>(L7 sc top m n t).D i j*0) else 0) fun i c=> ?_]
 ·grind
 ·have a:C9 n (fun j=>(L7 sc top m n t).D i j*0)=0:=zmf fun j d=>Rat.mul_zero _;rw[a,ytn c];show(if t.bas.getD i 0=v then _ else _)=(if t.bas.getD i 0=v then _ else _);split
  ·grind
  ·rfl
theorem zz1392:K5 m n (fun _=>0) (fun j=>t.oth.getD j 0) (fun j=>J5 (t.A m j) (sc (t.oth.getD j 0)) t.d top) n=zxm m n (L7 sc top m n t):=by unfold K5 zxm V6 zkf;refine List.map_congr_left fun v hv=> ?_;rw[U3 (f:=fun j=>if t.oth.getD j 0=n+v then J5 (t.A m j) (sc (t.oth.getD j 0)) t.d top else 0) (g:=fun j=>if(L7 sc top m n t).oth j=n+v then(L7 sc top m n t).D m j else 0) fun j a=>by rw[ytm a];rfl];grind
theorem zz1395 {r:Nat} (hr:r<m):K5 m n (fun v=>if t.bas.getD r 0=n+v then 1 else 0) (fun j=>t.oth.getD j 0) (fun j=>J5 (t.A r j) (sc (t.oth.getD j 0)) t.d (sc (t.bas.getD r 0))) n=zxl m n (L7 sc top m n t) r:=by unfold K5 zxl V6 zkf;refine List.map_congr_left fun v hv=> ?_;rw[U3 (f:=fun j=>if t.oth.getD j 0=n+v then J5 (t.A r j) (sc (t.oth.getD j 0)) t.d (sc (t.bas.getD r 0)) else 0) (g:=fun j=>if(L7 sc top m n t).oth j=n+v then(L7 sc top m n t).D r j else 0) fun j a=>by rw[yim hr a];rfl];show(if t.bas.getD r 0=n+v then(1:Rat) else 0)+_=_+(if t.bas.getD r 0=n+v then(1:Rat) else 0);exact Rat.add_comm _ _
theorem zz1411 (hc:c<n):K5 n 0 (fun v=>if t.oth.getD c 0=0+v then 1 else 0) (fun i=>t.bas.getD i 0) (fun i=>J5 (-(t.A i c)) (sc (t.oth.getD c 0)) t.d (sc (t.bas.getD i 0))) m=zxs m n (L7 sc top m n t) c:=by
 unfold K5 zxs V6;refine List.map_congr_left fun v hv=> ?_;unfold zki;have d:C9 n (fun j=>if(L7 sc top m n t).oth j=v then(if j=c then(1:Rat) else 0) else 0)=if t.oth.getD c 0=v then 1 else 0:=(by rw[znl hc fun j f a=>by rw[if_neg a];split<;>rfl,if_pos rfl];rfl);rw[d,Nat.zero_add,U3 (f:=fun i=>if t.bas.getD i 0=v then J5 (-(t.A i c)) (sc (t.oth.getD c 0)) t.d (sc (t.bas.getD i 0)) else 0) (g:=fun i=>if(L7 sc top m n t).bas i=v then(L7 sc top m n t).D i n*0-C9 n (fun j=>(L7 sc top m n t).D i j*(if j=c then 1 else 0)) else 0) fun i e=> ?_]
 ·show(if t.oth.getD c 0=0+v then(1:Rat) else 0)+_=_+(if t.oth.getD c 0=v then(1:Rat) else 0);rw[Nat.zero_add];exact Rat.add_comm _ _
 ·have b:C9 n (fun j=>(L7 sc top m n t).D i j*(if j=c then 1 else 0))=(L7 sc top m n t).D i c:=(by rw[znl hc fun j f a=>by rw[if_neg a];exact Rat.mul_zero _,if_pos rfl];exact Rat.mul_one _);rw[b,yim e hc,yzo];show(if t.bas.getD i 0=v then _ else _)=(if t.bas.getD i 0=v then _ else _);split
  ·grind
  ·rfl
end
theorem zz1492 {w:o} {v:e} {q:Rat} (h:IsQ w (C6 w) v q):Calls Tryz.prog 67 #[v] w fun f w'=>f= .returned (.bool (!(zlh q)))/\Below w.heap.size w w':=by
 have d:=Lib.hid h;obtain⟨neg,A,p,B,r,rfl,_,_,_⟩:=G4 h;obtain⟨t,j⟩:=nm ((A9 q.num.natAbs).length);obtain⟨u,k⟩:=nm ((A9 q.den).length);rw[<-j,<-k] at d⊢;obtain⟨b,a⟩:=nm (zlh q);rw[<-a];have m:=Lib.hid a;clear h j k a;have z:=U0;obtain⟨C,s,g,l,n⟩:=J7 w #[.bool neg,.slice A t p,.slice B u r] 37;obtain⟨x,y,b2⟩:=C4 l;have B0:=Lib.hid g;clear g l n;go_in;go_wp2_with fail;clear s;refine(ycz (IsQ.stb.next d.out B0.out)).mono ?_;rw[<-m.out];rintro f D ⟨rfl,i⟩;have c:=nB B0 i;clear i;cases b
 ·go_wp2_with fail;go_ret;exact⟨rfl,c.out⟩
 ·go_wp2_with fail;go_ret;exact⟨rfl,c.out⟩
theorem yvz {w:o} {v:e} (h:IsV w (C6 w) v (C5 l)) (u:∀q∈l,zlh q=true):
 Calls Tryz.prog 145 #[v,.func (.func 67) #[] #[]] w fun j w'=>j= .returned (.int .i64 (-1))/\Below w.heap.size w w':=by
 obtain⟨i,B⟩:=C7 h u;obtain⟨A,c,rfl,I⟩:=K3 h;obtain⟨n,b⟩:=nm (l.length);rw[zrm,<-b] at i I⊢;have z:=Lib.hid b;clear h u b;have O:=U0;go_in;go_wp2_with fail;go_loopw [8,5] (fun d _ wr=>∃k:Nat,k<=n/\d= .int .i64 (k:Int)/\Below w.heap.size w wr) (fun d _ _=>n-(intOf d).toNat);case atStart=>exact⟨0,G _,rfl,Below.refl _ _⟩
 case round=>
  obtain⟨k,S,rfl,a⟩:=hrel;have g:=Lib.hid a;rcases Nat.lt_or_ge k n with r|P
  ·obtain⟨q,s,t⟩:=zrl (l:=l) (j:=k) (by rw[<-z.out];exact r);obtain⟨N,T,J,K,L,M,rfl,_,p,E,F,H⟩:=znt (IsV.stb.to i.out (E0 a)) t;obtain⟨C,y⟩:=C7 (zqj p) (B.out q (D s));have f:Hid (k+1<=n):=r;have Q:(0:Int)<=(k:Int):=og;have R:(k:Int)<(n:Int):=og;clear s t p a;go_wp2_with fail;refine(zz1492 C.out).mono ?_;rw[y.out];rintro j U ⟨rfl,m⟩;have x:=nB g m;clear m E F H;go_wp2_with fail;go_roundw;(case rel=>exact⟨k+1,f.out,by go_num,x.out⟩);case measure=>simp[intOf];have:=f.out;omega
  ·obtain rfl:k=n:=og;clear a;go_wp2_with fail;go_ret;exact⟨rfl,g.out⟩
theorem yjw {w:o} {v:e} (h:IsV w (C6 w) v (C5 l)) (c:∀q∈l,zlh q=true):
 Calls Tryz.prog 66 #[v,.func (.func 67) #[] #[]] w fun a w'=>a= .returned (.bool false)/\Below w.heap.size w w':=by obtain⟨f,g⟩:=C7 h c;clear h c;go_in;go_wp2_with fail;refine(yvz f.out g.out).mono ?_;rintro a i ⟨rfl,b⟩;have d:=Lib.hid b;clear b;go_wp2_with fail;go_ret;exact⟨rfl,d.out⟩
structure FineP (p:ProgQ) (N M:Nat):Prop where
 good:Good p 1024
 n0:0<N
 m0:0<M
 fA:∀row∈p.A,∀q∈row,q.den∣N/\q.num.natAbs<=M
 fB:∀q∈p.B,q.den∣N/\q.num.natAbs<=M
 fC:∀q∈p.C,q.den∣N/\q.num.natAbs<=M
def SmQ (q:Rat):Prop:=Sz q 3/\q.den∣2/\q.num.natAbs<=8
theorem yyp {a:Int} (ha:a.natAbs<=8) (d:b=1\/b=2):(mkRat a b).den∣2/\(mkRat a b).num.natAbs<=8:=by
 have c:(mkRat a b).den∣b:=by
  have:=Rat.den_mkRat a b;rw[this];split
  ·exact Nat.one_dvd b
  ·exact Nat.div_dvd_of_dvd (Nat.gcd_dvd_left _ _)
 have e:(mkRat a b).num.natAbs<=a.natAbs:=by
  rw[Rat.num_mkRat];split
  ·simp
  ·exact Int.natAbs_ediv_le_natAbs _ _
 refine⟨?_,by omega⟩;rcases d with rfl|rfl
 ·exact Nat.dvd_trans c (by decide)
 ·exact c
theorem yvc {p:ProgQ} (h:Good p 1024) (b:∀row∈p.A,∀q∈row,SmQ q) (c:∀q∈p.B,SmQ q) (d:∀q∈p.C,SmQ q):FineP p 2 8:=
 ⟨h,by omega,by omega,fun r hr q a=>(b r hr q a).2,fun q a=>(c q a).2,fun q a=>(d q a).2⟩
theorem yjf {N:Nat}:∀(l:List Rat) (a:Nat),a∣N->(∀q∈l,q.den∣N)->l.foldl (fun a q=>Nat.lcm a q.den) a∣N
 |[],a,b,_=>b
 |q::l,a,b,h=>yjf l _ (Nat.lcm_dvd b (h q (by simp))) fun r hr=>h r (by simp[hr])
theorem ydu {N:Nat} (h:∀q∈l,q.den∣N):zld l∣N:=yjf l 1 (Nat.one_dvd N) h
theorem ylb {N M:Nat} {x:Rat} (a:0<N) (h:∀q∈l,q.den∣N) (b:x.num.natAbs<=M):(x.num*((zld l/x.den:Nat):Int)).natAbs<=M*N:=by rw[Int.natAbs_mul,Int.natAbs_natCast];exact Nat.mul_le_mul b (y (Nat.div_le_self _ _) (Nat.le_of_dvd a (ydu h)))
def zmi (m n:Nat):List Nat:=(List.range m).map fun i=>n+i
theorem zwo (m n:Nat):(zmi m n).length=m:=by unfold zmi;simp
theorem yrd {m n:Nat} (a:i<m):(zmi m n).getD i 0=n+i:=by unfold zmi;rw[w,h,List.getElem?_range a];rfl
theorem yzy {n:Nat} (a:j<n):(List.range n).getD j 0=j:=by rw[w,List.getElem?_range a];rfl
theorem yyk (h:j<l.length):l.getD j 0∈l:=by rw[w,B h];exact List.getElem_mem h
def newP (p:ProgQ):TB:=zpt p.A p.B p.C 0 (zmi p.B.length p.C.length) (List.range p.C.length) p.B.length p.C.length
def zkd (p:ProgQ):Nat->Nat:=zoo p.A p.B (zmi p.B.length p.C.length) p.B.length
def zkz (p:ProgQ):Nat:=zmg p.C 0
section
variable {p : ProgQ} {N M : Nat}
theorem yzj (m n:Nat):(zmi m n++List.range n).Nodup:=zzz fun i j b c a=>by
 have d:(List.range n).length=n:=by simp
 rw[List.length_append,zwo,d] at b c
 have key:∀k,k<m+n->(zmi m n++List.range n).getD k 0=if k<m then n+k else k-m:=fun k e=>by
  rw[w,List.getElem?_append,zwo]
  split
  ·rename_i h;rw[<-w];exact yrd h
  ·rename_i h;rw[<-w];exact yzy og
 rw[key i b,key j c] at a
 split at a<;>split at a<;>omega
theorem FineP.row (h:FineP p N M) (a:i<p.B.length):∃r,p.A[i]? =some r/\p.A.getD i []=r/\r∈p.A/\r.length=p.C.length:=by have hr:p.A[i]? =some (p.A.getD i []):=(by rw[w,B (by have:=h.good.rows;omega)];rfl);exact⟨_,hr,rfl,D hr,h.good.cols _ (D hr)⟩
theorem FineP.wide (h:FineP p N M) (b:i<p.B.length):∀q∈p.A.getD i []++[p.B.getD i 0],q.den∣N/\q.num.natAbs<=M:=fun q a=>by
 obtain⟨r,hr,c,d,e⟩:=h.row b
 rw[c] at a
 rcases List.mem_append.1 a with a|a
 ·exact h.fA r d q a
 ·rw[List.mem_singleton] at a
  subst a
  exact h.fB _ (yyk b)
theorem FineP.cost (h:FineP p N M):∀q∈p.C++[0],q.den∣N/\q.num.natAbs<=M:=fun q a=>by
 rcases List.mem_append.1 a with a|a
 ·exact h.fC q a
 ·rw[List.mem_singleton] at a
  subst a
  exact⟨Nat.one_dvd N,G _⟩
theorem FineP.small (h:FineP p N M):∀i j,i<=p.B.length->j<=p.C.length->((newP p).A i j).natAbs<=M*N:=fun i j l b=>by
 have e:∀j,j<=p.C.length->(zms [p.C++[0]] 0 j).natAbs<=M*N:=fun j b=>by
  have c:j<(p.C++[(0:Rat)]).length:=by simp;omega
  rw[zuo (M:=[p.C++[0]]) (i:=0) rfl (B c)]
  exact ylb h.n0 (fun q d=>(h.cost q d).1) (h.cost _ (List.getElem_mem c)).2
 show(if i<p.B.length then zms (zwk p.A p.B p.B.length) i j else if j<p.C.length then -(zms [p.C++[0]] 0 j) else zms [p.C++[0]] 0 j:Int).natAbs<=_
 split
 ·rename_i a
  obtain⟨r,hr,g,m,c⟩:=h.row a
  have k:=yfx (b:=p.B) (n:=p.B.length) (m:=p.C.length) a hr
  have f:j<(r++[p.B.getD i 0]).length:=by simp;omega
  rw[zuo k (B f)]
  have hd:=h.wide a
  rw[g] at hd
  exact ylb h.n0 (fun q d=>(hd q d).1) (hd _ (List.getElem_mem f)).2
 ·split
  ·rw[Int.natAbs_neg];exact e j b
  ·exact e j b
theorem FineP.inv (h:FineP p N M):TInv (M*N) p.B.length p.C.length (newP p):=
 zz1461 rfl (zwo _ _) (by show(List.range _).length=_;simp) (yzj _ _) (fun v hv=>by
  rcases List.mem_append.1 hv with hv|hv
  ·unfold newP zpt zmi at hv
   obtain⟨i,a,rfl⟩:=List.mem_map.1 hv
   have:=List.mem_range.1 a
   omega
  ·have:v∈List.range p.C.length:=hv
   have:=List.mem_range.1 this
   omega) (Nat.mul_pos h.m0 h.n0) h.small
theorem FineP.ok (h:FineP p N M):OkT (M*N) p.B.length p.C.length (zkd p) (zkz p) (W4 p.B.length p.C.length (aF p.A) (lF p.B) (lF p.C)) (newP p) where
 inv:=h.inv
 eqv:=yze h.good.rows rfl h.good.cols rfl rfl rfl
theorem ynr {bas:List Nat} {f:Nat->Nat} {N:Nat} (a:0<N):∀k,(∀i,i<k->f i<=N)->∀v,zox bas f k v<=N
 |0,_,_=>a
 |k+1,h,v=>by
  rw[zox]
  split
  ·exact h k og
  ·exact ynr a k (fun i b=>h i og) v
theorem FineP.sc_le (h:FineP p N M) (v:Nat):zkd p v<=N:=ynr h.n0 _ (fun i a=>Nat.le_of_dvd h.n0 (ydu fun q b=>(h.wide a q b).1)) v
theorem FineP.top_le (h:FineP p N M):zkz p<=N:=Nat.le_of_dvd h.n0 (ydu fun q a=>(h.cost q a).1)
theorem FineP.sc0 (h:FineP p N M) (v:Nat):0<zkd p v:=zz1447 _ _ _ _ _
theorem FineP.top0 (h:FineP p N M):0<zkz p:=ypb _ _
theorem FineP.scok (h:FineP p N M) (a:(A9 N).length<=100000):ScOk (zkd p) (zkz p):=
 ⟨fun v=>y (Y5 (h.sc_le v)) a,h.sc0,y (Y5 h.top_le) a,h.top0⟩
end
theorem yyq {z:Int} {d k:Nat} (b:z.natAbs<=K) (c:d<=K) (a:(A9 K).length<=k) (f:1<=k):Sz (mkRat z d) k:=by
 by_cases hd:d=0
 ·subst hd;rw[Rat.mkRat_zero];exact⟨by show(A9 0).length<=k;rw[O7];simp,by show(A9 1).length<=k;rw[zkv];exact f⟩
 ·have g:(mkRat z d).num=z/(d.gcd z.natAbs:Int):=(by rw[Rat.num_mkRat,if_neg hd]);have e:(mkRat z d).den=d/d.gcd z.natAbs:=(by rw[Rat.den_mkRat];simp[hd]);refine⟨y (Y5 ?_) a,y (Y5 ?_) a⟩
  ·rw[g];exact y (Int.natAbs_ediv_le_natAbs _ _) b
  ·rw[e];exact y (Nat.div_le_self _ _) c
theorem yls {z:Int} {d v N k:Nat} (e:z.natAbs<=K) (c:u<=N) (hd:d<=K) (hv:v<=N) (b:(A9 (K*N)).length<=k) (a:1<=k):Sz (J5 z u d v) k:=by rw[ylr];refine yyq ?_ (Nat.mul_le_mul hd hv) b a;unfold sg;have:=Nat.mul_le_mul e c;split<;>omega
theorem ylz {k:Nat} (a:1<=k):Sz (1:Rat) k:=⟨by show(A9 1).length<=k;rw[zkv];exact a,by show(A9 1).length<=k;rw[zkv];exact a⟩
theorem zsr {k:Nat} (a:1<=k):Sz (0:Rat) k:=⟨by show(A9 0).length<=k;rw[O7];simp,by show(A9 1).length<=k;rw[zkv];exact a⟩
theorem zxw {f off k:Nat} {b:Nat->Rat} {key:Nat->Nat} {X:Nat->Rat} (l:∀i j,i<k->j<k->key i=key j->i=j) {q:Rat} (h:q∈K5 f off b key X k):(∃v,q=b v)\/∃i v,i<k/\key i=off+v/\q=b v+X i:=by
 unfold K5 at h;obtain⟨v,hv,rfl⟩:=ybk h;by_cases e:∃i,i<k/\key i=off+v
 ·obtain⟨i,a,d⟩:=e;refine .inr ⟨i,v,a,d,?_⟩;rw[znl a fun j g m=>by rw[if_neg fun c=>m (l j i g a (c.trans d.symm))],if_pos d]
 ·refine .inl ⟨v,?_⟩;rw[zmf fun i a=>by rw[if_neg fun c=>e ⟨i,a,c⟩]];exact Rat.add_zero _
def zph (p:ProgQ) (k:Nat) (s:Sol):Prop:=
 (∃X Y v,s=⟨1,E9 v,C5 X,C5 Y,[]⟩/\CertOpt p.A p.B p.C X Y v/\Sz v k/\(∀q∈X,Sz q k)/\∀q∈Y,Sz q k)\/
 (∃Y,s=⟨2,E9 0,[],C5 Y,[]⟩/\CertNone p.A p.B p.C Y/\∀q∈Y,Sz q k)\/
 ∃X Z,s=⟨3,E9 0,C5 X,[],C5 Z⟩/\CertRay p.A p.B p.C X Z/\(∀q∈X,Sz q k)/\∀q∈Z,Sz q k
section
variable {p : ProgQ} {N M k : Nat} {t : TB} {H : Dic}
theorem ycg {m n:Nat} (h:TInv M m n t):∀i j,i<m->j<m->t.bas.getD i 0=t.bas.getD j 0->i=j:=fun i j c d a=>by
 have b:=h.bl
 exact zqm (List.nodup_append.1 h.dist).1 og og a
theorem ymf {m n:Nat} (h:TInv M m n t):∀i j,i<n->j<n->t.oth.getD i 0=t.oth.getD j 0->i=j:=fun i j c d a=>by
 have b:=h.ol
 exact zqm (List.nodup_append.1 h.dist).2.1 og og a
theorem yhe {m n:Nat} (h:TInv M m n t) (b:i<m) (c:j<n):t.bas.getD i 0≠t.oth.getD j 0:=by have a:=h.bl;have d:=h.ol;exact(List.nodup_append.1 h.dist).2.2 _ (zkp og) _ (zkp og)
theorem yei {m n:Nat} {sc:Nat->Nat} {top:Nat} (hI:TInv M m n t) (g:K=M4 M (m+1)) (l:∀v,sc v<=N) (o:top<=N) (h:0<N) (e:(A9 (K*N)).length<=k) (a:1<=k) {d:Nat} (b:i<=m) (c:j<=n) (f:u<=N) (hd:d<=N):Sz (J5 (t.A i j) u t.d d) k/\Sz (J5 (-(t.A i j)) u t.d d) k:=by subst g;refine⟨yls (hI.small.2 i j b c) f hI.small.1 hd e a,yls ?_ f hI.small.1 hd e a⟩;rw[Int.natAbs_neg];exact hI.small.2 i j b c
theorem yqw (h:FineP p N M) (m:(A9 (M4 (M*N) (p.B.length+1)*N)).length<=k) (b:1<=k) (a:OkT (M*N) p.B.length p.C.length (zkd p) (zkz p) (W4 p.B.length p.C.length (aF p.A) (lF p.B) (lF p.C)) t) (f:∀i,i<p.B.length->0<=t.A i p.C.length) (g:zmb p.B.length p.C.length t=none):
 zph p k ⟨1,E9 (J5 (t.A p.B.length p.C.length) 1 t.d (zkz p)),C5 (K5 p.C.length 0 (fun _=>0) (fun i=>t.bas.getD i 0) (fun i=>J5 (t.A i p.C.length) 1 t.d (zkd p (t.bas.getD i 0))) p.B.length),C5 (K5 p.B.length p.C.length (fun _=>0) (fun j=>t.oth.getD j 0) (fun j=>J5 (t.A p.B.length j) (zkd p (t.oth.getD j 0)) t.d (zkz p)) p.C.length),[]⟩:=by
 have hc:=yuj h.sc0 h.top0 h.good.rows rfl rfl h.good.cols a f g;have e:=fun {i j u d:Nat}=>yei a.inv rfl h.sc_le h.top_le h.n0 m b (i:=i) (j:=j) (u:=u) (d:=d);rw[<-ymr,<-zz1392,yto] at hc;refine .inl ⟨_,_,_,rfl,hc,(e (x _) (x _) h.n0 h.top_le).1,fun q c=> ?_,fun q c=> ?_⟩
 ·rcases zxw (ycg a.inv) c with⟨v,rfl⟩|⟨i,v,l,_,rfl⟩
  ·exact zsr b
  ·rw[Rat.zero_add];exact(e og (x _) h.n0 (h.sc_le _)).1
 ·rcases zxw (ymf a.inv) c with⟨v,rfl⟩|⟨i,v,l,_,rfl⟩
  ·exact zsr b
  ·rw[Rat.zero_add];exact(e (x _) og (h.sc_le _) h.top_le).1
theorem yqv (h:FineP p N M) (l:(A9 (M4 (M*N) (p.B.length+1)*N)).length<=k) (b:1<=k) (a:OkT (M*N) p.B.length p.C.length (zkd p) (zkz p) (W4 p.B.length p.C.length (aF p.A) (lF p.B) (lF p.C)) t) {r:Nat} (c:zov p.B.length p.C.length t=some r) (f:zpo p.C.length t r=none):
 zph p k ⟨2,E9 0,[],C5 (K5 p.B.length p.C.length (fun v=>if t.bas.getD r 0=p.C.length+v then 1 else 0) (fun j=>t.oth.getD j 0) (fun j=>J5 (t.A r j) (zkd p (t.oth.getD j 0)) t.d (zkd p (t.bas.getD r 0))) p.C.length),[]⟩:=by
 have hc:=yui h.sc0 h.top0 h.good.rows rfl rfl a c f;have hr:=(znc c).1;have n:=fun {i j u d:Nat}=>yei a.inv rfl h.sc_le h.top_le h.n0 l b (i:=i) (j:=j) (u:=u) (d:=d);rw[<-zz1395 hr] at hc;refine .inr (.inl ⟨_,rfl,hc,fun q m=> ?_⟩);rcases zxw (ymf a.inv) m with⟨v,rfl⟩|⟨i,v,g,hv,rfl⟩
 ·split
  ·exact ylz b
  ·exact zsr b
 ·rw[if_neg fun e=>yhe a.inv hr g (e.trans hv.symm),Rat.zero_add];exact(n og og (h.sc_le _) (h.sc_le _)).1
theorem yqx (h:FineP p N M) (r:(A9 (M4 (M*N) (p.B.length+1)*N)).length<=k) (b:1<=k) (a:OkT (M*N) p.B.length p.C.length (zkd p) (zkz p) (W4 p.B.length p.C.length (aF p.A) (lF p.B) (lF p.C)) t) (o:∀i,i<p.B.length->0<=t.A i p.C.length) (g:zmb p.B.length p.C.length t=some c) (s:znv p.B.length p.C.length t c=none):
 zph p k ⟨3,E9 0,C5 (K5 p.C.length 0 (fun _=>0) (fun i=>t.bas.getD i 0) (fun i=>J5 (t.A i p.C.length) 1 t.d (zkd p (t.bas.getD i 0))) p.B.length),[],C5 (K5 p.C.length 0 (fun v=>if t.oth.getD c 0=0+v then 1 else 0) (fun i=>t.bas.getD i 0) (fun i=>J5 (-(t.A i c)) (zkd p (t.oth.getD c 0)) t.d (zkd p (t.bas.getD i 0))) p.B.length)⟩:=by
 have hc:=yuk h.sc0 h.top0 h.good.rows rfl rfl h.good.cols a o g s;have f:=(znc g).1;have m:=fun {i j u d:Nat}=>yei a.inv rfl h.sc_le h.top_le h.n0 r b (i:=i) (j:=j) (u:=u) (d:=d);rw[<-ymr,<-zz1411 f] at hc;refine .inr (.inr ⟨_,_,rfl,hc,fun q e=> ?_,fun q e=> ?_⟩)
 ·rcases zxw (ycg a.inv) e with⟨v,rfl⟩|⟨i,v,l,_,rfl⟩
  ·exact zsr b
  ·rw[Rat.zero_add];exact(m og (x _) h.n0 (h.sc_le _)).1
 ·rcases zxw (ycg a.inv) e with⟨v,rfl⟩|⟨i,v,l,hv,rfl⟩
  ·split
   ·exact ylz b
   ·exact zsr b
  ·rw[if_neg fun n=>yhe a.inv l f (hv.trans n.symm),Rat.zero_add];exact(m og og (h.sc_le _) (h.sc_le _)).2
theorem zux {q:Rat} {k:Nat} (h:Sz q k) (a:k<=1024):zlh q=true:=by unfold zlh;rw[decide_eq_true_eq];exact⟨y h.1 a,y h.2 a⟩
end
abbrev zlk (st:Int) (v:Rat) (X D R:List Rat):Sol:=⟨st,E9 v,C5 X,C5 D,C5 R⟩
def V9 (q:ProgQ) (st:Int) (v:Rat) (X D R:List Rat):Bool:=
 if st=1 then znj (J6 q) (zlk st v X D R)&&zse q X D&&zrj q X D v
 else if st=2 then znf (J6 q) (zlk st v X D R)&&zsy q D&&zsx q D
 else znm (J6 q) (zlk st v X D R)&&ztk q X R&&zuy q R
theorem zvo (q:ProgQ):(J6 q).B.length=q.B.length/\(J6 q).C.length=q.C.length:=⟨by show(C5 q.B).length=_;rw[zkr],by show(C5 q.C).length=_;rw[zkr]⟩
theorem zth {n:Nat} (h:M8 (C5 l) n=true):l.length=n:=by unfold M8 at h;rw[d,decide_eq_true_eq] at h;rw[<-h.1,zkr]
theorem ztr {w:o} {vp vs:e} {q:ProgQ} {st:Int} {v:Rat} {X D R:List Rat} (k:IsP w (C6 w) vp (J6 q)) (l:IsSol w (C6 w) vs (zlk st v X D R)) (f:Bru w) (g:Good q 1024) (hst:st=1\/st=2\/st=3) (n:∀x∈X,Sz x 1024) (hD:∀x∈D,Sz x 1024) (r:∀x∈R,Sz x 1024) (hv:Sz v 1024):
 Calls Tryz.prog 45 #[vp,vs] w fun c w'=>c= .returned (.tuple #[.bool (V9 q st v X D R),.int .i64 0])/\Below w.heap.size w w':=by
 have j:=zvo q;rcases hst with h|h|h
 ·refine ygu k l f (zty g) h fun p i m b=> ?_;have c:V9 q st v X D R=(znj (J6 q) (zlk st v X D R)&&zse q X D&&zrj q X D v):=(by unfold V9;rw[if_pos h]);rw[c];refine ymd (i.to (E0 b)) (Bru.next f b) fun a=>⟨q,X,D,v,⟨rfl,g,rfl,rfl,rfl,?_,?_,n,hD,hv⟩,rfl,rfl⟩
  ·unfold znj at a;simp only[d] at a;rw[zth a.1.1.1,j.2]
  ·unfold znj at a;simp only[d] at a;rw[zth a.1.1.2,j.1]
 ·refine yqg k l f (zty g) h fun p i m b=> ?_;have c:V9 q st v X D R=(znf (J6 q) (zlk st v X D R)&&zsy q D&&zsx q D):=(by unfold V9;rw[if_neg og,if_pos h]);rw[c];refine ywd (i.to (E0 b)) (Bru.next f b) fun a=>⟨q,D,⟨rfl,g,rfl,?_,hD⟩,rfl,rfl⟩;unfold znf at a;simp only[d] at a;rw[zth a.1.1.1,j.1]
 ·refine yqh k l f (zty g) h fun p i m b=> ?_;have c:V9 q st v X D R=(znm (J6 q) (zlk st v X D R)&&ztk q X R&&zuy q R):=(by unfold V9;rw[if_neg og,if_neg og]);rw[c];refine zz1503 (i.to (E0 b)) (Bru.next f b) fun a=>⟨q,X,R,⟨rfl,g,rfl,rfl,?_,?_,n,r⟩,rfl,rfl⟩
  ·unfold znm at a;simp only[d] at a;rw[zth a.1.1.1,j.2]
  ·unfold znm at a;simp only[d] at a;rw[zth a.1.1.2,j.2]
section
variable {q : ProgQ} {X Y R : List Rat} {v f : Rat}
theorem yeg (l:List Rat):(zlz (C5 l)=false)↔∀x∈l,0<=x:=by
 rw[yra,List.any_eq_false];constructor
 ·intro h x a;have:=h x a;rw[decide_eq_true_eq] at this;exact Rat.not_lt.1 this
 ·intro h x a;rw[decide_eq_true_eq];exact Rat.not_lt.2 (h x a)
theorem ycy (j:Good q 1024) (k:X.length=q.C.length):zlg q.A q.B X=true↔Feas q.A q.B q.C.length X:=by
 unfold zlg;rw[d,Bool.not_eq_true',yeg,List.all_eq_true];constructor
 ·rintro⟨c,b⟩;refine⟨k,b,fun i r hr=> ?_⟩;have e:=(List.getElem?_eq_some_iff.1 hr).1;have h:q.B[i]? =some (q.B.getD i 0):=(by rw[w,B (by have:=j.rows;omega)];rfl);have a:(q.A.zip q.B)[i]? =some (r,q.B.getD i 0):=(by rw[List.getElem?_zip_eq_some];exact⟨hr,h⟩);have:=c _ (D a);exact of_decide_eq_true this
 ·rintro⟨c,b,g⟩;refine⟨fun p l=> ?_,b⟩;obtain⟨i,e,f⟩:=List.getElem_of_mem l;have a:(q.A.zip q.B)[i]? =some p:=(by rw[B e,f]);rw[List.getElem?_zip_eq_some] at a;have:=g i p.1 a.1;rw[w,a.2] at this;exact decide_eq_true this
theorem yie (A:List (List Rat)) (Y:List Rat) (k:Nat) (d:Y.length=A.length):K9 (zkh A k) Y=zqg A Y k:=by have b:(zkh A k).length=A.length:=(by unfold zkh;simp);rw[zub (zkh A k) Y og,b];unfold zqg;refine U3 fun i c=> ?_;have a:(zkh A k).getD i 0=(A.getD i []).getD k 0:=(by unfold zkh;rw[w,h,w (l:=A),B c];rfl);rw[a]
theorem yop (f:Good q 1024) {C:List Rat} (c:Y.length=q.B.length):zme q.A C Y=true↔Mult q.A q.B C.length (fun k=>C.getD k 0) Y:=by
 unfold zme;rw[d,Bool.not_eq_true',yeg,List.all_eq_true];constructor
 ·rintro⟨e,a⟩;refine⟨c,a,fun k b=> ?_⟩;have:=of_decide_eq_true (e k (List.mem_range.2 b));rwa[yie _ _ _ (by rw[c,f.rows])] at this
 ·rintro⟨e,a,g⟩;refine⟨fun k b=> ?_,a⟩;rw[decide_eq_true_eq,yie _ _ _ (by rw[c,f.rows])];exact g k (List.mem_range.1 b)
theorem zz1525 (n k:Nat):(zod n).getD k 0=0:=by unfold zod;rw[w,List.getElem?_replicate];split<;>rfl
theorem ywe (c:Good q 1024) (d:Y.length=q.B.length):zsy q Y=true↔Mult q.A q.B q.C.length (fun _=>0) Y:=by unfold zsy;rw[yop c d];have a:(fun k=>(zod q.C.length).getD k 0)=fun _=>(0:Rat):=funext fun k=>zz1525 _ k;have b:(zod q.C.length).length=q.C.length:=(by unfold zod;simp);rw[a,b]
end
theorem ylj {f:Rat} (hf:0<f) (h:∀x∈l,0<=x):∀x∈l.map (·*f),0<=x:=fun x a=>by
 obtain⟨y,b,rfl⟩:=List.mem_map.1 a
 exact Rat.mul_nonneg (h y b) (Rat.le_of_lt hf)
theorem yjp (l:List Rat) (f:Rat) (k:Nat):(l.map (·*f)).getD k 0=l.getD k 0*f:=by
 rw[w,w,h];cases l[k]? with
 |none=>show(0:Rat)=0*f;grind
 |some x=>rfl
theorem ycu {a:List Rat} (h:a.length=l.length) (f:Rat):K9 a (l.map (·*f))=K9 a l*f:=by rw[zub a (l.map (·*f)) (by rw[E];exact h),zub a l h];have:(C9 a.length fun i=>a.getD i 0*l.getD i 0)*f=f*C9 a.length fun i=>a.getD i 0*l.getD i 0:=Rat.mul_comm _ _;rw[this,<-zpa];exact U3 fun i b=>by rw[yjp];grind
theorem yst (A:List (List Rat)) (Y:List Rat) (f:Rat) (k:Nat):zqg A (Y.map (·*f)) k=f*zqg A Y k:=by unfold zqg;rw[<-zpa];exact U3 fun i a=>by rw[yjp];grind
theorem CertNone.mul {A:List (List Rat)} {b c Y:List Rat} {f:Rat} (h:CertNone A b c Y) (hf:0<f):CertNone A b c (Y.map (·*f)) where
 y:=⟨by rw[E];exact h.y.len,ylj hf h.y.nn,fun k a=>by
  rw[yst]
  exact Rat.mul_nonneg (Rat.le_of_lt hf) (h.y.ge k a)⟩
 vy:=by rw[ycu h.y.len.symm];have:=Rat.mul_pos (show(0:Rat)< -(K9 b Y) by have:=h.vy;grind) hf;grind
theorem CertRay.mul {A:List (List Rat)} {b c X Z:List Rat} {f:Rat} (h:CertRay A b c X Z) (a:∀r∈A,r.length=c.length) (hf:0<f):CertRay A b c X (Z.map (·*f)) where
 x:=h.x
 z:=⟨by rw[E];exact h.z.len,ylj hf h.z.nn,fun r hr=>by
  rw[ycu ((a r hr).trans h.z.len.symm)]
  have:=Rat.mul_nonneg (show(0:Rat)<=-(K9 r Z) by have:=h.z.le r hr;grind) (Rat.le_of_lt hf)
  grind⟩
 up:=by rw[ycu h.z.len.symm];exact Rat.mul_pos h.up hf
section
variable {q : ProgQ} {X Y Z : List Rat} {v f : Rat}
theorem zxo {n:Nat} (h:l.length=n) (a:n<=40) (b:∀x∈l,Sz x 1024):M8 (C5 l) n=true:=yeu h a b
theorem yqe (a:Good q 1024) (h:CertOpt q.A q.B q.C X Y v) (g:∀x∈X,Sz x 1024) (i:∀x∈Y,Sz x 1024) (hv:Sz v 1024):V9 q 1 v X Y []=true:=by have b:=zvo q;unfold V9;rw[if_pos rfl];have c:znj (J6 q) (zlk 1 v X Y [])=true:=(by unfold znj;simp only[d,decide_eq_true_eq];exact⟨⟨⟨by rw[b.2];exact zxo h.x.len a.nC g,by rw[b.1];exact zxo h.y.len a.nB i⟩,rfl⟩,zwr hv⟩);have e:zse q X Y=true:=(by unfold zse;rw[d];exact⟨(ycy a h.x.len).2 h.x,(yop a h.y.len).2 h.y⟩);have f:zrj q X Y v=true:=(by unfold zrj;rw[d,decide_eq_true_eq,decide_eq_true_eq];exact⟨h.vx,h.vy⟩);rw[c,e,f];rfl
theorem ygq (a:Good q 1024) (h:CertNone q.A q.B q.C Y) (f:∀x∈Y,Sz x 1024):V9 q 2 0 [] Y []=true:=by have g:=zvo q;unfold V9;rw[if_neg (by decide),if_pos rfl];have b:znf (J6 q) (zlk 2 0 [] Y [])=true:=(by unfold znf zlr;simp only[d,decide_eq_true_eq];exact⟨⟨⟨by rw[g.1];exact zxo h.y.len a.nB f,rfl⟩,rfl⟩,trivial⟩);have c:zsy q Y=true:=(ywe a h.y.len).2 h.y;have e:zsx q Y=true:=(by unfold zsx;rw[yab];exact decide_eq_true h.vy);rw[b,c,e];rfl
theorem ygr (a:Good q 1024) (h:CertRay q.A q.B q.C X Z) (k:∀x∈X,Sz x 1024) (l:∀x∈Z,Sz x 1024):V9 q 3 0 X [] Z=true:=by have b:=zvo q;unfold V9;rw[if_neg (by decide),if_neg (by decide)];have c:znm (J6 q) (zlk 3 0 X [] Z)=true:=(by unfold znm zlr;simp only[d,decide_eq_true_eq];exact⟨⟨⟨by rw[b.2];exact zxo h.x.len a.nC k,by rw[b.2];exact zxo h.z.len a.nC l⟩,rfl⟩,trivial⟩);have e:ztk q X Z=true:=(by unfold ztk;rw[d];refine⟨?_,(ycy a h.x.len).2 h.x⟩;unfold zlg;rw[d,Bool.not_eq_true',yeg,List.all_eq_true];refine⟨fun p m=> ?_,h.z.nn⟩;obtain⟨g,i⟩:=List.of_mem_zip (a:=p.1) (b:=p.2) m;have j:p.2=0:=List.eq_of_mem_replicate i;rw[j];exact decide_eq_true (h.z.le _ g));have f:zuy q Z=true:=decide_eq_true h.up;rw[c,e,f];rfl
theorem yqf (h:CertOpt q.A q.B q.C X Y v) (hf:0<f):V9 q 1 (v+f) X Y []=false:=by unfold V9;rw[if_pos rfl];have a:zrj q X Y (v+f)=false:=(by unfold zrj;rw[Bool.and_eq_false_iff];exact .inl (decide_eq_false (by rw[h.vx];grind)));rw[a,Bool.and_false]
theorem ylq (D R:List Rat) (hf:0<f):V9 q 2 (0+f) [] D R=false/\V9 q 3 (0+f) X D R=false:=by have a:zlr (E9 (0+f))=false:=(by unfold zlr;refine decide_eq_false fun b=> ?_;have:=zti b;grind);unfold V9;rw[if_neg (by decide),if_pos rfl,if_neg (by decide),if_neg (by decide)];(have c:znf (J6 q) (zlk 2 (0+f) [] D R)=false:=by unfold znf;show(_&&zlr (E9 (0+f)))=false;rw[a,Bool.and_false]);(have d:znm (J6 q) (zlk 3 (0+f) X D R)=false:=by unfold znm;show(_&&zlr (E9 (0+f)))=false;rw[a,Bool.and_false]);rw[c,d];exact⟨rfl,rfl⟩
theorem zzc (l:List Rat):K9 l []=0:=by unfold K9;simp[zky]
theorem zxc (h:(C5 l).length=0):l=[]:=List.eq_nil_of_length_eq_zero (by rw[<-zkr l];exact h)
theorem ygn {D R:List Rat} (h:V9 q 1 v X D R=true):D.length=q.B.length/\R=[]/\X.length=q.C.length/\zlg q.A q.B X=true:=by have a:=zvo q;unfold V9 at h;rw[if_pos rfl] at h;unfold znj zse at h;simp only[d,decide_eq_true_eq] at h;exact⟨by rw[<-a.1];exact zth h.1.1.1.1.2,zxc h.1.1.1.2,by rw[<-a.2];exact zth h.1.1.1.1.1,h.1.2.1⟩
theorem ygo {D R:List Rat} (h:V9 q 2 v X D R=true):X=[]/\R=[]/\K9 q.B D<0:=by unfold V9 at h;rw[if_neg (by decide),if_pos rfl] at h;unfold znf zsx at h;simp only[d,decide_eq_true_eq] at h;exact⟨zxc h.1.1.1.1.2,zxc h.1.1.1.2,of_decide_eq_true ((yab _).symm.trans (decide_eq_true h.2))⟩
theorem ygp {D R:List Rat} (h:V9 q 3 v X D R=true):D=[]/\R.length=q.C.length/\0<K9 q.C R:=by have a:=zvo q;unfold V9 at h;rw[if_neg (by decide),if_neg (by decide)] at h;unfold znm zuy at h;simp only[d,decide_eq_true_eq] at h;exact⟨zxc h.1.1.1.2,by rw[<-a.2];exact zth h.1.1.1.1.2,h.2⟩
theorem rawV_inj':∀{l m:List Rat},C5 l=C5 m->l=m
 |[],[],_=>rfl
 |[],y::m,h=>by cases h
 |x::l,[],h=>by cases h
 |x::l,y::m,h=>by
  have h:E9 x::C5 l=E9 y::C5 m:=h
  injection h with a b
  rw[zti a,rawV_inj' b]
theorem ygt (n:Good q 1024) {k:Nat} {s:Sol} (ha:zph q k s) {v:Rat} {p D R:List Rat} (o:s=zlk s.st v p D R) {st:Int} (x:1<=st) (y:st<=3) (h:V9 q st v X D R=true):st=s.st:=by
 have hst:st=1\/st=2\/st=3:=og;have inj:∀{l m:List Rat},C5 l=C5 m->l=m:=fun {l m} e=>rawV_inj' e;rcases ha with⟨r,t,z,e,c,_⟩|⟨t,e,c,_⟩|⟨r,w,e,c,_⟩
 ·have f:s.st=1:=(by rw[e]);rw[o] at e;simp only[Sol.mk.injEq] at e;have j:=inj e.2.2.2.1;have g:R=[]:=zxc (by rw[e.2.2.2.2];rfl);have u:=zti e.2.1;rw[f];rcases hst with rfl|rfl|rfl
  ·rfl
  ·have⟨_,_,a⟩:=ygo h;rw[j,c.vy,<-u] at a;unfold V9 at h;rw[if_neg (by decide),if_pos rfl] at h;unfold znf zlr at h;simp only[d,decide_eq_true_eq] at h;have:=zti h.1.1.2;rw[this] at a;exact absurd a (by decide)
  ·have⟨_,_,a⟩:=ygp h;rw[g,zzc] at a;exact absurd a (by decide)
 ·have f:s.st=2:=(by rw[e]);rw[o] at e;simp only[Sol.mk.injEq] at e;have j:=inj e.2.2.2.1;rw[f];rcases hst with rfl|rfl|rfl
  ·have⟨_,_,a,b⟩:=ygn h;exact(c.no n.rows n.cols ((ycy n a).1 b)).elim
  ·rfl
  ·have⟨a,_,_⟩:=ygp h;have:=c.vy;rw[<-j,a,zzc] at this;exact absurd this (by decide)
 ·have f:s.st=3:=(by rw[e]);rw[o] at e;simp only[Sol.mk.injEq] at e;have g:=inj e.2.2.2.2;have i:=c.up;rw[f];rcases hst with rfl|rfl|rfl
  ·have⟨_,a,_⟩:=ygn h;rw[<-g,a,zzc] at i;exact absurd i (by decide)
  ·have⟨_,a,_⟩:=ygo h;rw[<-g,a,zzc] at i;exact absurd i (by decide)
  ·rfl
end
theorem ymi {v:e} {n0:Nat} (h:v.ownBlock=a.ownBlock\/∃b,v.ownBlock=some b/\n0<=b) (g:b<n0) (f:a.ownBlock≠some b):v.ownBlock≠some b:=by
 rcases h with h|⟨c,h,hc⟩
 ·rw[h];exact f
 ·rw[h];intro d;cases d;omega
theorem zvs {X:Nat->Option e} {k:Nat} {u:e} {a:Nat} (h:∃u,X 4=some u/\∀b,u.ownBlock=some b->b<a) (f:X k=none):∃v,Z4 X k u 4=some v/\∀b,v.ownBlock=some b->b<a:=by obtain⟨v,c,d⟩:=h;exact⟨v,zsp c f,d⟩
theorem yec {X:Nat->Option e} {k m n:Nat} {u:e} (h:∃u,X 4=some u/\∀b,u.ownBlock=some b->b<m) (d:X k=none) (g:m<=n):∃v,Z4 X k u 4=some v/\∀b,v.ownBlock=some b->b<n:=by obtain⟨v,a,c⟩:=h;exact⟨v,zsp a d,fun b f=>F (c b f) g⟩
def PRat (w:o) (n0:Nat) (L:Nat->Prop) (v:e):Prop:=∃q a b,SmQ q/\(n0<=a/\a<=b)/\b<=w.heap.size/\L a/\IsQ w (K4 a b) v q
def PRow (w:o) (n0:Nat) (L:Nat->Prop) (v:e):Prop:=∃q a b c,SmQ q/\(n0<=a/\a<=b)/\b<=w.heap.size/\L a/\IsQ w (K4 a b) c q/\NewRow w n0 37 c.cells.toList v
def PApp (w:o) (base n0:Nat) (L:Nat->Prop) (d:Nat->Prop) (s:e) (l:List Raw) (v:e):Prop:=
 ∃q c a,SmQ q/\(n0<=c/\c<=a)/\a<=w.heap.size/\L c/\OwnS 3 37 IsR w base (fun b=>d b\/K4 c a b) v (l++[E9 q])/\(v.ownBlock=s.ownBlock\/∃b,v.ownBlock=some b/\a<=b/\n0<=b)
theorem PRat.grown {w w':o} {n0:Nat} {M:Nat->Prop} {v:e} (h:PRat w n0 L v) (f:w.grownBy w' r) (hr:∀b,r=some b->b<n0) (l:∀a,L a->M a):PRat w' n0 M v:=by obtain⟨q,a,m,i,c,d,j,k⟩:=h;exact⟨q,a,m,i,c,y d f.size,l _ j,k.rngG f d fun b g=>F (hr b g) c.1⟩
theorem PRow.grown {w w':o} {n0:Nat} {M:Nat->Prop} {v:e} (h:PRow w n0 L v) (d:w.grownBy w' r) (hr:∀b,r=some b->b<n0) (m:∀a,L a->M a):PRow w' n0 M v:=by obtain⟨q,a,n,c,i,f,g,j,k,l⟩:=h;exact⟨q,a,n,c,i,f,y g d.size,m _ j,k.rngG d g fun b c=>F (hr b c) f.1,l.grown d hr⟩
theorem PApp.grown {w w':o} {n0:Nat} {M i:Nat->Prop} {v:e} {l:List Raw} (h:PApp w base n0 L i s l v) (k:w.grownBy w' r) (hr:∀b,r=some b->b<n0) (hv:∀b,r=some b->s.ownBlock≠some b/\¬i b) (x:∀g,L g->M g):PApp w' base n0 M i s l v:=by
 obtain⟨q,g,z,m,n,p,t,u,j⟩:=h;refine⟨q,g,z,m,n,y p k.size,x _ t,u.grown IsR.stb k fun b f=>⟨ymi (n0:=n0) (j.imp id fun⟨c,a,_,d⟩=>⟨c,a,d⟩) (hr b f) (hv b f).1,fun h=> ?_⟩,j⟩;rcases h with h|h
 ·exact(hv b f).2 h
 ·have:=hr b f;have:=h.1;omega
def ztu (g:Nat) (a s:e):Nat->Option Nat:=fun k=>match k with|4=>a.ownBlock|8=>some g|11=>some g|15=>s.ownBlock|_=>none
def zwp (g:Nat) (a:e):Nat->Option Nat:=fun k=>match k with|3=>some g|7=>a.ownBlock|_=>none
def ybs (g P:Nat) (a s:e) (R:Option Addr) (m d:Nat) (n0 base:Nat) (f h:Nat->Prop) (A:List (List Rat)) (B r:List Rat) (i:Nat) (v:e) (w:o) (X:Nat->Option e):Prop:=
 match i with
 |0=>v= .pointer (some ⟨P,0,none⟩)
 |1=>v=a
 |2=>v= .slice R m d
 |3=>NewRow w n0 30 [.slice R m d] v
 |4=>(OwnS 1 30 IsV w base f v (J4 A++[C5 r])/\(v.ownBlock=a.ownBlock\/∃b,v.ownBlock=some b/\n0<=b))
 |5=>v= .pointer (some ⟨P,1,none⟩)
 |6=>v=s
 |7=>v= .pointer (some ⟨g,0,none⟩)
 |8=>(∃x:Int,0<=x/\x<=11/\v= .int .i64 x)/\(∃u,X 4=some u/\∀b,u.ownBlock=some b->b<w.heap.size)
 |9=>(∃x:Int,-3<=x/\x<=8/\v= .int .i64 x)
 |10=>v= .pointer (some ⟨g,0,none⟩)
 |11=>(∃x:Int,0<=x/\x<=1/\v= .int .i64 x)/\(∃u,X 4=some u/\∀b,u.ownBlock=some b->b<w.heap.size)
 |12=>(∃x:Int,1<=x/\x<=2/\v= .int .i64 x)
 |13=>PRat w n0 (fun c=>∃u,X 4=some u/\∀b,u.ownBlock=some b->b<c) v
 |14=>PRow w n0 (fun c=>∃u,X 4=some u/\∀b,u.ownBlock=some b->b<c) v
 |15=>PApp w base n0 (fun c=>∃u,X 4=some u/\∀b,u.ownBlock=some b->b<c) h s (C5 B) v
 |16=>v= .pointer (some ⟨P,0,none⟩)
 |_=>True
def ybt (g P:Nat) (a:e) (n0 base:Nat) (b:Nat->Prop) (C:List Rat) (i:Nat) (v:e) (w:o) (X:Nat->Option e):Prop:=
 match i with
 |0=>v= .pointer (some ⟨P,2,none⟩)
 |1=>v=a
 |2=>v= .pointer (some ⟨g,0,none⟩)
 |3=>(∃x:Int,0<=x/\x<=8/\v= .int .i64 x)
 |4=>(∃x:Int,-5<=x/\x<=3/\v= .int .i64 x)
 |5=>PRat w n0 (fun _=>True) v
 |6=>PRow w n0 (fun _=>True) v
 |7=>PApp w base n0 (fun _=>True) b a (C5 C) v
 |_=>True
theorem zz1355 {R:Option Addr} {m o:Nat} {n0:Nat} {l n:Nat->Prop} {A:List (List Rat)} {B r:List Rat} (e:∀k b,ztu g a s k=some b->b<n0/\(k≠4->a.ownBlock≠some b/\¬l b)/\(k≠15->s.ownBlock≠some b/\¬n b)):
 ∀i k v w w' X u,i≠k->X k=none->ybs g P a s R m o n0 base l n A B r i v w X->w.grownBy w' (ztu g a s k)->ybs g P a s R m o n0 base l n A B r i v w' (Z4 X k u):=fun i k v w w' X u c j h f=>match i,c,h with
 |0,c,h=>h
 |1,c,h=>h
 |2,c,h=>h
 |3,c,h=>h.grown f fun b d=>(e k b d).1
 |4,c,h=>⟨h.1.grown IsV.stb f fun b d=>⟨ymi h.2 (e k b d).1 ((e k b d).2.1 (Ne.symm c)).1,((e k b d).2.1 (Ne.symm c)).2⟩,h.2⟩
 |5,c,h=>h
 |6,c,h=>h
 |7,c,h=>h
 |8,c,h=>⟨h.1,yec h.2 j f.size⟩
 |9,c,h=>h
 |10,c,h=>h
 |11,c,h=>⟨h.1,yec h.2 j f.size⟩
 |12,c,h=>h
 |13,c,h=>h.grown f (fun b d=>(e k b d).1) (fun p h=>zvs h j)
 |14,c,h=>h.grown f (fun b d=>(e k b d).1) (fun p h=>zvs h j)
 |15,c,h=>h.grown f (fun b d=>(e k b d).1) (fun b d=>(e k b d).2.2 (Ne.symm c)) (fun p h=>zvs h j)
 |16,c,h=>h
 |_+17,_,_=>trivial
theorem zz1356 {d:e} {n0:Nat} {j:Nat->Prop} {C:List Rat} (f:∀k b,zwp g d k=some b->b<n0/\(k≠7->d.ownBlock≠some b/\¬j b)):
 ∀i k v w w' X u,i≠k->X k=none->ybt g P d n0 base j C i v w X->w.grownBy w' (zwp g d k)->ybt g P d n0 base j C i v w' (Z4 X k u):=fun i k v w w' X u a m h l=>match i,a,h with
 |0,a,h=>h
 |1,a,h=>h
 |2,a,h=>h
 |3,a,h=>h
 |4,a,h=>h
 |5,a,h=>h.grown l (fun b c=>(f k b c).1) (fun _ h=>h)
 |6,a,h=>h.grown l (fun b c=>(f k b c).1) (fun _ h=>h)
 |7,a,h=>h.grown l (fun b c=>(f k b c).1) (fun b c=>(f k b c).2 (Ne.symm a)) (fun _ h=>h)
 |_+8,_,_=>trivial
def yqb (base:Nat) (a s d:e) (b c:Nat->Prop) (A:List (List Rat)) (B r:List Rat) (i:Nat) (w:o):Prop:=(i=4->OwnS 1 30 IsV w base b a (J4 A)/\IsV w b d (C5 r))/\(i=15->OwnS 3 37 IsR w base c s (C5 B))
def yqc (base:Nat) (b:e) (a:Nat->Prop) (C:List Rat) (i:Nat) (w:o):Prop:=i=7->OwnS 3 37 IsR w base a b (C5 C)
def JD (g P:Nat) (l:List Int) (xs:List e) (z A:Option Nat) (C:o) (w:o):Prop:=IsD w g l/\Row w P 32 xs/\Kept (some g) z A C w
theorem JD.step {l:List Int} {w w':o} (h:JD g P l xs z A C w) (c:w.grownBy w' r) (hr:r=none\/r=z\/r=A) (d:∀b,r=some b->g<b/\P≠b):JD g P l xs z A C w':=
 ⟨h.1.grownN c fun b a=>(d b a).1,h.2.1.grownN c fun b a=>(d b a).2,h.2.2.step c (by rcases hr with h|h|h;exact .inl h;exact .inr (.inr (.inl h));exact .inr (.inr (.inr h)))⟩
theorem JD.draw {l:List Int} {w w':o} (h:JD g P l xs z A C w) (hD:IsD w' g l) (a:Only g w w') (b:P≠g):JD g P l xs z A C w':=
 ⟨hD,h.2.1.only a b,h.2.2.step a.grown (.inr (.inl rfl))⟩
end Go.Proofs.YtpbilanpeioonaaGreatDoor
