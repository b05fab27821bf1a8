/-
 The contract of parlourlaw04's point.
-/
import Derived.Test.YtlhhbccgfkhflaaGreatDoorProofSimplexPivots28
import Derived.Test.YtlhhbccgfkhflaaGreatDoorProofSimplexPivots26
namespace Go.Proofs.YtlhhbccgfkhflaaGreatDoor
open Go.RowKit
set_option linter.unusedVariables false
set_option maxRecDepth 100000
set_option maxHeartbeats 8000000
open _root_.Nat renaming le_trans → G, lt_of_lt_of_le → I, zero_le → V, lt_of_le_of_lt → O, le_of_lt_succ → U
open _root_.List renaming getD_eq_getElem?_getD → i, getElem?_eq_getElem → A, mem_of_getElem? → J, length_map → L, getElem?_map → P
open _root_.Go renaming World → p, Value → u
variable {b c : List Rat} {j k : Nat}
theorem zz1357 {w:p} (a b:Int) (ha:a.natAbs<=1000000) (o:1<=b) (r:b<=1000000):
 Calls Tryz.prog 48 #[.int .i64 a,.int .i64 b] w fun e w'=>(∃v q,e= .returned v/\IsQ w' (G4 w.heap.size w') v q/\Sz q 3/\(0<a->0<q)/\(0<=a->0<=q))/\Below w.heap.size w w':=by
 have e:b=((b.toNat:Nat):Int):=og;rw[e];refine(zze (a:=a) (b:=b.toNat) og og og).mono fun e w' ⟨⟨v,m,hv⟩,h⟩=>⟨⟨v,_,m,hv,ydk og og og,fun c=> ?_,fun c=> ?_⟩,h⟩
 ·have g:(0:Int)<((b.toNat.gcd a.natAbs:Nat):Int):=(by have:=Nat.gcd_pos_of_pos_left a.natAbs (show 0<b.toNat by omega);omega);have j:((b.toNat.gcd a.natAbs:Nat):Int)∣a:=Int.dvd_natAbs.1 (Int.natCast_dvd_natCast.2 (Nat.gcd_dvd_right _ _));have n:=Int.ediv_pos_of_pos_of_dvd c (Int.le_of_lt g) j;have d:(zlo a b.toNat).num=a/((b.toNat.gcd a.natAbs:Nat):Int):=(by unfold zlo;rw[Rat.num_mkRat,if_neg og]);have k:0<=zlo a b.toNat:=Rat.num_nonneg.1 (by rw[d];omega);refine Rat.not_le.1 fun f=> ?_;have l:=Rat.le_antisymm f k;rw[l] at d;have:(0:Rat).num=0:=rfl;omega
 ·unfold zlo;refine Rat.num_nonneg.1 ?_;rw[Rat.num_mkRat,if_neg og];exact Int.ediv_nonneg c og
theorem yzp {w:p} {g:Nat} {l:List Int} (hD:IsD w g l) {n:Nat} (aH:n<=40):
 Calls Tryz.prog 24 #[.pointer (some ⟨g,0,none⟩),.int .i64 (n:Int)] w fun e w'=>(∃v a,e= .returned v/\(∃S:Nat->Prop,OwnS 3 30 IsR w' w.heap.size S v (C2 a)/\∀b,S b->w.heap.size<=b)/\a.length=n/\(∀q∈a,Sz q 3)/\∀q∈a,0<=q)/\IsD w' g l/\w.grownBy w' (some g):=by
 have ao:g<w.heap.size:=hD.lt;have D0:=Lib.hid hD;have aE:=T3;clear hD;go_in;go_wp2_with fail;go_loopw [6,5] (fun k out wr=>∃(c:Nat) (f:Nat->Prop) (a:List Rat),c<=n/\k= .int .i64 (c:Int)/\w.grownBy wr (some g)/\IsD wr g l/\OwnS 3 30 IsR wr w.heap.size f out (C2 a)/\Hid (a.length=c/\(∀e∈a,Sz e 3/\0<=e)/\∀b,f b->w.heap.size<=b)) (fun k _ _=>n-(intOf k).toNat);case atStart=>exact⟨0,fun _=>False,[],V _,rfl,I7 _ _,D0.out,OwnS.nil (fun b h=>h.elim),rfl,(fun _ h=>by cases h),fun b h=>h.elim⟩
 case round=>
  obtain⟨c,f,a,hc,rfl,R,hD,T,hr⟩:=hrel;obtain⟨aQ,rfl⟩:=nm (wr);obtain⟨d,H,o⟩:=G0 R hD T;clear R hD T;obtain⟨ae,av,Z⟩:=o.out.slice;obtain⟨ay,D⟩:=nm ((C2 a).length);rw[<-D] at Z;have aB:=Lib.hid D;subst Z;clear D;rcases Nat.lt_or_ge c n with t|t
  ·have K:=Lib.hid t;clear t;have t:=K.out;go_wp2_with fail;refine(zqu H.out 7 og og).mono ?_;rintro e aO ⟨⟨x,aa,ab,rfl⟩,N,P⟩;have E:=Lib.hid N;have J:=Lib.hid P.grown;have L:=Lib.hid (And.intro aa ab);clear N P aa ab;go_wp2_with fail;refine(zqu E.out 3 og og).mono ?_;rintro e u ⟨⟨y,ac,ad,rfl⟩,O,Q⟩;obtain⟨F,A,M⟩:=G0 O (J7 J.out Q.grown) (And.intro ac ad);have au:IntKind.i64.wrap (1+y)=1+y:=IntWalk.i64_in _ og;clear O Q ac ad J E;go_wp2_with fail;clear au;refine(zz1357 x (1+y) (oh L) (oh M) (oh M)).mono ?_;rintro e z ⟨⟨v,q,rfl,i,X,_,U⟩,s⟩;have B:∀b,some g=some b->(Value.slice ae ay av).ownBlock≠some b/\¬f b:=fun b e=>⟨fun ai=>by have:=(o.out.own_lt b ai).1;cases e;omega,fun h=>by have:=hr.out.2.2 b h;cases e;omega⟩;have az:=OwnS.step IsR.stb (T:=fun b=>f b\/(u.heap.size<=b/\b<z.heap.size)) (o.out.grown IsR.stb A.out B) s (fun b h=> .inl h) (fun b h=>h);have el3:=IsQ.stb.to i (F7 (T:=fun b=>f b\/(u.heap.size<=b/\b<z.heap.size)) fun b h=> .inr h);obtain⟨aL,aD,aJ,aC,aK,rfl,_,_,_⟩:=G7 el3;obtain⟨af,m⟩:=C5 (F.out.grownN (K0 (row:=none) s) (fun b e=>by cases e)) (J7 A.out (K0 s));have al:w.heap.size<=z.heap.size:=G d.out.size m.out.size;have aG:w.heap.size<=u.heap.size:=G d.out.size A.out.size;have ag:=Lib.hid (And.intro X (U L.out.1));have ar:((C2 a).length+1)*(56+1)<=140737488355328:=(by rw[zkc,hr.out.1];omega);have aA:=Lib.hid B;clear i X U s F B;go_wp2_with (at_builtin;refine zpz zlv rfl _ _ rfl IsR.stb rfl rfl rfl az el3 rfl (by intro aM Y;simp[Value.cells] at Y;rcases Y with rfl|rfl|rfl<;>rfl) ar al ?_;intro aN aP aq ak aI);obtain⟨ah,j⟩:=C5 aq ak;go_roundw
   case rel=>
    refine⟨c+1,fun b=>f b\/(u.heap.size<=b/\b<z.heap.size),a++[q],K.out,by go_num,?_,?_,?_,?_⟩
    ·exact⟨j.out.os.trans (m.out.os.trans d.out.os),j.out.tape.trans (m.out.tape.trans d.out.tape),j.out.output.trans (m.out.output.trans d.out.output),by omega,fun k C W=>(j.out.block k C).trans ((m.out.block k (I C d.out.size) W).trans (d.out.block k C W))⟩
    ·exact af.out.next j.out ao
    ·have aj:C2 (a++[q])=C2 a++[C7 q]:=(by simp[C2]);rw[aj];exact ah.out
    ·refine⟨by rw[List.length_append,hr.out.1];rfl,fun e an=> ?_,fun b r=> ?_⟩
     ·rcases List.mem_append.1 an with h|h
      ·exact hr.out.2.1 e h
      ·rw[List.mem_singleton] at h;rw[h];exact ag.out
     ·rcases r with r|r
      ·exact hr.out.2.2 b r
      ·omega
   case measure=>simp[intOf];omega
  ·obtain rfl:n=c:=og;go_wp2_with fail;go_ret;exact⟨⟨_,a,rfl,⟨f,o.out,hr.out.2.2⟩,hr.out.1,fun q i=>(hr.out.2.1 q i).1,fun q i=>(hr.out.2.1 q i).2⟩,H.out,d.out⟩
section
variable {H : Type} {n bytes : Nat} {t e : TypeId} {R : p → (Nat → Prop) → u → H → Prop} {o : Oper} {a : Act} {K : Act → p → Prop} {Q : Exit → Act → p → Prop} {wr d : p} {base : Nat} {S T : Nat → Prop} {v ev : u} {l : List H} {y : H} {te : TypeId} {cs : Array u}
def zvf (S:Nat->Prop) (wr d:p):Nat->Prop:=fun b=>S b\/(wr.heap.size<=b/\b<d.heap.size)
theorem zz1420 (u:ElN Tryz.prog t e n bytes) (j:Stb R) (s x:Operand) (H:o.op= .call {callee:= .builtin .append,args:= #[s,x],argTypes:= #[t,t]})
 (J:a.eval s=v) (L:a.eval x= .slice (some ⟨d.heap.size,0,none⟩) 1 1) (C:cs=ev.cells) (q:OwnS n e R wr base S v l) (k:Below wr.heap.size wr d) (D:R d T ev y) (p:∀b,T b->wr.heap.size<=b/\b<d.heap.size)
 (F:ev.cells.size=n) (w:∀N∈ev.cells,N.oneCell'=true) (E:(l.length+1)*(bytes+1)<=140737488355328) (B:base<=wr.heap.size)
 (A:∀c w',OwnS n e R w' base (zvf S wr d) c (l++[y])->wr.grownBy w' v.ownBlock->(c.ownBlock=v.ownBlock\/∃g,c.ownBlock=some g/\d.heap.size<=g/\g<w'.heap.size)->d.heap.size<=w'.heap.size->K (a.put o.dst c) w'):
 o.wp Tryz.prog a (d.alloc (.cells cs te)) K Q:=by
 subst C
 have f:=L8 d (.cells ev.cells te)
 have i:=f.size
 have P:∀b,v.ownBlock=some b->b<wr.heap.size:=fun b e=>(q.own_lt b e).2
 refine zsg (h:=d.heap.size) (te:=te) (S:=zvf S wr d) (base:=base) (l:=l) (y:=y) (ev:=ev) u s x H j J L ?_ ?_ ?_ F w E (G B (G k.size i)) fun c w' r m M=>A c w' r ?_ ?_ (G i m.size)
 ·exact heap_alloc_new d _
 ·exact OwnS.step j q (C6 k f) (fun b h=> .inl h) fun b h=>h.imp id fun h=>⟨h.1,I h.2 i⟩
 ·exact j.to D fun b h=>⟨.inr (p b h),fun o=>f.cell (p:=⟨b,o,none⟩) (p b h).2⟩
 ·exact J7 (K0 (C6 k f)) m
 ·refine M.imp id fun h=>⟨_,h,?_,?_⟩
  ·exact i
  ·have:=m.size
   obtain⟨O,z,_⟩:=r
   exact(z.lt _ h).2
theorem zz1419 {l:List Rat} {q:Rat} (s x:Operand) (D:o.op= .call {callee:= .builtin .append,args:= #[s,x],argTypes:= #[26,26]})
 (F:a.eval s=v) {h:Bool} {e f:Option Addr} {k m i j:Nat} (G:a.eval x= .slice (some ⟨d.heap.size,0,none⟩) 1 1) (B:cs= #[.bool h,.slice e k i,.slice f m j]) (E:Hid (OwnS 3 30 IsR wr base S v (C2 l))) (z:Below wr.heap.size wr d) (C:Hid (IsQ d T (.agg #[.bool h,.slice e k i,.slice f m j]) q)) (y:∀b,T b->wr.heap.size<=b/\b<d.heap.size)
 (H:l.length<=1000) (A:base<=wr.heap.size)
 (w:∀c w',OwnS 3 30 IsR w' base (zvf S wr d) c (C2 (l++[q]))->wr.grownBy w' v.ownBlock->(c.ownBlock=v.ownBlock\/∃g,c.ownBlock=some g/\d.heap.size<=g/\g<w'.heap.size)->d.heap.size<=w'.heap.size->K (a.put o.dst c) w'):
 o.wp Tryz.prog a (d.alloc (.cells cs te)) K Q:=
 zz1420 zlv IsR.stb s x D F G (ev:= .agg #[.bool h,.slice e k i,.slice f m j]) (y:=C7 q) B E.out z C.out y rfl (by intro I n;simp[Value.cells] at n;rcases n with rfl|rfl|rfl<;>rfl) (by rw[show(C2 l).length=l.length by simp[C2]];omega) A fun c w' p r t u=>w c w' (by rw[show C2 (l++[q])=C2 l++[C7 q] by simp[C2]];exact p) r t u
end
section
variable {q : ProgQ} {X Y R : List Rat} {v f : Rat}
end
theorem yji {l:List Rat} {f:Rat} (hf:0<f) (h:∀x∈l,0<=x):∀x∈l.map (·*f),0<=x:=fun x a=>by
 obtain⟨y,b,rfl⟩:=List.mem_map.1 a
 exact Rat.mul_nonneg (h y b) (Rat.le_of_lt hf)
theorem yhp (l:List Rat) (f:Rat) (k:Nat):(l.map (·*f)).getD k 0=l.getD k 0*f:=by
 rw[i,i,P];cases l[k]? with
 |none=>show(0:Rat)=0*f;grind
 |some x=>rfl
theorem yaz {a l:List Rat} (h:a.length=l.length) (f:Rat):K7 a (l.map (·*f))=K7 a l*f:=by rw[zrk a (l.map (·*f)) (by rw[L];exact h),zrk a l h];have:(C4 a.length fun b=>a.getD b 0*l.getD b 0)*f=f*C4 a.length fun b=>a.getD b 0*l.getD b 0:=Rat.mul_comm _ _;rw[this,<-zor];exact R4 fun b c=>by rw[yhp];grind
theorem yrc (A:List (List Rat)) (Y:List Rat) (f:Rat) (k:Nat):zqd A (Y.map (·*f)) k=f*zqd A Y k:=by unfold zqd;rw[<-zor];exact R4 fun b a=>by rw[yhp];grind
theorem CertNone.mul {A:List (List Rat)} {Y:List Rat} {f:Rat} (h:CertNone A b c Y) (hf:0<f):CertNone A b c (Y.map (·*f)) where
 y:=⟨by rw[L];exact h.y.len,yji hf h.y.nn,fun k a=>by
  rw[yrc]
  exact Rat.mul_nonneg (Rat.le_of_lt hf) (h.y.ge k a)⟩
 vy:=by rw[yaz h.y.len.symm];have:=Rat.mul_pos (show(0:Rat)< -(K7 b Y) by have:=h.vy;grind) hf;grind
theorem CertRay.mul {A:List (List Rat)} {X Z:List Rat} {f:Rat} (h:CertRay A b c X Z) (d:∀a∈A,a.length=c.length) (hf:0<f):CertRay A b c X (Z.map (·*f)) where
 x:=h.x
 z:=⟨by rw[L];exact h.z.len,yji hf h.z.nn,fun a hr=>by
  rw[yaz ((d a hr).trans h.z.len.symm)]
  have:=Rat.mul_nonneg (show(0:Rat)<=-(K7 a Z) by have:=h.z.le a hr;grind) (Rat.le_of_lt hf)
  grind⟩
 up:=by rw[yaz h.z.len.symm];exact Rat.mul_pos h.up hf
section
variable {q : ProgQ} {X Y Z : List Rat} {v f : Rat}
end
theorem getD_some {l:List Rat} {q:Rat} (h:l[j]? =some q):l.getD j 0=q:=by rw[i,h];rfl
section
variable {q : ProgQ} {X Y : List Rat}
theorem ygs {a:List Rat} {n:Nat} (ha:∀x∈a,Sz x n) (d:∀x∈b,Sz x n) (e:a.length<=4):Sz (K7 a b) (4*(2*n+1)+1):=by refine(ynb (n:=n) fun f c=>⟨ha _ (List.of_mem_zip c).1,d _ (List.of_mem_zip c).2⟩).le ?_;have:(a.zip b).length<=4:=(by rw[List.length_zip];omega);have:=Nat.mul_le_mul_right (2*n+1) this;omega
theorem zww {x:Rat} (h:x.den∣2/\x.num.natAbs<=8):Sz x 3:=by
 have b:x.den<=2:=Nat.le_of_dvd (by decide) h.1;refine⟨?_,by rw[ztd (O b (by decide)) x.den_nz];exact U (by simp)⟩;rcases Nat.eq_zero_or_pos x.num.natAbs with a|a
 ·rw[a,N6];decide
 ·rw[ztd (O h.2 (by decide)) og];exact U (by simp)
end
theorem ykv {c a W:p} {g lo:Nat} {v:u} {q:Rat} (t:Below c.heap.size c a) (hv:IsQ a (G4 c.heap.size a) v q) (k:Below a.heap.size a W) (hlo:lo<=c.heap.size) (hg:g<c.heap.size\/a.heap.size<=g) (f h i:u):IsQ (put3 W g f h i) (fun b=>lo<=b/\b<(put3 W g f h i).heap.size) v q:=by obtain⟨r,j⟩:=nm (put3 W g f h i);have l:W.grownBy r (some g):=(by rw[j];exact J7 (J7 (I9 _ _ _ _) (I9 _ _ _ _)) (I9 _ _ _ _));rw[<-j];refine IsQ.stb.to hv fun b d=> ?_;have m:b<W.heap.size:=I d.2 k.size;have s:b≠g:=fun e=>(by have w:=d.1;have x:=d.2;omega);refine⟨⟨G hlo d.1,I m l.size⟩,fun o=> ?_⟩;have n:=l.block b m (fun e=>s (Option.some.inj e));exact(World.cell?_of_block n).trans (k.cell (p:=⟨b,o,none⟩) d.2)
theorem IsD.low {w w':p} {g lo:Nat} {l:List Int} (h:IsD w g l) (a:Below lo w w') (hg:g<lo):IsD w' g l:=by obtain⟨A,c,k,hr,f,e⟩:=h;exact⟨A,c,k,(a.block g hg).trans hr,IsIL.stb.to f fun b d=>⟨d,fun o=>a.cell (p:=⟨b,o,none⟩) (Nat.lt_trans d hg)⟩,e⟩
theorem zz1463 {n m:Nat} (f:Nat->Rat):(G9 (n+m) f).take n=G9 n f:=by
 apply List.ext_getElem?;intro a;rw[List.getElem?_take];by_cases h:a<n
 ·rw[if_pos h,znz og,znz h]
 ·rw[if_neg h,List.getElem?_eq_none (by rw[T4];omega)]
theorem zz1360 (l:List Rat) (n:Nat):(C2 l).take n=C2 (l.take n):=by unfold C2;rw[List.map_take]
theorem yvh {H:Type} {n:Nat} {R:p->(Nat->Prop)->u->H->Prop} {w:p} {S:Nat->Prop} {A:Option Addr} {c:Nat} {l:List H} (h:IsS n R w S (.slice A k c) l) (q:j<=l.length):IsS n R w S (.slice A j c) (l.take j):=by
 obtain⟨a,I,d,e,K,t,z,B,o⟩:=h;injection e with r J s;subst r s;have g:(l.take j).length=j:=(by rw[List.length_take,Nat.min_eq_left q]);have hc:cellsOf d=cellsOf (d.take j)++cellsOf (d.drop j):=(by have:cellsOf (d.take j++d.drop j)=cellsOf (d.take j)++cellsOf (d.drop j):=(by unfold cellsOf;rw[List.flatMap_append]);rwa[List.take_append_drop] at this);refine⟨A,c,d.take j,by rw[g],by rw[g];omega,t,fun G=> ?_,fun v hv=>B v (List.mem_of_mem_take hv),?_,fun m x y f i=> ?_⟩
 ·obtain⟨b,off,C,D,E⟩:=z (by rw[hc];intro e;exact G (List.append_eq_nil_iff.1 e).1);refine⟨b,off,C,D,fun m v hv=>E m v ?_⟩;rw[hc,List.getElem?_append_left (List.getElem?_eq_some_iff.1 hv).1];exact hv
 ·rw[List.length_take,g,o.1,Nat.min_eq_left q]
 ·rw[List.getElem?_take] at f i;split at f
  ·rename_i F;rw[if_pos F] at i;exact o.2 m x y f i
  ·cases f
def U3 (q:ProgQ) (X:List Rat) (v:Nat):Rat:=if v<q.C.length then X.getD v 0 else q.B.getD (v-q.C.length) 0+ -(K7 (q.A.getD (v-q.C.length) []) X)
section
variable {q : ProgQ} {X : List Rat} {M N : Nat}
theorem ypa (b:X.length=q.C.length):G9 q.C.length (U3 q X)=X:=by
 apply List.ext_getElem?;intro a;by_cases h:a<q.C.length
 ·rw[znz h,A og];unfold U3;rw[if_pos h,i,A og];rfl
 ·rw[List.getElem?_eq_none (by rw[T4];omega),List.getElem?_eq_none og]
theorem ypb (k:Nat):G9 (q.C.length+(k+1)) (U3 q X)=G9 (q.C.length+k) (U3 q X)++[q.B.getD k 0+ -(K7 (q.A.getD k []) X)]:=by have h:G9 (q.C.length+k+1) (U3 q X)=G9 (q.C.length+k) (U3 q X)++[U3 q X (q.C.length+k)]:=(by unfold G9;rw[List.range_succ,List.map_append];rfl);rw[show q.C.length+(k+1)=q.C.length+k+1 from rfl,h];unfold U3;rw[if_neg (show¬q.C.length+k<q.C.length by omega),show q.C.length+k-q.C.length=k by omega]
def D0 (q:ProgQ) (M N:Nat):Nat->Nat->Rat:=(M0 M N (aF q.A) (lF q.B) (lF q.C)).D
theorem yrp (f:q.A.length=M) (c:∀d∈q.A,d.length=N):zmz M N (D0 q M N)=q.A:=by
 apply List.ext_getElem?;intro a;by_cases h:a<M
 ·rw[zvz h,A og];congr 1;apply List.ext_getElem?;intro j;have g:(q.A[a]'og).length=N:=c _ (List.getElem_mem _);by_cases b:j<N
  ·rw[znz b,A og];have e:D0 q M N a j=aF q.A a j:=(by unfold D0 M0;simp only[];rw[if_pos h,if_pos b]);rw[e,aF,i,i,A (show a<q.A.length by omega),Option.getD_some,A og];rfl
  ·rw[List.getElem?_eq_none (by rw[T4];omega),List.getElem?_eq_none og]
 ·rw[List.getElem?_eq_none (by rw[zwa];omega),List.getElem?_eq_none og]
theorem yro (b:q.B.length=M):G9 M (fun a=>D0 q M N a N)=q.B:=by
 apply List.ext_getElem?;intro a;by_cases h:a<M
 ·rw[znz h,A og];have e:D0 q M N a N=lF q.B a:=(by unfold D0 M0;simp only[];rw[if_pos h,if_neg (Nat.lt_irrefl _)]);rw[e,lF,i,A og];rfl
 ·rw[List.getElem?_eq_none (by rw[T4];omega),List.getElem?_eq_none og]
theorem yrn (a:q.C.length=N):G9 N (fun j=> -(D0 q M N M j))=q.C:=by
 apply List.ext_getElem?;intro j;by_cases h:j<N
 ·rw[znz h,A og];have e:D0 q M N M j= -(lF q.C j):=(by unfold D0 M0;simp only[];rw[if_neg (Nat.lt_irrefl _),if_pos h]);rw[e,Rat.neg_neg,lF,i,A og];rfl
 ·rw[List.getElem?_eq_none (by rw[T4];omega),List.getElem?_eq_none og]
theorem yrr:D0 q M N M N=0:=by unfold D0 M0;simp only[];rw[if_neg (Nat.lt_irrefl _),if_neg (Nat.lt_irrefl _)]
end
theorem yum {n:Nat} (h:j<n):(List.range n).getD j 0=j:=by rw[i,List.getElem?_range h];rfl
theorem yui {m n a:Nat} (h:a<m):(Y6 m n).getD a 0=n+a:=by unfold Y6;rw[i,P,List.getElem?_range h];rfl
section
variable {q : ProgQ} {X : List Rat} {M N : Nat}
theorem ok0 (M N:Nat):DicOK M N (Y6 M N) (List.range N):=by
 refine⟨ztt _ _,List.length_range,fun x b=> ?_,yjq _ _⟩;rcases List.mem_append.1 b with h|h
 ·unfold Y6 at h;obtain⟨c,a,rfl⟩:=List.mem_map.1 h;have:=List.mem_range.1 a;omega
 ·have:=List.mem_range.1 h;omega
theorem ytz (t:q.A.length=M) (r:∀s∈q.A,s.length=N) (u:q.B.length=M) (g:q.C.length=N) (m:X.length=N):Fit1 M N (zof (Y6 M N) (List.range N) (D0 q M N)) (U3 q X) (K7 q.C X) 1:=by
 have l:=ybb (m:=M) (n:=N) (a:=aF q.A) (b:=lF q.B) (c:=lF q.C) (fun j=>X.getD j 0) 1;have n:∀a,a<M->(q.A.getD a []).length=N:=fun a b=>r _ (by rw[i,A og];exact List.getElem_mem _);have h:∀v,v<N->U3 q X v=X.getD v 0:=fun v hv=>(by unfold U3;rw[if_pos og]);have o:∀a,a<M->U3 q X (N+a)=lF q.B a*1-C4 N fun j=>aF q.A a j*X.getD j 0:=fun a b=>by unfold U3;rw[if_neg og,g,show N+a-N=a by omega,zrk _ _ (by rw[n a b,m]),n a b,Rat.mul_one];exact(Rat.sub_eq_add_neg _ _).symm
 have p:Fit1 M N (M0 M N (aF q.A) (lF q.B) (lF q.C)) (U3 q X) (K7 q.C X) 1:=by
  refine⟨fun a b=> ?_,?_⟩
  ·have d:=l.row a b;show U3 q X (N+a)+C4 N (fun j=>(M0 M N (aF q.A) (lF q.B) (lF q.C)).D a j*U3 q X j)=_;have e:C4 N (fun j=>(M0 M N (aF q.A) (lF q.B) (lF q.C)).D a j*U3 q X j)=C4 N (fun j=>(M0 M N (aF q.A) (lF q.B) (lF q.C)).D a j*(if j<N then X.getD j 0 else lF q.B (j-N)*1-C4 N fun k=>aF q.A (j-N) k*X.getD k 0)):=R4 fun j c=>(by rw[h j c,if_pos c]);rw[e,o a b];(have f:(fun v=>if v<N then X.getD v 0 else lF q.B (v-N)*1-C4 N fun j=>aF q.A (v-N) j*X.getD j 0) (N+a)=lF q.B a*1-C4 N fun j=>aF q.A a j*X.getD j 0:=by show(if N+a<N then _ else _)=_;rw[if_neg og,show N+a-N=a by omega]);rw[<-f];exact d
  ·have d:=l.obj;have e:C4 N (fun j=>(M0 M N (aF q.A) (lF q.B) (lF q.C)).D M j*U3 q X j)=C4 N (fun j=>(M0 M N (aF q.A) (lF q.B) (lF q.C)).D M j*(if j<N then X.getD j 0 else lF q.B (j-N)*1-C4 N fun k=>aF q.A (j-N) k*X.getD k 0)):=R4 fun j c=>(by rw[h j c,if_pos c]);have f:K7 q.C X=C4 N fun j=>lF q.C j*X.getD j 0:=(by rw[zrk _ _ (by rw[g,m]),g]);show K7 q.C X+C4 N (fun j=>(M0 M N (aF q.A) (lF q.B) (lF q.C)).D M j*U3 q X j)=_;rw[e,f];exact d
 exact ybc (S:=M0 M N (aF q.A) (lF q.B) (lF q.C)) (T:=zof (Y6 M N) (List.range N) (D0 q M N)) (fun a b=>(yui b).symm) (fun j c=>(yum c).symm) (fun a j _ _=>rfl) p
theorem yua {bas oth:List Nat} {D:Nat->Nat->Rat} {x:Nat->Rat} {z:Rat} {a c:Nat} (ok:DicOK M N bas oth) (h:Fit1 M N (zof bas oth D) x z 1) (hr:a<M) (hc:c<N) (b:D a c≠0):Fit1 M N (zof (bas.set a (oth.getD c 0)) (oth.set c (bas.getD a 0)) (F0 D a c)) x z 1:=by rw[ygg ok hr hc];exact h.piv hr hc b
end
def zot:Nat->Nat
 |0=>3
 |k+1=>4*zot k+1
theorem zz1431 (k:Nat):1<=zot k:=by cases k<;>simp[zot]
theorem yne (h:k<=3):zot k<=213:=by
 match k,h with
 |0,_=>decide
 |1,_=>decide
 |2,_=>decide
 |3,_=>decide
theorem yba {q:ProgQ} (h:FineP q 2 8):∀row∈q.A,∀e∈row,Sz e 3:=fun row hr e a=>zww (h.fA row hr e a)
theorem yrq {q:ProgQ} {M N:Nat} (h:FineP q 2 8):∀b j,b<=M->j<=N->Sz (D0 q M N b j) (zot 0):=by
 have d:∀(l:List Rat) (k:Nat),(∀e∈l,Sz e 3)->Sz (l.getD k 0) 3:=fun l k f=>by
  rw[i];cases e:l[k]? with
  |none=>exact Sz.zero.le og
  |some x=>exact f x (J e)
 intro b j g m;show Sz _ 3;unfold D0 M0;simp only[];split
 ·split
  ·unfold aF;refine d _ _ fun e a=> ?_;rw[i] at a;cases c:q.A[b]? with
   |none=>rw[c] at a;exact absurd a (by simp)
   |some row=>rw[c] at a;exact yba h row (J c) e a
  ·exact d _ _ fun e a=>zww (h.fB e a)
 ·split
  ·exact(d _ _ fun e a=>zww (h.fC e a)).neg
  ·exact Sz.zero.le og
theorem ypd {q:ProgQ} {X:List Rat} {M N:Nat} (h:FineP q 2 8) (o:q.A.length=M) (m:∀n∈q.A,n.length=N) (g:N<=4) (d:∀e∈X,Sz e 3):∀v,Sz (U3 q X v) 1024:=fun v=>by
 have c:∀(l:List Rat) (k:Nat),(∀e∈l,Sz e 3)->Sz (l.getD k 0) 3:=fun l k j=>by
  rw[i]
  cases e:l[k]? with
  |none=>exact Sz.zero.le og
  |some x=>exact j x (J e)
 unfold U3
 split
 ·exact(c _ _ d).le og
 ·have f:Sz (K7 (q.A.getD (v-q.C.length) []) X) (4*(2*3+1)+1):=by
   refine ygs (fun e a=> ?_) d ?_
   ·rw[i] at a
    cases b:q.A[v-q.C.length]? with
    |none=>rw[b] at a;exact absurd a (by simp)
    |some row=>rw[b] at a;exact yba h row (J b) e a
   ·rw[i]
    cases b:q.A[v-q.C.length]? with
    |none=>exact V _
    |some row=>exact G (Nat.le_of_eq (m row (J b))) g
  exact((c _ _ fun e a=>zww (h.fB e a)).add f.neg).le og
def zre (g db:Nat) (W:p):Nat->Prop:=fun b=>g<b/\b<W.heap.size/\b≠db
structure PvSt (w W:p) (g s db:Nat) (l:List Int) (m n:Nat) (F:u) (x:Nat->Rat) (B C E:u) (z:Rat) (d0 d1 d2 d3 d4 d5 d6 d7:u) (bas oth:List Nat) (D:Nat->Nat->Rat):Prop where
 bel:Below w.heap.size w W
 hg:w.heap.size<=g/\g<s/\g<db/\s≠db
 d:IsD W g l
 vy:IsV W (zre g db W) F (C2 (G9 (m+n) x))
 rz:Row W s 30 [B,C,E]
 vz:IsQ W (zre g db W) (.agg #[B,C,E]) z
 rd:Row W db 32 [d0,d1,d2,d3,d4,d5,d6,d7]
 vd:IsDc m n bas oth D W (zre g db W) (.agg #[d0,d1,d2,d3,d4,d5,d6,d7])
section
variable {w W r : p} {g s db m n : Nat} {l : List Int} {F B C E d0 d1 d2 d3 d4 d5 d6 d7 : u} {x : Nat → Rat} {z : Rat} {bas oth : List Nat} {D : Nat → Nat → Rat}
theorem ycl {c:Option Nat} (hg:W.grownBy r c) (hr:∀b,c=some b->b=g\/b=db):K6 (zre g db W) (zre g db r) W r:=fun b a=>⟨⟨a.1,I a.2.1 hg.size,a.2.2⟩,fun o=>World.cell?_of_block (hg.block b a.2.1 fun e=>by have d:=a.1;have f:=a.2.2;rcases hr b e.symm with h|h<;>omega)⟩
theorem PvSt.next (h:PvSt w W g s db l m n F x B C E z d0 d1 d2 d3 d4 d5 d6 d7 bas oth D) (a:Below W.heap.size W r):PvSt w r g s db l m n F x B C E z d0 d1 d2 d3 d4 d5 d6 d7 bas oth D:=by have c:=ycl (g:=g) (db:=db) (K0 (row:=none) a) fun b e=>(by cases e);exact⟨C6 h.bel a,h.hg,h.d.next a (IsD.lt h.d),IsV.stb.to h.vy c,h.rz.next a,IsQ.stb.to h.vz c,h.rd.next a,h.vd.to c⟩
theorem PvSt.draw (h:PvSt w W g s db l m n F x B C E z d0 d1 d2 d3 d4 d5 d6 d7 bas oth D) (a:W.grownBy r (some g)) (hd:IsD r g l):PvSt w r g s db l m n F x B C E z d0 d1 d2 d3 d4 d5 d6 d7 bas oth D:=by have c:=ycl (g:=g) (db:=db) a fun b e=>(by cases e;exact .inl rfl);have d:=h.hg;exact⟨h.bel.grown a h.bel.size (fun b e=>by cases e;exact h.hg.1),h.hg,hd,IsV.stb.to h.vy c,h.rz.grownN a (fun b e=>by cases e;omega),IsQ.stb.to h.vz c,h.rd.grownN a (fun b e=>by cases e;omega),h.vd.to c⟩
theorem PvSt.old (h:PvSt w W g s db l m n F x B C E z d0 d1 d2 d3 d4 d5 d6 d7 bas oth D):∀b,zre g db W b->C3 W b:=fun b a=>a.2.1
theorem PvSt.put {a c d f i j k o:u} {v A:List Nat} {t:Nat->Nat->Rat} (h:PvSt w W g s db l m n F x B C E z d0 d1 d2 d3 d4 d5 d6 d7 bas oth D) (hv:IsDc m n v A t W (zre g db W) (.agg #[a,c,d,f,i,j,k,o])):
 PvSt w (put8 W db a c d f i j k o) g s db l m n F x B C E z a c d f i j k o v A t:=by have y:=Row.put8 h.rd a c d f i j k o;have p:=zoz W db a c d f i j k o;obtain⟨r,G⟩:=nm (put8 W db a c d f i j k o);rw[<-G] at y p⊢;have q:=ycl (g:=g) (db:=db) p fun b e=>(by cases e;exact .inr rfl);have H:=h.hg;exact⟨h.bel.grown p h.bel.size (fun b e=>by cases e;omega),h.hg,h.d.grownN p (fun b e=>by cases e;omega),IsV.stb.to h.vy q,h.rz.grownN p (fun b e=>by cases e;omega),IsQ.stb.to h.vz q,y,hv.to q⟩
end
end Go.Proofs.YtlhhbccgfkhflaaGreatDoor
