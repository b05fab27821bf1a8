/-
 The contract of parlourlaw04's point.
-/
import Derived.Test.YtdgilbgdkmhcmaaGreatDoorProofSimplexProves15
import Derived.Lib.AppendZerosOnto
import Derived.Laws.AppendOwnNone
namespace Go.Proofs.YtdgilbgdkmhcmaaGreatDoor
open Go.RowKit
set_option linter.unusedVariables false
set_option maxRecDepth 100000
set_option maxHeartbeats 8000000
open _root_.Go.Lib renaming hid → j
open _root_.Nat renaming le_refl → L, le_trans → Z, lt_of_lt_of_le → M, lt_or_ge → Y, zero_le → ab, lt_succ_self → aa
open _root_.Go.World renaming cell?_of_block → U, size_alloc → R
open _root_.List renaming length_append → V, getElem?_map → X
open _root_.Go renaming World → r, Value → f, Calls → N
variable {P : Program} {bytes c hi i p : Nat} {e t : TypeId} {o : Oper} {ops : Array Oper} {v : f}
theorem yxk {w:r} (a b:Int) (ha:a.natAbs<=1000000) (p:1<=b) (s:b<=1000000):
 N Tryz.prog 21 #[.int .i64 a,.int .i64 b] w fun e w'=>(∃v q,e= .returned v/\IsQ w' (F6 w.heap.size w') v q/\Sz q 3/\(0<a->0<q)/\(0<=a->0<=q))/\Below w.heap.size w w':=by
 have e:b=((b.toNat:Nat):Int):=og;rw[e];refine(zvp (a:=a) (b:=b.toNat) og og og).mono fun e w' ⟨⟨v,n,hv⟩,h⟩=>⟨⟨v,_,n,hv,ybw og og og,fun c=> ?_,fun c=> ?_⟩,h⟩
 ·have i:(0:Int)<((b.toNat.gcd a.natAbs:Nat):Int):=(by have:=Nat.gcd_pos_of_pos_left a.natAbs (show 0<b.toNat by omega);omega);have k:((b.toNat.gcd a.natAbs:Nat):Int)∣a:=Int.dvd_natAbs.1 (Int.natCast_dvd_natCast.2 (Nat.gcd_dvd_right _ _));have o:=Int.ediv_pos_of_pos_of_dvd c (Int.le_of_lt i) k;have d:(X5 a b.toNat).num=a/((b.toNat.gcd a.natAbs:Nat):Int):=(by unfold X5;rw[Rat.num_mkRat,if_neg og]);have l:0<=X5 a b.toNat:=Rat.num_nonneg.1 (by rw[d];omega);refine Rat.not_le.1 fun g=> ?_;have m:=Rat.le_antisymm g l;rw[m] at d;have:(0:Rat).num=0:=rfl;omega
 ·unfold X5;refine Rat.num_nonneg.1 ?_;rw[Rat.num_mkRat,if_neg og];exact Int.ediv_nonneg c og
theorem ywu {w:r} {g:Nat} {l:List Int} (hD:IsD w g l) {n:Nat} (aP:n<=40):
 N Tryz.prog 14 #[.pointer (some ⟨g,0,none⟩),.int .i64 (n:Int)] w fun e w'=>(∃v b,e= .returned v/\IsV w' (F6 w.heap.size w') v (C0 b)/\b.length=n/\(∀q∈b,Sz q 3)/\∀q∈b,0<=q)/\IsD w' g l/\w.grownBy w' (some g):=by
 have aB:g<w.heap.size:=hD.lt;have aj:=j hD;have aN:=L7;clear hD;go_in;go_wp2_with fail;go_loopw [6,5] (fun k out wr=>∃(c:Nat) (f:Nat->Prop) (b:List Rat),c<=n/\k= .int .i64 (c:Int)/\w.grownBy wr (some g)/\IsD wr g l/\OwnS 3 37 IsR wr w.heap.size f out (C0 b)/\Hid (b.length=c/\(∀e∈b,Sz e 3/\0<=e)/\∀a,f a->w.heap.size<=a)) (fun k _ _=>n-(intOf k).toNat);case atStart=>exact⟨0,fun _=>False,[],ab _,rfl,H8 _ _,aj.out,OwnS.nil (fun a h=>h.elim),rfl,(fun _ h=>by cases h),fun a h=>h.elim⟩
 case round=>
  obtain⟨c,f,b,hc,rfl,T,hD,U,hr⟩:=hrel;obtain⟨aY,rfl⟩:=nm (wr);obtain⟨d,H,p⟩:=G4 T hD U;clear T hD U;obtain⟨ai,aG,ad⟩:=p.out.slice;obtain⟨aH,E⟩:=nm ((C0 b).length);rw[<-E] at ad;have aK:=j E;subst ad;clear E;rcases Y c n with u|u
  ·have J:=j u;clear u;have u:=J.out;go_wp2_with fail;refine(zsr H.out 7 og og).mono ?_;rintro e aW ⟨⟨x,ae,af,rfl⟩,P,R⟩;have F:=j P;have I:=j R.grown;have K:=j (And.intro ae af);clear P R ae af;go_wp2_with fail;refine(zsr F.out 3 og og).mono ?_;rintro e z ⟨⟨y,ag,ah,rfl⟩,Q,S⟩;obtain⟨G,B,L⟩:=G4 Q (J6 I.out S.grown) (And.intro ag ah);have aE:IntKind.i64.wrap (1+y)=1+y:=IntWalk.i64_in _ og;clear Q S ag ah I F;go_wp2_with fail;clear aE;refine(yxk x (1+y) (oh K) (oh L) (oh L)).mono ?_;rintro e A ⟨⟨v,q,rfl,i,aa,_,W⟩,t⟩;have C:∀a,some g=some a->(Value.slice ai aH aG).ownBlock≠some a/\¬f a:=fun a e=>⟨fun ao=>by have:=(p.out.own_lt a ao).1;cases e;omega,fun h=>by have:=hr.out.2.2 a h;cases e;omega⟩;have aI:=OwnS.step IsR.stb (T:=fun a=>f a\/(z.heap.size<=a/\a<A.heap.size)) (p.out.grown IsR.stb B.out C) t (fun a h=> .inl h) (fun a h=>h);have O:=IsQ.stb.to i (E0 (T:=fun a=>f a\/(z.heap.size<=a/\a<A.heap.size)) fun a h=> .inr h);obtain⟨aT,aM,aR,aL,aS,rfl,_,_,_⟩:=G9 O;obtain⟨ak,o⟩:=C4 (G.out.grownN (K7 (row:=none) t) (fun a e=>by cases e)) (J6 B.out (K7 t));have az:w.heap.size<=A.heap.size:=Z d.out.size o.out.size;have aO:w.heap.size<=z.heap.size:=Z d.out.size B.out.size;have al:=j (And.intro aa (W K.out.1));have aD:((C0 b).length+1)*(56+1)<=140737488355328:=(by rw[U6,hr.out.1];omega);have aJ:=j C;clear i aa W t G C;go_wp2_with (at_builtin;refine zoz zli rfl _ _ rfl IsR.stb rfl rfl rfl aI O rfl (by intro aU ac;simp[Value.cells] at ac;rcases ac with rfl|rfl|rfl<;>rfl) aD az ?_;intro aV aX aC ay aQ);obtain⟨an,m⟩:=C4 aC ay;go_roundw
   case rel=>
    refine⟨c+1,fun a=>f a\/(z.heap.size<=a/\a<A.heap.size),b++[q],J.out,by go_num,?_,?_,?_,?_⟩
    ·exact⟨m.out.os.trans (o.out.os.trans d.out.os),m.out.tape.trans (o.out.tape.trans d.out.tape),m.out.output.trans (o.out.output.trans d.out.output),by omega,fun k D X=>(m.out.block k D).trans ((o.out.block k (M D d.out.size) X).trans (d.out.block k D X))⟩
    ·exact ak.out.next m.out aB
    ·have aq:C0 (b++[q])=C0 b++[D8 q]:=(by simp[C0]);rw[aq];exact an.out
    ·refine⟨by rw[V,hr.out.1];rfl,fun e aA=> ?_,fun a s=> ?_⟩
     ·rcases List.mem_append.1 aA with h|h
      ·exact hr.out.2.1 e h
      ·rw[List.mem_singleton] at h;rw[h];exact al.out
     ·rcases s with s|s
      ·exact hr.out.2.2 a s
      ·omega
   case measure=>simp[intOf];omega
  ·obtain rfl:n=c:=og;go_wp2_with fail;go_ret;refine⟨⟨_,b,rfl,?_,hr.out.1,fun q i=>(hr.out.2.1 q i).1,fun q i=>(hr.out.2.1 q i).2⟩,H.out,d.out⟩;exact p.out.isS IsR.stb (fun a h=>⟨hr.out.2.2 a h,by obtain⟨_,_,_,_,av⟩:=p.out;exact(av a h).1⟩) (fun a ar au=>⟨ar,au⟩)
theorem ykj {c:Type} {R:r->(Nat->Prop)->f->c->Prop} (i:Stb R) {w w':r} {g n:Nat} {x:c} (h:R w (F6 n w) v x) (b:w.grownBy w' (some g)) (hg:g<n):R w' (F6 n w') v x:=
 i.to h fun d a=>⟨⟨a.1,M a.2 b.size⟩,fun o=>U (b.block d a.2 (fun e=>by have:=a.1;cases e;omega))⟩
structure SPSt (w W:r) (g K sb:Nat) (l:List Int) (a I J c0 E H x y z D:f) (q:ProgQ) (s:Sol):Prop where
 bel:Below w.heap.size w W
 hg:w.heap.size<=g/\g<K/\g<sb
 d:IsD W g l
 rp:Row W K 32 [a,I,J]
 vp:IsP W (F6 (g+1) W) (.agg #[a,I,J]) (N2 q)
 rs:Row W sb 39 [c0,E,H,x,y,z,D]
 vs:IsSol W (F6 (g+1) W) (.agg #[c0,E,H,x,y,z,D]) s
section
variable {w W O : r} {g K sb : Nat} {l : List Int} {a I J c0 E H x y z D : f} {q : ProgQ} {s : Sol}
theorem SPSt.next (h:SPSt w W g K sb l a I J c0 E H x y z D q s) (b:Below W.heap.size W O):SPSt w O g K sb l a I J c0 E H x y z D q s:=
 ⟨C9 h.bel b,h.hg,h.d.next b (IsD.lt h.d),h.rp.next b,IsP.stb.fresh h.vp b,h.rs.next b,IsSol.stb.fresh h.vs b⟩
theorem SPSt.draw (h:SPSt w W g K sb l a I J c0 E H x y z D q s) (b:W.grownBy O (some g)) (hd:IsD O g l):SPSt w O g K sb l a I J c0 E H x y z D q s:=
 ⟨h.bel.grown b h.bel.size (fun c e=>by cases e;exact h.hg.1),h.hg,hd,h.rp.grownN b (fun c e=>by cases e;have:=h.hg.2.1;omega),ykj IsP.stb h.vp b (aa _),h.rs.grownN b (fun c e=>by cases e;have:=h.hg.2.2;omega),ykj IsSol.stb h.vs b (aa _)⟩
theorem SPSt.prg (h:SPSt w W g K sb l a I J c0 E H x y z D q s):IsP W (C2 W) (.agg #[a,I,J]) (N2 q):=IsP.stb.old h.vp
theorem SPSt.sol (h:SPSt w W g K sb l a I J c0 E H x y z D q s):IsSol W (C2 W) (.agg #[c0,E,H,x,y,z,D]) s:=IsSol.stb.old h.vs
theorem ykf {S:Nat->Prop} (h:IsSol w S (.agg #[c0,E,H,x,y,z,D]) s):c0= .int .i64 s.st/\IsR w S (.agg #[E,H,x]) s.val/\IsV w S y s.X/\IsV w S z s.D/\IsV w S D s.R:=by obtain⟨P,k,Q,l,A,a,B,i,C,c,e,b,d,f,g⟩:=h;simp only[Value.agg.injEq,Array.mk.injEq,List.cons.injEq,and_true] at e;obtain⟨rfl,rfl,rfl,rfl,rfl,rfl,rfl⟩:=e;exact⟨rfl,b,d,f,g⟩
end
theorem zui {w:r} {g:Nat} {l:List Int} (hr:Row w g t (ygi l)) (R:l.length<=40) (E:∀x∈l,x.natAbs<=1000000):
 N Tryz.prog 46 #[.slice (some ⟨g,0,none⟩) l.length c] w fun e w'=>(∃v,e= .returned v/\IsV w' (F6 w.heap.size w') v (C0 (Q7 l)))/\Below w.heap.size w w':=by
 obtain⟨F,I⟩:=C4 hr E;obtain⟨n,q⟩:=nm (l.length);have A:=j q;rw[<-q] at R⊢;have ac:g<w.heap.size:=hr.lt;clear hr E q;go_in;go_wp2_with fail;go_loopw [3,4] (fun v i wr=>∃(k:Nat) (S:Nat->Prop),k<=n/\i= .int .i64 (k:Int)/\Below w.heap.size w wr/\OwnS 3 37 IsR wr w.heap.size S v (C0 ((Q7 l).take k))/\Hid (∀a,S a->w.heap.size<=a)) (fun _ i _=>n-(intOf i).toNat);case atStart=>exact⟨0,fun _=>False,ab _,rfl,Below.refl _ _,by simpa[C0] using(OwnS.nil (fun a h=>False.elim h):OwnS 3 37 IsR w w.heap.size (fun _=>False) _ _),fun _ h=>False.elim h⟩
 case round=>
  obtain⟨k,S,ad,rfl,f,C,B⟩:=hrel;have z:=j f;have u:=j B.out;have p:=j C;have ae:=f.size;clear C B;rcases Y k n with T|aa
  ·obtain⟨x,m⟩:=zlp (l:=l) (j:=k) (by rw[<-A.out];exact T);have hc:wr.cell? ⟨g,k,none⟩=some (.int .i64 x):=((F.out.next f).cell k).trans (by unfold ygi;rw[X,m];rfl);have J:=j m;have af:=I.out x (List.mem_of_getElem? m);clear m f;go_wp2_with fail;refine(zvp (a:=x) (b:=1) og og og).mono ?_;rintro e o ⟨⟨al,rfl,s⟩,b⟩;obtain⟨G,H⟩:=C4 b s;have y:=nB z b;have P:w.heap.size<=o.heap.size:=y.out.size;obtain⟨aj,Z,ah,W,ai,rfl,_,_,_⟩:=G9 s;have U:=OwnS.step IsR.stb (T:=fun a=>S a\/(wr.heap.size<=a/\a<o.heap.size)) p.out G.out (fun a h=> .inl h) (fun a h=>h);have Q:=IsQ.stb.to H.out (E0 (T:=fun a=>S a\/(wr.heap.size<=a/\a<o.heap.size)) fun a h=> .inr h);clear b s hc;go_wp2_with (at_builtin;refine zoz zli rfl _ _ rfl IsR.stb rfl rfl rfl U Q rfl (by intro ak D;simp[Value.cells] at D;rcases D with rfl|rfl|rfl<;>rfl) (by have d:=List.length_take_le k (Q7 l);rw[U6];omega) P ?_;intro an ao V O ag);go_roundw;(case rel=>refine⟨k+1,fun a=>S a\/(wr.heap.size<=a/\a<o.heap.size),by omega,by go_num,y.out.trans O,?_,fun a b=>by rcases b with b|b;exact u.out a b;omega⟩;rw[zz1390 J.out,C0,List.map_append];exact V);case measure=>simp[intOf];omega
  ·obtain rfl:k=n:=og;clear f;go_wp2_with fail;go_ret;refine⟨⟨_,rfl,?_⟩,z.out⟩;have d:=OwnS.isS IsR.stb (T:=F6 w.heap.size wr) p.out (fun a b=>⟨u.out a b,by obtain⟨_,_,_,_,M⟩:=p.out;exact(M a b).1⟩) (fun a d K=>⟨d,K⟩);rw[List.take_of_length_le (by rw[zz1389,<-A.out];exact L _)] at d;exact d
theorem yfe (w:r):N Tryz.prog 43 #[] w fun e w'=>(∃v,e= .returned v/\IsP w' (C2 w') v (N2 exQ))/\Below w.heap.size w w':=by obtain⟨C,T,H,M,o⟩:=K0 w #[.slice none 0 0,.slice none 0 0,.slice none 0 0] 32;obtain⟨c,b⟩:=C4 M H;clear M H;go_in;go_wp2_with fail;clear T;refine(zui (w:=C.alloc (.cells #[.int .i64 1,.int .i64 1] 3)) (l:=[1,1]) (heap_alloc_new C _) (by decide) (by decide)).mono ?_;rintro e D ⟨⟨ae,rfl,hv⟩,d⟩;have a:=C9 (N8 C _) d;have i:=j b.out.size;have b:=nB b a;obtain⟨c,g⟩:=C4 (c.out.next a) (IsV.stb.le hv (m:=w.heap.size+1) (by have s:=b.out.size;have t:=o.out;have u:=a.size;rw[R];have A:=i.out;omega));obtain⟨F,J,rfl,_⟩:=M5 hv;clear hv d a;go_wp2_with fail;refine(zui (w:=D.alloc (.cells #[.int .i64 1,.int .i64 3] 3)) (l:=[1,3]) (heap_alloc_new D _) (by decide) (by decide)).mono ?_;rintro e O ⟨⟨af,rfl,hv⟩,d⟩;have a:=C9 (N8 D _) d;have g:=j (IsV.stb.fresh g.out a);have i:=j b.out.size;have b:=nB b a;obtain⟨c,k⟩:=C4 (c.out.next a) (IsV.stb.le hv (m:=w.heap.size+1) (by have s:=b.out.size;have t:=o.out;have u:=a.size;rw[R];have A:=i.out;omega));obtain⟨G,K,rfl,_⟩:=M5 hv;clear hv d a;have S:=j c.out.lt;obtain⟨n,U,m,B,V⟩:=K0 O #[.slice F (C0 (Q7 [1,1])).length J,.slice G (C0 (Q7 [1,3])).length K] 30;obtain⟨g,k⟩:=C4 (IsV.stb.fresh g.out m) (IsV.stb.fresh k.out m);have i:=j b.out.size;have b:=nB b m;have c:=j (c.out.next m);have l:Hid (IsM n (F6 (w.heap.size+1) n) (.slice (some ⟨O.heap.size,0,none⟩) 2 2) (F9 [Q7 [1,1],Q7 [1,3]])):=ygo (es:=[.slice F (C0 (Q7 [1,1])).length J,.slice G (C0 (Q7 [1,3])).length K]) (l:=[C0 (Q7 [1,1]),C0 (Q7 [1,3])]) B ⟨S.out,B.lt⟩ (by intro ad I;simp at I;rcases I with rfl|rfl<;>rfl) (ymj g.out k.out) (by simp);clear m B;go_wp2_with fail;clear U;refine(zui (w:=n.alloc (.cells #[.int .i64 4,.int .i64 6] 3)) (l:=[4,6]) (heap_alloc_new n _) (by decide) (by decide)).mono ?_;rintro e E ⟨⟨ag,rfl,hv⟩,d⟩;have a:=C9 (N8 n _) d;obtain⟨g,k,l⟩:=G4 (IsV.stb.fresh g.out a) (IsV.stb.fresh k.out a) (IsM.stb.fresh l.out a);have i:=j b.out.size;have b:=nB b a;obtain⟨c,q⟩:=C4 (c.out.next a) (IsV.stb.le hv (m:=w.heap.size+1) (by have s:=b.out.size;have t:=o.out;have u:=a.size;rw[R];have A:=i.out;omega));obtain⟨W,ab,rfl,_⟩:=M5 hv;clear hv d a;go_wp2_with fail;refine(zui (w:=E.alloc (.cells #[.int .i64 3,.int .i64 2] 3)) (l:=[3,2]) (heap_alloc_new E _) (by decide) (by decide)).mono ?_;rintro e p ⟨⟨ah,rfl,hv⟩,d⟩;have a:=C9 (N8 E _) d;obtain⟨g,k,l,q⟩:=Z5 (IsV.stb.fresh g.out a) (IsV.stb.fresh k.out a) (IsM.stb.fresh l.out a) (IsV.stb.fresh q.out a);have i:=j b.out.size;have b:=nB b a;obtain⟨c,P⟩:=C4 (c.out.next a) (IsV.stb.le hv (m:=w.heap.size+1) (by have s:=b.out.size;have t:=o.out;have u:=a.size;rw[R];have A:=i.out;omega));obtain⟨X,ac,rfl,_⟩:=M5 hv;clear hv d a;obtain⟨ai,aj,ak⟩:=C3 c.out;obtain⟨Y,Z,aa⟩:=F7 c.out;go_wp2_with fail;refine yjb Tryz.results43 rfl rfl (Row.put3 c.out _ _ _) ?_;have same:∀x y z:f,L1 (F6 (w.heap.size+1) p) (C2 (put3 p w.heap.size x y z)) p (put3 p w.heap.size x y z):=fun x y z=>zog fun Q h=>⟨by have:=h.1;omega,by show Q<_;rw[zrk];exact h.2⟩;exact⟨⟨_,rfl,zxi (p:=N2 exQ) (IsM.stb.to l.out (same _ _ _)) (IsV.stb.to q.out (same _ _ _)) (IsV.stb.to P.out (same _ _ _))⟩,zom b.out (L _) _ _ _⟩
theorem yrs (w:r) {k:Nat} (s:k<=100):N Tryz.prog 164 #[.slice none 0 0,.int .i64 (k:Int)] w fun e w'=>(∃v,e= .returned v/\OwnS 1 3 IsIV w' w.heap.size (fun _=>False) v ([]:List Int))/\Below w.heap.size w w':=by
 obtain⟨i,hi,p,x,f⟩:=info_parts ygl;have u:¬((k:Int)<0):=og;rcases Nat.eq_zero_or_pos k with rfl|n
 ·go_in;go_wp2_with fail;go_ret;exact⟨⟨_,rfl,OwnS.nil fun m h=>h.elim⟩,Below.refl _ _⟩
 ·have g:∀c,(Builtin.append_ #[22,3] c #[.slice none 0 0,.int .i64 (k:Int)]).run Tryz.prog w= .ok (.slice (some ⟨w.heap.size,0,none⟩) k (grownCap w k 0 3)) (w.drew.alloc (.cells (Builtin.zeroCells (Value.int .i64 0).cells k++Builtin.zeroCells (Value.int .i64 0).cells (grownCap w k 0 3-k)) 3)):=fun c=>(by have h:=Lib.run_append_grow_zeros w 22 3 c 3 i (.int .i64 0) .i64 .i64 Tryz.underlying22 Tryz.underlying3 hi p none 0 0 [] (run_firstCells_none w.drew i.size 0 0 0) k n og og og (by rw[f];omega) (by rw[f];exact growslice_fits og og);simpa using h);have o:=grownCap_ge w k 0 3;have b:=grownCap_le_maxLen w k 0 3 (by unfold maxLen;omega);obtain⟨a,d⟩:=nm (grownCap w k 0 3);rw[<-d] at g o b;have q:a<=9223372036854775807:=(by unfold maxLen at b;omega);have l:=j b;have t:(0:Int)<(k:Int):=og;have zkf:IntKind.i64.wrap ((k:Int)-0)=(k:Int):=(by rw[IntKind.wrap_i64];omega);clear d b;go_in;go_wp2_with (at_builtin;refine Lib.wpList_append_run _ rfl _ _ _ _ rfl _ _ rfl rfl _ _ (g _) ?_);go_ret;refine⟨⟨_,rfl,[],?_,Wid.nil,All2.nil,fun m h=>h.elim⟩,zuq (ydj (Below.refl _ _)) _⟩;exact World.ownsRow_made w.drew _ a (L _) l.out (by rw[Array.size_append,size_zeroCells,size_zeroCells];show k*1+(a-k)*1=a*1;omega)
theorem ylr {w:r} {ops:Array Oper} {rest:List Oper} {a:Act} {Q:Exit->Act->r->Prop} (E:ElN P t e 1 bytes) (T:o.guard=none) (s x:Operand) (ac:o.op= .call {callee:= .builtin .append,args:= #[s,x],argTypes:= #[t,t]})
 {base:Nat} {A:Option Addr} {m:Nat} {l B:List Int} (ae:a.eval s=v) (d:a.eval x= .slice A m c) (ad:OwnS 1 e IsIV w base (fun _=>False) v l) (hv:IsS 1 IsIV w (C2 w) (.slice A m c) B) (al:(l.length+B.length)*(bytes+1)<=140737488355328) (S:base<=w.heap.size) (ay:A=none->c=0)
 (h:∀D w',OwnS 1 e IsIV w' base (fun _=>False) D (l++B)->Below base w w'->w.heap.size<=w'.heap.size->wpList P ops Q rest (a.put o.dst D) w'):wpList P ops Q (o::rest) a w:=by
 obtain⟨i,z,hi,aB,aA,an,aC⟩:=E.info
 obtain⟨aD,aE,g,af,aI,aJ,K,O,u⟩:=id hv
 simp only[Value.slice.injEq] at af
 obtain⟨rfl,rfl,rfl⟩:=af
 obtain⟨q,H,ag,C,aL⟩:=id ad
 have G:=zqs O
 have aK:=zqs ag
 rw[Nat.mul_add,Nat.mul_one] at al
 cases A with
 |none=>
  have av:cellsOf g=[]:=Classical.byContradiction fun e=>by obtain⟨I,off,F,_⟩:=K e;cases F
  have au:B=[]:=by
   have:g.length=0:=by rw[av] at G;simpa using G.symm
   exact List.length_eq_zero_iff.1 (by rw[<-u.1];exact this)
  subst au
  have ao:c=0:=ay rfl
  subst ao
  exact wpList_append_own_none T s x t ac base e i 1 E.und hi v l.length (cellsOf q) ae H d (h _ _ (by rw[List.append_nil];exact ad) (Below.refl _ _) (L _))
 |some ai=>
  refine wpList_append_own _ T s x t ac base e i z 1 bytes E.und hi aB aA an aC (Nat.one_pos) v l.length (cellsOf q) ae H ai B.length c (cellsOf g) d (by rw[G,u.1]) (fun p ah b=> ?_) (fun ah b=> ?_) (by unfold maxLen;omega) og S
   fun D w' ak J aG=>h D w' ?_ ?_ J.size
  ·have az:cellsOf g≠[]:=fun e=>by rw[e] at b;simp at b
   obtain⟨I,off,F,aH,aq⟩:=K az
   cases F
   rw[Addr.add_lit]
   exact aq p ah b
  ·unfold cellsOf at b
   obtain⟨x,d,b⟩:=List.mem_flatMap.1 b
   obtain⟨p,W⟩:=List.getElem?_of_mem d
   obtain⟨y,n⟩:∃y,B[p]? =some y:=⟨_,List.getElem?_eq_getElem (by rw[<-u.1];exact(List.getElem?_eq_some_iff.1 W).1)⟩
   have e:=u.2 p _ _ W n
   rw[e] at b
   simp[Value.cells] at b
   rw[b];rfl
  ·refine⟨q++g,?_,fun v hv=> ?_,?_,fun I h=>h.elim⟩
   ·rw[V]
    have aj:cellsOf (q++g)=cellsOf q++cellsOf g:=by unfold cellsOf;rw[List.flatMap_append]
    rw[aj];exact ak
   ·rcases List.mem_append.1 hv with h|h
    ·exact ag v h
    ·exact O v h
   ·exact⟨by rw[V,V,C.1,u.1],fun p x y d n=>by
     rcases Y p q.length with h|h
     ·rw[List.getElem?_append_left h] at d
      rw[List.getElem?_append_left (by rw[<-C.1];exact h)] at n
      exact C.2 p x y d n
     ·rw[List.getElem?_append_right h] at d
      rw[List.getElem?_append_right (by rw[<-C.1];exact h)] at n
      rw[<-C.1] at n
      exact u.2 _ x y d n⟩
  ·exact(Below.refl base w).grown J S (fun k ar=>(H.lt k ar).1)
theorem yow {w:r} {g:Nat} {A B:Option Addr} {m n f j:Nat} {c d:List Int} (hr:Row w g t [.slice A m f,.slice B n j]) (ha:IsS 1 IsIV w (C2 w) (.slice A m f) c) (x:IsS 1 IsIV w (C2 w) (.slice B n j) d) (lA:c.length=m) (lB:d.length=n) (nA:A=none->f=0) (nB:B=none->j=0) (U:m<=45) (V:n<=45):
 N Tryz.prog 104 #[.slice (some ⟨g,0,none⟩) 2 2] w fun e w'=>(∃v,e= .returned v/\IsS 1 IsIV w' (F6 w.heap.size w') v (c++d))/\Below w.heap.size w w':=by
 obtain⟨s,C,D,G,H,u,F⟩:=hd7 hr ha x nA nB lA lB;obtain⟨c0,E⟩:w.cell? ⟨g,0,none⟩=some (.slice A m f)/\w.cell? ⟨g,1,none⟩=some (.slice B n j):=⟨hr.cell 0,hr.cell 1⟩;clear ha x nA nB lA lB hr;go_in;go_wp2_with fail;go_loopw [3,11,5] (fun q i _ wr=>w=wr/\((i= .int .i64 0/\q= .int .i64 0)\/(i= .int .i64 1/\q= .int .i64 (m:Int))\/(i= .int .i64 2/\q= .int .i64 ((m+n:Nat):Int)))) (fun _ i _ _=>2-(intOf i).toNat);case atStart=>exact⟨rfl,.inl ⟨rfl,rfl⟩⟩
 case round=>
  obtain⟨rfl,⟨rfl,rfl⟩|⟨rfl,rfl⟩|⟨rfl,rfl⟩⟩:=hrel
  ·have K:IntKind.i64.wrap ((0:Int)+(m:Int))=(m:Int):=(by rw[IntKind.wrap_i64];omega);have L:¬((m:Int)<0):=og;go_wp2_with fail;go_roundw;(case rel=>exact⟨trivial,.inr (.inl ⟨rfl,rfl⟩)⟩);case measure=>simp[intOf]
  ·have K:IntKind.i64.wrap ((m:Int)+(n:Int))=((m+n:Nat):Int):=(by rw[IntKind.wrap_i64];omega);have L:¬(((m+n:Nat):Int)<0):=og;go_wp2_with fail;go_roundw;(case rel=>exact⟨trivial,.inr (.inr ⟨rfl,rfl⟩)⟩);case measure=>simp[intOf]
  ·go_wp2_with fail;refine(yrs w (k:=m+n) og).mono ?_;rintro e X ⟨⟨W,rfl,b⟩,y⟩;obtain⟨I,z⟩:=C4 b y;clear c0 E b y;go_wp2_with fail;go_loopw [6,27,8] (fun v i _ wr=>Below w.heap.size w wr/\((i= .int .i64 0/\OwnS 1 3 IsIV wr w.heap.size (fun _=>False) v ([]:List Int))\/(i= .int .i64 1/\OwnS 1 3 IsIV wr w.heap.size (fun _=>False) v c)\/(i= .int .i64 2/\OwnS 1 3 IsIV wr w.heap.size (fun _=>False) v (c++d)))) (fun _ i _ _=>2-(intOf i).toNat);case atStart=>exact⟨z.out,.inl ⟨rfl,I.out⟩⟩
   case round=>
    obtain⟨a,⟨rfl,b⟩|⟨rfl,b⟩|⟨rfl,b⟩⟩:=hrel
    ·have c0:=(Row.next s.out a).cell 0;have P:=(IsS.stb IsIV.stb).to C.out (E7 a);have p:=a.size;have l:((([]:List Int)).length+c.length)*(8+1)<=140737488355328:=(by rw[u.out];simp;omega);go_wp2_with (at_builtin;refine ylr zuy rfl _ _ rfl rfl rfl b P l p G.out ?_;intro S T o k R);go_roundw;(case rel=>exact⟨a.trans k,.inr (.inl ⟨rfl,o⟩)⟩);case measure=>simp[intOf]
    ·have E:=(Row.next s.out a).cell 1;have Q:=(IsS.stb IsIV.stb).to D.out (E7 a);have p:=a.size;have l:(c.length+d.length)*(8+1)<=140737488355328:=(by rw[u.out,F.out];omega);go_wp2_with (at_builtin;refine ylr zuy rfl _ _ rfl rfl rfl b Q l p H.out ?_;intro S T o k R);go_roundw;(case rel=>exact⟨a.trans k,.inr (.inr ⟨rfl,o⟩)⟩);case measure=>simp[intOf]
    ·go_wp2_with fail;go_ret;exact⟨⟨_,rfl,b.isS IsIV.stb (fun J h=>h.elim) (fun J M O=>⟨M,O⟩)⟩,a⟩
def zky (B:Nat->Option Nat) (i:Nat) (o:Option Nat):Nat->Option Nat:=fun a=>if a=i then o else B a
theorem znv (B:Nat->Option Nat) (i:Nat) (o:Option Nat):zky B i o i=o:=if_pos rfl
theorem K9 {B:Nat->Option Nat} {a:Nat} {o:Option Nat} (h:a≠i):zky B i o a=B a:=if_neg h
structure Sep (w:r) (base:Nat) (S:Nat->Prop) (B:Nat->Option Nat):Prop where
 lt:∀i b,B i=some b->base<=b/\b<w.heap.size/\¬S b
 ne:∀i j b,i≠j->B i=some b->B j≠some b
 q:∀b,S b->b<w.heap.size
section
variable {w w' : r} {base : Nat} {S T : Nat → Prop} {B : Nat → Option Nat}
theorem Sep.upd (h:Sep w base S B) (q:w.heap.size<=w'.heap.size) (r:base<=w.heap.size) (n:∀a,T a->S a\/(w.heap.size<=a/\a<w'.heap.size)) {o:Option Nat}
 (l:∀a,o=some a->B i=some a\/(w.heap.size<=a/\a<w'.heap.size/\¬T a)):Sep w' base T (zky B i o):=by
 have old:∀d a,B d=some a->base<=a/\a<w'.heap.size/\¬T a:=fun d a e=>by
  have b:=h.lt d a e;refine⟨b.1,by omega,fun j=> ?_⟩;rcases n a j with m|m
  ·exact b.2.2 m
  ·omega
 refine⟨fun d a e=> ?_,fun d k a g e c=> ?_,fun a j=> ?_⟩
 ·by_cases f:d=i
  ·subst f;rw[znv] at e;rcases l a e with b|b
   ·exact old _ _ b
   ·exact⟨by omega,b.2⟩
  ·rw[K9 f] at e;exact old _ _ e
 ·by_cases f:d=i
  ·subst f;rw[znv] at e;rw[K9 (Ne.symm g)] at c;rcases l a e with b|b
   ·exact h.ne _ _ _ g b c
   ·have:=(h.lt _ _ c).2.1;omega
  ·rw[K9 f] at e;by_cases p:k=i
   ·subst p;rw[znv] at c;rcases l a c with b|b
    ·exact h.ne _ _ _ g e b
    ·have:=(h.lt _ _ e).2.1;omega
   ·rw[K9 p] at c;exact h.ne _ _ _ g e c
 ·rcases n a j with b|b
  ·exact M (h.q a b) q
  ·exact b.2
theorem Sep.more (h:Sep w base S B) (g:w.heap.size<=w'.heap.size) (f:∀a,T a->S a\/(w.heap.size<=a/\a<w'.heap.size)):Sep w' base T B where
 lt i a e:=by
  have b:=h.lt i a e
  refine⟨b.1,by omega,fun c=> ?_⟩
  rcases f a c with d|d
  ·exact b.2.2 d
  ·omega
 ne:=h.ne
 q a c:=by
  rcases f a c with b|b
  ·exact M (h.q a b) g
  ·exact b.2
theorem Sep.size (h:Sep w base S B) (b:w.heap.size<=w'.heap.size):Sep w' base S B:=h.more b fun c a=> .inl a
end
theorem OwnS.head {i:Type} {n:Nat} {R:r->(Nat->Prop)->f->i->Prop} {w:r} {base:Nat} {S:Nat->Prop} {l:List i} (h:OwnS n t R w base S v l):
 ∃a c,v= .slice a l.length c/\l.length<=c/\c<=maxLen/\(1<=l.length->∃d,a=some ⟨d,0,none⟩/\v.ownBlock=some d):=by
 obtain⟨p,j,_⟩:=h;rcases j.2 with⟨e,b⟩|⟨g,cap,o,b,u,x,k,m,q,s⟩
 ·rw[b];exact⟨none,0,e,L _,by unfold maxLen;omega,fun h=>by omega⟩
 ·exact⟨_,_,b,k,m,fun _=>⟨g,rfl,by rw[b];rfl⟩⟩
theorem OwnS.bare {a:Type} {n:Nat} {R:r->(Nat->Prop)->f->a->Prop} (i:∀w S T e x,R w S e x->R w T e x) {w:r} {base:Nat} {S:Nat->Prop} {l:List a} (h:OwnS n t R w base S v l):OwnS n t R w base (fun _=>False) v l:=by obtain⟨b,c,d,g,k⟩:=h;exact⟨b,c,d,g.imp fun x y h=>i _ _ _ _ _ h,fun j h=>h.elim⟩
theorem OwnS.intW {w:r} {base:Nat} {S:Nat->Prop} {l:List Nat} (h:OwnS 1 3 IsIV w base S v (l.map fun(x:Nat)=>(x:Int))) (u:1<=l.length):
 ∃a c,v= .slice (some ⟨a,0,none⟩) l.length c/\IntW w a l.length (fun i=>l.getD i 0):=by have d:(l.map fun(x:Nat)=>(x:Int)).length=l.length:=(by simp);obtain⟨a,c,g,o,rfl,p,f,q,s,j,k,m,t,_⟩:=h.shape (fun e=>by rw[e] at d;simp at d;omega);refine⟨a,c,by rw[d],⟨g,f⟩,fun i hi=> ?_⟩;have hr:(l.map fun(x:Nat)=>(x:Int))[i]? =some ((l.getD i 0:Nat):Int):=(by rw[X,List.getD_eq_getElem?_getD,List.getElem?_eq_getElem hi];rfl);obtain⟨e,n,b⟩:=m.get hr;have b:e=_:=b;subst b;have:=zpu f j (zoo k (i:=0) n rfl);rwa[Nat.mul_one,Nat.add_zero] at this
structure TabO (w:r) (base:Nat) (S:Nat->Prop) (B:Nat->Option Nat) (k l n:Nat) (hd:Nat->f) (u b:f) (F:Nat->Nat->Int) (Q:Nat->Int):Prop where
 rows:∀i,i<k->OwnS 3 37 IsR w base S (hd i) (C0 (ints n (F i)))/\(hd i).ownBlock=B (7+i)
 rests:OwnS 3 37 IsR w base S b (C0 (ints l Q))/\b.ownBlock=B 4
 heads:OwnS 1 30 IsVal w base (fun _=>False) u ((List.range k).map hd)/\u.ownBlock=B 3
 sep:Sep w base S B
def zqh (hd:Nat->f) (k:Nat) (a:f):Nat->f:=fun i=>if i=k then a else hd i
theorem yze (hd:Nat->f) (k:Nat) (a:f):(List.range (k+1)).map (zqh hd k a)=(List.range k).map hd++[a]:=by
 rw[List.range_succ,List.map_append];congr 1
 ·refine List.map_congr_left fun i hi=> ?_;have:=List.mem_range.1 hi;unfold zqh;rw[if_neg og]
 ·show[zqh hd k a k]=_;unfold zqh;rw[if_pos rfl]
section
variable {w w' : r} {base : Nat} {S T : Nat → Prop} {B : Nat → Option Nat} {k l n : Nat} {hd : Nat → f} {u b : f} {F : Nat → Nat → Int} {Q : Nat → Int}
theorem zzg {f:List Raw} (c:Sep w base S B) (j:w.heap.size<=w'.heap.size) (i:∀a,T a->S a\/(w.heap.size<=a/\a<w'.heap.size)) (h:∀a,S a->T a) (d:v.ownBlock=B p) (g:OwnS 3 37 IsR w' base S v f):OwnS 3 37 IsR w' base T v f:=by
 refine g.wider IsR.stb h fun a b=> ?_;rcases i a b with b|b
 ·exact⟨M (c.q a b) j,fun e=>(c.lt p a (d▸e.symm)).2.2 b⟩
 ·exact⟨by omega,fun e=>by have:=(c.lt p a (d▸e.symm)).2.1;omega⟩
theorem TabO.grown (h:TabO w base S B k l n hd u b F Q) {r:Option Nat} (hg:w.grownBy w' r) (hr:∀a,r=some a->w.heap.size<=a\/∃p,B p=some a/\p≠3/\p≠4/\p<7):TabO w' base S B k l n hd u b F Q:=by
 have key:∀p o,o=B p->(p=3\/p=4\/7<=p)->∀a,r=some a->o≠some a/\¬S a:=fun p o f t a e=>by
  rcases hr a e with d|⟨g,d,m,q,s⟩
  ·exact⟨fun c=>by have:=(h.sep.lt p a (f▸c)).2.1;omega,fun j=>by have:=h.sep.q a j;omega⟩
  ·exact⟨fun c=>h.sep.ne g p a og d (f▸c),(h.sep.lt g a d).2.2⟩
 exact⟨fun i hi=>⟨(h.rows i hi).1.grown IsR.stb hg (key (7+i) _ (h.rows i hi).2 og),(h.rows i hi).2⟩,⟨h.rests.1.grown IsR.stb hg (key 4 _ h.rests.2 og),h.rests.2⟩,
  ⟨h.heads.1.grown IsVal.stb hg fun a e=>⟨(key 3 _ h.heads.2 og a e).1,fun x=>x⟩,h.heads.2⟩,h.sep.size hg.size⟩
theorem TabO.next (h:TabO w base S B k l n hd u b F Q) (a:Below w.heap.size w w'):TabO w' base S B k l n hd u b F Q:=h.grown (r:=none) (K7 a) fun c e=>by cases e
theorem TabO.more (h:TabO w base S B k l n hd u b F Q) (c:Below w.heap.size w w') (f:∀a,S a->T a) (e:∀a,T a->S a\/(w.heap.size<=a/\a<w'.heap.size)):TabO w' base T B k l n hd u b F Q:=by have d:=h.next c;exact⟨fun i hi=>⟨zzg h.sep c.size e f (h.rows i hi).2 (d.rows i hi).1,(h.rows i hi).2⟩,⟨zzg h.sep c.size e f h.rests.2 d.rests.1,h.rests.2⟩,d.heads,h.sep.more c.size e⟩
theorem Sep.two {n v:Option Nat} {q:Nat} (u:q≠p) (h:Sep w base S B) (z:w.heap.size<=w'.heap.size) (y:base<=w.heap.size) (D:hi<=w'.heap.size) (E:w.heap.size<=hi) (s:∀a,T a->S a\/(w.heap.size<=a/\a<hi))
 (m:∀a,n=some a->w.heap.size<=a/\a<hi/\¬T a) (hv:v=B q\/∃a,v=some a/\hi<=a/\a<w'.heap.size):Sep w' base T (zky (zky B p n) q v):=by
 have k:Sep w' base T (zky B p n):=h.upd z y (fun a d=>(s a d).imp id fun d=>⟨d.1,by omega⟩) fun a e=> .inr ⟨(m a e).1,by have:=(m a e).2.1;omega,(m a e).2.2⟩
 have new:∀b a,b≠q->zky B p n b=some a->v=some a->False:=fun b a f c i=>by
  rcases hv with j|⟨x,j,A,C⟩
  ·rw[j] at i;exact k.ne q b a (Ne.symm f) (by rw[K9 u];exact i) c
  ·rw[j] at i;cases i;by_cases r:b=p
   ·subst r;rw[znv] at c;have:=(m a c).2.1;omega
   ·rw[K9 r] at c;have:=(h.lt b a c).2.1;omega
 refine⟨fun b a e=> ?_,fun b l a o e g=> ?_,k.q⟩
 ·by_cases f:b=q
  ·subst f;rw[znv] at e;rcases hv with c|⟨x,c,i,j⟩
   ·rw[c] at e;exact k.lt b a (by rw[K9 u];exact e)
   ·rw[c] at e;cases e;refine⟨by omega,j,fun d=> ?_⟩;rcases s a d with d|d
    ·have:=h.q a d;omega
    ·omega
  ·rw[K9 f] at e;exact k.lt b a e
 ·by_cases f:b=q
  ·subst f;rw[znv] at e;rw[K9 (Ne.symm o)] at g;exact(new l a (Ne.symm o) g e).elim
  ·rw[K9 f] at e;by_cases t:l=q
   ·subst t;rw[znv] at g;exact(new b a f e g).elim
   ·rw[K9 t] at g;exact k.ne _ _ _ o e g
theorem OwnS.higher {k:Type} {R:r->(Nat->Prop)->f->k->Prop} (q:Stb R) {i:Nat} {d b:Nat->Prop} {j:List k} (h:OwnS c t R w i d v j) (C:base<=i) (s:∀a,d a->b a) (u:∀a,b a->a<w.heap.size/\some a≠v.ownBlock):OwnS c t R w base b v j:=by
 obtain⟨p,e,l,m,A⟩:=h;refine⟨p,⟨e.1,?_⟩,l,m.imp fun x y h=>q.to h fun a z=>⟨s a z,fun o=>rfl⟩,u⟩;rcases e.2 with h|⟨g,cap,n,hv,B,rest⟩
 ·exact .inl h
 ·exact .inr ⟨g,cap,n,hv,by omega,rest⟩
theorem TabO.row {j d:f} (h:TabO w base S B k l n hd u b F Q) (s:base<=w.heap.size) (t:w.grownBy w' (B 3)) (C:w.heap.size<=hi) (D:hi<=w'.heap.size)
 (y:OwnS 3 37 IsR w' w.heap.size (fun a=>w.heap.size<=a/\a<hi/\d.ownBlock≠some a) d (C0 (ints n (F k)))) (I:∀a,d.ownBlock=some a->a<hi)
 (hv:OwnS 1 30 IsVal w' base (fun _=>False) j ((List.range k).map hd++[d])) (J:j.ownBlock=u.ownBlock\/∃a,j.ownBlock=some a/\hi<=a):
 TabO w' base (fun a=>S a\/(w.heap.size<=a/\a<hi/\d.ownBlock≠some a)) (zky (zky B (7+k) d.ownBlock) 3 j.ownBlock) (k+1) l n (zqh hd k d) j b F Q:=by
 have m:∀a,S a->a<w.heap.size:=h.sep.q;have o:=t.size;have G:∀a,(S a\/(w.heap.size<=a/\a<hi/\d.ownBlock≠some a))->S a\/(w.heap.size<=a/\a<w'.heap.size):=fun a c=>c.imp id fun c=>⟨c.1,by omega⟩
 have old:∀(v:f) (p:Nat) (r:List Raw),v.ownBlock=B p->p≠3->OwnS 3 37 IsR w base S v r->OwnS 3 37 IsR w' base (fun a=>S a\/(w.heap.size<=a/\a<hi/\d.ownBlock≠some a)) v r:=fun v p r x H E=>
  zzg h.sep o G (fun a c=> .inl c) x (E.grown IsR.stb t fun a e=>⟨fun z=>h.sep.ne 3 p a (Ne.symm H) e (x▸z),(h.sep.lt 3 a e).2.2⟩)
 have q:=y.own_lt;refine⟨fun i K=> ?_,⟨old _ 4 _ h.rests.2 og h.rests.1,?_⟩,⟨?_,znv _ _ _▸rfl⟩,?_⟩
 ·by_cases e:i=k
  ·subst e;have g:zqh hd i d i=d:=if_pos rfl;rw[g];refine⟨y.higher IsR.stb s (fun a c=> .inr c) fun a c=> ?_,?_⟩
   ·rcases c with c|c
    ·exact⟨M (m a c) o,fun e=>by have:=(q a e.symm).1;have:=m a c;omega⟩
    ·exact⟨by omega,fun e=>c.2.2 e.symm⟩
   ·rw[K9 og,znv]
  ·have g:zqh hd k d i=hd i:=if_neg e;rw[g];refine⟨old _ _ _ (h.rows i og).2 og (h.rows i og).1,?_⟩;rw[K9 og,K9 og];exact(h.rows i og).2
 ·rw[K9 og,K9 og];exact h.rests.2
 ·rw[yze];exact hv
 ·exact h.sep.two og o s D C (fun a c=>c.imp id fun c=>⟨c.1,c.2.1⟩) (fun a e=>⟨(q a e).1,I a e,fun c=>by
   rcases c with c|c
   ·have:=m a c;have:=(q a e).1;omega
   ·exact c.2.2 e⟩) (by
   rcases J with e|⟨a,g,A⟩
   ·exact .inl (e.trans h.heads.2)
   ·exact .inr ⟨a,g,A,(hv.own_lt a g).2⟩)
theorem TabO.rest {c:f} {T:Nat->Prop} (h:TabO w base S B k l n hd u b F Q) (t:base<=w.heap.size) (g:w.grownBy w' (B 4)) (r:∀a,S a->T a) (j:∀a,T a->S a\/(w.heap.size<=a/\a<w'.heap.size))
 (hv:OwnS 3 37 IsR w' base T c (C0 (ints (l+1) Q))) (v:∀a,c.ownBlock=some a->B 4=some a\/w.heap.size<=a):
 TabO w' base T (zky B 4 c.ownBlock) k (l+1) n hd u c F Q:=by
 have m:=g.size;refine⟨fun i hi=>⟨?_,?_⟩,⟨hv,(znv _ _ _).symm⟩,⟨h.heads.1.grown IsVal.stb g fun a e=>⟨fun d=>h.sep.ne 4 3 a og e (h.heads.2▸d),fun x=>x⟩,?_⟩,?_⟩
 ·exact zzg h.sep m j r (h.rows i hi).2 ((h.rows i hi).1.grown IsR.stb g fun a e=>⟨fun d=>h.sep.ne 4 (7+i) a og e ((h.rows i hi).2▸d),(h.sep.lt 4 a e).2.2⟩)
 ·rw[K9 og];exact(h.rows i hi).2
 ·rw[K9 og];exact h.heads.2
 ·obtain⟨A,o,y,z,p⟩:=hv;exact h.sep.upd m t j fun a e=>(v a e).imp id fun q=>⟨q,(o.lt a e).2,fun s=>(p a s).2 e.symm⟩
theorem TabO.place (h:TabO w base S B k l n hd u b F Q) {a:Nat->Option Nat} (f:Sep w base S a) (c:a 3=B 3) (d:a 4=B 4) (e:∀i,a (7+i)=B (7+i)):TabO w base S a k l n hd u b F Q:=
 ⟨fun i hi=>⟨(h.rows i hi).1,by rw[e];exact(h.rows i hi).2⟩,⟨h.rests.1,by rw[d];exact h.rests.2⟩,⟨h.heads.1,by rw[c];exact h.heads.2⟩,f⟩
end
structure TabE (w:r) (base:Nat) (S:Nat->Prop) (B:Nat->Option Nat) (m n:Nat) (hd:Nat->f) (u b d A G:f) (sb:Nat) (F:Nat->Nat->Int) (Q C:Nat->Int) (sc:Nat->Nat) (bas oth:List Nat):Prop where
 tab:TabO w base S B m m n hd u b F Q
 cost:OwnS 3 37 IsR w base S d (C0 (ints n C))/\d.ownBlock=B 5
 basO:OwnS 1 3 IsIV w base (fun _=>False) A (bas.map fun(x:Nat)=>(x:Int))/\A.ownBlock=B 0
 othO:OwnS 1 3 IsIV w base (fun _=>False) G (oth.map fun(x:Nat)=>(x:Int))/\G.ownBlock=B 1
 scl:B 2=some sb/\∀v,v∈bas++oth->∃P k,w.cell? ⟨sb,v,none⟩=some (.slice P (A9 (sc v)).length k)/\G0 w S (.slice P (A9 (sc v)).length k) (sc v)
def zol:f->Option Addr
 | .slice a _ _=>a
 |_=>none
def zpr:f->Nat
 | .slice _ _ c=>c
 |_=>0
def U5 (hd:Nat->f) (b d:f) (m l:Nat):f:=if l=m then b else if l=m+1 then d else hd l
def znf (m l:Nat):Nat:=if l=m then 4 else if l=m+1 then 5 else 7+l
def zne (F:Nat->Nat->Int) (Q C:Nat->Int) (m l a:Nat):Int:=if l=m then Q a else if l=m+1 then C a else F l a
theorem ywr {m l k:Nat} (d:l<m+2) (c:k<m+2) (h:znf m l=znf m k):l=k:=by
 have key:∀l,(l=m/\znf m l=4)\/(l=m+1/\znf m l=5)\/(l≠m/\l≠m+1/\znf m l=7+l):=fun l=>by
  unfold znf;by_cases a:l=m
  ·exact .inl ⟨a,if_pos a⟩
  ·by_cases b:l=m+1
   ·exact .inr (.inl ⟨b,by rw[if_neg a,if_pos b]⟩)
   ·exact .inr (.inr ⟨a,b,by rw[if_neg a,if_neg b]⟩)
 rcases key l with a|a|a<;>rcases key k with b|b|b<;>omega
theorem yim {m l:Nat}:znf m l=4\/znf m l=5\/7<=znf m l:=by
 unfold znf;split
 ·exact .inl rfl
 ·split
  ·exact .inr (.inl rfl)
  ·exact .inr (.inr og)
section
variable {w W : r} {base m n sb : Nat} {S : Nat → Prop} {B : Nat → Option Nat} {hd : Nat → f} {u b d A G : f} {F : Nat → Nat → Int} {Q C : Nat → Int} {sc : Nat → Nat} {bas oth : List Nat}
theorem TabE.line (h:TabE w base S B m n hd u b d A G sb F Q C sc bas oth) {l:Nat} (f:l<m+2):
 OwnS 3 37 IsR w base S (U5 hd b d m l) (C0 (ints (L4 m n l) (zne F Q C m l)))/\(U5 hd b d m l).ownBlock=B (znf m l):=by
 unfold U5 znf;by_cases a:l=m
 ·subst a;rw[if_pos rfl,if_pos rfl,W4];have e:zne F Q C l l=Q:=(by funext j;unfold zne;rw[if_pos rfl]);rw[e];exact h.tab.rests
 ·rw[if_neg a,if_neg a];by_cases c:l=m+1
  ·subst c;rw[if_pos rfl,if_pos rfl,Z6];have e:zne F Q C m (m+1)=C:=(by funext j;unfold zne;rw[if_neg a,if_pos rfl]);rw[e];exact h.cost
  ·rw[if_neg c,if_neg c,J5 og];have e:zne F Q C m l=F l:=(by funext j;unfold zne;rw[if_neg a,if_neg c]);rw[e];exact h.tab.rows l og
theorem TabE.shape (h:TabE w base S B m n hd u b d A G sb F Q C sc bas oth) {l:Nat} (s:l<m+2):
 U5 hd b d m l= .slice (zol (U5 hd b d m l)) (L4 m n l) (zpr (U5 hd b d m l))/\L4 m n l<=zpr (U5 hd b d m l)/\zpr (U5 hd b d m l)<=maxLen/\
 (1<=L4 m n l->∃f,zol (U5 hd b d m l)=some ⟨f,0,none⟩/\B (znf m l)=some f):=by obtain⟨o,p⟩:=h.line s;obtain⟨a,c,e,i,q,g⟩:=o.head;have t:(C0 (ints (L4 m n l) (zne F Q C m l))).length=L4 m n l:=(by simp[C0,zpx]);rw[t] at e i g;rw[p] at g;refine⟨by rw[e];rfl,by rw[e];exact i,by rw[e];exact q,fun r=> ?_⟩;obtain⟨f,j,k⟩:=g r;exact⟨f,by rw[e];exact j,k⟩
def M3 (v:f):Nat:=match zol v with
 |some a=>a.block
 |none=>0
theorem yzb (h:TabE w base S B m n hd u b d A G sb F Q C sc bas oth) (Z:bas.length=m) (aa:oth.length=n) (a9:m+n<=1000) {g lo0 top:Nat} {z:Int} {D T P ad:Option Addr} {af ag k aq:Nat}
 (aD:Below w.heap.size w W) (hg:(lo0<=g/\g<base)\/w.heap.size<=g) (hlo:lo0<=base) (a7:base<=w.heap.size) (aN:∀a,S a->base<=a)
 (aP:G0 w S (.slice D (A9 1).length af) 1) (aW:G0 w S (.slice T (A9 top).length ag) top) (aX:IsQ w S (.agg #[.bool (decide (z<0)),.slice P (A9 z.natAbs).length k,.slice ad (A9 1).length aq]) ((z:Int):Rat))
 (aC:Row W g 96 [A,G,u,b,d,.bool (decide (z<0)),.slice P (A9 z.natAbs).length k,.slice ad (A9 1).length aq,.slice D (A9 1).length af,.slice (some ⟨sb,0,none⟩) (m+n) (m+n),.slice T (A9 top).length ag,.int .i64 0,.int .i64 (-1),.int .i64 0]):
 ∃(t:Nat->Prop) (ac:Lay),SchG W t lo0 W.heap.size g ac m n sc top (zne F Q C m) z 1 bas oth 0 (-1) 0:=by
 obtain⟨ra,rc,ak,r1,r2,r3⟩:=h.tab.heads.1.head;have ao:((List.range m).map hd).length=m:=(by simp);rw[ao] at ak r1 r3;rw[h.tab.heads.2] at r3;obtain⟨ba,bc,eb,az,b2,ae⟩:=h.basO.1.head;have aO:(bas.map fun(x:Nat)=>(x:Int)).length=m:=(by simp[Z]);rw[aO] at eb az ae;rw[h.basO.2] at ae;obtain⟨oa,oc,aj,aI,aZ,au⟩:=h.othO.1.head;have aT:(oth.map fun(x:Nat)=>(x:Int)).length=n:=(by simp[aa]);rw[aT] at aj aI au;rw[h.othO.2] at au;obtain⟨ac,aL⟩:=nm (⟨fun l=>M3 (U5 hd b d m l),fun l=>zpr (U5 hd b d m l),fun l=>zol (U5 hd b d m l),M3 u,rc,ra,M3 A,bc,ba,M3 G,oc,oa,sb,m+n,some ⟨sb,0,none⟩⟩:Lay);have sep:=h.tab.sep;have aR:g<W.heap.size:=aC.lt;have a8:=aD.size;have aB:=h.scl.1;have R:∀p a,B p=some a->a≠g:=fun p a e aA=>(by have:=sep.lt p a e;omega);have V:∀l,l<m+2->1<=L4 m n l->zol (U5 hd b d m l)=some ⟨M3 (U5 hd b d m l),0,none⟩/\B (znf m l)=some (M3 (U5 hd b d m l)):=fun l r f=>(by obtain⟨_,_,_,aV⟩:=h.shape r;obtain⟨a,q,s⟩:=aV f;unfold M3;rw[q];exact⟨rfl,s⟩);have aJ:1<=m->ra=some ⟨M3 u,0,none⟩/\B 3=some (M3 u):=fun f=>(by obtain⟨a,q,s⟩:=r3 f;unfold M3 zol;rw[ak,q];exact⟨rfl,s⟩);have K:1<=m->ba=some ⟨M3 A,0,none⟩/\B 0=some (M3 A):=fun f=>(by obtain⟨a,q,s⟩:=ae f;unfold M3 zol;rw[eb,q];exact⟨rfl,s⟩);have M:1<=n->oa=some ⟨M3 G,0,none⟩/\B 1=some (M3 G):=fun f=>(by obtain⟨a,q,s⟩:=au f;unfold M3 zol;rw[aj,q];exact⟨rfl,s⟩);obtain⟨t,O⟩:∃t:Nat->Prop,t=fun a=>S a\/B 3=some a\/B 2=some a:=⟨_,rfl⟩;have sS:∀a,S a->t a:=fun a j=>by rw[O];exact .inl j
 have ay:∀a,t a->base<=a/\a<w.heap.size:=fun a j=>by
  rw[O] at j;rcases j with j|j|j
  ·exact⟨aN a j,sep.q a j⟩
  ·exact⟨(sep.lt _ a j).1,(sep.lt _ a j).2.1⟩
  ·exact⟨(sep.lt _ a j).1,(sep.lt _ a j).2.1⟩
 have ar:∀p a,p≠3->p≠2->B p=some a->¬t a:=fun p a Y N e j=>by
  rw[O] at j;rcases j with j|j|j
  ·exact(sep.lt p a e).2.2 j
  ·exact sep.ne 3 p a (Ne.symm Y) j e
  ·exact sep.ne 2 p a (Ne.symm N) j e
 have J:∀a,a<w.heap.size->W.heap[a]? =w.heap[a]? :=fun a j=>aD.block a j;have av:L1 S (SN t W.heap.size W) w W:=fun a j=>⟨.inl (sS a j),fun o=>U (J a (sep.q a j))⟩;have a4:L1 S t w W:=fun a j=>⟨sS a j,fun o=>U (J a (sep.q a j))⟩;have aH:∀l,l<m+2->1<=L4 m n l->LineW w S (M3 (U5 hd b d m l)) (zpr (U5 hd b d m l)) (L4 m n l) (zne F Q C m l):=fun l r f=>(by obtain⟨a,c,e,_,_,_,aM⟩:=(h.line r).1.line f;have q:M3 (U5 hd b d m l)=a:=(by unfold M3;rw[e];rfl);have s:zpr (U5 hd b d m l)=c:=(by rw[e];rfl);rw[q,s];exact aM);refine⟨t,ac,?_⟩;subst aL
 refine⟨⟨fun l r f=>(aH l r f).keep (J _ (aH l r f).lt) fun x ab=>⟨.inl (sS x ab),J x (sep.q x ab)⟩,fun l k r aE f N e=> ?_,fun l r f=> ?_,fun a j=>by have:=(ay a j).2;omega,L _⟩,
  fun l r f=>(V l r f).1,fun l r=>⟨(h.shape r).2.1,(h.shape r).2.2.1⟩,⟨P,k,ad,aq,D,af,T,ag,?_,IsQ.stb.to aX av,IsK.stb.to aP av,IsK.stb.to aW av⟩,fun i hi=> ?_,⟨r1,r2,az,b2,aI,aZ,L _,by show m+n<=maxLen;unfold maxLen;omega⟩,
  fun f=>⟨(K f).1,?_⟩,fun f=>⟨(M f).1,?_⟩,fun v hv=> ?_,⟨by omega,aR,fun j=>by have:=ay g j;omega⟩,fun f=> ?_,fun f=> ?_,fun f N=> ?_,fun l r f=> ?_,⟨Z,aa⟩⟩
 ·have I:=(V l r f).2;have aS:=(V k aE N).2;exact Classical.byContradiction fun R=>sep.ne _ _ _ (fun aA=>R (ywr r aE aA)) I (by rw[aS];exact congrArg some e.symm)
 ·have I:=(V l r f).2;have:=sep.lt _ _ I;have aU:=yim (m:=m) (l:=l);exact⟨by show M3 _<_;omega,ar _ _ og og I⟩
 ·show Row W g _ [.slice ba m bc,.slice oa n oc,.slice ra m rc,.slice (zol (U5 hd b d m m)) m (zpr (U5 hd b d m m)),.slice (zol (U5 hd b d m (m+1))) n (zpr (U5 hd b d m (m+1))),_,_,_,_,_,_,_,_,_];have q:=(h.shape (l:=m) og).1;have s:=(h.shape (l:=m+1) og).1;rw[W4] at q;rw[Z6] at s;have ah:U5 hd b d m m=b:=if_pos rfl;have ai:U5 hd b d m (m+1)=d:=(by unfold U5;rw[if_neg og,if_pos rfl]);rw[<-q,<-s,ah,ai,<-eb,<-aj,<-ak];exact aC
 ·have f:1<=m:=og;have aG:=(aJ f).2;refine⟨(aJ f).1,by rw[O];exact .inr (.inl aG),?_⟩;show W.cell? ⟨M3 u,i,none⟩=some (.slice (zol (U5 hd b d m i)) n (zpr (U5 hd b d m i)));have q:=(h.shape (l:=i) og).1;rw[J5 hi] at q;have s:U5 hd b d m i=hd i:=(by unfold U5;rw[if_neg og,if_neg og]);have hc:(hd i).cells[0]? =some (hd i):=(by obtain⟨x,y,z,ab⟩:∃x y z,hd i= .slice x y z:=⟨_,_,_,s▸q⟩;rw[ab];rfl);rw[<-q,s,U (J _ (sep.lt _ _ aG).2.1)];obtain⟨a,c,a5,a6,ah,_,a0,_,_,a1,a2,a3,_,_⟩:=h.tab.heads.1.shape (fun e=>by rw[e] at ao;simp at ao;omega);have ai:M3 u=a:=(by unfold M3;rw[ah];rfl);rw[ai];have hr:((List.range m).map hd)[i]? =some (hd i):=(by rw[X,List.getElem?_range hi];rfl);obtain⟨e,aQ,an⟩:=a3.get hr;have an:e=_:=an;subst an;have:=zpu a0 a1 (zoo a2 (i:=0) aQ hc);rwa[Nat.mul_one,Nat.add_zero] at this
 ·obtain⟨a,c,e,hi⟩:=h.basO.1.intW (by rw[Z];exact f);have q:M3 A=a:=(by unfold M3;rw[e];rfl);rw[Z] at hi;show IntW W (M3 A) m _;rw[q];exact hi.keep (J _ hi.lt)
 ·obtain⟨a,c,e,hi⟩:=h.othO.1.intW (by rw[aa];exact f);have q:M3 G=a:=(by unfold M3;rw[e];rfl);rw[aa] at hi;show IntW W (M3 G) n _;rw[q];exact hi.keep (J _ hi.lt)
 ·obtain⟨aK,aY,E,H⟩:=h.scl.2 v hv;refine⟨rfl,by rw[O];exact .inr (.inr aB),aK,aY,?_,IsK.stb.to H a4⟩;rw[<-E];exact U (J _ (sep.lt _ _ aB).2.1)
 ·have Y:=sep.lt _ _ (K f).2;exact⟨by show lo0<=M3 A;omega,by show M3 A<_;omega,ar 0 _ og og (K f).2,R 0 _ (K f).2⟩
 ·have Y:=sep.lt _ _ (M f).2;exact⟨by show lo0<=M3 G;omega,by show M3 G<_;omega,ar 1 _ og og (M f).2,R 1 _ (M f).2⟩
 ·exact fun e=>sep.ne 0 1 _ og (K f).2 (by rw[(M N).2];exact congrArg some (show M3 G=M3 A from e.symm))
 ·have I:=(V l r f).2;have Y:=sep.lt _ _ I;have aU:=yim (m:=m) (l:=l);exact⟨by show lo0<=M3 _;omega,R _ _ I,fun al e=>sep.ne _ 0 _ og I (by rw[(K al).2];exact congrArg some (show M3 A=M3 _ from e.symm)),fun al e=>sep.ne _ 1 _ og I (by rw[(M al).2];exact congrArg some (show M3 G=M3 _ from e.symm))⟩
end
theorem zz1399 {w:r} {rest:List Oper} {a:Act} {Q:Exit->Act->r->Prop} {z:f} (b:ElT P t e z bytes) (F:z.cells= #[z]) (hg:o.guard=none) (l c:Operand) (E:o.op=Op.makeSlice t l c) {j g:IntKind} {d C:Int} (n:Nat)
 (B:a.eval l= .int j d) (hc:a.eval c= .int g C) (v:d=(n:Int)) (q:C=(n:Int)) (x:n*(bytes+1)<=140737488355328)
 (s:∀w',Row w' w.heap.size e (List.replicate n z)->Below w.heap.size w w'->Hid (w'.heap.size=w.heap.size+1)->wpList P ops Q rest (a.put o.dst (.slice (some ⟨w.heap.size,0,none⟩) n n)) w'):
 wpList P ops Q (o::rest) a w:=by obtain⟨i,k,m,p,A⟩:=b.info;rw[Nat.mul_add,Nat.mul_one] at x;refine wpList_plain hg fun G u=> ?_;have b2:i.bytes*n<=281474976710656:=(by rw[A,Nat.mul_comm];omega);have y:(i.bytes:Int)*(n:Int)<=281474976710656:=(by have h:((i.bytes*n:Nat):Int)<=281474976710656:=og;rwa[Int.natCast_mul] at h);have hr:=run_make (P:=P) w t e i z b.und k m j g n n og (Int.le_refl _) y og;simp only[Int.toNat_natCast] at hr;subst v;subst q;unfold Oper.wp;simp[execOp,E,B,hc,hr,Result.andThen];refine u _ _ (s _ ?_ ((Below.refl _ _).alloc (L _) _) (by simp[Hid]));unfold Row;(have D:(List.replicate n z).toArray=madeCells z.cells (n*i.size):=by apply Array.ext';rw[p,Nat.mul_one,F];show _=(madeCells #[z] n).toList;rw[toList_madeCells_one]);rw[D];exact heap_alloc_new w _
end Go.Proofs.YtdgilbgdkmhcmaaGreatDoor
