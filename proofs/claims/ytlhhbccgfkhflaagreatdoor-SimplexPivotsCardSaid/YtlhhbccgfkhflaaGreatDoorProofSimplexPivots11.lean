/-
 A region that draws its order and sets up one variable of any cells;what such a region of package simplex's start holds.
-/
import Derived.Test.YtlhhbccgfkhflaaGreatDoorProofSimplexPivots10
namespace Go.Proofs.YtlhhbccgfkhflaaGreatDoor
open Go.RowKit
set_option linter.unusedVariables false
set_option maxRecDepth 100000
set_option maxHeartbeats 8000000
open _root_.Go.Lib renaming hid → L
open _root_.Nat renaming le_refl → aa, le_trans → U, lt_of_lt_of_le → ak
open _root_.List renaming getD_eq_getElem?_getD → aj, mem_of_getElem? → al
open _root_.And renaming intro → V
open _root_.Go renaming World → s, Value → E, TypeId → ad, undef → D
open _root_.Go.RowKit renaming Below → F
variable {ah ai S ae af p : Nat → Prop} {W l q y d e z T : s} {base g j r u H G K C I J : Nat} {N O ac v v1 R : E} {f : Nat → Rat} {xs : List E}
abbrev put8 (T:s) (g:Nat) (a l q y d e z b:E):s:=(((((((T.setCell ⟨g,0,none⟩ a).setCell ⟨g,1,none⟩ l).setCell ⟨g,2,none⟩ q).setCell ⟨g,3,none⟩ y).setCell ⟨g,4,none⟩ d).setCell ⟨g,5,none⟩ e).setCell ⟨g,6,none⟩ z).setCell ⟨g,7,none⟩ b
theorem Row.put8 {t:ad} {c H G K C I J f:E} (h:Row T g t [c,H,G,K,C,I,J,f]) (a l q y d e z b:E):Row (Go.Proofs.YtlhhbccgfkhflaaGreatDoor.put8 T g a l q y d e z b) g t [a,l,q,y,d,e,z,b]:=(((((((h.set_ 0 a).set_ 1 l).set_ 2 q).set_ 3 y).set_ 4 d).set_ 5 e).set_ 6 z).set_ 7 b
theorem zoz (T:s) (g:Nat) (a l q y d e z b:E):T.grownBy (put8 T g a l q y d e z b) (some g):=J7 (J7 (J7 (J7 (J7 (J7 (J7 (I9 _ _ _ _) (I9 _ _ _ _)) (I9 _ _ _ _)) (I9 _ _ _ _)) (I9 _ _ _ _)) (I9 _ _ _ _)) (I9 _ _ _ _)) (I9 _ _ _ _)
theorem zzq (T:s) (g:Nat) (a l q y d e z b:E):(put8 T g a l q y d e z b).heap.size=T.heap.size:=by simp[put8,World.setCell]
theorem zz1390 {a l q y d e z b:E} {t:ad} (h:Row T g t xs):∃c,Row (put8 T g a l q y d e z b) g t c/\c.length=xs.length:=⟨_,(((((((h.set_ 0 a).set_ 1 l).set_ 2 q).set_ 3 y).set_ 4 d).set_ 5 e).set_ 6 z).set_ 7 b,by simp⟩
theorem zrm {w:s} {t:ad} (h:Row w g t xs):w.frozen? ⟨g,0,none⟩=false/\w.frozen? ⟨g,1,none⟩=false/\w.frozen? ⟨g,2,none⟩=false/\w.frozen? ⟨g,3,none⟩=false/\w.frozen? ⟨g,4,none⟩=false/\w.frozen? ⟨g,5,none⟩=false/\w.frozen? ⟨g,6,none⟩=false/\w.frozen? ⟨g,7,none⟩=false:=⟨h.frozen 0,h.frozen 1,h.frozen 2,h.frozen 3,h.frozen 4,h.frozen 5,h.frozen 6,h.frozen 7⟩
theorem ywr (h:xs.length=8):∃a H G K C I J b,xs=[a,H,G,K,C,I,J,b]:=by
 match xs,h with
 |[a,H,G,K,C,I,J,b],_=>exact⟨_,_,_,_,_,_,_,_,rfl⟩
def vE (n m:Nat) (w w':s) (x:Option E):Prop:=if m=n then∃g,x=some (X5 g)/\w.grownBy w' (some g)/\w'.heap.size=w.heap.size/\∀t xs,Row w g t xs->∃a,Row w' g t a/\a.length=xs.length else F w.heap.size w w'
def vR (t:ad) (k:Nat) (v:E) (w:s) (x:Option E):Prop:=∃g xs,v=X5 g/\x=some v/\Row w g t xs/\xs.length=k
theorem zqk {d:Type} {R:s->(Nat->Prop)->E->d->Prop} (e:Stb R) {n0:Nat} {w w':s} {y:d} (h:R w (NX n0 w (some (X5 g))) v y) (hg:w.grownBy w' (some g)) (f:w'.heap.size=w.heap.size):R w' (NX n0 w' (some (X5 g))) v y:=
 e.to h fun b a=>⟨⟨a.1,by rw[f];exact a.2.1,a.2.2⟩,fun o=>World.cell?_of_block (hg.block b a.2.1 fun c=>a.2.2 g rfl (by injection c with c))⟩
theorem yns {t:ad} {k:Nat} {w w':s} {x:Option E} (h:vR t k v w x) (c:F w.heap.size w w'):vR t k v w' x:=by obtain⟨g,xs,a,b,r,d⟩:=h;exact⟨g,xs,a,b,r.next c,d⟩
theorem ynt {t:ad} {k:Nat} {w w':s} (h:vR t k v w (some (X5 g))) (hr:∀t xs,Row w g t xs->∃a,Row w' g t a/\a.length=xs.length):vR t k v w' (some (X5 g)):=by obtain⟨f,xs,rfl,b,r,e⟩:=h;cases b;obtain⟨a,c,d⟩:=hr _ _ r;exact⟨g,a,rfl,rfl,c,d.trans e⟩
section
variable {P : Program} {o : Oper} {a : Act} {w B : s} {Φ : Nat → E → s → Option E → Prop} {Q : Exit → Act → s → Prop} {n0 i k n : Nat} {x : Option E}
theorem Z6 (e:i≠k) (l:i≠n) (hd:o.dst.isSome=true) (b:zov n0 B w x) (h:∀f:Act->s->Prop,(∀v w',F w.heap.size w w'->Φ i v w' x->f (a.put o.dst v) w')->o.wp P a w f Q):
 o.wp P a w (fun j w'=>∃v,j=a.put o.dst v/\vE n i w w' x/\zov n0 B w' (if i=k then some (if o.dst.isSome then v else D) else x)/\Φ i (if o.dst.isSome then v else D) w' (if i=k then some (if o.dst.isSome then v else D) else x)/\(i=k->zrh w (if o.dst.isSome then v else D) w')) Q:=by
 refine h _ fun v w' d hv=>⟨v,rfl,?_,?_,?_,fun c=>absurd c e⟩
 ·unfold vE;rw[if_neg l];exact d
 ·rw[if_neg e];exact⟨b.1.trans (d.mono b.2.1),U b.2.1 d.size,fun g c=>⟨(b.2.2 g c).1,ak (b.2.2 g c).2 d.size⟩⟩
 ·rw[if_neg e,if_pos hd];exact hv
theorem ydy {ob:Obj} (i:k≠n) (hd:o.dst.isSome=true) (b:zov n0 B w x) (l:x=none) (j:Φ k (X5 w.heap.size) (w.alloc ob) (some (X5 w.heap.size)))
 (h:∀d:Act->s->Prop,d (a.put o.dst (X5 w.heap.size)) (w.alloc ob)->o.wp P a w d Q):
 o.wp P a w (fun f w'=>∃v,f=a.put o.dst v/\vE n k w w' x/\zov n0 B w' (if k=k then some (if o.dst.isSome then v else D) else x)/\Φ k (if o.dst.isSome then v else D) w' (if k=k then some (if o.dst.isSome then v else D) else x)/\(k=k->zrh w (if o.dst.isSome then v else D) w')) Q:=by
 have c:=L8 w ob;refine h _ ⟨X5 w.heap.size,rfl,?_,?_,?_,fun e=> ?_⟩
 ·unfold vE;rw[if_neg i];exact c
 ·rw[if_pos rfl,if_pos hd];exact⟨b.1.trans (c.mono b.2.1),U b.2.1 c.size,fun g e=>by cases e;exact⟨b.2.1,by rw[World.size_alloc];omega⟩⟩
 ·rw[if_pos rfl,if_pos hd];exact j
 ·rw[if_pos hd];rfl
theorem ydz (e:n≠k) (hd:o.dst.isSome=false) (d:zov n0 B w x) {w':s} (j:x=some (X5 g)) (hg:w.grownBy w' (some g)) (f:w'.heap.size=w.heap.size) (hr:∀t xs,Row w g t xs->∃l,Row w' g t l/\l.length=xs.length) (q:Φ n D w' x)
 (h:∀i:Act->s->Prop,i (a.put o.dst D) w'->o.wp P a w i Q):
 o.wp P a w (fun m w'=>∃v,m=a.put o.dst v/\vE n n w w' x/\zov n0 B w' (if n=k then some (if o.dst.isSome then v else D) else x)/\Φ n (if o.dst.isSome then v else D) w' (if n=k then some (if o.dst.isSome then v else D) else x)/\(n=k->zrh w (if o.dst.isSome then v else D) w')) Q:=by
 refine h _ ⟨D,rfl,?_,?_,?_,fun c=>absurd c e⟩
 ·unfold vE;rw[if_pos rfl];exact⟨g,j,hg,f,hr⟩
 ·rw[if_neg e];exact⟨d.1.grown hg d.2.1 fun b c=>by cases c;exact(d.2.2 g j).1,by rw[f];exact d.2.1,fun p c=>by rw[f];exact d.2.2 p c⟩
 ·rw[if_neg e,if_neg (by rw[hd];simp)];exact q
end
def IsD8 (w:s) (S:Nat->Prop) (v:E) (p:ProgQ):Prop:=∃l a q b y c j d h f e i g,v= .agg #[.slice none 0 0,.slice none 0 0,.slice l (G6 p.A).length a,.slice q (C2 p.B).length b,.slice y (C2 p.C).length c,.bool j,.slice d h f,.slice e i g]/\
 IsM w S (.slice l (G6 p.A).length a) (G6 p.A)/\IsV w S (.slice q (C2 p.B).length b) (C2 p.B)/\IsV w S (.slice y (C2 p.C).length c) (C2 p.C)/\IsQ w S (.agg #[.bool j,.slice d h f,.slice e i g]) 0
theorem IsD8.stb:Stb IsD8:=by rintro w w' S T v p ⟨l,h,q,i,y,j,r,d,n,k,e,o,m,rfl,b,c,f,g⟩ a;exact⟨l,h,q,i,y,j,r,d,n,k,e,o,m,rfl,IsM.stb.to b a,IsV.stb.to c a,IsV.stb.to f a,IsQ.stb.to g a⟩
def zlq (P:Nat) (A B C:Option Addr) (m n k l o:Nat) (p:ProgQ) (n0:Nat) (i:Nat) (v:E) (w:s) (x:Option E):Prop:=
 match i with
 |0=>v= .pointer (some ⟨P,0,none⟩)
 |1=>v= .slice A m k
 |2=>IsM w (NX n0 w x) v (G6 p.A)
 |3=>v= .pointer (some ⟨P,1,none⟩)
 |4=>v= .slice B m l
 |5=>IsV w (NX n0 w x) v (C2 p.B)
 |6=>v= .pointer (some ⟨P,2,none⟩)
 |7=>v= .slice C n o
 |8=>IsV w (NX n0 w x) v (C2 p.C)
 |9=>IsQ w (NX n0 w x) v 0
 |10=>IsD8 w (NX n0 w x) v p
 |11=>vR 32 8 v w x
 |12=>∃g a b c d e f h j,x=some (X5 g)/\Row w g 32 [a,b,c,d,e,f,h,j]/\IsD8 w (NX n0 w (x)) (.agg #[a,b,c,d,e,f,h,j]) p
 |_=>True
theorem yyu (P:Nat) (A B C:Option Addr) (m n e f j:Nat) (p:ProgQ) (n0:Nat):∀(i d:Nat) (v:E) (w w':s) (x:Option E),i≠d->zlq P A B C m n e f j p n0 i v w x->vE 12 d w w' x->zlq P A B C m n e f j p n0 i v w' x:=by
 intro i d v w w' x c h a;unfold vE at a;split at a
 ·rename_i I;subst I;obtain⟨g,rfl,hg,b,hr⟩:=a;match i,c,h with
  |0,_,h=>exact h
  |1,_,h=>exact h
  |2,_,h=>exact zqk IsM.stb h hg b
  |3,_,h=>exact h
  |4,_,h=>exact h
  |5,_,h=>exact zqk IsV.stb h hg b
  |6,_,h=>exact h
  |7,_,h=>exact h
  |8,_,h=>exact zqk IsV.stb h hg b
  |9,_,h=>exact zqk IsQ.stb h hg b
  |10,_,h=>exact zqk IsD8.stb h hg b
  |11,_,h=>exact ynt h hr
  |12,c,_=>exact absurd rfl c
  |_+13,_,_=>trivial
 ·match i,h with
  |0,h=>exact h
  |1,h=>exact h
  |2,h=>exact zqv IsM.stb h a
  |3,h=>exact h
  |4,h=>exact h
  |5,h=>exact zqv IsV.stb h a
  |6,h=>exact h
  |7,h=>exact h
  |8,h=>exact zqv IsV.stb h a
  |9,h=>exact zqv IsQ.stb h a
  |10,h=>exact zqv IsD8.stb h a
  |11,h=>exact yns h a
  |12,h=>obtain⟨g,k,l,o,t,u,y,z,G,H,r,q⟩:=h;exact⟨g,k,l,o,t,u,y,z,G,H,r.next a,zqv IsD8.stb q a⟩
  |_+13,_=>trivial
theorem yyt (P:Nat) (A B C:Option Addr) (m n c d e:Nat) (p:ProgQ) (n0:Nat):∀(i:Nat) (v:E) (w w':s) (u:E),i≠11->zlq P A B C m n c d e p n0 i v w none->vE 12 11 w w' none->zrh w u w'->zlq P A B C m n c d e p n0 i v w' (some u):=by
 intro i v w w' u b h a j;unfold vE at a;rw[if_neg og] at a;obtain rfl:u=X5 w.heap.size:=j;match i,b,h with
 |0,_,h=>exact h
 |1,_,h=>exact h
 |2,_,h=>exact zte IsM.stb h a
 |3,_,h=>exact h
 |4,_,h=>exact h
 |5,_,h=>exact zte IsV.stb h a
 |6,_,h=>exact h
 |7,_,h=>exact h
 |8,_,h=>exact zte IsV.stb h a
 |9,_,h=>exact zte IsQ.stb h a
 |10,_,h=>exact zte IsD8.stb h a
 |11,b,_=>exact absurd rfl b
 |12,_,h=>obtain⟨g,k,l,o,q,r,t,x,y,f,_⟩:=h;cases f
 |_+13,_,_=>trivial
def ydb (b c:Option Nat) (a:Nat->Option Nat) (d e:Option Nat) (g:Nat):Nat->Option Nat:=fun p=>if p=0 then b else if p=1 then c else if p=4 then d else if p=5 then e else if p=6 then some g else a p
theorem OwnS.inW {l:Type} {c:Nat} {t:ad} {R:s->(Nat->Prop)->E->l->Prop} (g:Stb R) {a:s} {x:Nat} {f:Nat->Prop} {B:Nat->Option Nat} {p:Nat} {j:List l} (h:OwnS c t R a x f v j) (k:F a.heap.size a W) (d:base<=x) (m:∀b,f b->S b) (i:Sep W base S B) (n:v.ownBlock=B p):OwnS c t R W base S v j:=
 (h.grown g (K0 (row:=none) k) fun b e=>by cases e).higher g d m fun b d=>⟨i.q b d,fun e=>(i.lt p b (n▸e.symm)).2.2 d⟩
theorem ytp {m n:Nat} {S3:Nat->Prop} {v:Nat->Option Nat} {hd:Nat->E} {D:Nat->Nat->Rat} {bas oth:List Nat}
 (an:OwnS 1 3 IsIV l H ah v1 (bas.map fun(x:Nat)=>(x:Int))) (ao:OwnS 1 3 IsIV q G ai R (oth.map fun(x:Nat)=>(x:Int))) (r:RowO y K S3 v m hd ac (fun i=>(zmz m n D).getD i []))
 (V:OwnS 3 30 IsR d C ae O (C2 (G9 m fun i=>D i n))) (aI:∀b,ae b->C<=b) (X:OwnS 3 30 IsR e I af N (C2 (G9 n fun j=> -(D m j)))) (aJ:∀b,af b->I<=b)
 (ad:F l.heap.size l W) (ag:F q.heap.size q W) (U:F y.heap.size y W) (ak:F d.heap.size d W) (al:F e.heap.size e W) (aH:F z.heap.size z W)
 (aT:base<=H/\H<=l.heap.size/\l.heap.size<=G/\G<=q.heap.size/\q.heap.size<=K/\K<=y.heap.size/\y.heap.size<=C/\C<=d.heap.size/\d.heap.size<=I/\I<=e.heap.size/\e.heap.size<=J/\J<=z.heap.size)
 (hg:base<=g/\g<W.heap.size/\(g<H\/l.heap.size<=g)/\(g<G\/q.heap.size<=g)/\(g<K\/y.heap.size<=g)/\(g<C\/d.heap.size<=g)/\(g<I\/e.heap.size<=g)/\(g<J\/z.heap.size<=g)):
 ∃(S:Nat->Prop) (B:Nat->Option Nat),PartE W base S B m n g hd ac O N v1 R (Y8 D m n) bas oth/\∀b,J<=b->b<z.heap.size->S b:=by
 have w:∀b,ae b->b<d.heap.size/\some b≠O.ownBlock:=(by obtain⟨_,_,_,_,h⟩:=V;exact h);have A:∀b,af b->b<e.heap.size/\some b≠N.ownBlock:=(by obtain⟨_,_,_,_,h⟩:=X;exact h);have aK:Pt (fun _=>False) (U0 (fun _=>none) 0 v1.ownBlock) (fun b=>H<=b/\b<l.heap.size):=Pt.one 0 (fun b a=>⟨an.own_lt b a,fun x=>x⟩) fun b h=>h.elim;have aL:Pt (fun _=>False) (U0 (fun _=>none) 1 R.ownBlock) (fun b=>G<=b/\b<q.heap.size):=Pt.one 1 (fun b a=>⟨ao.own_lt b a,fun x=>x⟩) fun b h=>h.elim;have aM:Pt S3 v (fun b=>K<=b/\b<y.heap.size):=⟨fun i b a=>⟨⟨(r.sep.lt i b a).1,(r.sep.lt i b a).2.1⟩,(r.sep.lt i b a).2.2⟩,r.sep.ne,fun b f=>⟨r.low b f,r.sep.q b f⟩⟩;have aN:Pt ae (U0 (fun _=>none) 4 O.ownBlock) (fun b=>C<=b/\b<d.heap.size):=Pt.one 4 (fun b a=>⟨V.own_lt b a,fun f=>(w b f).2 a.symm⟩) fun b f=>⟨aI b f,(w b f).1⟩;have aO:Pt af (U0 (fun _=>none) 5 N.ownBlock) (fun b=>I<=b/\b<e.heap.size):=Pt.one 5 (fun b a=>⟨X.own_lt b a,fun f=>(A b f).2 a.symm⟩) fun b f=>⟨aJ b f,(A b f).1⟩;have aP:Pt (fun b=>J<=b/\b<z.heap.size) (fun _=>none) (fun b=>J<=b/\b<z.heap.size):=⟨fun i b a=>(by cases a),fun i j b aR a=>(by cases a),fun b f=>f⟩;have aQ:Pt (fun _=>False) (U0 (fun _=>none) 6 (some g)) (fun b=>b=g):=Pt.one 6 (fun b a=>⟨by injection a with a;exact a.symm,fun x=>x⟩) fun b h=>h.elim;have t:∀p,p<7->p≠3->v p=none:=r.supp;have c:∀{i j:Nat} {o:Option Nat},j≠i->U0 (fun _=>none) i o j=none:=fun h=>J8 h
 have aB:=aK.join aL (fun b h L=>by omega) fun p=>by
  by_cases h:p=1
  ·exact .inl (c og)
  ·exact .inr (c h)
 have aC:=aB.join aM (fun b h L=>by omega) fun p=>by
  by_cases h:p<7/\p≠3
  ·exact .inr (t p h.1 h.2)
  ·exact .inl (by rw[c og,c og];rfl)
 have aD:=aC.join aN (fun b h L=>by omega) fun p=>by
  by_cases h:p=4
  ·subst h;exact .inl (by rw[c og,c og,t 4 og og];rfl)
  ·exact .inr (c h)
 have aE:=aD.join aO (fun b h L=>by omega) fun p=>by
  by_cases h:p=5
  ·subst h;exact .inl (by rw[c og,c og,c og,t 5 og og];rfl)
  ·exact .inr (c h)
 have aG:=aE.join aP (fun b h L=>by omega) fun p=> .inr rfl
 have ab:=aG.join aQ (fun b h L=>by omega) fun p=>by
  by_cases h:p=6
  ·subst h;exact .inl (by rw[c og,c og,c og,c og,t 6 og og];rfl)
  ·exact .inr (c h)
 have sep:=ab.sep (w:=W) (base:=base) fun b h=>(by have aU:=ad.size;have aV:=ag.size;have aW:=U.size;have aX:=ak.size;have aY:=al.size;have aZ:=aH.size;omega);obtain⟨B,u⟩:=nm (ydb v1.ownBlock R.ownBlock v O.ownBlock N.ownBlock g)
 have aA:(fun p=>((((((U0 (fun _=>none) 0 v1.ownBlock p).or (U0 (fun _=>none) 1 R.ownBlock p)).or (v p)).or (U0 (fun _=>none) 4 O.ownBlock p)).or (U0 (fun _=>none) 5 N.ownBlock p)).or none).or (U0 (fun _=>none) 6 (some g) p))=B:=by
  rw[u];funext p;unfold ydb;by_cases Q:p=0
  ·subst Q;rw[if_pos rfl,zkn,c og,c og,c og,c og,t 0 og og];simp
  ·rw[if_neg Q,c Q];by_cases s:p=1
   ·subst s;rw[if_pos rfl,zkn,c og,c og,c og,t 1 og og];simp
   ·rw[if_neg s,c s];by_cases w:p=4
    ·subst w;rw[if_pos rfl,zkn,c og,c og,t 4 og og];simp
    ·rw[if_neg w,c w];by_cases A:p=5
     ·subst A;rw[if_pos rfl,zkn,c og,t 5 og og];simp
     ·rw[if_neg A,c A];by_cases T:p=6
      ·subst T;rw[if_pos rfl,zkn,t 6 og og];simp
      ·rw[if_neg T,c T];simp
 rw[aA] at sep;have au:v1.ownBlock=B 0:=(by rw[u];rfl);have av:R.ownBlock=B 1:=(by rw[u];rfl);have Y:O.ownBlock=B 4:=(by rw[u];rfl);have Z:N.ownBlock=B 5:=(by rw[u];rfl);have ay:v 3=B 3:=(by rw[u];rfl);have aa:∀i,v (7+i)=B (7+i):=fun i=>(by rw[u];unfold ydb;rw[if_neg og,if_neg og,if_neg og,if_neg og,if_neg og]);refine⟨_,B,⟨fun k aS=> ?_,⟨?_,r.heads.2.trans ay⟩,⟨?_,au⟩,⟨?_,av⟩,sep,by rw[u];rfl,fun b f=> ?_⟩,fun b s M=> .inl (.inr ⟨s,M⟩)⟩
 ·unfold J9 zli;by_cases s:k=m
  ·subst s;rw[if_pos rfl,if_pos rfl,M9];have a:Y8 D k n k=fun i=>D i n:=(by funext j;exact zvs _ _ _ _);rw[a];exact⟨V.inW IsR.stb ak og (fun b f=> .inl (.inl (.inl (.inr f)))) sep Y,Y⟩
  ·rw[if_neg s,if_neg s];by_cases M:k=m+1
   ·subst M;rw[if_pos rfl,if_pos rfl,U6];have a:Y8 D m n (m+1)=fun j=> -(D m j):=(by funext j;exact ycc _ _ _ _);rw[a];exact⟨X.inW IsR.stb al og (fun b f=> .inl (.inl (.inr f))) sep Z,Z⟩
   ·have P:k<m:=og;rw[if_neg M,if_neg M,J4 P];have a:Y8 D m n k=D k:=(by funext j;exact zvt P);obtain⟨aq,ar⟩:=r.rows k P;have az:(zmz m n D).getD k []=G9 n (D k):=(by rw[aj,zvz P];rfl);rw[az] at aq;rw[a];exact⟨aq.inW IsR.stb U og (fun b f=> .inl (.inl (.inl (.inl (.inr f))))) sep (ar.trans (aa k)),ar.trans (aa k)⟩
 ·have:=r.heads.1.grown IsVal.stb (K0 (row:=none) U) fun b a=>(by cases a);exact this.higher IsVal.stb og (fun b h=>h) fun b h=>h.elim
 ·have:=(OwnS.bare (fun _ _ _ _ _ h=>h) an).grown IsIV.stb (K0 (row:=none) ad) fun b a=>(by cases a);exact this.higher IsIV.stb og (fun b h=>h) fun b h=>h.elim
 ·have:=(OwnS.bare (fun _ _ _ _ _ h=>h) ao).grown IsIV.stb (K0 (row:=none) ag) fun b a=>(by cases a);exact this.higher IsIV.stb og (fun b h=>h) fun b h=>h.elim
 ·have:=ab.q b f;omega
theorem ygy {m n c k f a:Nat} {S3:Nat->Prop} {M:Nat->Option Nat} {hd:Nat->E} {aE aG aH aI aJ aK aL aM:E} {D:Nat->Nat->Rat} {bas oth:List Nat} {s:Bool} {P Q:Option Addr}
 (ay:OwnS 1 3 IsIV l H ah v1 (bas.map fun(x:Nat)=>(x:Int))) (az:OwnS 1 3 IsIV q G ai R (oth.map fun(x:Nat)=>(x:Int))) (aA:RowO y K S3 M m hd ac (fun i=>(zmz m n D).getD i []))
 (aB:OwnS 3 30 IsR d C ae O (C2 (G9 m fun i=>D i n))) (au:∀b,ae b->C<=b) (aC:OwnS 3 30 IsR e I af N (C2 (G9 n fun j=> -(D m j)))) (av:∀b,af b->I<=b) (hv:IsQ z (G4 J z) (.agg #[.bool s,.slice P c k,.slice Q f a]) (D m n))
 (al:F l.heap.size l W) (an:F q.heap.size q W) (ao:F y.heap.size y W) (aq:F d.heap.size d W) (ar:F e.heap.size e W) (u:F z.heap.size z W)
 (aD:base<=H/\H<=l.heap.size/\l.heap.size<=G/\G<=q.heap.size/\q.heap.size<=K/\K<=y.heap.size/\y.heap.size<=C/\C<=d.heap.size/\d.heap.size<=I/\I<=e.heap.size/\e.heap.size<=J/\J<=z.heap.size)
 (hg:base<=g/\g<W.heap.size/\(g<H\/l.heap.size<=g)/\(g<G\/q.heap.size<=g)/\(g<K\/y.heap.size<=g)/\(g<C\/d.heap.size<=g)/\(g<I\/e.heap.size<=g)/\(g<J\/z.heap.size<=g))
 (Y:bas.length=m) (ag:oth.length=n) (hr:Row W g 107 [aE,aG,aH,aI,aJ,aK,aL,aM]):
 ∃(S:Nat->Prop) (T:Lay),ExG (put8 W g v1 R ac O N (.bool s) (.slice P c k) (.slice Q f a)) S base (put8 W g v1 R ac O N (.bool s) (.slice P c k) (.slice Q f a)).heap.size g T m n (Y8 D m n) (D m n) bas oth/\∀b,S b->base<=b:=by obtain⟨S,B,t,X⟩:=ytp ay az aA aB au aC av al an ao aq ar u aD hg;have h:=zoz W g v1 R ac O N (.bool s) (.slice P c k) (.slice Q f a);have aa:=t.sep.lt 6 g t.g6;have L:=Row.put8 hr v1 R ac O N (.bool s) (.slice P c k) (.slice Q f a);obtain⟨v,A⟩:=nm (put8 W g v1 R ac O N (.bool s) (.slice P c k) (.slice Q f a));rw[<-A] at h L⊢;clear A;have Z:base<=v.heap.size:=U (U hg.1 (Nat.le_of_lt hg.2.1)) h.size;have aj:K6 (G4 J z) S z v:=fun b p=>(by have w:=X b p.1 p.2;have ab:b<W.heap.size:=ak p.2 u.size;have ad:b≠g:=fun r=>aa.2.2 (by rw[<-r];exact w);refine⟨w,fun o=> ?_⟩;have V:=h.block b ab (fun r=>ad (Option.some.inj r));exact(World.cell?_of_block V).trans (u.cell (p:=⟨b,o,none⟩) p.2));exact yto (t.grown h) Y ag Z (IsQ.stb.to hv aj) L
def M3 (z:Int) (u d v:Nat):Rat:=((z:Rat)*((u:Nat):Rat))/(((d:Nat):Rat)*((v:Nat):Rat))
theorem yjr {z:Int} {d v:Nat}:M3 z u d v=mkRat (sg (decide (z<0)) (z.natAbs*u)) (d*v):=by
 have a:sg (decide (z<0)) (z.natAbs*u)=z*(u:Int):=by
  rcases Int.lt_or_le z 0 with h|h
  ·rw[decide_eq_true h];unfold sg;have:((z.natAbs:Nat):Int)= -z:=og;simp only[if_true,Int.natCast_mul,this];rw[Int.neg_mul,Int.neg_neg]
  ·rw[decide_eq_false og];unfold sg;have:((z.natAbs:Nat):Int)=z:=og;simp[this]
 rw[a,Rat.mkRat_eq_div,Rat.intCast_mul];unfold M3;congr 1;exact(Rat.natCast_mul d v).symm
theorem yco {w:s} {d dn:Nat} {z:Int} {vx au vd:E} {D:Option Addr} {ac:Nat} (hg:w.cell? ⟨g,8,none⟩=some (.slice D (A9 d).length ac)) (hD:NumS w (C3 w) (.slice D (A9 d).length ac) d) (I:IsQ w (C3 w) vx ((z:Int):Rat)) (x:NumS w (C3 w) au u) (hv:NumS w (C3 w) vd dn) (ai:Bru w)
 (ae:(A9 z.natAbs).length<=100000) (af:(A9 u).length<=100000) (ag:(A9 d).length<=100000) (ah:(A9 dn).length<=100000) (p:0<d) (r:0<dn):
 Calls Tryz.prog 123 #[.pointer (some ⟨g,0,none⟩),vx,au,vd] w (N8 w (M3 z u d dn)):=by
 obtain⟨R,aM,T,X,aK,h⟩:=hd6 hD I x hv ai (V ae (V af (V ag (V ah (V p r)))));obtain⟨P,k,Q,aX,rfl⟩:=zlx I;obtain⟨A,a6,rfl,aU⟩:=zta (E9 x);obtain⟨C,a7,rfl,aV⟩:=zta (E9 hv);have m:=L (zkx aM.out);rw[Rat.num_intCast] at m;obtain⟨l,i⟩:=nm (decide (z<0));obtain⟨H,J⟩:=nm ((A9 z.natAbs).length);obtain⟨G,aq⟩:=nm ((A9 1).length);obtain⟨u1,y⟩:=nm ((A9 u).length);obtain⟨a9,ak⟩:=nm ((A9 d).length);obtain⟨bi,t⟩:=nm ((A9 dn).length);rw[<-i,<-J,<-aq,<-y,<-t];rw[<-J] at m;rw[<-y] at T;rw[<-ak] at R hg;rw[<-t] at X;have a1:=L i;obtain⟨q,v⟩:=nm (M3 z u d dn);rw[<-v];have S:Hid (q=mkRat (sg l (z.natAbs*u)) (d*dn)):=(by rw[Hid,v,i];exact yjr);have c:Hid ((A9 (z.natAbs*u)).length<=1000000/\(A9 (d*dn)).length<=1000000/\d*dn≠0):=(by refine⟨U (zyp _ _) og,U (zyp _ _) og,?_⟩;have:=Nat.mul_pos p r;omega);clear hD I x hv ai ae af ag ah p r i J aq y ak t aU aV v;have a8:=T3;obtain⟨B,aW,b,ar,j,Y⟩:=zko w #[.bool l,.slice P H k,.slice Q G aX] #[.bool false,.slice none 0 0,.slice none 0 0] 30 30;obtain⟨B0,aO⟩:=C5 b j;have aN:=L Y.out;obtain⟨aP,aQ,b2⟩:=B9 ar;obtain⟨aA,aB,aC⟩:=B9 j;obtain⟨av,ay,az⟩:=E0 j;have aR:=C0 b hg;obtain⟨aJ,aH,aG,aI⟩:=X7 (IsK.stb.next m.out b) (IsK.stb.next T.out b) (IsK.stb.next R.out b) (IsK.stb.next X.out b);have O:=nU aK b;obtain⟨e,o⟩:=C5 (V aA (V aB aC)) (V av (V ay az));have aT:Hid (g<w.heap.size):=World.block_lt_of_cell? w _ hg;clear b ar j Y hg aA aB aC av ay az;go_in;go_wp2_with fail;clear aW;have n:=zkr aP aQ aR;have aD:=L fun W (f:F B.heap.size B W)=>znt (E9 (IsK.stb.next aJ.out f)) (E9 (IsK.stb.next aH.out f)) (aa _) (aa _) (U h.out.1 og) (U h.out.2.1 og);have aE:=L fun W (f:F B.heap.size B W)=>znt (E9 (IsK.stb.next aG.out f)) (E9 (IsK.stb.next aI.out f)) (aa _) (aa _) (U h.out.2.2.1 og) (U h.out.2.2.2.1 og);have K:w.heap.size≠(w.heap.size+1):=og;have aL:=hp3 n (nA K (nA K (nZ (oh aT))));clear K
 go_region_held3 (SH.mk _ n).s
  (first|exact n.out _ bel|exact aL.out _ bel _ _ _)
  (first
    |(go_at_call 160;(with_reducible refine Calls.mono (aD.out _ bel) ?_);rintro ad aY ⟨⟨bt,rfl,al⟩,aj⟩;have M:=bW B aY;have Z:=L (zud al);obtain⟨a3,be,rfl,_,_,_⟩:=id al)
    |(go_at_call 160;(with_reducible refine Calls.mono (aE.out _ bel) ?_);rintro ad aZ ⟨⟨bu,rfl,an⟩,aS⟩;have N:=bW B aZ;have ab:=L (zud an);obtain⟨a4,bf,rfl,_,_,_⟩:=id an)
    |(go_at_call 171;(first|(with_reducible refine Calls.mono (yld (q:=q) l (E9 (IsK.stb.next Z.out aS)) (E9 ab.out) (Bru.next O.out N.out) c.out.1 c.out.2.1 c.out.2.2 S.out) ?_)|(with_reducible refine Calls.mono (yld (q:=q) l (E9 Z.out) (E9 (IsK.stb.next ab.out aj)) (Bru.next O.out M.out) c.out.1 c.out.2.1 c.out.2.2 S.out) ?_));rintro ad a0 ⟨⟨bv,rfl,ao⟩,bd⟩;have a:=bW B a0;obtain⟨bn,a5,bg,a2,bh,rfl,_,_,_⟩:=G7 ao;have bp:=C0 a.out e.out.1;have bq:=C0 a.out e.out.2.1;have br:=C0 a.out e.out.2.2;have s0:=I8 a.out e.out.1 o.out.1;have bj:=I8 a.out e.out.2.1 o.out.2.1;have bm:=I8 a.out e.out.2.2 o.out.2.2))
 all_goals
  go_wp2_with fail
  refine M7 Tryz.results123 rfl rfl (Row.put3 (aO.out.next a.out) _ _ _) (zky (lo:=B.heap.size) (IsQ.stb.le ao (by first|exact(by have:=N.out.size;have:=aj.size;simp at*;omega)|exact(by have:=M.out.size;simp at*;omega))) (C6 B0.out a.out) og (oh aN))
theorem ymz {n:Nat} {g:Nat->Rat} (h:∀i,i<n->f i<=g i):C4 n f<=C4 n g:=by
 induction n with
 |zero=>exact Rat.le_refl
 |succ n ih=>have a:=ih fun i c=>h i og;have b:=h n og;rw[C4,C4];grind
theorem yhq {X:List Rat} (h:∀x∈X,0<=x) (k:Nat):0<=X.getD k 0:=by
 rw[aj];cases e:X[k]? with
 |none=>exact Rat.le_refl
 |some x=>exact h x (al e)
section
variable {A : List (List Rat)} {b c X Y Z : List Rat} {n : Nat}
theorem ynx (a:Feas A b n X) (c:Mult A b n f Y) (m:A.length=b.length) (q:∀r∈A,r.length=n):(C4 n fun k=>f k*X.getD k 0)<=K7 b Y:=by have d:(C4 n fun k=>f k*X.getD k 0)<=C4 n fun k=>zqd A Y k*X.getD k 0:=ymz fun k p=>(by have:=Rat.mul_le_mul_of_nonneg_right (c.ge k p) (yhq a.nn k);exact this);have h:(C4 n fun k=>zqd A Y k*X.getD k 0)=C4 A.length fun i=>(C4 n fun k=>(A.getD i []).getD k 0*X.getD k 0)*Y.getD i 0:=(by have g:(C4 n fun k=>zqd A Y k*X.getD k 0)=C4 n fun k=>C4 A.length fun i=>((A.getD i []).getD k 0*X.getD k 0)*Y.getD i 0:=R4 fun k _=>(by unfold zqd;have:X.getD k 0*(C4 A.length fun i=>(A.getD i []).getD k 0*Y.getD i 0)=C4 A.length fun i=>X.getD k 0*((A.getD i []).getD k 0*Y.getD i 0):=(zor _ _ _).symm;rw[Rat.mul_comm,this];exact R4 fun i _=>by grind);rw[g,zz1427];refine R4 fun i _=> ?_;have:Y.getD i 0*(C4 n fun k=>(A.getD i []).getD k 0*X.getD k 0)=C4 n fun k=>Y.getD i 0*((A.getD i []).getD k 0*X.getD k 0):=(zor _ _ _).symm;rw[Rat.mul_comm,this];exact R4 fun k _=>by grind);have j:(C4 A.length fun i=>(C4 n fun k=>(A.getD i []).getD k 0*X.getD k 0)*Y.getD i 0)<=C4 A.length fun i=>b.getD i 0*Y.getD i 0:=ymz fun i o=>(by have hr:A[i]? =some (A.getD i []):=(by rw[aj,List.getElem?_eq_getElem o];rfl);have:=a.le i _ hr;have e:(A.getD i []).length=n:=q _ (al hr);rw[zrk _ _ (by rw[e,a.len]),e] at this;exact Rat.mul_le_mul_of_nonneg_right this (yhq c.nn i));have l:K7 b Y=C4 A.length fun i=>b.getD i 0*Y.getD i 0:=(by rw[zrk _ _ c.len.symm,m]);rw[l];rw[h] at d;exact Rat.le_trans d j
theorem ysm (h:c.length=n) (a:X.length=n):K7 c X=C4 n fun k=>c.getD k 0*X.getD k 0:=by rw[zrk c X og,h]
theorem CertOpt.best {a:Rat} (h:CertOpt A b c Y Z a) (e:A.length=b.length) (f:∀r∈A,r.length=c.length) (d:Feas A b c.length X):K7 c X<=a:=by have:=ynx d h.y e f;rw[ysm rfl d.len,<-h.vy];exact this
theorem CertNone.no (h:CertNone A b c Y) (e:A.length=b.length) (f:∀r∈A,r.length=c.length) (g:Feas A b c.length X):False:=by have a:=ynx g h.y e f;have d:(C4 c.length fun k=>(0:Rat)*X.getD k 0)=0:=zlp fun k _=>(by grind);have i:=h.vy;rw[d] at a;grind
end
theorem yvz:∀k,p k->∃k,p k/\∀j,p j->k<=j:=by
 intro k;induction k using Nat.strongRecOn with
 |ind k ih=>
  intro h;by_cases b:∃j,j<k/\p j
  ·obtain⟨j,a,d⟩:=b;exact ih j a d
  ·exact⟨k,h,fun j a=>Nat.le_of_not_lt fun c=>b ⟨j,c,a⟩⟩
noncomputable def leastN (p:Nat->Prop):Nat:=open Classical in if h:∃k,p k/\∀j,p j->k<=j then Classical.choose h else 0
theorem zyl {k:Nat} (h:p k):p (leastN p)/\leastN p<=k:=by have a:=yvz k h;unfold leastN;rw[dif_pos a];have:=Classical.choose_spec a;exact⟨this.1,this.2 k h⟩
noncomputable def leftO {b:Type} (f:b->Option b) (a:b):Nat:=leastN fun k=>f (R9 f k a)=none
theorem yiu {d:Type} {f:d->Option d} {a b:d} (h:zxd f a) (e:f a=some b):zxd f b/\leftO f b<leftO f a:=by have key:∀k,f (R9 f (k+1) a)=f (R9 f k b):=fun k=>(by rw[ybu e]);obtain⟨m,i⟩:=h;have c:=(zyl (p:=fun k=>f (R9 f k a)=none) i).1;have l:leftO f a≠0:=fun g=>(by have c:f (R9 f (leftO f a) a)=none:=c;rw[g] at c;have:f a=none:=c;rw[e] at this;cases this);obtain⟨k,j⟩:∃k,leftO f a=k+1:=⟨leftO f a-1,by omega⟩;have c:f (R9 f (leftO f a) a)=none:=c;rw[j,key] at c;refine⟨⟨k,c⟩,?_⟩;have:=(zyl (p:=fun k=>f (R9 f k b)=none) c).2;show leastN _<_;omega
noncomputable def leastM {a:Type} (b:a->Prop) (c:a->Nat):Nat:=leastN fun k=>∃s,b s/\c s=k
theorem yir {a:Type} {J:a->Prop} {μ:a->Nat} {s:a} (h:J s):leastM J μ<=μ s:=(zyl (p:=fun k=>∃s,J s/\μ s=k) ⟨s,h,rfl⟩).2
theorem yiq {b:Type} {a:b->Prop} {μ:b->Nat} (h:∃s,a s):∃s,a s/\μ s=leastM a μ:=by obtain⟨s,c⟩:=h;exact(zyl (p:=fun k=>∃s,a s/\μ s=k) ⟨s,c,rfl⟩).1
structure OkT (M m n:Nat) (sc:Nat->Nat) (top:Nat) (ab:Dic) (t:TB):Prop where
 inv:TInv M m n t
 eqv:Eqv m n ab (L6 sc top m n t)
section
variable {M m n top : Nat} {sc : Nat → Nat} {ab : Dic} {t ag : TB}
theorem ysa (b:∀v,0<sc v) (l:0<top) (h:TInv M m n t) {c:Nat} (hr:r<=m) (hc:c<=n) (k:t.A r c≠0):(L6 sc top m n t).D r c≠0:=by
 show(if r<=m/\c<=n then _ else _)≠_;rw[if_pos ⟨hr,hc⟩];have d:((t.A r c:Int):Rat)≠0:=(by simpa using k);have e:=ybo (zwb h.d0);have f:=zz1454 b n (fun j=>t.oth.getD j 0) c;have g:=ybo (zz1456 b l m (fun i=>t.bas.getD i 0) r);intro a;rcases Rat.mul_eq_zero.1 a with a|a
 ·rcases Rat.mul_eq_zero.1 a with a|a
  ·rcases Rat.mul_eq_zero.1 a with a|a
   ·exact d a
   ·exact e a
  ·exact f a
 ·exact g a
theorem OkT.piv (b:∀v,0<sc v) (d:0<top) (h:OkT M m n sc top ab t) {c:Nat} (hr:r<m) (hc:c<n) (a:t.A r c≠0):OkT M m n sc top ab (V9 t r c) where
 inv:=h.inv.piv hr hc a
 eqv:=by rw[h.inv.dic b d hr hc a];exact h.eqv.piv hr hc (ysa b d h.inv og og a)
theorem OkT.rep (b:∀v,0<sc v) (d:0<top) (h:OkT M m n sc top ab t) (hst:zku m n t=some ag):OkT M m n sc top ab ag:=by obtain⟨r,c,rfl,hr,hc,a,_⟩:=yan h.inv hst;exact h.piv b d hr hc a
theorem OkT.step (e:∀v,0<sc v) (f:0<top) (h:OkT M m n sc top ab t) (a:∀i,i<m->0<=t.A i n) (hst:zkl m n t=some ag):OkT M m n sc top ab ag/\∀i,i<m->0<=ag.A i n:=by obtain⟨r,c,rfl,d,b⟩:=yao h.inv a hst;exact⟨h.piv e f b.hr b.hc d,(restT h.inv a hst).2⟩
theorem yde (a:∀v,0<sc v) (e:0<top) (h:TInv M m n t) (i j:Nat):0<((t.d:Int):Rat)⁻¹*uc sc n (fun j=>t.oth.getD j 0) j*(ur sc top m (fun i=>t.bas.getD i 0) i)⁻¹:=by
 have p:∀x:Nat,0<x->(0:Rat)<((x:Nat):Rat):=fun x f=>(by have:=Rat.intCast_lt_intCast.2 (show(0:Int)<(x:Int) by omega);exact this);have b:=ztx h.d0
 have c:0<uc sc n (fun j=>t.oth.getD j 0) j:=by
  unfold uc;split
  ·exact p _ (a _)
  ·decide
 have d:0<ur sc top m (fun i=>t.bas.getD i 0) i:=by
  unfold ur;split
  ·exact p _ (a _)
  ·exact p _ e
 exact Rat.mul_pos (Rat.mul_pos b c) (inv_pos d)
theorem yaw {i:Nat} (a:i<=m) (b:j<=n):(L6 sc top m n t).D i j=(t.A i j:Rat)*(((t.d:Int):Rat)⁻¹*uc sc n (fun j=>t.oth.getD j 0) j*(ur sc top m (fun i=>t.bas.getD i 0) i)⁻¹):=by show(if i<=m/\j<=n then _ else _)=_;rw[if_pos ⟨a,b⟩,Rat.mul_assoc,Rat.mul_assoc,Rat.mul_assoc]
theorem zxv (c:∀v,0<sc v) (d:0<top) (h:TInv M m n t) {i:Nat} (a:i<=m) (b:j<=n):0<=(L6 sc top m n t).D i j↔0<=t.A i j:=by rw[yaw a b];exact zzo (yde c d h i j)
theorem ygh (c:∀v,0<sc v) (d:0<top) (h:TInv M m n t) {i:Nat} (a:i<=m) (b:j<=n):(L6 sc top m n t).D i j<0↔t.A i j<0:=by rw[yaw a b];exact zra (yde c d h i j)
theorem yxk (h:zok m n t=none):∀i,i<m->0<=t.A i n:=fun i a=>by
 have:=zvg h i a
 rw[decide_eq_false_iff_not] at this
 omega
end
section
variable {M m n top : Nat} {sc : Nat → Nat} {t : TB} {A : List (List Rat)} {b c : List Rat}
theorem ytb (d:∀v,0<sc v) (e:0<top) (g:A.length=m) (k:b.length=m) (hc:c.length=n) (p:∀r∈A,r.length=n) (h:OkT M m n sc top (M0 m n (aF A) (lF b) (lF c)) t) (f:∀i,i<m->0<=t.A i n) (l:zkw m n t=none):
 CertOpt A b c (ztg m n (L6 sc top m n t)) (zwd m n (L6 sc top m n t)) ((L6 sc top m n t).D m n):=
 yqo g k hc p (h.inv.distD _ _) h.eqv (fun j a=>by have:=h.inv.ltD.2 j a;show t.oth.getD j 0<n+m;omega) (fun i o=>(zxv d e h.inv og (aa _)).2 (f i o)) fun j a=>(zxv d e h.inv (aa _) og).2 (by
  have:=zvg l j a
  rw[decide_eq_false_iff_not] at this
  omega)
theorem yta (e:∀v,0<sc v) (f:0<top) (k:A.length=m) (l:b.length=m) (hc:c.length=n) (h:OkT M m n sc top (M0 m n (aF A) (lF b) (lF c)) t) (g:zok m n t=some r) (i:zpa n t r=none):CertNone A b c (zwc m n (L6 sc top m n t) r):=by obtain⟨hr,d,_⟩:=znl g;have d:t.A r n<0:=of_decide_eq_true d;exact yqn k l hc h.eqv (fun j a=>by have:=h.inv.ltD.2 j a;show t.oth.getD j 0<n+m;omega) hr (by have:=h.inv.ltD.1 r hr;show t.bas.getD r 0<n+m;omega) ((ygh e f h.inv og (aa _)).2 d) fun j a=>(zxv e f h.inv og og).2 (by have:=zvg i j a;rw[decide_eq_false_iff_not] at this;omega)
theorem ytc (e:∀v,0<sc v) (f:0<top) (s:A.length=m) (u:b.length=m) (hc:c.length=n) (x:∀r∈A,r.length=n) (h:OkT M m n sc top (M0 m n (aF A) (lF b) (lF c)) t) (g:∀i,i<m->0<=t.A i n) {k:Nat} (j:zkw m n t=some k) (l:zmo m n t k=none):
 CertRay A b c (ztg m n (L6 sc top m n t)) (zwk m n (L6 sc top m n t) k):=by obtain⟨w,d,_⟩:=znl j;have d:t.A m k<0:=of_decide_eq_true d;exact yqp s u hc x (h.inv.distD _ _) h.eqv w (fun i a=>(zxv e f h.inv og (aa _)).2 (g i a)) ((ygh e f h.inv (aa _) og).2 d) fun i a=>by have y:=yby l i a;have o:=yaw (sc:=sc) (top:=top) (m:=m) (n:=n) (t:=t) (show i<=m by omega) (show k<=n by omega);have p:=(zzp (z:=t.A i k) (yde e f h.inv i k));rw[o];exact Rat.not_lt.1 fun q=>by have:=p.1 q;omega
end
theorem yxl {w:s} {aK lo m n top:Nat} {c:Lay} {sc:Nat->Nat} {t:TB} {st au steps:Int} (h:U8 w S aK lo g c m n sc top t st au steps) (a5:m<=100) (a6:n<=100):
 Calls Tryz.prog 148 #[.pointer (some ⟨g,0,none⟩)] w fun av w'=>av= .returned (.int .i64 (O0 (zok m n t)))/\F w.heap.size w w':=by
 have T:=L h;obtain⟨aM,a9,aN,bd,D0,aR,aP,aT,-,⟨Z,az,aA,aa,aB⟩,-,-,-⟩:=h.open;obtain⟨p,M⟩:=nm (fun i=>decide (t.A i n<0));obtain⟨key,j⟩:=nm (fun i=>t.bas.getD i 0);have ao:Hid (zok m n t=W6 p key m):=(by rw[Hid,M,j];rfl);rw[ao.out];obtain⟨al,R⟩:=C5 M j;have z:=h.cap m og;rw[M9] at z;have aX:=z.1;have aY:c.cp m<=9223372036854775807:=(by have:=z.2;unfold maxLen at this;omega);have K:=h.caps;have a3:m<=c.bc:=og;have a4:c.bc<=9223372036854775807:=(by unfold maxLen at K;omega);have a7:m<=c.rc:=og;have a8:c.rc<=9223372036854775807:=(by unfold maxLen at K;omega);clear h M j K z;have aS:=T3;clear az aA aB;obtain⟨aQ,J⟩:=nm (c.ha m);rw[<-J] at aa;have ak:=L J;clear J;have aq:=L Z;go_in;go_wp2_with fail;clear aa Z;go_loopw [12,3,4,5] (fun P best _ _ wr=>∃k:Nat,k<=m/\P= .int .i64 (k:Int)/\best= .int .i64 (O0 (W6 p key k))/\F w.heap.size w wr) (fun P _ _ _ _=>m-(intOf P).toNat);case atStart=>exact⟨0,Nat.zero_le _,rfl,rfl,Below.refl _ _⟩
 case round=>
  obtain⟨k,a2,rfl,rfl,ac⟩:=hrel;have o:=L ac;clear ac;rcases Nat.lt_or_ge k m with A|aZ
  ·obtain⟨ar,aH,ah,aJ,ea,E,H,Y,eq⟩:=(T.out.next o.out).el (l:=m) (j:=k) og (by rw[M9];exact A);rw[zuh] at E H eq;obtain⟨aI,hI⟩:=(T.out.next o.out).basW og;have Q:=C0 o.out aq.out;rw[aI] at Q;have X:=hI.el k A;have an:=L A;have a0:(0:Int)<=(k:Int):=og;have a1:(k:Int)<(m:Int):=og;have u:=L eq;obtain⟨C,O⟩:=nm (decide (t.A k n<0));obtain⟨aL,af⟩:=nm ((A9 (t.A k n).natAbs).length);obtain⟨G,ae⟩:=nm ((A9 1).length);rw[<-O] at E u;rw[<-af] at H u;rw[<-ae] at Y u;obtain⟨ai,aE,f,ag,aG⟩:=J5 wr #[.bool C,.slice ar aL aH,.slice ah G aJ] 30;obtain⟨v,x,b2⟩:=B9 ag;have aj:=L f;have r:=nB o f;have B:=C0 f Q;have e:=C0 f X;have j:∀i,(fun i=>t.bas.getD i 0) i=key i:=fun i=>(by rw[R.out]);have q:t.bas.getD k 0=key k:=j k;have e:ai.cell? ⟨c.bb,k,none⟩=some (.int .i64 ((key k:Nat):Int)):=(by rw[<-q];exact e);have aO:=nQ u f;have U:Hid (p k=C):=(by rw[Hid,al.out,O]);have ay:=ak.out.trans ea;subst ay;clear O af ae ag aG f eq Q X q j A;go_wp2_with fail;clear aE E H Y;have a:Hid (k+1<=m):=an.out;cases l:p k with
   |false=>have N:C=false:=U.out.symm.trans l;subst N;have d:=hs5 v x b2 B e;refine wp_region_noPanic ?_;refine zkq d fun I=> ?_;refine sT 0 17 ?_;refine sT 1 18 ?_;refine sT 2 19 ?_;refine sU 3 20 ?_;refine sU 4 21 ?_;refine sU 5 22 ?_;refine sU 6 23 ?_;refine sU 7 24 ?_;refine sU 8 25 ?_;refine sU 9 26 ?_;refine sU 10 27 ?_;refine sU 11 28 ?_;refine sU 12 29 ?_;refine sU 13 30 ?_;refine sU 14 31 ?_;refine sU 15 32 ?_;refine sU 16 33 ?_;refine sU 17 34 ?_;refine sU 18 35 ?_;refine sU 19 36 ?_;refine sU 20 37 ?_;refine sU 21 38 ?_;refine sU 22 39 ?_;refine sU 23 40 ?_;refine sT 24 41 ?_;refine wpAnyH_done kr ?_ _;refine NoPanic.normal ?_;go_wp2_with fail;have D:=r.out;go_roundw;(case rel=>exact⟨k+1,a.out,by go_num,by rw[ycv l],bel⟩);case measure=>simp[intOf];have:=a.out;omega
   |true=>
    have N:C=true:=U.out.symm.trans l;subst N;cases y:W6 p key k with
    |none=>have ab:O0 (none:Option Nat)= -1:=rfl;rw[ab];have d:=hs5 v x b2 B e;refine wp_region_noPanic ?_;refine zkq d fun I=> ?_;refine sT 0 17 ?_;refine sT 1 18 ?_;refine sT 2 19 ?_;refine sT 3 20 ?_;refine sT 4 21 ?_;refine sT 5 22 ?_;refine sU 6 23 ?_;refine sU 7 24 ?_;refine sU 8 25 ?_;refine sU 9 26 ?_;refine sU 10 27 ?_;refine sU 11 28 ?_;refine sU 12 29 ?_;refine sU 13 30 ?_;refine sU 14 31 ?_;refine sU 15 32 ?_;refine sU 16 33 ?_;refine sU 17 34 ?_;refine sU 18 35 ?_;refine sU 19 36 ?_;refine sU 20 37 ?_;refine sU 21 38 ?_;refine sU 22 39 ?_;refine sT 23 40 ?_;refine sT 24 41 ?_;refine wpAnyH_done kr ?_ _;refine NoPanic.normal ?_;go_wp2_with fail;have D:=r.out;go_roundw;(case rel=>exact⟨k+1,a.out,by go_num,by rw[ycu l y],bel⟩);case measure=>simp[intOf];have:=a.out;omega
    |some b=>
     have aW:b<k:=(znl y).1;have V:=hI.el b (oh a);have q:t.bas.getD b 0=key b:=(by rw[R.out]);have W:ai.cell? ⟨c.bb,b,none⟩=some (.int .i64 ((key b:Nat):Int)):=(by rw[<-q];exact C0 aj.out V);clear q;have aU:(0:Int)<=(b:Int):=og;have aV:(b:Int)<(m:Int):=oh a;have aC:O0 (some b)=(b:Int):=rfl;rw[aC];have ab:decide ((b:Int)<0)=false:=decide_eq_false og;clear V;by_cases ad:key k<key b
     ·have aD:decide (((key k:Nat):Int)<((key b:Nat):Int))=true:=decide_eq_true og;have d:=zmx v x b2 B e W;refine wp_region_noPanic ?_;refine zkq d fun I=> ?_;refine sT 0 17 ?_;refine sT 1 18 ?_;refine sT 2 19 ?_;refine sT 3 20 ?_;refine sT 4 21 ?_;refine sT 5 22 ?_;refine sT 6 23 ?_;refine sT 7 24 ?_;refine sT 8 25 ?_;refine sT 9 26 ?_;refine sT 10 27 ?_;refine sT 11 28 ?_;refine sT 12 29 ?_;refine sT 13 30 ?_;refine sT 14 31 ?_;refine sT 15 32 ?_;refine sT 16 33 ?_;refine sT 17 34 ?_;refine sT 18 35 ?_;refine sT 19 36 ?_;refine sT 20 37 ?_;refine sT 21 38 ?_;refine sT 22 39 ?_;refine sT 23 40 ?_;refine sT 24 41 ?_;refine wpAnyH_done kr ?_ _;refine NoPanic.normal ?_;go_wp2_with fail;have D:=r.out;go_roundw;(case rel=>exact⟨k+1,a.out,by go_num,by rw[yct l y ad],bel⟩);case measure=>simp[intOf];have:=a.out;omega
     ·have aD:decide (((key k:Nat):Int)<((key b:Nat):Int))=false:=decide_eq_false og;have d:=zmx v x b2 B e W;refine wp_region_noPanic ?_;refine zkq d fun I=> ?_;refine sT 0 17 ?_;refine sT 1 18 ?_;refine sT 2 19 ?_;refine sT 3 20 ?_;refine sT 4 21 ?_;refine sT 5 22 ?_;refine sT 6 23 ?_;refine sT 7 24 ?_;refine sT 8 25 ?_;refine sT 9 26 ?_;refine sT 10 27 ?_;refine sT 11 28 ?_;refine sT 12 29 ?_;refine sT 13 30 ?_;refine sT 14 31 ?_;refine sT 15 32 ?_;refine sT 16 33 ?_;refine sT 17 34 ?_;refine sT 18 35 ?_;refine sT 19 36 ?_;refine sT 20 37 ?_;refine sT 21 38 ?_;refine sT 22 39 ?_;refine sT 23 40 ?_;refine sT 24 41 ?_;refine wpAnyH_done kr ?_ _;refine NoPanic.normal ?_;go_wp2_with fail;have D:=r.out;go_roundw;(case rel=>exact⟨k+1,a.out,by go_num,by rw[ycw l y ad],bel⟩);case measure=>simp[intOf];have:=a.out;omega
  ·obtain rfl:k=m:=og;go_wp2_with fail;go_ret;exact⟨rfl,o.out⟩
end Go.Proofs.YtlhhbccgfkhflaaGreatDoor
