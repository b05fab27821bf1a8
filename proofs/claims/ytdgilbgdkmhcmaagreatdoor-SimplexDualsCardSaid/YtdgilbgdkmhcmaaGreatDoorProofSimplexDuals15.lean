/-
 What the drawn regions of package simplex's newTable hold.
-/
import Derived.Test.YtdgilbgdkmhcmaaGreatDoorProofSimplexDuals14
namespace Go.Proofs.YtdgilbgdkmhcmaaGreatDoor
open Go.RowKit
set_option linter.unusedVariables false
set_option maxRecDepth 100000
set_option maxHeartbeats 8000000
open _root_.Go.Lib renaming hid → O
open _root_.Nat renaming le_trans → M, lt_or_ge → aE, zero_le → aJ
open _root_.List renaming getD_eq_getElem?_getD → aG, mem_of_getElem? → aI, length_map → aD, getElem?_map → aH
open _root_.And renaming intro → aC
open _root_.Go renaming World → e, Value → d, undef → aB, Addr → ac
variable {N J L app b ae C base au hi lo m af H ay aA R ak al ao aq : Nat} {I K h ad z ar E av az : Option ac} {c : List Rat} {r : Option Nat} {rest u ag : d} {sc : Nat → Nat} {vq : Rat} {an : Bool}
def ztt (app n0 k:Nat) (w w':e):Prop:=∃r,w.grownBy w' r/\(r=none\/(k=app/\∀b,r=some b->n0<=b))
theorem zln {n0 k:Nat} {w w':e} (h:w.grownBy w' none):ztt app n0 k w w':=⟨none,h,.inl rfl⟩
theorem ykg {n0 k:Nat} {a w w':e} (h:Below n0 a w) (f:n0<=w.heap.size) (d:ztt app n0 k w w'):Below n0 a w':=by
 obtain⟨r,hg,hr⟩:=d;refine h.grown hg f fun b c=> ?_;rcases hr with rfl|⟨_,h⟩
 ·cases c
 ·exact h b c
theorem yvi {w:e} {S:Nat->Prop} {v:d} {x:Nat} (h:NumS w S v x) (f:1<=(A9 x).length):∃b o c,v= .slice (some ⟨b,o,none⟩) (A9 x).length c/\S b/\NumS w (fun y=>y=b) v x:=by obtain⟨A,c,hv,i,j,k⟩:=h;obtain⟨b,off,a,l,hc⟩:=k (fun g=>by have:(C8 .u32 (A9 x)).length=0:=(by rw[g];rfl);simp[C8] at this;rw[this] at f;simp at f);exact⟨b,off,c,by rw[hv,a],l,A,c,hv,i,j,fun _=>⟨b,off,a,rfl,hc⟩⟩
theorem yhv {w:e} {g x:Nat} {v:d} {t:TypeId} {n:List d} (h:NumS w (fun y=>y=b) v x) (m:1<=(A9 x).length) (hr:Row w g t n) (q:∀u∈n,∀r:Int,u≠.int .u32 r):b≠g:=fun a=>by
 obtain⟨A,c,hv,s,z,p⟩:=h
 have k:C8 .u32 (A9 x)≠[]:=fun a=>by
  have:(C8 .u32 (A9 x)).length=0:=by rw[a];rfl
  simp[C8] at this
  rw[this] at m
  simp at m
 obtain⟨o,off,B,f,hc⟩:=p k
 obtain⟨u,C,l⟩:=List.exists_cons_of_ne_nil k
 have i:=hc 0 u (by rw[l];rfl)
 have f:o=g:=f.trans a
 rw[f,Nat.add_zero,hr.cell] at i
 have j:u∈C8 .u32 (A9 x):=by rw[l];simp
 unfold C8 at j
 obtain⟨y,_,rfl⟩:=List.mem_map.1 j
 exact q _ (aI i) _ rfl
def zyw (D:Nat) (z:Option ac) (m C:Nat) (E:Option ac) (n H n0:Nat) (a:Nat) (v:d) (w:e) (X:Nat->Option d):Prop:=
 match a with
 |0=>(∃b o c,v= .slice (some ⟨b,o,none⟩) (A9 1).length c/\n0<=b/\NumS w (fun x=>x=b) v 1)
 |1=>v= .pointer (some ⟨D,0,none⟩)
 |2=>v= .slice z m C
 |3=>v= .int .i64 (m:Int)
 |4=>v= .pointer (some ⟨D,1,none⟩)
 |5=>v= .slice E n H
 |6=>v= .int .i64 (n:Int)
 |7=>v= .int .i64 (((m+n:Nat)):Int)
 |8=>(∃sb,v= .slice (some ⟨sb,0,none⟩) (m+n) (m+n)/\n0<=sb/\Row w sb 35 (List.replicate (m+n) (.slice none 0 0)))
 |9=>(∃u s,X 0=some u/\X 8=some s/\v= .agg #[.slice none 0 0,.slice none 0 0,.slice none 0 0,.slice none 0 0,.slice none 0 0,.bool false,.slice none 0 0,.slice none 0 0,u,s,.slice none 0 0])
 |10=>(∃G,v= .pointer (some ⟨G,0,none⟩)/\n0<=G/\Row w G 94 [.slice none 0 0,.slice none 0 0,.slice none 0 0,.slice none 0 0,.slice none 0 0,.bool false,.slice none 0 0,.slice none 0 0,.slice none 0 0,.slice none 0 0,.slice none 0 0])
 |_=>True
def zyx (D:Nat) (row rest:d) (R ae af:Nat) (p:Bool) (I:Option ac) (s J:Nat) (K:Option ac) (A L:Nat) (l:List Raw) (y:Raw) (N n0:Nat) (a:Nat) (v:d) (w:e) (X:Nat->Option d):Prop:=
 match a with
 |0=>v=row
 |1=>(∃hi,(n0<=hi/\hi<=w.heap.size)/\(X 8=none->OwnS 3 37 IsR w n0 (fun b=>b<hi) v l)/\∀b,v.ownBlock=some b->hi<=b)
 |2=>v= .pointer (some ⟨D,3,none⟩)
 |3=>v=rest
 |4=>v= .int .i64 (R:Int)
 |5=>v= .pointer (some ⟨ae,(af+R*3),none⟩)
 |6=>v= .agg #[.bool p,.slice I s J,.slice K A L]
 |7=>(X 8=none->NewRow w n0 37 [.bool p,.slice I s J,.slice K A L] v)
 |8=>(∃hi,(n0<=hi/\hi<=w.heap.size)/\OwnS 3 37 IsR w n0 (fun b=>b<hi) v (l++[y]))
 |9=>(∃q,X 8=some q/\∃lo hi,NinP w n0 lo hi N v)
 |_=>True
def zyy (G:Nat) (j row ag:d) (n:Nat) (a:Nat->Int) (c:List d) (n0 base:Nat) (f:Nat) (v:d) (w:e) (X:Nat->Option d):Prop:=
 match f with
 |0=>v= .pointer (some ⟨G,0,none⟩)
 |1=>v= .pointer (some ⟨G,2,none⟩)
 |2=>v=j
 |3=>v=row
 |4=>v=ag
 |5=>(∃hi,LinP w n0 n a hi v)
 |6=>(∃hi u,LinP w n0 n a hi u/\NewRow w n0 30 [u] v)
 |7=>(∃hi u,LinP w n0 n a hi u/\OwnS 1 30 IsVal w base (fun _=>False) v (c++[u])/\(v.ownBlock=j.ownBlock\/∃b,v.ownBlock=some b/\hi<=b))
 |8=>v= .pointer (some ⟨G,0,none⟩)
 |9=>v= .pointer (some ⟨G,2,none⟩)
 |_=>True
def zyz (D G:Nat) (i rest ag:d) (R ae af:Nat) (p:Bool) (I:Option ac) (s J:Nat) (K:Option ac) (A L:Nat) (z:Rat) (c:Nat->Prop) (l:List Raw) (n0 base:Nat) (f:Nat) (v:d) (w:e) (X:Nat->Option d):Prop:=
 match f with
 |0=>v= .pointer (some ⟨G,0,none⟩)
 |1=>v= .pointer (some ⟨G,3,none⟩)
 |2=>v=i
 |3=>v= .pointer (some ⟨D,3,none⟩)
 |4=>v=rest
 |5=>v= .int .i64 (R:Int)
 |6=>v= .pointer (some ⟨ae,(af+R*3),none⟩)
 |7=>v= .agg #[.bool p,.slice I s J,.slice K A L]
 |8=>v=ag
 |9=>(∃lo hi,QinP w n0 lo hi z v)
 |10=>(∃lo hi a,QinP w n0 lo hi z a/\NewRow w n0 37 a.cells.toList v)
 |11=>(∃lo hi,(n0<=lo/\lo<=hi/\hi<=w.heap.size)/\OwnS 3 37 IsR w base (fun b=>c b\/G0 lo hi b) v (l++[E7 z])/\(v.ownBlock=i.ownBlock\/∃b,v.ownBlock=some b/\hi<=b))
 |12=>v= .pointer (some ⟨G,0,none⟩)
 |13=>v= .pointer (some ⟨G,3,none⟩)
 |_=>True
def zza (D G:Nat) (row:d) (p:Bool) (I:Option ac) (s J:Nat) (K:Option ac) (A L:Nat) (l:List Raw) (y:Raw) (N n0:Nat) (a:Nat) (v:d) (w:e) (X:Nat->Option d):Prop:=
 match a with
 |0=>v= .pointer (some ⟨D,4,none⟩)
 |1=>v=row
 |2=>(∃hi,(n0<=hi/\hi<=w.heap.size)/\(X 6=none->OwnS 3 37 IsR w n0 (fun b=>b<hi) v l)/\∀b,v.ownBlock=some b->hi<=b)
 |3=>v= .pointer (some ⟨D,5,none⟩)
 |4=>v= .agg #[.bool p,.slice I s J,.slice K A L]
 |5=>(X 6=none->NewRow w n0 37 [.bool p,.slice I s J,.slice K A L] v)
 |6=>(∃hi,(n0<=hi/\hi<=w.heap.size)/\OwnS 3 37 IsR w n0 (fun b=>b<hi) v (l++[y]))
 |7=>(∃q,X 6=some q/\∃lo hi,NinP w n0 lo hi N v)
 |8=>v= .pointer (some ⟨G,10,none⟩)
 |_=>True
theorem ywc {D:Nat} {n n0:Nat}:∀i k v w w' X u,i≠k->X k=none->zyw D z m C E n H n0 i v w X->w.grownBy w' none->zyw D z m C E n H n0 i v w' (U6 X k u):=fun i k v w w' X u B q h l=>by
 match i,B,h with
 |0,_,h=>
  obtain⟨b,o,c,f,g,a⟩:=h
  have J:b<w.heap.size\/True:= .inr trivial
  exact⟨b,o,c,f,g,IsK.stb.to a fun x r=>⟨r,fun K=>World.cell?_of_block (l.block x (by obtain⟨A,I,hv,_,_,t⟩:=a;obtain⟨s,off,_,p,hc⟩:=t (by rw[Y5];simp[C8]);have F:x=b:=r;have p:s=b:=p;rw[F,<-p];exact World.block_lt_of_cell? w _ (hc 0 _ (by rw[Y5];rfl))) (by simp))⟩⟩
 |1,_,h=>exact h
 |2,_,h=>exact h
 |3,_,h=>exact h
 |4,_,h=>exact h
 |5,_,h=>exact h
 |6,_,h=>exact h
 |7,_,h=>exact h
 |8,_,h=>
  obtain⟨sb,f,g,a⟩:=h
  exact⟨sb,f,g,a.grownN l fun b j=>by cases j⟩
 |9,_,h=>
  obtain⟨x,y,f,g,a⟩:=h
  exact⟨x,y,zpv f q,zpv g q,a⟩
 |10,_,h=>
  obtain⟨G,f,g,a⟩:=h
  exact⟨G,f,g,a.grownN l fun b j=>by cases j⟩
 |_+11,_,_=>exact trivial
theorem yvy {D:Nat} {row:d} {p:Bool} {s:Nat} {A:Nat} {l:List Raw} {y:Raw} {n0:Nat}:∀k g v w w' X u,k≠g->X g=none->zyx D row rest R ae af p I s J K A L l y N n0 k v w X->ztt 8 n0 g w w'->zyx D row rest R ae af p I s J K A L l y N n0 k v w' (U6 X g u):=fun k g v w w' X u i x h t=>by
 obtain⟨r,hg,hr⟩:=t
 have m:g≠8->r=none:=fun h=>hr.elim id fun o=>absurd o.1 h
 match k,i,h with
 |0,_,h=>exact h
 |1,i,h=>
  obtain⟨hi,c,j,n⟩:=h
  by_cases f:g=8
  ·subst f
   exact⟨hi,⟨c.1,M c.2 hg.size⟩,fun a=>(by rw[U6,if_pos rfl] at a;cases a),n⟩
  ·have:=m f
   subst this
   exact⟨hi,⟨c.1,M c.2 hg.size⟩,fun a=>(j (by rw[zqx (Ne.symm f)] at a;exact a)).grown IsR.stb hg (fun b a=>by cases a),n⟩
 |2,_,h=>exact h
 |3,_,h=>exact h
 |4,_,h=>exact h
 |5,_,h=>exact h
 |6,_,h=>exact h
 |7,i,h=>
  by_cases f:g=8
  ·subst f
   exact fun a=>(by rw[U6,if_pos rfl] at a;cases a)
  ·have:=m f
   subst this
   exact fun a=>(h (by rw[zqx (Ne.symm f)] at a;exact a)).grown hg (fun b a=>by cases a)
 |8,i,h=>
  have:=m (Ne.symm i)
  subst this
  obtain⟨hi,c,j⟩:=h
  exact⟨hi,⟨c.1,M c.2 hg.size⟩,j.grown IsR.stb hg (fun b a=>by cases a)⟩
 |9,i,h=>
  obtain⟨q,c,lo,hi,j⟩:=h
  by_cases f:g=8
  ·subst f
   rw[x] at c
   cases c
  ·have:=m f
   subst this
   exact⟨q,by rw[zqx (Ne.symm f)];exact c,lo,hi,j.grown hg (fun b a=>by cases a)⟩
 |_+10,_,_=>exact trivial
theorem ywb {D G:Nat} {row:d} {p:Bool} {s:Nat} {A:Nat} {l:List Raw} {y:Raw} {n0:Nat}:∀k g v w w' X u,k≠g->X g=none->zza D G row p I s J K A L l y N n0 k v w X->ztt 6 n0 g w w'->zza D G row p I s J K A L l y N n0 k v w' (U6 X g u):=fun k g v w w' X u i x h t=>by
 obtain⟨r,hg,hr⟩:=t
 have m:g≠6->r=none:=fun h=>hr.elim id fun o=>absurd o.1 h
 match k,i,h with
 |0,_,h=>exact h
 |1,_,h=>exact h
 |2,i,h=>
  obtain⟨hi,c,j,n⟩:=h
  by_cases f:g=6
  ·subst f
   exact⟨hi,⟨c.1,M c.2 hg.size⟩,fun a=>(by rw[U6,if_pos rfl] at a;cases a),n⟩
  ·have:=m f
   subst this
   exact⟨hi,⟨c.1,M c.2 hg.size⟩,fun a=>(j (by rw[zqx (Ne.symm f)] at a;exact a)).grown IsR.stb hg (fun b a=>by cases a),n⟩
 |3,_,h=>exact h
 |4,_,h=>exact h
 |5,i,h=>
  by_cases f:g=6
  ·subst f
   exact fun a=>(by rw[U6,if_pos rfl] at a;cases a)
  ·have:=m f
   subst this
   exact fun a=>(h (by rw[zqx (Ne.symm f)] at a;exact a)).grown hg (fun b a=>by cases a)
 |6,i,h=>
  have:=m (Ne.symm i)
  subst this
  obtain⟨hi,c,j⟩:=h
  exact⟨hi,⟨c.1,M c.2 hg.size⟩,j.grown IsR.stb hg (fun b a=>by cases a)⟩
 |7,i,h=>
  obtain⟨q,c,lo,hi,j⟩:=h
  by_cases f:g=6
  ·subst f
   rw[x] at c
   cases c
  ·have:=m f
   subst this
   exact⟨q,by rw[zqx (Ne.symm f)];exact c,lo,hi,j.grown hg (fun b a=>by cases a)⟩
 |8,_,h=>exact h
 |_+9,_,_=>exact trivial
def zrc (j:d):Nat->Option Nat:=fun k=>match k with|7=>j.ownBlock|_=>none
theorem yvz {G:Nat} {j row:d} {n:Nat} {o:Nat->Int} {q:List d} {n0:Nat} (s:∀b,j.ownBlock=some b->b<n0):∀g k v w w' X u,g≠k->X k=none->zyy G j row ag n o q n0 base g v w X->w.grownBy w' (zrc j k)->zyy G j row ag n o q n0 base g v w' (U6 X k u):=fun g k v w w' X u m t h f=>by
 have p:∀b,zrc j k=some b->k=7/\j.ownBlock=some b:=fun b a=>by
  unfold zrc at a
  split at a
  ·exact⟨rfl,a⟩
  ·cases a
 have i:∀b,zrc j k=some b->b<n0:=fun b a=>s b (p b a).2
 match g,m,h with
 |0,_,h=>exact h
 |1,_,h=>exact h
 |2,_,h=>exact h
 |3,_,h=>exact h
 |4,_,h=>exact h
 |5,_,h=>
  obtain⟨hi,c⟩:=h
  exact⟨hi,c.grown f i⟩
 |6,_,h=>
  obtain⟨hi,x,c,l⟩:=h
  exact⟨hi,x,c.grown f i,l.grown f i⟩
 |7,m,h=>
  obtain⟨hi,x,c,l,r⟩:=h
  exact⟨hi,x,c.grown f i,l.grown IsVal.stb f fun b a=>absurd (p b a).1 (Ne.symm m),r⟩
 |8,_,h=>exact h
 |9,_,h=>exact h
 |_+10,_,_=>exact trivial
def zrd (i:d):Nat->Option Nat:=fun k=>match k with|11=>i.ownBlock|_=>none
theorem ywa {D G:Nat} {i:d} {p:Bool} {s:Nat} {A:Nat} {z:Rat} {o:Nat->Prop} {l:List Raw} {n0:Nat} (t:∀b,i.ownBlock=some b->b<n0):∀g k v w w' X u,g≠k->X k=none->zyz D G i rest ag R ae af p I s J K A L z o l n0 base g v w X->w.grownBy w' (zrd i k)->zyz D G i rest ag R ae af p I s J K A L z o l n0 base g v w' (U6 X k u):=fun g k v w w' X u m y h f=>by
 have q:∀b,zrd i k=some b->k=11/\i.ownBlock=some b:=fun b a=>by
  unfold zrd at a
  split at a
  ·exact⟨rfl,a⟩
  ·cases a
 have n:∀b,zrd i k=some b->b<n0:=fun b a=>t b (q b a).2
 match g,m,h with
 |0,_,h=>exact h
 |1,_,h=>exact h
 |2,_,h=>exact h
 |3,_,h=>exact h
 |4,_,h=>exact h
 |5,_,h=>exact h
 |6,_,h=>exact h
 |7,_,h=>exact h
 |8,_,h=>exact h
 |9,_,h=>
  obtain⟨lo,hi,c⟩:=h
  exact⟨lo,hi,c.grown f n⟩
 |10,_,h=>
  obtain⟨lo,hi,x,c,j⟩:=h
  exact⟨lo,hi,x,c.grown f n,j.grown f n⟩
 |11,m,h=>
  obtain⟨lo,hi,c,j,r⟩:=h
  exact⟨lo,hi,⟨c.1,c.2.1,M c.2.2 f.size⟩,j.grown IsR.stb f fun b a=>absurd (q b a).1 (Ne.symm m),r⟩
 |12,_,h=>exact h
 |13,_,h=>exact h
 |_+14,_,_=>exact trivial
def ylt (base:Nat) (j:d) (a:List d) (b:Nat) (w:e):Prop:=b=7->OwnS 1 30 IsVal w base (fun _=>False) j a
def ylu (base:Nat) (a:Nat->Prop) (i:d) (l:List Raw) (b:Nat) (w:e):Prop:=b=11->OwnS 3 37 IsR w base a i l
def JT (a:e) (G:Nat) (tc:List d) (r1:Option Nat) (b w:e):Prop:=Row w G 94 tc/\Kept r1 none none b w/\Below a.heap.size a w
theorem JT.step {a:e} {G:Nat} {tc:List d} {r1:Option Nat} {g w w':e} (h:JT a G tc r1 g w) (f:w.grownBy w' r) (hr:r=none\/r=r1) (hg:∀b,r1=some b->G≠b/\a.heap.size<=b):JT a G tc r1 g w':=by (have key:∀b,r=some b->r1=some b:=fun b c=>by rcases hr with h|h;rw[h] at c;cases c;rw[<-h];exact c);exact⟨h.1.grownN f fun b c=>(hg b (key b c)).1,h.2.1.step f (by rcases hr with h|h;exact .inl h;exact .inr (.inl h)),h.2.2.grown f h.2.2.size fun b c=>(hg b (key b c)).2⟩
theorem Kept.grown1 {w w':e} (h:Kept r none none w w'):w.grownBy w' r:=⟨h.os,h.tape,h.output,h.size,fun k a hr=>h.block k a hr (by simp) (by simp)⟩
theorem ykv:Tryz.prog.cellsOf 94=11:=by kernel_rfl
theorem zqc:Tryz.prog.cellsOf 59=8:=by kernel_rfl
section
variable {w U : e} {g : Nat} {t : TypeId} {p s A x V Y Z aa ai aj ah : d}
abbrev put11 (U:e) (g:Nat) (a b f h i j k l m n c:d):e:=((((((((((U.setCell ⟨g,0,none⟩ a).setCell ⟨g,1,none⟩ b).setCell ⟨g,2,none⟩ f).setCell ⟨g,3,none⟩ h).setCell ⟨g,4,none⟩ i).setCell ⟨g,5,none⟩ j).setCell ⟨g,6,none⟩ k).setCell ⟨g,7,none⟩ l).setCell ⟨g,8,none⟩ m).setCell ⟨g,9,none⟩ n).setCell ⟨g,10,none⟩ c
theorem Row.put11 (h:Row U g t [p,s,A,x,V,Y,Z,aa,ai,aj,ah]) (a b e f i j k l m n c:d):Row (Go.Proofs.YtdgilbgdkmhcmaaGreatDoor.put11 U g a b e f i j k l m n c) g t [a,b,e,f,i,j,k,l,m,n,c]:=((((((((((h.set_ 0 a).set_ 1 b).set_ 2 e).set_ 3 f).set_ 4 i).set_ 5 j).set_ 6 k).set_ 7 l).set_ 8 m).set_ 9 n).set_ 10 c
theorem zzy (U:e) (g:Nat) (a b f h i j k l m n c:d):U.grownBy (put11 U g a b f h i j k l m n c) (some g):=J5 (J5 (J5 (J5 (J5 (J5 (J5 (J5 (J5 (J5 (I0 _ _ _ _) (I0 _ _ _ _)) (I0 _ _ _ _)) (I0 _ _ _ _)) (I0 _ _ _ _)) (I0 _ _ _ _)) (I0 _ _ _ _)) (I0 _ _ _ _)) (I0 _ _ _ _)) (I0 _ _ _ _)) (I0 _ _ _ _)
theorem zmc (h:Row w g t [p,s,A,x,V,Y,Z,aa,ai,aj,ah]):w.cell? ⟨g,0,none⟩=some p/\w.cell? ⟨g,1,none⟩=some s/\w.cell? ⟨g,2,none⟩=some A/\w.cell? ⟨g,3,none⟩=some x/\w.cell? ⟨g,4,none⟩=some V/\w.cell? ⟨g,5,none⟩=some Y/\w.cell? ⟨g,6,none⟩=some Z/\w.cell? ⟨g,7,none⟩=some aa/\w.cell? ⟨g,8,none⟩=some ai/\w.cell? ⟨g,9,none⟩=some aj/\w.cell? ⟨g,10,none⟩=some ah:=⟨h.cell 0,h.cell 1,h.cell 2,h.cell 3,h.cell 4,h.cell 5,h.cell 6,h.cell 7,h.cell 8,h.cell 9,h.cell 10⟩
theorem zwp (h:Row w g t [p,s,A,x,V,Y,Z,aa,ai,aj,ah]):w.frozen? ⟨g,0,none⟩=false/\w.frozen? ⟨g,1,none⟩=false/\w.frozen? ⟨g,2,none⟩=false/\w.frozen? ⟨g,3,none⟩=false/\w.frozen? ⟨g,4,none⟩=false/\w.frozen? ⟨g,5,none⟩=false/\w.frozen? ⟨g,6,none⟩=false/\w.frozen? ⟨g,7,none⟩=false/\w.frozen? ⟨g,8,none⟩=false/\w.frozen? ⟨g,9,none⟩=false/\w.frozen? ⟨g,10,none⟩=false:=⟨h.frozen 0,h.frozen 1,h.frozen 2,h.frozen 3,h.frozen 4,h.frozen 5,h.frozen 6,h.frozen 7,h.frozen 8,h.frozen 9,h.frozen 10⟩
theorem Z0 (h:Row w g t [p,s,A,x,V,Y,Z,aa]):w.cell? ⟨g,0,none⟩=some p/\w.cell? ⟨g,1,none⟩=some s/\w.cell? ⟨g,2,none⟩=some A/\w.cell? ⟨g,3,none⟩=some x/\w.cell? ⟨g,4,none⟩=some V/\w.cell? ⟨g,5,none⟩=some Y/\w.cell? ⟨g,6,none⟩=some Z/\w.cell? ⟨g,7,none⟩=some aa:=⟨h.cell 0,h.cell 1,h.cell 2,h.cell 3,h.cell 4,h.cell 5,h.cell 6,h.cell 7⟩
end
theorem yyb {fn:Func} {slot:Tmp} {R:Ending->e->Prop} {a:Act} {w:e} {g:Nat} {p s A x V Y Z aa ai aj ah:d} (hr:fn.results= #[.cell slot 94]) (ha:a.tmps.getD slot aB= .pointer (some ⟨g,0,none⟩)) (hd:a.defers=[])
 (h:Row w g 94 [p,s,A,x,V,Y,Z,aa,ai,aj,ah]) (r:R (.returned (.agg #[p,s,A,x,V,Y,Z,aa,ai,aj,ah])) w):bodyPost Tryz.prog fn R .ret a w:=by refine bodyPost_ret (v:= .agg #[p,s,A,x,V,Y,Z,aa,ai,aj,ah]) ?_ hd r;obtain⟨b,c,i,j,k,l,m,n,o,q,f⟩:=zmc h;have t:a.tmps[slot]?.getD aB= .pointer (some ⟨g,0,none⟩):=(by simpa using ha);simp[results,hr,t,asAddr,go_sem,b,c,i,j,k,l,m,n,o,q,f]
theorem TabO.nil {w:e} {S:Nat->Prop} {B:Nat->Option Nat} {n:Nat} {hd:Nat->d} {F:Nat->Nat->Int} {Q:Nat->Int} (h:Sep w base S B) (a:B 3=none) (c:B 4=none):TabO w base S B 0 0 n hd (.slice none 0 0) (.slice none 0 0) F Q:=
 ⟨fun f hi=>absurd hi og,⟨OwnS.nil h.q,c.symm⟩,⟨OwnS.nil fun b h=>h.elim,a.symm⟩,h⟩
def B0 (sb G:Nat):Nat->Option Nat:=fun a=>if a=2 then some sb else if a=6 then some G else none
theorem yyz {w:e} {d sb G:Nat} (i:base<=d/\d<w.heap.size) (f:base<=sb/\sb<w.heap.size) (g:base<=G/\G<w.heap.size) (l:d≠sb) (m:d≠G) (h:sb≠G):Sep w base (fun b=>b=d) (B0 sb G):=by
 refine⟨fun k b a=> ?_,fun k o b n a c=> ?_,fun b j=>by rw[j];exact i.2⟩
 ·unfold B0 at a;split at a
  ·cases a;exact⟨f.1,f.2,fun a=>l a.symm⟩
  ·split at a
   ·cases a;exact⟨g.1,g.2,fun a=>m a.symm⟩
   ·cases a
 ·unfold B0 at a c;split at a
  ·cases a;rw[if_neg og] at c;split at c
   ·cases c;exact h rfl
   ·cases c
  ·split at a
   ·cases a;split at c
    ·cases c;exact h rfl
    ·rw[if_neg og] at c;cases c
   ·cases a
section
variable {a w w' : e} {G sb : Nat} {S : Nat → Prop} {B : Nat → Option Nat} {k l n len : Nat} {hd : Nat → d} {j i y D one : d} {F : Nat → Nat → Int} {Q : Nat → Int} {f : Nat → Nat} {bas oth : List Nat} {tc : List d}
theorem TblW.copied (h:TblW a w G sb S B 0 0 n len hd (.slice none 0 0) (.slice none 0 0) (.slice none 0 0) (.slice none 0 0) one F Q f [] [] tc) (c:Below w.heap.size w w') {mid:Nat} (j:w.heap.size<=mid) (o:mid<=w'.heap.size)
 (e:OwnS 1 3 IsIV w' w.heap.size (fun _=>False) y (bas.map fun(x:Nat)=>(x:Int))) (l:∀b,y.ownBlock=some b->b<mid) (g:OwnS 1 3 IsIV w' mid (fun _=>False) D (oth.map fun(x:Nat)=>(x:Int))):
 TblW a w' G sb S (zkm (zkm B 0 y.ownBlock) 1 D.ownBlock) 0 0 n len hd (.slice none 0 0) (.slice none 0 0) y D one F Q f bas oth tc:=by
 have i:=h.next c
 have p:Sep w' a.heap.size S (zkm (zkm B 0 y.ownBlock) 1 D.ownBlock):=h.tab.sep.two (hi:=mid) og c.size h.below.size o j (fun b c=> .inl c) (fun b d=>⟨(e.own_lt b d).1,l b d,fun m=>by have:=h.tab.sep.q b m;have:=(e.own_lt b d).1;omega⟩) (by
  rcases k:D.ownBlock with _|b
  ·exact .inl (h.othO.2.symm▸rfl)
  ·exact .inr ⟨b,rfl,(g.own_lt b k).1,(g.own_lt b k).2⟩)
 exact {i with
  tab:=i.tab.place p (by rw[L1 og,L1 og]) (by rw[L1 og,L1 og]) (fun q=>by rw[L1 og,L1 og])
  basO:=⟨e.higher IsIV.stb h.below.size (fun b h=>h) fun b h=>h.elim,by rw[L1 og,zno]⟩
  othO:=⟨g.higher IsIV.stb (M h.below.size j) (fun b h=>h) fun b h=>h.elim,by rw[zno]⟩
  b2:=by rw[L1 og,L1 og];exact h.b2
  b6:=by rw[L1 og,L1 og];exact h.b6}
theorem TblW.rowT (h:TblW a w G sb S B k l n len hd j i y D one F Q f bas oth tc) (q:w.grownBy w' j.ownBlock) (r:Row w' G 94 tc) {g:d} (e:LinP w' w.heap.size n (F k) hi u) (hv:OwnS 1 30 IsVal w' a.heap.size (fun _=>False) g ((List.range k).map hd++[u])) (s:g.ownBlock=j.ownBlock\/∃b,g.ownBlock=some b/\hi<=b):
 ∃m p,(∀b,S b->m b)/\TblW a w' G sb m p (k+1) l n len (zpp hd k u) g i y D one F Q f bas oth tc:=by
 have o:w.grownBy w' (B 3):=by rw[<-h.tab.heads.2];exact q
 exact⟨_,_,fun b c=> .inl c,h.swap (.inl rfl) o (h.tab.row h.below.size o e.1.1 e.1.2 e.2.1 e.2.2 hv s) (by rw[L1 og,L1 og]) (by rw[L1 og,L1 og]) (by rw[L1 og,L1 og]) (by rw[L1 og,L1 og]) r (fun b c=> .inl c) fun b c=>by
  rcases c with c|c
  ·exact h.quiet b c
  ·exact M h.below.size c.1⟩
theorem TblW.restT (h:TblW a w G sb S B k l n len hd j i y D one F Q f bas oth tc) (t:w.grownBy w' i.ownBlock) (u:Row w' G 94 tc) {g:d} (o:w.heap.size<=lo/\lo<=hi/\hi<=w'.heap.size) (hv:OwnS 3 37 IsR w' a.heap.size (fun b=>S b\/G0 lo hi b) g (C0 (ints l Q)++[E7 ((Q l:Int):Rat)])) (v:g.ownBlock=i.ownBlock\/∃b,g.ownBlock=some b/\hi<=b):
 ∃p r,(∀b,S b->p b)/\TblW a w' G sb p r k (l+1) n len hd j g y D one F Q f bas oth tc:=by
 have q:w.grownBy w' (B 4):=(by rw[<-h.tab.rests.2];exact t);have e:C0 (ints (l+1) Q)=C0 (ints l Q)++[E7 ((Q l:Int):Rat)]:=(by rw[ygg];simp[C0]);have s:∀b,(S b\/G0 lo hi b)->S b\/(w.heap.size<=b/\b<w'.heap.size):=fun b c=>c.imp id fun c=>⟨M o.1 c.1,Nat.lt_of_lt_of_le c.2 o.2.2⟩
 exact⟨_,_,fun b c=> .inl c,h.swap (.inr rfl) q (h.tab.rest (T:=fun b=>S b\/G0 lo hi b) h.below.size q (fun b c=> .inl c) s (by rw[e];exact hv) fun b e=>by
  rcases v with m|⟨x,m,z⟩
  ·exact .inl (by rw[<-h.tab.rests.2,<-m];exact e)
  ·rw[m] at e;cases e;exact .inr og) (L1 og) (L1 og) (L1 og) (L1 og) u (fun b c=> .inl c) fun b c=>by
  rcases c with c|c
  ·exact h.quiet b c
  ·exact M h.below.size (M o.1 c.1)⟩
theorem TblW.fin (h:TblW a w G sb S B m m n len hd j i y D one F Q f bas oth tc) (hf:∀v,v∈bas++oth->v<len/\f v=sc v) {N top:d} {C:Nat->Int} {z:Int} {t J:Nat} (s:Below w.heap.size w w') (q:LinP w' w.heap.size n C hi u) (M:QinP w' w.heap.size lo J ((z:Int):Rat) N) (R:hi<=lo) (O:NumS w S top t):
 ∃l x,TabE w' a.heap.size l x m n hd j i u y D sb F Q C sc bas oth/\NumS w' l one 1/\NumS w' l top t/\IsQ w' l N ((z:Int):Rat)/\(∀b,l b->a.heap.size<=b)/\x 6=some G:=by
 obtain⟨T,p⟩:∃T:Nat->Prop,T=fun b=>S b\/(w.heap.size<=b/\b<J/\u.ownBlock≠some b):=⟨_,rfl⟩;have H:∀b,S b->T b:=fun b e=>(by rw[p];exact .inl e);have U:=M.1;have I:∀b,T b->S b\/(w.heap.size<=b/\b<w'.heap.size):=fun b e=>(by rw[p] at e;exact e.imp id fun h=>⟨h.1,by omega⟩);have r:=q.2.1.own_lt;have k:=h.more s H I
 have K:∀b,u.ownBlock=some b->¬T b:=fun b g e=>by
  rw[p] at e;rcases e with e|e
  ·have:=h.tab.sep.q b e;have:=(r b g).1;omega
  ·exact e.2.2 g
 have L:Sep w' a.heap.size T (zkm B 5 u.ownBlock):=h.tab.sep.upd s.size h.below.size I fun b g=> .inr ⟨(r b g).1,(r b g).2,K b g⟩;refine⟨T,zkm B 5 u.ownBlock,⟨k.tab.place L (L1 og) (L1 og) (fun V=>L1 og),⟨q.2.1.higher IsR.stb h.below.size (fun b e=> ?_) fun b e=>⟨L.q b e,fun g=>K b g.symm e⟩,(zno _ _ _).symm⟩,⟨k.basO.1,by rw[L1 og];exact k.basO.2⟩,⟨k.othO.1,by rw[L1 og];exact k.othO.2⟩,⟨by rw[L1 og];exact k.b2,fun v hv=> ?_⟩⟩,k.den,IsK.stb.to O fun b e=>⟨H b e,fun o=>s.cell (p:=⟨b,o,none⟩) (h.tab.sep.q b e)⟩,IsQ.stb.to M.2 (F6 fun b e=> ?_),k.quiet,(L1 og).trans h.b6⟩
 ·rw[p];exact .inr ⟨e.1,by have:=e.2.1;omega,e.2.2⟩
 ·obtain⟨P,c,A,E⟩:=k.scl.el v (hf v hv).1;rw[(hf v hv).2] at A E;exact⟨P,c,A,E⟩
 ·rw[p];exact .inr ⟨by have:=e.1;omega,e.2,fun g=>by have:=q.2.2 b g;have:=e.1;omega⟩
end
theorem TabE.far {w w':e} {n sb z:Nat} {S:Nat->Prop} {B:Nat->Option Nat} {hd:Nat->d} {j i s y D:d} {F:Nat->Nat->Int} {Q C:Nat->Int} {bas oth:List Nat} (h:TabE w base S B m n hd j i s y D sb F Q C sc bas oth) (K:∀b,S b->base<=b) (hg:w.grownBy w' (some z)) (f:z<base\/B 6=some z):
 TabE w' base S B m n hd j i s y D sb F Q C sc bas oth:=by
 have u:∀b,some z=some b->¬S b:=fun b a g=>by
  cases a;rcases f with f|f
  ·have:=K z g;omega
  ·exact(h.tab.sep.lt _ _ f).2.2 g
 have G:∀(v:d) (p:Nat),v.ownBlock=B p->p≠6->v.ownBlock≠some z:=fun v p a r o=>by
  rcases f with f|f
  ·have:=(h.tab.sep.lt p z (a▸o)).1;omega
  ·exact h.tab.sep.ne 6 p z (Ne.symm r) f (a▸o)
 have key:∀{x:Type} {c:Nat} {t:TypeId} {R:e->(Nat->Prop)->d->x->Prop} {T:Nat->Prop} {v:d} {l:List x} (p:Nat),Stb R->(∀b,T b->S b\/False)->v.ownBlock=B p->p≠6->OwnS c t R w base T v l->OwnS c t R w' base T v l:=fun p H I a r J=>J.grown H hg fun b o=>⟨by cases o;exact G _ p a r,fun g=>(I b g).elim (u b o) id⟩
 refine⟨⟨fun q hi=>⟨key (7+q) IsR.stb (fun b h=> .inl h) (h.tab.rows q hi).2 og (h.tab.rows q hi).1,(h.tab.rows q hi).2⟩,⟨key 4 IsR.stb (fun b h=> .inl h) h.tab.rests.2 og h.tab.rests.1,h.tab.rests.2⟩,⟨key 3 IsVal.stb (fun b h=> .inr h) h.tab.heads.2 og h.tab.heads.1,h.tab.heads.2⟩,h.tab.sep.size hg.size⟩,
  ⟨key 5 IsR.stb (fun b h=> .inl h) h.cost.2 og h.cost.1,h.cost.2⟩,⟨key 0 IsIV.stb (fun b h=> .inr h) h.basO.2 og h.basO.1,h.basO.2⟩,⟨key 1 IsIV.stb (fun b h=> .inr h) h.othO.2 og h.othO.1,h.othO.2⟩,⟨h.scl.1,fun v hv=> ?_⟩⟩
 obtain⟨P,k,A,E⟩:=h.scl.2 v hv;have L:=h.tab.sep.lt _ _ h.scl.1
 exact⟨P,k,(World.cell?_of_block (hg.block sb L.2.1 fun a=>by
  injection a with a;rcases f with f|f
  ·omega
  ·exact h.tab.sep.ne 6 2 z og f (by rw[h.scl.1,a]))).trans A,IsK.stb.to E (zll hg fun b g=>⟨h.tab.sep.q b g,fun a=>u b a.symm g⟩)⟩
theorem yne {j:d} {k:Nat} (h:zrc j k=some b):k=7:=by
 unfold zrc at h;split at h
 ·rfl
 ·cases h
theorem ynf {i:d} {k:Nat} (h:zrd i k=some b):k=11:=by
 unfold zrd at h;split at h
 ·rfl
 ·cases h
theorem yqw {w:e} {g:Nat} {x y z u:Int} (p:w.cell? ⟨g,0,none⟩=some (.int .i64 x)) (q:w.cell? ⟨g,1,none⟩=some (.int .i64 y)) (r:w.cell? ⟨g,2,none⟩=some (.int .i64 z)) (s:w.cell? ⟨g,3,none⟩=some (.int .i64 u)):
 Calls Tryz.prog 99 #[.slice (some ⟨g,0,none⟩) 4 4] w fun c w'=>c= .returned (.int .i64 (X5 [x,y,z,u]))/\w=w':=by
 have hc:Hid (∀b c,[x,y,z,u][b]? =some c->w.cell? ⟨g,b,none⟩=some (.int .i64 c)):=by
  intro b c a;match b,a with
  |0,a=>simp at a;rw[<-a];exact p
  |1,a=>simp at a;rw[<-a];exact q
  |2,a=>simp at a;rw[<-a];exact r
  |3,a=>simp at a;rw[<-a];exact s
 obtain⟨l,m⟩:=nm ([x,y,z,u]);rw[<-m] at hc⊢;have t:Hid (l.length=4):=(by rw[m];rfl);clear p q r s m;go_in;go_wp2_with fail;go_loop [7] (fun n=>∃k:Nat,k<=4/\n= .int .i64 (k:Int)/\Hid (∀b,b<k->l.getD b 0=0)) (fun n=>4-(intOf n).toNat);case atStart=>exact⟨0,by omega,rfl,fun b a=>by omega⟩
 case round=>
  obtain⟨k,E,rfl,hrel⟩:=hrel;rcases aE k 4 with B|D
  ·obtain⟨c,j⟩:=zmx (l:=l) (j:=k) (by rw[t.out];exact B);have C:=hc.out k c j;have o:=O j;clear j;by_cases f:c=0
   ·have A:(c !=0)=false:=(by rw[f];rfl);have v:=O f;clear f;go_wp2_with fail;go_round
    case rel=>
     refine⟨k+1,by omega,by go_num,fun b a=> ?_⟩;rcases aE b k with h|h
     ·exact hrel.out b h
     ·obtain rfl:b=k:=og;rw[aG,o.out,v.out];rfl
    case measure=>simp[intOf];omega
   ·have A:(c !=0)=true:=bne_iff_ne.2 f;have i:Hid (X5 l=c):=zuk hrel.out o.out f;clear f;go_wp2_with fail;go_ret;exact⟨H6 i.out.symm,rfl⟩
  ·obtain rfl:k=4:=og;have i:Hid (X5 l=0):=zsr (by rw[t.out];exact hrel.out);go_wp2_with fail;go_ret;exact⟨H6 i.out.symm,rfl⟩
theorem yqy (w:e) (x y z u t:Int) (i:t=X5 [x,y,z,u]):Calls Tryz.prog 99 #[.slice (some ⟨w.heap.size,0,none⟩) 4 4] (w.alloc (.cells #[.int .i64 x,.int .i64 y,.int .i64 z,.int .i64 u] 40)) fun a w'=>a= .returned (.int .i64 t)/\Below w.heap.size w w':=by have h:Row (w.alloc (.cells #[.int .i64 x,.int .i64 y,.int .i64 z,.int .i64 u] 40)) w.heap.size 40 [.int .i64 x,.int .i64 y,.int .i64 z,.int .i64 u]:=heap_alloc_new w _;have b:=h.cell 0;have c:=h.cell 1;have d:=h.cell 2;have f:=h.cell 3;rw[i];refine(yqw b c d f).mono ?_;rintro a w' ⟨g,rfl⟩;exact⟨g,O0 _ _⟩
theorem yoa {m:List (List Rat)} {c:Nat} (j:m.length<=40) (hc:c<=40) (e:∀r∈m,r.length=c) (i:∀r∈m,∀q∈r,Sz q 1024):zku (E9 m)=0:=by
 have h:∀row∈E9 m,row.length=((E9 m).headD []).length:=by
  intro row hr;obtain⟨r,b,rfl⟩:=List.mem_map.1 hr;cases m with
  |nil=>cases b
  |cons a t=>simp only[E9,List.map_cons,List.headD_cons,C0,aD];rw[e r b,e a (by simp)]
 unfold zku;rw[if_neg (by simp[E9];omega)];refine zsr fun k d=> ?_;rw[aD] at d;rw[aG,aH,List.getElem?_eq_getElem d];have f:=List.getElem_mem d;simp only[Option.map_some,Option.getD_some];rw[if_neg (by rw[h _ f];simp)];obtain⟨r,b,g⟩:=List.mem_map.1 f;rw[<-g];exact zsm (by rw[e r b];exact hc) (i r b)
theorem yra {R:List (List Rat)} {n:Nat} (a:R.length=m) (c:∀r∈R,r.length=n):zor (E9 R) m n=0:=by
 unfold zor;rw[if_neg];rintro(h|⟨h,b⟩)
 ·exact h (by unfold E9;rw[aD,a])
 ·cases R with
  |nil=>simp at a;omega
  |cons r R=>exact b (by simp[E9,C0,c r (List.mem_cons_self ..)])
theorem yni:(Tryz.prog.info? 4).map (fun a=>(a.zero,a.size,a.bytes))=some (some (.bool false),1,1):=by kernel_rfl
theorem ypy:ElT Tryz.prog 135 4 (.bool false) 1:=⟨Tryz.underlying135,by obtain⟨e,a,b,c,d⟩:=info_parts yni;exact⟨e,a,b,c,d⟩,rfl⟩
def zoz (N:Nat) (l:List Nat) (k:Nat):List d:=(List.range N).map fun x=> .bool (decide (x∈l.take k))
theorem zz1374 (N:Nat) (l:List Nat):zoz N l 0=List.replicate N (.bool false):=by
 unfold zoz;apply List.ext_getElem
 ·simp
 ·intro c a b;simp
theorem yci {l:List Nat} {k x:Nat} (a:x<N):(zoz N l k)[x]? =some (.bool (decide (x∈l.take k))):=by unfold zoz;rw[aH,List.getElem?_range a];rfl
theorem zz1373 {l:List Nat} {k x:Nat} (g:x<N) (e:l[k]? =some x):(zoz N l k).set x (.bool true)=zoz N l (k+1):=by
 apply List.ext_getElem?;intro y;have c:∀k,(zoz N l k).length=N:=fun k=>(by unfold zoz;simp);have f:=znm e;rw[List.getElem?_set,c];by_cases d:y<N
 ·rw[yci d,yci d,f];by_cases a:x=y
  ·subst a;rw[if_pos rfl,if_pos g];simp
  ·rw[if_neg a];have:decide (y∈l.take k)=decide (y∈l.take k++[x]):=decide_eq_decide.2 ⟨fun h=>List.mem_append_left _ h,fun h=>(List.mem_append.1 h).resolve_right fun h=>a (List.mem_singleton.1 h).symm⟩;rw[this]
 ·have b:∀k,(zoz N l k)[y]? =none:=fun k=>List.getElem?_eq_none (by rw[c];omega);rw[b,b];by_cases a:x=y
  ·rw[if_pos a,if_neg og]
  ·rw[if_neg a]
theorem yrd {l:List Nat} (h:l.Nodup) {k x:Nat} (b:l[k]? =some x):x∉l.take k:=by intro f;obtain⟨g,a⟩:=List.getElem?_of_mem f;have e:g<k:=(by have:=(List.getElem?_eq_some_iff.1 a).1;rw[List.length_take] at this;omega);rw[List.getElem?_take,if_pos e] at a;obtain⟨c,i⟩:=List.getElem?_eq_some_iff.1 a;obtain⟨d,j⟩:=List.getElem?_eq_some_iff.1 b;have:=znw h c d (by rw[aG,aG,a,b]);omega
theorem yrc {w:e} {n:Nat} {bas oth:List Nat} {R:List (List Rat)} {b:List Rat}
 (a4:IsS 1 IsIV w (C2 w) (.slice z m C) (bas.map fun(x:Nat)=>(x:Int))) (bg:IsS 1 IsIV w (C2 w) (.slice E n H) (oth.map fun(x:Nat)=>(x:Int))) (hr:IsM w (C2 w) (.slice az m aA) (E9 R)) (bh:IsV w (C2 w) (.slice av m ay) (C0 b)) (hc:IsV w (C2 w) (.slice ar n au) (C0 c)) (hv:IsQ w (C2 w) (.agg #[.bool an,.slice h ao ak,.slice ad aq al]) vq) (a2:Bru w)
 (bj:bas.length=m) (lo:oth.length=n) (S:R.length=m) (aG:b.length=m) (aB:c.length=n) (T:∀r∈R,r.length=n) (a9:m<=40) (bd:n<=40) (v:∀x∈bas++oth,x<m+n) (be:(bas++oth).Nodup) (br:∀r∈R,∀q∈r,Sz q 1024) (sb:∀q∈b,Sz q 1024) (sc:∀q∈c,Sz q 1024) (bt:Sz vq 1024) (bm:z=none->C=0) (bp:E=none->H=0):
 Calls Tryz.prog 37 #[.agg #[.slice z m C,.slice E n H,.slice az m aA,.slice av m ay,.slice ar n au,.bool an,.slice h ao ak,.slice ad aq al]] w fun d w'=>d= .returned (.int .i64 0)/\Below w.heap.size w w':=by
 obtain⟨aM,aR,X,aS,aN⟩:=hd5 a4 bg hr bh hc;have aT:Hid (IsR w (C2 w) (.agg #[.bool an,.slice h ao ak,.slice ad aq al]) (E7 vq)):=hv;obtain⟨D,F,aP,aQ,Y⟩:=hd5 a2 (aC bj (aC lo (aC S (aC aG (aC aB T))))) v be (aC bm bp);have aU:Hid (zku (E9 R)=0):=yoa (by rw[S];exact a9) bd T br;have aV:Hid (W6 (C0 b)=0):=zsm (by rw[aG];exact a9) sb;have aW:Hid (W6 (C0 c)=0):=zsm (by rw[aB];exact bd) sc;have aX:Hid (T3 (E7 vq)=0):=zzi bt;have aY:Hid (zor (E9 R) m n=0):=yra S T;obtain⟨a,bN,a5,bq,bY⟩:=K7 w #[.slice z m C,.slice E n H,.slice az m aA,.slice av m ay,.slice ar n au,.bool an,.slice h ao ak,.slice ad aq al] 59;obtain⟨d0,f,i,j,o,p,s,t⟩:=Z0 bq;have u:=hs8 d0 f i j o p s t;have b0:=zqc;have b3:=R4;have aa:=a5;clear a4 bg hr bh hc hv a2 bj lo S aG aB T v be br sb sc bt bm bp d0 f i j o p s t bq a5;go_in;obtain⟨d0,f,i,j,o,p,s,t⟩:=u.out a bel;go_wp2_with fail;clear bN d0 f i j o p s t
 go_region_held3 (SH.mk _ u).s
  (exact u.out _ bel)
  (first
    |(go_at_call 100;(with_reducible refine Calls.mono (yfn (uM _ X) (uU _ D)) ?_);rw[aU.out];rintro d U ⟨rfl,bG⟩)
    |(go_at_call 101;(with_reducible refine Calls.mono (ztv (uV _ aS) (uU _ D)) ?_);rw[aV.out];rintro d cm ⟨rfl,bH⟩)
    |(go_at_call 101;(with_reducible refine Calls.mono (ztv (uV _ aN) (uU _ D)) ?_);rw[aW.out];rintro d cn ⟨rfl,bI⟩)
    |(go_at_call 102;(with_reducible refine Calls.mono (zzg (IsR.stb.next aT.out bl) (uU _ D)) ?_);rw[aX.out];rintro d bR ⟨rfl,bJ⟩)
    |(go_at_call 99;(with_reducible refine Calls.mono (yqy bR 0 0 0 0 0 rfl) ?_);rintro d V ⟨rfl,bK⟩))
 have aK:Hid (Below a.heap.size a V):=bW a V;clear bG bH bI bJ bK;have G:=aK.out;obtain⟨d0,f,i,j,o,p,s,t⟩:=u.out V G;have bP:((m:Int) !=(m:Int))=false:=(by simp);have bQ:((n:Int) !=(n:Int))=false:=(by simp);go_wp2_with fail;refine(yfk (uM _ X) og og).mono ?_;rw[aY.out];rintro d B ⟨rfl,rfl⟩;have bM:IntKind.i64.wrap ((m:Int)+(n:Int))=((m+n:Nat):Int):=(by rw[IntKind.wrap_i64];omega);go_wp2_with (at_make;refine zz1388 ypy rfl rfl _ _ rfl (m+n) rfl rfl rfl rfl og ?_;intro B J af bO;clear d0 f i j o p s t;obtain⟨d0,f,i,j,o,p,s,t⟩:=u.out B (C9 G af));have Q:=O0 B (.cells #[.slice z m C,.slice E n H] 22);have L:Below w.heap.size w (B.alloc (.cells #[.slice z m C,.slice E n H] 22)):=C9 (C9 (C9 aa G) af) Q;refine(yol (heap_alloc_new B (.cells #[.slice z m C,.slice E n H] 22)) ((IsS.stb IsIV.stb).to aM.out (F7 L)) ((IsS.stb IsIV.stb).to aR.out (F7 L)) (by rw[aD,F.out.1]) (by rw[aD,F.out.2.1]) Y.out.1 Y.out.2 og og).mono ?_;rintro d bT ⟨⟨cl,rfl,A⟩,ag⟩;have a0:(bas.map fun(x:Nat)=>(x:Int))++(oth.map fun(x:Nat)=>(x:Int))=(bas++oth).map fun(x:Nat)=>(x:Int):=(List.map_append ..).symm;rw[a0] at A;obtain⟨l,I⟩:=nm (bas++oth);obtain⟨N,P⟩:=nm (m+n);have aj:l.length=N:=(by rw[I,P,List.length_append,F.out.1,F.out.2.1]);have bx:Hid (∀x∈l,x<N):=(by rw[Hid,I,P];exact aP.out);have bA:Hid l.Nodup:=(by rw[Hid,I];exact aQ.out);have bw:=O aj;have b9:N<=90:=(by omega);rw[<-I] at A;rw[<-P] at J⊢;obtain⟨bU,aZ,b4,rfl,ae,a1,_⟩:=id A;rw[aD,aj] at A ae⊢;have bV:N<=aZ:=ae;have bX:aZ<=9223372036854775807:=(by unfold maxLen at a1;omega);have bB:=O A;obtain⟨g,hg⟩:=nm (V.heap.size);rw[<-hg] at J⊢;have bE:=O (Row.next (Row.next J Q) ag);have a7:g<(B.alloc (.cells #[.slice z m C,.slice E n H] 22)).heap.size:=(Row.next J Q).lt;obtain⟨bu,aL⟩:=C4 a7 (C9 L ag);have bv:Hid (w.heap.size<=g):=(by rw[Hid,hg];exact M aa.size G.size);clear d0 f i j o p s t J af bO Q L ag a0 I P aj ae a1 A hg aa G bM bP bQ a7 u aK aM aR X aS aN aT D F aP aQ Y aU aV aW aX aY;go_wp2_with fail;go_loopw [68,7] (fun ai _ wr=>∃k:Nat,k<=N/\ai= .int .i64 (k:Int)/\bT.grownBy wr (some g)/\Row wr g 4 (zoz N l k)) (fun ai _ _=>N-(intOf ai).toNat);case atStart=>exact⟨0,aJ _,rfl,H7 _ _,by rw[zz1374];exact bE.out⟩
 case round=>
  obtain⟨k,cb,rfl,a8,bi⟩:=hrel;obtain⟨W,Z⟩:=C4 a8 bi;clear a8 bi;rcases aE k N with v|ca
  ·obtain⟨x,K⟩:=zmx (l:=l) (j:=k) (by rw[bw.out];exact v);have ah:=bx.out x (aI K);have bC:=O K;obtain⟨bZ,ck,d,rfl,a3,bL,_,a6⟩:=IsS.get bB.out (Nat.one_pos) (show((l.map fun(x:Nat)=>(x:Int)))[k]? =some (x:Int) by rw[aH,K];rfl);obtain rfl:d= .int .i64 (x:Int):=bL;have ac:=a6 0 _ rfl;rw[Nat.mul_one,Nat.add_zero] at ac;have b1:=W.out.cell ac (fun d=>by injection d with d;have b7:=a3.1;have b8:=bu.out;simp at d;omega);have bF:=(Z.out.cell x).trans (yci ah);have b5:=Z.out.frozen x;have bf:=yrd bA.out K;rw[decide_eq_false bf] at bF;have aO:=O v;have cc:(0:Int)<=(k:Int):=og;have cd:(k:Int)<(N:Int):=og;have cf:¬((x:Int)<0):=og;have ch:(0:Int)<=(x:Int):=og;have cg:(x:Int)<(N:Int):=og;have cj:¬((x:Int)>=(N:Int)):=og;have bD:=O ah;clear K a6 ac a3 bf v ah;go_wp2_with fail;go_roundw;(case rel=>exact⟨k+1,aO.out,by go_num,J5 W.out (I0 _ _ _ _),by rw[<-zz1373 bD.out bC.out];exact Z.out.set_ x _⟩);case measure=>simp[intOf];have:=aO.out;omega
  ·obtain rfl:k=N:=og;go_wp2_with fail;go_ret;exact⟨rfl,aL.out.grown W.out aL.out.size (fun y d=>by cases d;exact bv.out)⟩
theorem yxr {w:e} {n:Nat} {bas oth:List Nat} {R:List (List Rat)} {b:List Rat}
 (T:IsS 1 IsIV w (C2 w) (.slice z m C) (bas.map fun(x:Nat)=>(x:Int))) (ae:IsS 1 IsIV w (C2 w) (.slice E n H) (oth.map fun(x:Nat)=>(x:Int))) (hr:IsM w (C2 w) (.slice az m aA) (E9 R)) (g:IsV w (C2 w) (.slice av m ay) (C0 b)) (hc:IsV w (C2 w) (.slice ar n au) (C0 c)) (hv:IsQ w (C2 w) (.agg #[.bool an,.slice h ao ak,.slice ad aq al]) vq) (S:Bru w)
 (ag:bas.length=m) (lo:oth.length=n) (ai:R.length=m) (G:b.length=m) (ah:c.length=n) (aj:∀r∈R,r.length=n) (Y:m<=40) (aQ:n<=40) (f:∀x∈bas++oth,x<m+n) (Z:(bas++oth).Nodup) (aG:∀r∈R,∀q∈r,Sz q 1024) (sb:∀q∈b,Sz q 1024) (sc:∀q∈c,Sz q 1024) (aH:Sz vq 1024) (aB:z=none->C=0) (aC:E=none->H=0) (ac:∀q∈b,0<=q):
 Calls Tryz.prog 83 #[.agg #[.slice z m C,.slice E n H,.slice az m aA,.slice av m ay,.slice ar n au,.bool an,.slice h ao ak,.slice ad aq al]] w fun y w'=>y= .returned (.int .i64 0)/\Below w.heap.size w w':=by
 have J:Hid (∀W:e,Below w.heap.size w W->Calls Tryz.prog 37 #[.agg #[.slice z m C,.slice E n H,.slice az m aA,.slice av m ay,.slice ar n au,.bool an,.slice h ao ak,.slice ad aq al]] W fun y w'=>y= .returned (.int .i64 0)/\Below W.heap.size W w'):=fun W d=>
  yrc ((IsS.stb IsIV.stb).to T (F7 d)) ((IsS.stb IsIV.stb).to ae (F7 d)) (IsM.stb.to hr (F7 d)) (IsV.stb.to g (F7 d)) (IsV.stb.to hc (F7 d)) (IsQ.stb.to hv (F7 d)) (Bru.next S d) ag lo ai G ah aj Y aQ f Z aG sb sc aH aB aC
 obtain⟨aO,aN,aP⟩:=G6 g ac G;obtain⟨a,aR,V,aD,aT⟩:=K7 w #[.slice z m C,.slice E n H,.slice az m aA,.slice av m ay,.slice ar n au,.bool an,.slice h ao ak,.slice ad aq al] 59;obtain⟨d0,l,o,p,s,t,u,v⟩:=Z0 aD;have L:=hs8 d0 l o p s t u v;have aY:=zqc;have aZ:=R4;have a7:m<=40:=Y;have A:=O V;clear T ae hr g hc hv S ag lo ai G ah aj f Z aG sb sc aH aB aC aD ac V;go_in;go_wp2_with fail;clear aR d0 l o p s t u v;refine(J.out a A.out).mono ?_;rintro y U ⟨rfl,D⟩;have aK:=nB A D;obtain⟨d0,l,o,p,s,t,u,v⟩:=L.out U D;clear D L A J;go_wp2_with fail;clear d0 l o p s t u v;go_loopw [14,5] (fun F _ wr=>∃k:Nat,k<=m/\F= .int .i64 (k:Int)/\Below w.heap.size w wr) (fun F _ _=>m-(intOf F).toNat);case atStart=>exact⟨0,aJ _,rfl,aK.out⟩
 case round=>
  obtain⟨k,a4,rfl,X⟩:=hrel;have j:=O X;clear X;rcases aE k m with f|a3
  ·obtain⟨q,g,af⟩:=znx (l:=b) (j:=k) (by rw[aP.out];exact f);obtain⟨aX,be,P,a9,Q,bd,rfl,_,_,B,M,N⟩:=zmd (IsV.stb.to aO.out (F7 j.out)) af;have aa:(E7 q).neg=false:=(by rw[yiv];exact decide_eq_false (Rat.not_lt.2 (aN.out q (aI g))));rw[aa] at B;have a5:(0:Int)<=(k:Int):=og;have a6:(k:Int)<(m:Int):=og;have K:=O f;obtain⟨bf,aS,i,I,a8⟩:=K7 wr #[.bool false,.slice none 0 0,.slice none 0 0] 37;obtain⟨aU,aV,aW⟩:=C5 I;obtain⟨a0,a1,a2⟩:=H5 I;have B:=B9 i B;have M:=B9 i M;have N:=B9 i N;have aL:=nB j i;have aM:=O j.out.size;clear g af aa f I i;go_wp2_with fail;clear aS;go_roundw;(case rel=>exact⟨k+1,K.out,by go_num,zrb aL.out aM.out _ _ _⟩);case measure=>simp[intOf];have:=K.out;omega
  ·obtain rfl:k=m:=og;go_wp2_with fail;go_ret;exact⟨rfl,j.out⟩
theorem G7 {ops lit:Array Oper} (h:ops=lit) {a:Nat} {o b:Oper} (hi:ops[a]? =some b) (c:lit[a]? =some o:=by rfl):o=b:=by rw[h,c] at hi;exact Option.some.inj hi
theorem Y7 {T A:Array d} {t:Nat} {v:d} (h:T[t]? =A[t]?) (hv:A[t]? =some v:=by rfl):T[t]? =some v:=h.trans hv
section
variable {P : Program} {ops lit : Array Oper} {o q : Oper} {T : Array d} {X : Nat → Option d} {Φ : Nat → d → e → (Nat → Option d) → Prop} {W : e} {v : d}
theorem znj (c:∀a q,a∈U9 o->ops[a]? =some q->X a=some (M6 T q)/\Φ a (M6 T q) W X) (f:ops=lit) (a t:Nat) (d:decide (a∈U9 o)=true:=by kernel_rfl) (e:lit[a]? =some q:=by rfl) (hd:q.dst=some t:=by rfl) (g:t<T.size:=by(try dsimp only);omega):
 ∃v,T[t]? =some v/\Φ a v W X:=by have h:=(c a q (C6 d) (by rw[f];exact e)).2;have b:M6 T q=T.getD t aB:=(by unfold M6;rw[hd]);rw[b] at h;exact⟨_,I8 g rfl,h⟩
theorem slY (c:∀a q,a∈U9 o->ops[a]? =some q->X a=some (M6 T q)/\Φ a (M6 T q) W X) (f:ops=lit) (a:Nat) {t:Nat} (b:T[t]? =some v) (d:decide (a∈U9 o)=true:=by kernel_rfl) (e:lit[a]? =some q:=by rfl) (hd:q.dst=some t:=by rfl):X a=some v:=by have h:=(c a q (C6 d) (by rw[f];exact e)).1;rw[h];unfold M6;rw[hd];simp[Array.getD_eq_getD_getElem?,b]
theorem Q7 (d:∀a q,a∈U9 o->ops[a]? =some q->X a=some (M6 T q)/\Φ a (M6 T q) W X) (g:ops=lit) (a t:Nat) (e:decide (a∈U9 o)=true:=by kernel_rfl) (f:lit[a]? =some q:=by rfl) (hd:q.dst=some t:=by rfl) (i:t<T.size:=by(try dsimp only);omega)
 (hv:∀u,Φ a u W X->u=v:=by exact fun _ h=>h):T[t]? =some v:=by obtain⟨u,b,c⟩:=znj d g a t e f hd i;rw[b,hv u c]
theorem J6 {a:Act} {w:e} {c:e->Prop} {b:e->Prop} {i:d->e->(Nat->Option d)->Prop} {g:Nat} {Q:Exit->Act->e->Prop} {B:Prop} (h:∀f:Act->e->Prop,(∀v w',b w'->c w'->i (if o.dst.isSome then v else aB) w' (U6 X g (if o.dst.isSome then v else aB))->f (a.put o.dst v) w')->o.wp P a w f Q) (hg:o.guard=none:=by rfl):
 if Region.wanted o (yielded ops T)=true then o.wp P a w (fun j w'=>∃v,j=a.put o.dst v/\b w'/\c w'/\i (if o.dst.isSome then v else aB) w' (U6 X g (if o.dst.isSome then v else aB))) Q else B:=F9 hg (W9 h)
end
end Go.Proofs.YtdgilbgdkmhcmaaGreatDoor
