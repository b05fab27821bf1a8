/-
 The contract of parlourlaw04's point.
-/
import Derived.Test.YtdgilbgdkmhcmaaGreatDoorProofSimplexDuals12
namespace Go.Proofs.YtdgilbgdkmhcmaaGreatDoor
open Go.RowKit
set_option linter.unusedVariables false
open Go Go.RowKit
set_option maxRecDepth 100000
set_option maxHeartbeats 8000000
open _root_.Go.Lib renaming hid → af
open _root_.Nat renaming le_trans → O, lt_of_lt_of_le → aG, lt_or_ge → aH, zero_le → aM, lt_succ_self → aL
open _root_.List renaming getD_eq_getElem?_getD → ah, getElem?_eq_getElem → aD, mem_of_getElem? → ay, length_append → aJ, length_map → aK, getElem?_map → ar
open _root_.Go.World renaming size_alloc → aB
open _root_.Option renaming map_some → aC
open _root_.Go renaming World → D, Value → E, Oper → ag
open _root_.Go.RowKit renaming Below → A
variable {M N i i0 aq : Nat} {h : Option Addr} {aA ao au : E} {f : Rat} {r : List Rat}
theorem ykf {an:Type} {R:D->(Nat->Prop)->E->an->Prop} (d:Stb R) {w w':D} {g n:Nat} {v:E} {x:an} (h:R w (G4 n w) v x) (c:w.grownBy w' (some g)) (hg:g<n):R w' (G4 n w') v x:=
 d.to h fun b a=>⟨⟨a.1,aG a.2 c.size⟩,fun o=>World.cell?_of_block (c.block b a.2 (fun e=>by have:=a.1;cases e;omega))⟩
structure SPSt (w W:D) (g z sb:Nat) (l:List Int) (G H I c0 Z J ai aj ak al:E) (q:ProgQ) (s:Sol):Prop where
 bel:A w.heap.size w W
 hg:w.heap.size<=g/\g<z/\g<sb
 d:IsD W g l
 rp:Row W z 32 [G,H,I]
 vp:IsP W (G4 (g+1) W) (.agg #[G,H,I]) (O7 q)
 rs:Row W sb 39 [c0,Z,J,ai,aj,ak,al]
 vs:IsSol W (G4 (g+1) W) (.agg #[c0,Z,J,ai,aj,ak,al]) s
section
variable {w W V : D} {g z sb : Nat} {l : List Int} {G H I c0 Z J ai aj ak al : E} {q : ProgQ} {s : Sol}
theorem SPSt.next (h:SPSt w W g z sb l G H I c0 Z J ai aj ak al q s) (a:A W.heap.size W V):SPSt w V g z sb l G H I c0 Z J ai aj ak al q s:=
 ⟨C9 h.bel a,h.hg,h.d.next a (IsD.lt h.d),h.rp.next a,IsP.stb.fresh h.vp a,h.rs.next a,IsSol.stb.fresh h.vs a⟩
theorem SPSt.draw (h:SPSt w W g z sb l G H I c0 Z J ai aj ak al q s) (a:W.grownBy V (some g)) (hd:IsD V g l):SPSt w V g z sb l G H I c0 Z J ai aj ak al q s:=
 ⟨h.bel.grown a h.bel.size (fun b e=>by cases e;exact h.hg.1),h.hg,hd,h.rp.grownN a (fun b e=>by cases e;have:=h.hg.2.1;omega),ykf IsP.stb h.vp a (aL _),h.rs.grownN a (fun b e=>by cases e;have:=h.hg.2.2;omega),ykf IsSol.stb h.vs a (aL _)⟩
theorem SPSt.prg (h:SPSt w W g z sb l G H I c0 Z J ai aj ak al q s):IsP W (C2 W) (.agg #[G,H,I]) (O7 q):=IsP.stb.old h.vp
theorem ycb {S:Nat->Prop} (h:IsSol w S (.agg #[c0,Z,J,ai,aj,ak,al]) s):c0= .int .i64 s.st/\IsR w S (.agg #[Z,J,ai]) s.val/\IsV w S aj s.X/\IsV w S ak s.D/\IsV w S al s.R:=by obtain⟨P,k,Q,l,A,a,B,b,C,c,e,d,f,g,i⟩:=h;simp only[Value.agg.injEq,Array.mk.injEq,List.cons.injEq,and_true] at e;obtain⟨rfl,rfl,rfl,rfl,rfl,rfl,rfl⟩:=e;exact⟨rfl,d,f,g,i⟩
end
section
variable {n : Nat} {w X Y : D}
theorem yng (h:A n w X) (a:n<=w.heap.size) (o:Obj):A n w (X.alloc o):=h.alloc (O a h.size) o
theorem ynh (h:A n w X):A n w X.drew:=⟨h.os,h.tape,h.output,h.size,h.block⟩
theorem zvy (h:A n w X) (b:n<=w.heap.size) (a:A X.heap.size X Y):A n w Y:=h.trans (a.mono (O b h.size))
theorem zsj {v:E} (h:A n w X) (c:n<=w.heap.size) (hg:X.grownBy Y v.ownBlock) (a:∀b,v.ownBlock=some b->n<=b):A n w Y:=h.grown hg (O c h.size) a
end
theorem bn {p:Prop} (h:p:=by(repeat(first|exact _root_.Go.RowKit.Below.refl _ _|assumption|refine yng ?_ asm _|refine ynh ?_|refine zvy ?_ asm asm|refine zsk ?_ og));(first|done|fail)):p:=h
structure SHn (n:Nat) (w:D) where
 s:D->Prop
 h:Hid (∀W:D,A n w W->s W)
def Zn (lo z:Nat):Nat->Prop:=fun b=>G0 lo z b\/z+3<=b
theorem zsk {n:Nat} {w X:D} {b o:Nat} {u:E} (h:A n w X) (a:n<=b):A n w (X.setCell ⟨b,o,none⟩ u):=h.setCell (p:=⟨b,o,none⟩) a u
section
variable {an : Type} {n bytes : Nat} {t e : TypeId} {R : D → (Nat → Prop) → E → an → Prop} {o : ag} {a : Act} {K : Act → D → Prop} {Q : Exit → Act → D → Prop} {wr w4 : D} {base : Nat} {S T : Nat → Prop} {v ev : E} {l : List an} {y : an} {te : TypeId} {cs : Array E}
theorem ykl (r:ElN Tryz.prog t e n bytes) (k:Stb R) (s x:Operand) (J:o.op= .call {callee:= .builtin .append,args:= #[s,x],argTypes:= #[t,t]})
 (L:a.eval s=v) (N:a.eval x= .slice (some ⟨w4.heap.size,0,none⟩) 1 1) (F:cs=ev.cells) (i:Hid (OwnS n e R wr base S v l)) (c:A wr.heap.size wr w4) (G:R w4 T ev y) (m:∀b,T b->Y1 S wr w4 b)
 (I:ev.cells.size=n) (w:∀u∈ev.cells,u.oneCell'=true) (H:(l.length+1)*(bytes+1)<=140737488355328) (D:base<=wr.heap.size)
 (C:∀d w',OwnS n e R w' base (Y1 S wr w4) d (l++[y])->wr.grownBy w' v.ownBlock->(d.ownBlock=v.ownBlock\/∃g,d.ownBlock=some g/\w4.heap.size<=g/\g<w'.heap.size)->w4.heap.size<=w'.heap.size->K (a.put o.dst d) w'):
 o.wp Tryz.prog a (w4.alloc (.cells cs te)) K Q:=by
 subst F
 have f:=O0 w4 (.cells ev.cells te)
 have j:=f.size
 have i:=i.out
 have E:∀b,S b->b<wr.heap.size:=fun b c=>by obtain⟨_,_,_,_,B⟩:=i;exact(B b c).1
 have M:∀b,Y1 S wr w4 b->b<w4.heap.size:=fun b h=>h.elim (fun h=>aG (E b h) c.size) fun h=>h.2
 refine zpt (h:=w4.heap.size) (te:=te) (S:=Y1 S wr w4) (base:=base) (l:=l) (y:=y) (ev:=ev) r s x J k L N ?_ ?_ ?_ I w H (O D (O c.size j)) fun d w' p q P=>C d w' p ?_ ?_ (O j q.size)
 ·exact heap_alloc_new w4 _
 ·exact OwnS.step k i (C9 c f) (fun b h=> .inl h) fun b h=>h.imp id fun h=>⟨h.1,aG h.2 j⟩
 ·exact k.to G fun b h=>⟨m b h,fun o=>f.cell (p:=⟨b,o,none⟩) (M b (m b h))⟩
 ·exact J5 (K8 (C9 c f)) q
 ·refine P.imp id fun h=>⟨_,h,j,?_⟩
  obtain⟨U,z,_⟩:=p
  exact(z.lt _ h).2
theorem zyf {l:List Rat} {q:Rat} (s x:Operand) (C:o.op= .call {callee:= .builtin .append,args:= #[s,x],argTypes:= #[30,30]})
 (E:a.eval s=v) {e:Bool} {d:Option Addr} {i f:Nat} (F:a.eval x= .slice (some ⟨w4.heap.size,0,none⟩) 1 1) (z:cs= #[.bool e,.slice h aq i0,.slice d i f]) (D:Hid (OwnS 3 37 IsR wr base S v (C0 l))) (w:A wr.heap.size wr w4) (B:Hid (IsQ w4 T (.agg #[.bool e,.slice h aq i0,.slice d i f]) q)) (t:∀b,T b->Y1 S wr w4 b)
 (G:l.length<=1000) (y:base<=wr.heap.size)
 (r:∀c w',OwnS 3 37 IsR w' base (Y1 S wr w4) c (C0 (l++[q]))->wr.grownBy w' v.ownBlock->(c.ownBlock=v.ownBlock\/∃g,c.ownBlock=some g/\w4.heap.size<=g/\g<w'.heap.size)->w4.heap.size<=w'.heap.size->K (a.put o.dst c) w'):
 o.wp Tryz.prog a (w4.alloc (.cells cs te)) K Q:=
 ykl zlc IsR.stb s x C E F (ev:= .agg #[.bool e,.slice h aq i0,.slice d i f]) (y:=E7 q) z D w B.out t rfl (by intro u j;simp[Value.cells] at j;rcases j with rfl|rfl|rfl<;>rfl) (by rw[show(C0 l).length=l.length by simp[C0]];omega) y fun c w' k m n p=>r c w' (by rw[show C0 (l++[q])=C0 l++[E7 q] by simp[C0]];exact k) m n p
theorem ykj {l:List (List Rat)} {r:List Rat} (s x:Operand) (w:o.op= .call {callee:= .builtin .append,args:= #[s,x],argTypes:= #[28,28]})
 (z:a.eval s=v) (B:a.eval x= .slice (some ⟨w4.heap.size,0,none⟩) 1 1) (q:cs= #[.slice h aq i0]) (y:Hid (OwnS 1 30 IsV wr base S v (E9 l))) (n:A wr.heap.size wr w4) (t:IsV w4 T (.slice h aq i0) (C0 r)) (m:∀b,T b->Y1 S wr w4 b)
 (C:l.length<=1000) (p:base<=wr.heap.size)
 (k:∀c w',OwnS 1 30 IsV w' base (Y1 S wr w4) c (E9 (l++[r]))->wr.grownBy w' v.ownBlock->(c.ownBlock=v.ownBlock\/∃g,c.ownBlock=some g/\w4.heap.size<=g/\g<w'.heap.size)->w4.heap.size<=w'.heap.size->K (a.put o.dst c) w'):
 o.wp Tryz.prog a (w4.alloc (.cells cs te)) K Q:=
 ykl elV IsV.stb s x w z B (ev:= .slice h aq i0) (y:=C0 r) q y n t m rfl (by intro u d;simp[Value.cells] at d;subst d;rfl) (by rw[show(E9 l).length=l.length by simp[E9]];omega) p fun c w' e f i j=>k c w' (by rw[show E9 (l++[r])=E9 l++[C0 r] by simp[E9]];exact e) f i j
end
structure SKn (r1 r2 r3:Option Nat) (w:D) where
 s:D->Prop
 h:Hid (∀W:D,Kept r1 r2 r3 w W->s W)
structure Apt (L:E) (B:Nat->Prop) (ae:E) (U:Nat->Prop):Prop where
 ab:∀b,L.ownBlock=some b->ae.ownBlock≠some b/\¬U b
 ba:∀b,ae.ownBlock=some b->¬B b
theorem Apt.symm {L ae:E} {B U:Nat->Prop} (h:Apt L B ae U):Apt ae U L B:=⟨fun b e=>⟨fun a=>(h.ab b a).1 e,h.ba b e⟩,fun b e=>(h.ab b e).2⟩
theorem Apt.nil {L:E} {B U:Nat->Prop} (h:∀b,L.ownBlock=some b->¬U b):Apt L B (.slice none 0 0) U:=⟨fun b e=>⟨fun a=>(by cases a),h b e⟩,fun b e=>(by cases e)⟩
section
variable {an aI : Type} {n m : Nat} {t u : TypeId} {R : D → (Nat → Prop) → E → an → Prop} {az : D → (Nat → Prop) → E → aI → Prop} {wr w4 W : D} {base : Nat} {B U : Nat → Prop} {L ae aE : E} {av : List an} {lb : List aI}
theorem OwnS.blk (h:OwnS n t R W base B L av):∀b,B b->b<W.heap.size:=fun b c=>by obtain⟨_,_,_,_,a⟩:=h;exact(a b c).1
theorem Apt.app (h:Apt L B ae U) (c:OwnS m u az wr base U ae lb) (n:wr.heap.size<=w4.heap.size) (j:aE.ownBlock=L.ownBlock\/∃g,aE.ownBlock=some g/\w4.heap.size<=g/\g<W.heap.size):Apt aE (Y1 B wr w4) ae U:=by
 have d:=c.own_lt;have i:=c.blk;refine⟨fun b e=> ?_,fun b e a=> ?_⟩
 ·rcases j with k|⟨g,k,o,_⟩
  ·exact h.ab b (k▸e)
  ·rw[k] at e;cases e;exact⟨fun f=>by have:=(d _ f).2;omega,fun l=>by have:=i _ l;omega⟩
 ·rcases a with a|a
  ·exact h.ba b e a
  ·have:=(d b e).2;have:=a.1;omega
theorem Apt.keep (a:Stb az) (h:Apt L B ae U) (c:OwnS m u az wr base U ae lb) (hg:wr.grownBy W L.ownBlock):OwnS m u az W base U ae lb:=c.grown a hg fun b e=>h.ab b e
theorem OwnS.next (a:Stb R) (h:OwnS n t R wr base B L av) (c:A wr.heap.size wr W):OwnS n t R W base B L av:=h.grown a (r:=none) (K8 c) fun b e=>(by cases e)
theorem zts {lo z:Nat} (h:∀b,B b->Zn lo z b) (c:z+3<=wr.heap.size):∀b,Y1 B wr w4 b->Zn lo z b:=fun b a=>a.elim (h b) fun h=> .inr (O c h.1)
theorem zmy {lo z:Nat} (h:∀b,B b->Zn lo z b) (a:i<3):¬B (z+i):=fun k=>by
 rcases h _ k with h|h
 ·have:=h.2;omega
 ·omega
theorem OwnS.low (d:Stb R) (h:OwnS n t R wr base B L av) {b:Nat} (f:¬B b) (g:b<base) (o:Nat) (x:E):OwnS n t R (wr.setCell ⟨b,o,none⟩ x) base B L av:=
 h.grown d (I0 wr b o x) fun c e=>(by cases e;exact⟨fun a=>by have:=(h.own_lt _ a).1;omega,f⟩)
end
def Still (F:Nat->Prop) (w w':D):Prop:=∀b,F b->w'.heap[b]? =w.heap[b]?
section
variable {F : Nat → Prop} {a b c : D}
theorem Still.refl:Still F a a:=fun _ _=>rfl
theorem Still.trans (h:Still F a b) (k:Still F b c):Still F a c:=fun x d=>(k x d).trans (h x d)
theorem Still.below {n:Nat} (h:Still F a b) (k:A n b c) (hF:∀x,F x->x<n):Still F a c:=h.trans fun x d=>k.block x (hF x d)
theorem Still.set (h:Still F a b) {g:Nat} (hg:¬F g) (o:Nat) (u:E):Still F a (b.setCell ⟨g,o,none⟩ u):=h.trans fun x d=>Below.heap_setCell b ⟨g,o,none⟩ u x fun e=>hg (by have c:x=g:=e;rw[<-c];exact d)
theorem Still.grown (h:Still F a b) {g:Nat} (k:b.grownBy c (some g)) (hg:¬F g) (hF:∀x,F x->x<b.heap.size):Still F a c:=h.trans fun x d=>k.block x (hF x d) fun e=>hg (by injection e with e;rw[<-e];exact d)
theorem Still.same (h:Still F a b):L2 F F a b:=fun x c=>⟨c,fun o=>World.cell?_of_block (h x c)⟩
theorem zrs {r1 r2 r3:Option Nat} (h:Kept r1 r2 r3 a b) {g o:Nat} {v:E} (hc:a.cell? ⟨g,o,none⟩=some v) (c:some g≠r1) (d:some g≠r2) (e:some g≠r3):b.cell? ⟨g,o,none⟩=some v:=
 (World.cell?_of_block (h.block g (World.block_lt_of_cell? a _ hc) c d e)).trans hc
theorem Kept.below {r1 r2 r3:Option Nat} (h:Kept r1 r2 r3 a b) (k:A b.heap.size b c):Kept r1 r2 r3 a c:=h.step (K8 (row:=none) k) (.inl rfl)
end
def zmk (q:ProgQ) (f:Rat) (i:Nat):List Rat:=L5 q.C.length fun j=>f*(q.A.getD i []).getD (q.C.length-1-j) 0
def znz (q:ProgQ) (F:List Rat):List (List Rat):=(List.range F.length).map fun i=>zmk q (F.getD i 0) i
def zny (q:ProgQ) (F:List Rat):List Rat:=(List.range F.length).map fun i=>F.getD i 0*q.B.getD i 0
theorem zzw {F:List Rat} (h:i<F.length):(F++[f]).getD i 0=F.getD i 0:=by rw[ah,ah,List.getElem?_append_left h]
theorem zzx (F:List Rat) (f:Rat):(F++[f]).getD F.length 0=f:=by rw[ah,List.getElem?_append_right (Nat.le_refl _),Nat.sub_self];rfl
theorem yyn (q:ProgQ) (F:List Rat) (f:Rat):znz q (F++[f])=znz q F++[zmk q f F.length]:=by unfold znz;rw[aJ,List.length_singleton,List.range_succ,List.map_append,List.map_singleton,zzx];refine congrArg (·++_) (List.map_congr_left fun i a=> ?_);rw[zzw (List.mem_range.1 a)]
theorem yyd (q:ProgQ) (F:List Rat) (f:Rat):zny q (F++[f])=zny q F++[f*q.B.getD F.length 0]:=by unfold zny;rw[aJ,List.length_singleton,List.range_succ,List.map_append,List.map_singleton,zzx];refine congrArg (·++_) (List.map_congr_left fun i a=> ?_);rw[zzw (List.mem_range.1 a)]
theorem yjg (q:ProgQ) (F:List Rat):(znz q F).length=F.length:=by unfold znz;simp
theorem yyc (q:ProgQ) (F:List Rat):(zny q F).length=F.length:=by unfold zny;simp
theorem yyj {q:ProgQ} {j:Nat} (h:j<q.C.length):(zmk q f i).take (j+1)=(zmk q f i).take j++[f*(q.A.getD i []).getD (q.C.length-1-j) 0]:=znm (by unfold zmk;exact zse h)
theorem ybu (q:ProgQ) (f:Rat) (i:Nat):(zmk q f i).length=q.C.length:=zkn _ _
structure SD (w W:D) (g lo z:Nat) (l:List Int) (G H I d0 d1 d2 aa ac ad:E) (q:ProgQ):Prop where
 bel:A w.heap.size w W
 ord:w.heap.size<=g/\g<lo/\lo<=z/\z+3<=W.heap.size
 d:IsD W g l
 rp:Row W z 32 [G,H,I]
 vp:IsP W (G0 lo z) (.agg #[G,H,I]) (O7 q)
 rd:Row W (z+1) 32 [d0,d1,d2]
 ro:Row W (z+2) 32 [aa,ac,ad]
section
variable {w W V : D} {g lo z : Nat} {l : List Int} {G H I d0 d1 d2 aa ac ad : E} {q : ProgQ}
theorem SD.far (h:SD w W g lo z l G H I d0 d1 d2 aa ac ad q) (a:A (z+3) W V):SD w V g lo z l G H I d0 d1 d2 aa ac ad q:=by have o:=h.ord;exact⟨h.bel.trans (a.mono og),⟨o.1,o.2.1,o.2.2.1,O o.2.2.2 a.size⟩,h.d.next a og,h.rp.below a og,IsP.stb.to h.vp fun b k=>⟨k,fun c=>a.cell (p:=⟨b,c,none⟩) (by have:=k.2;show b<_;omega)⟩,h.rd.below a og,h.ro.below a og⟩
theorem SD.next (h:SD w W g lo z l G H I d0 d1 d2 aa ac ad q) (a:A W.heap.size W V):SD w V g lo z l G H I d0 d1 d2 aa ac ad q:=h.far (a.mono h.ord.2.2.2)
theorem SD.draw (h:SD w W g lo z l G H I d0 d1 d2 aa ac ad q) (a:W.grownBy V (some g)) (hd:IsD V g l):SD w V g lo z l G H I d0 d1 d2 aa ac ad q:=by have o:=h.ord;exact⟨h.bel.grown a h.bel.size (fun b e=>by cases e;exact o.1),⟨o.1,o.2.1,o.2.2.1,O o.2.2.2 a.size⟩,hd,h.rp.grownN a (fun b e=>by cases e;omega),IsP.stb.to h.vp (zll a fun b k=>⟨by have:=k.2;omega,fun e=>by cases e;have:=k.1;omega⟩),h.rd.grownN a (fun b e=>by cases e;omega),h.ro.grownN a (fun b e=>by cases e;omega)⟩
theorem SD.setD (h:SD w W g lo z l G H I d0 d1 d2 aa ac ad q) (i:Nat) (x:E) (c:[d0,d1,d2].set i x=[aA,ao,au]):SD w (W.setCell ⟨z+1,i,none⟩ x) g lo z l G H I aA ao au aa ac ad q:=by have o:=h.ord;have a:=I0 W (z+1) i x;exact⟨h.bel.grown a h.bel.size (fun b e=>by cases e;omega),⟨o.1,o.2.1,o.2.2.1,O o.2.2.2 a.size⟩,h.d.grownN a (fun b e=>by cases e;omega),h.rp.grownN a (fun b e=>by cases e;omega),IsP.stb.to h.vp (zll a fun b k=>⟨by have:=k.2;omega,fun e=>by cases e;have:=k.2;omega⟩),by rw[<-c];exact h.rd.set_ i x,h.ro.grownN a (fun b e=>by cases e;omega)⟩
theorem SD.setO (h:SD w W g lo z l G H I d0 d1 d2 aa ac ad q) (i:Nat) (x:E) (c:[aa,ac,ad].set i x=[aA,ao,au]):SD w (W.setCell ⟨z+2,i,none⟩ x) g lo z l G H I d0 d1 d2 aA ao au q:=by have o:=h.ord;have a:=I0 W (z+2) i x;exact⟨h.bel.grown a h.bel.size (fun b e=>by cases e;omega),⟨o.1,o.2.1,o.2.2.1,O o.2.2.2 a.size⟩,h.d.grownN a (fun b e=>by cases e;omega),h.rp.grownN a (fun b e=>by cases e;omega),IsP.stb.to h.vp (zll a fun b k=>⟨by have:=k.2;omega,fun e=>by cases e;have:=k.2;omega⟩),h.rd.grownN a (fun b e=>by cases e;omega),by rw[<-c];exact h.ro.set_ i x⟩
theorem SD.prg (h:SD w W g lo z l G H I d0 d1 d2 aa ac ad q):IsP W (C2 W) (.agg #[G,H,I]) (O7 q):=IsP.stb.to h.vp (F6 fun b k=>by have:=k.2;have:=h.ord;show b<_;omega)
end
theorem zth {w:D} {S:Nat->Prop} {G H I:E} {p:Prog} (h:IsP w S (.agg #[G,H,I]) p):IsM w S G p.A/\IsV w S H p.B/\IsV w S I p.C:=by obtain⟨A,a,B,b,C,c,e,d,f,g⟩:=h;simp only[Value.agg.injEq,Array.mk.injEq,List.cons.injEq,and_true] at e;obtain⟨rfl,rfl,rfl⟩:=e;exact⟨d,f,g⟩
theorem OwnS.vec {W:D} {base lo z:Nat} {S:Nat->Prop} {v:E} {l:List Rat} (h:OwnS 3 37 IsR W base S v (C0 l)) (e:∀b,S b->Zn lo z b) (d:z+3<=base):IsV W (fun b=>Zn lo z b/\b<W.heap.size) v (C0 l):=
 h.isS IsR.stb (fun b k=>⟨e b k,h.blk b k⟩) fun b a c=>⟨.inr (O d a),c⟩
theorem OwnS.mat {W:D} {base lo z:Nat} {S:Nat->Prop} {v:E} {l:List (List Rat)} (h:OwnS 1 30 IsV W base S v (E9 l)) (e:∀b,S b->Zn lo z b) (d:z+3<=base):IsM W (fun b=>Zn lo z b/\b<W.heap.size) v (E9 l):=
 h.isS IsV.stb (fun b k=>⟨e b k,h.blk b k⟩) fun b a c=>⟨.inr (O d a),c⟩
abbrev zlp (p:ProgQ) (x:List Rat):Prop:=Feas p.A p.B p.C.length x
def zub (p:ProgQ) (st:Int) (v:Rat):Prop:=
 (st=1/\(∃x,zlp p x/\L3 p.C x=v)/\∀x,zlp p x->L3 p.C x<=v)\/
 (st=2/\v=0/\∀x,¬zlp p x)\/
 (st=3/\v=0/\(∃x,zlp p x)/\∀x,zlp p x->∃y,zlp p y/\L3 p.C x<L3 p.C y)
theorem ycz {p:ProgQ} {k:Nat} {s:Sol} (b:Good p 1024) (h:zlb p k s):∃v,s.val=E7 v/\zub p s.st v:=by
 rcases h with⟨X,Y,v,rfl,c,_⟩|⟨Y,rfl,c,_⟩|⟨X,d,rfl,c,_⟩
 ·exact⟨v,rfl,.inl ⟨rfl,⟨X,c.x,c.vx⟩,fun x a=>c.best b.rows b.cols a⟩⟩
 ·exact⟨0,rfl,.inr (.inl ⟨rfl,rfl,fun x a=>c.no b.rows b.cols a⟩)⟩
 ·exact⟨0,rfl,.inr (.inr ⟨rfl,rfl,⟨X,c.x⟩,fun x a=>⟨_,c.z.along a b.cols (t:=1) (by decide),c.grows a.len (by decide)⟩⟩)⟩
theorem yyy {p q:ProgQ} {s t:Int} {v u:Rat} (C:zub p s v) (D:zub q t u) (f g:List Rat->List Rat) (h:∀x,zlp p x->zlp q (f x)/\L3 q.C (f x)=L3 p.C x) (i:∀x,zlp q x->zlp p (g x)/\L3 p.C (g x)=L3 q.C x):s=t/\v=u:=by
 rcases C with⟨rfl,⟨x,d,n⟩,l⟩|⟨rfl,rfl,r⟩|⟨rfl,rfl,⟨x,d⟩,A⟩<;>rcases D with⟨rfl,⟨y,e,o⟩,m⟩|⟨rfl,rfl,w⟩|⟨rfl,rfl,⟨y,e⟩,B⟩
 ·obtain⟨a,b⟩:=h x d;obtain⟨c,b2⟩:=i y e;have Z:=m _ a;have J:=l _ c;rw[b,n] at Z;rw[b2,o] at J;exact⟨rfl,Rat.le_antisymm Z J⟩
 ·exact absurd (h x d).1 (w _)
 ·obtain⟨a,b⟩:=h x d;obtain⟨z,k,j⟩:=B _ a;obtain⟨c,b2⟩:=i z k;have J:=l _ c;rw[b,n] at j;rw[b2] at J;exact absurd j (Rat.not_lt.2 J)
 ·exact absurd (i y e).1 (r _)
 ·exact⟨rfl,rfl⟩
 ·exact absurd (i y e).1 (r _)
 ·obtain⟨c,b2⟩:=i y e;obtain⟨z,k,j⟩:=A _ c;obtain⟨a,b⟩:=h z k;have J:=m _ a;rw[b2,o] at j;rw[b] at J;exact absurd j (Rat.not_lt.2 J)
 ·exact absurd (h x d).1 (w _)
 ·exact⟨rfl,rfl⟩
theorem ykq (n:Nat) (f:Nat->Rat):(C3 n fun j=>f (n-1-j))=C3 n f:=by
 induction n with
 |zero=>rfl
 |succ n ih=>rw[yko,show(C3 n fun i=>f (n+1-1-(i+1)))=C3 n fun j=>f (n-1-j) from N0 fun j _=>by rw[show n+1-1-(j+1)=n-1-j by omega],ih];show f (n+1-1-0)+C3 n f=C3 n f+f n;rw[show n+1-1-0=n by omega];exact Rat.add_comm _ _
def V5 (n:Nat) (x:List Rat):List Rat:=L5 n fun j=>x.getD (n-1-j) 0
def U2 (p:ProgQ) (F:List Rat):ProgQ:=
 ⟨(List.range p.B.length).map fun i=>L5 p.C.length fun j=>F.getD i 0*(p.A.getD i []).getD (p.C.length-1-j) 0,L5 p.B.length fun i=>F.getD i 0*p.B.getD i 0,V5 p.C.length p.C⟩
section
variable {p : ProgQ} {F : List Rat}
theorem zxn:(U2 p F).B.length=p.B.length:=zkn _ _
theorem ztf:(U2 p F).C.length=p.C.length:=zkn _ _
theorem yjb {n:Nat} {x:List Rat} (h:∀q∈x,0<=q):∀q∈V5 n x,0<=q:=fun q a=>by
 obtain⟨j,_,rfl⟩:=zpw a
 exact zum h _
theorem yeu {n:Nat} {a x:List Rat} (ha:a.length=n) (c:x.length=n):L3 (V5 n a) (V5 n x)=L3 a x:=by unfold V5;rw[zsp (zkn _ _),zrm ha c,<-ykq n fun k=>a.getD k 0*x.getD k 0];exact N0 fun j b=>by rw[zsf b]
theorem yet {x:List Rat} (a:Good p 1024) (hr:p.A[i]? =some r) (c:x.length=p.C.length):L3 (L5 p.C.length fun j=>F.getD i 0*(p.A.getD i []).getD (p.C.length-1-j) 0) (V5 p.C.length x)=F.getD i 0*L3 r x:=by unfold V5;rw[zsp (zkn _ _),zrm (a.cols r (ay hr)) c,<-ykq p.C.length fun k=>r.getD k 0*x.getD k 0,<-znk];exact N0 fun j b=>by rw[zsf b,zzv hr,Rat.mul_assoc]
theorem yvq (h:(U2 p F).A[i]? =some r):i<p.B.length/\r=L5 p.C.length fun j=>F.getD i 0*(p.A.getD i []).getD (p.C.length-1-j) 0:=by have a:i<p.B.length:=(by have:=(List.getElem?_eq_some_iff.1 h).1;unfold U2 at this;simpa using this);unfold U2 at h;simp only[ar,List.getElem?_range a,aC,Option.some.injEq] at h;exact⟨a,h.symm⟩
theorem yjc {n:Nat} {x:List Rat} (h:x.length=n):V5 n (V5 n x)=x:=by
 refine List.ext_getElem? fun j=> ?_;rcases aH j n with a|a
 ·unfold V5;rw[zse a,zsf og,show n-1-(n-1-j)=j by omega,ah,aD og];rfl
 ·rw[List.getElem?_eq_none (by unfold V5;rw[zkn];exact a),List.getElem?_eq_none og]
theorem yqq (b:Good p 1024) (hF:∀i,i<p.B.length->0<F.getD i 0) {x:List Rat} (h:zlp p x):zlp (U2 p F) (V5 p.C.length x) where
 len:=by rw[ztf];exact zkn _ _
 nn:=yjb h.nn
 le i r hr:=by obtain⟨a,rfl⟩:=yvq hr;have ha:p.A[i]? =some (p.A.getD i []):=(by rw[ah,aD (by rw[b.rows];exact a)];rfl);rw[yet b ha h.len];show _<=(L5 p.B.length fun i=>F.getD i 0*p.B.getD i 0).getD i 0;rw[zsf a];exact Rat.mul_le_mul_of_nonneg_left (h.le i _ ha) (Rat.le_of_lt (hF i a))
theorem yqp (c:Good p 1024) (hF:∀i,i<p.B.length->0<F.getD i 0) {x:List Rat} (h:zlp (U2 p F) x):zlp p (V5 p.C.length x) where
 len:=zkn _ _
 nn:=yjb h.nn
 le i r hr:=by have f:x.length=p.C.length:=(by rw[h.len,ztf]);have a:i<p.B.length:=(by rw[<-c.rows];exact(List.getElem?_eq_some_iff.1 hr).1);have g:(U2 p F).A[i]? =some (L5 p.C.length fun j=>F.getD i 0*(p.A.getD i []).getD (p.C.length-1-j) 0):=(by unfold U2;simp only[ar,List.getElem?_range a,aC]);have b:=h.le i _ g;rw[<-yjc f,yet (F:=F) (x:=V5 p.C.length x) c hr (zkn _ _)] at b;have e:(U2 p F).B.getD i 0=F.getD i 0*p.B.getD i 0:=zsf a;rw[e] at b;have d:=hF i a;refine Rat.not_lt.1 fun k=> ?_;have l:=Rat.mul_pos d (show 0<L3 r (V5 p.C.length x)-p.B.getD i 0 by grind);grind
theorem yvr (b:Good p 1024) (hF:∀i,i<p.B.length->0<F.getD i 0) {s t:Int} {v u:Rat} (c:zub p s v) (d:zub (U2 p F) t u):s=t/\v=u:=
 yyy c d (V5 p.C.length) (V5 p.C.length) (fun x a=>⟨yqq b hF a,yeu rfl a.len⟩) fun x a=>⟨yqp b hF a,by
  have e:x.length=p.C.length:=by rw[a.len,ztf]
  have:=yeu (n:=p.C.length) (a:=p.C) (x:=V5 p.C.length x) rfl (zkn _ _)
  rw[yjc e] at this
  exact this.symm⟩
theorem yee {k:Nat} {Y:List Rat} (h:p.A.length=Y.length):L3 (Y2 p.A k) Y=zpg p.A Y k:=by rw[zso _ _ (by unfold Y2;rw[aK];exact h)];unfold zpg Y2;rw[aK];refine N0 fun i a=> ?_;rw[ah,ar,aD a,ah (l:=p.A),aD a];rfl
theorem yup (l:List Rat) (k:Nat):(M0 l).getD k 0= -(l.getD k 0):=by
 rw[ah,ah];unfold M0;rw[ar];cases l[k]? with
 |none=>rfl
 |some x=>rfl
theorem zuu (e:Good p 1024) {Y:List Rat}:zlp (J0 p) Y↔Mult p.A p.B p.C.length (fun k=>p.C.getD k 0) Y:=by
 have b:(J0 p).C.length=p.B.length:=znv _;have row:∀k,k<p.C.length->(J0 p).A[k]? =some (M0 (Y2 p.A k)):=fun k a=>(by unfold J0;simp only[ar,List.getElem?_range a,aC]);have c:∀k,(J0 p).B.getD k 0= -(p.C.getD k 0):=fun k=>yup _ _;refine⟨fun h=>⟨h.len.trans b,h.nn,fun k a=> ?_⟩,fun h=>⟨h.len.trans b.symm,h.nn,fun k r hr=> ?_⟩⟩
 ·have d:=h.le k _ (row k a);rw[zwl,c,yee (e.rows.trans (h.len.trans b).symm)] at d;have:=Rat.neg_le_neg d;rwa[Rat.neg_neg,Rat.neg_neg] at this
 ·have a:k<p.C.length:=(by have:=(List.getElem?_eq_some_iff.1 hr).1;unfold J0 at this;simpa using this);rw[row k a] at hr;cases hr;rw[zwl,c,yee (e.rows.trans h.len.symm)];exact Rat.neg_le_neg (h.ge k a)
theorem yfc (a:Good p 1024) {X:List Rat}:zlp p X↔Mult (J0 p).A (J0 p).B (J0 p).C.length (fun k=>(J0 p).C.getD k 0) X:=by have h:=zuu (zro a) (Y:=X);rw[ypw a] at h;exact h
theorem ypo (n:Nat) (Y:List Rat) (h:Y.length=n):L3 (List.replicate n 0) Y=0:=by rw[zso _ _ (by rw[List.length_replicate,h]),List.length_replicate];refine zkl fun i a=> ?_;rw[ah,List.getElem?_replicate,if_pos a];show(0:Rat)*_=0;grind
theorem ybr (d:Good p 1024) {X b Y:List Rat} (h:CertRay p.A p.B p.C X b) (a:Mult p.A p.B p.C.length (fun k=>p.C.getD k 0) Y):False:=by have e:Feas p.A (List.replicate p.B.length 0) p.C.length b:=⟨h.z.len,h.z.nn,fun i r hr=>by rw[ah,List.getElem?_replicate];have:=h.z.le r (ay hr);split<;>exact this⟩;have c:=zyo e (f:=fun k=>p.C.getD k 0) (Y:=Y) ⟨by rw[List.length_replicate];exact a.len,a.nn,a.ge⟩ (by rw[List.length_replicate];exact d.rows) d.cols;rw[ypo _ _ a.len,<-zrm rfl h.z.len] at c;exact absurd h.up (Rat.not_lt.2 c)
section
variable {k j : Nat} {a b : Sol}
theorem ypu (d:Good p 1024) (ha:zlb p k a) (q:zlb (J0 p) j b) (h:a.st=1):∃v,b.st=1/\a.val=E7 v/\Sz v k/\b.val=E7 (-v):=by
 rcases ha with⟨X,Y,v,rfl,c,r,_⟩|⟨Y,rfl,_⟩|⟨X,s,rfl,_⟩
 ·have g:=(zuu d).2 c.y;rcases q with⟨f,l,i,rfl,e,_⟩|⟨l,rfl,e,_⟩|⟨f,t,rfl,e,_⟩
  ·refine⟨v,rfl,rfl,r,?_⟩;have n:=e.best (zro d).rows (zro d).cols g;have ao:L3 (J0 p).C Y= -v:=(by rw[<-c.vy];exact zwl _ _);have o:=zyo c.x ((zuu d).1 e.x) d.rows d.cols;rw[<-zrm rfl c.x.len,c.vx] at o;have au:i= -(L3 p.B f):=(by rw[<-e.vx];exact zwl _ _);have m:i= -v:=(by rw[ao] at n;grind);rw[m]
  ·exact absurd g fun h=>e.no (zro d).rows (zro d).cols h
  ·exact(ybr (zro d) e ((yfc d).1 c.x)).elim
 ·exact absurd h (by show¬(2:Int)=1;decide)
 ·exact absurd h (by show¬(3:Int)=1;decide)
theorem ypv (e:Good p 1024) (ha:zlb p k a) (i:zlb (J0 p) j b) (h:a.st=3):b.st=2:=by
 rcases ha with⟨X,Y,v,rfl,_⟩|⟨Y,rfl,_⟩|⟨X,l,rfl,c,_⟩
 ·exact absurd h (by show¬(1:Int)=3;decide)
 ·exact absurd h (by show¬(2:Int)=3;decide)
 ·rcases i with⟨f,g,n,rfl,d,_⟩|⟨g,rfl,d,_⟩|⟨f,m,rfl,d,_⟩
  ·exact(ybr e c ((zuu e).1 d.x)).elim
  ·rfl
  ·exact(ybr e c ((zuu e).1 d.x)).elim
theorem ypt (e:Good p 1024) (ha:zlb p k a) (i:zlb (J0 p) j b) (h:a.st=2):b.st=2\/b.st=3:=by
 rcases ha with⟨X,Y,v,rfl,_⟩|⟨Y,rfl,c,_⟩|⟨X,l,rfl,_⟩
 ·exact absurd h (by show¬(1:Int)=2;decide)
 ·rcases i with⟨f,g,n,rfl,d,_⟩|⟨g,rfl,d,_⟩|⟨f,m,rfl,d,_⟩
  ·exact(c.no e.rows e.cols ((yfc e).2 d.y)).elim
  ·exact .inl rfl
  ·exact .inr rfl
 ·exact absurd h (by show¬(3:Int)=2;decide)
end
theorem yhj (a:Int) (b:Nat):(mkRat a b).den∣b\/b=0:=by
 rcases Nat.eq_zero_or_pos b with h|h
 ·exact .inr h
 ·refine .inl ?_;rw[Rat.den_mkRat,if_neg og];exact Nat.div_dvd_of_dvd (Nat.gcd_dvd_left _ _)
theorem yhi (a:Int) (b:Nat):(mkRat a b).num.natAbs<=a.natAbs:=by
 rw[Rat.num_mkRat];split
 ·simp
 ·exact Int.natAbs_ediv_le_natAbs _ _
theorem yff {q:Rat} {a b c d:Nat} (e:f.den∣a/\f.num.natAbs<=b) (g:q.den∣c/\q.num.natAbs<=d):(f*q).den∣a*c/\(f*q).num.natAbs<=b*d:=by
 rw[Rat.mul_def'];refine⟨?_,O (yhi _ _) ?_⟩
 ·rcases yhj (f.num*q.num) (f.den*q.den) with h|h
  ·exact Nat.dvd_trans h (Nat.mul_dvd_mul e.1 g.1)
  ·exact absurd h (Nat.mul_ne_zero f.den_nz q.den_nz)
 ·rw[Int.natAbs_mul];exact Nat.mul_le_mul e.2 g.2
theorem zyi {q:Rat} (h:q.den∣N/\q.num.natAbs<=M) (a:0<N) (f:N<=1000000) (e:M<=1000000):Sz q 1:=by have b:pw 1=1000000000:=rfl;have c:=Nat.le_of_dvd a h.1;have d:=h.2;exact⟨lim_len_le.2 og,lim_len_le.2 og⟩
theorem yqu:(0:Rat).den∣N/\(0:Rat).num.natAbs<=M:=⟨Nat.one_dvd N,aM M⟩
theorem zwo {l:List Rat} (h:∀q∈l,q.den∣N/\q.num.natAbs<=M) (k:Nat):(l.getD k 0).den∣N/\(l.getD k 0).num.natAbs<=M:=by
 rw[ah];cases e:l[k]? with
 |none=>exact yqu
 |some x=>exact h x (ay e)
def ztz (f:Rat):Prop:=0<f/\f.den∣6/\f.num.natAbs<=5
theorem yqs (h:FineP p N M):FineP (J0 p) N M where
 good:=zro h.good
 n0:=h.n0
 m0:=h.m0
 fA r hr q hq:=by
  obtain⟨k,_,rfl⟩:=List.mem_map.1 hr
  obtain⟨x,a,rfl⟩:=List.mem_map.1 hq
  obtain⟨row,b,rfl⟩:=List.mem_map.1 a
  rw[Rat.neg_num,Rat.neg_den,Int.natAbs_neg]
  exact zwo (h.fA row b) k
 fB q hq:=(by obtain⟨x,a,rfl⟩:=List.mem_map.1 hq;rw[Rat.neg_num,Rat.neg_den,Int.natAbs_neg];exact h.fC x a);fC q hq:=by obtain⟨x,a,rfl⟩:=List.mem_map.1 hq;rw[Rat.neg_num,Rat.neg_den,Int.natAbs_neg];exact h.fB x a
theorem yfg (h:FineP p 2 8) (hF:∀i,i<p.B.length->ztz (F.getD i 0)):FineP (U2 p F) 12 40:=by
 have fA:∀row∈(U2 p F).A,∀q∈row,q.den∣12/\q.num.natAbs<=40:=fun r hr q a=>by
  obtain⟨i,b,rfl⟩:=List.mem_map.1 hr;obtain⟨j,c,rfl⟩:=zpw a;have b:=List.mem_range.1 b;refine(yff (c:=2) (d:=8) (hF i b).2 (zwo (fun q a=> ?_) _):_);rw[ah] at a;cases e:p.A[i]? with
  |none=>rw[e] at a;cases a
  |some row=>rw[e] at a;exact h.fA row (ay e) q a
 have fB:∀q∈(U2 p F).B,q.den∣12/\q.num.natAbs<=40:=fun q a=>(by obtain⟨i,b,rfl⟩:=zpw a;exact yff (c:=2) (d:=8) (hF i b).2 (zwo h.fB i));have fC:∀q∈(U2 p F).C,q.den∣12/\q.num.natAbs<=40:=fun q a=>(by obtain⟨i,b,rfl⟩:=zpw a;have:=zwo h.fC (p.C.length-1-i);exact⟨Nat.dvd_trans this.1 (by decide),O this.2 (by decide)⟩);refine⟨⟨by unfold U2;simp[zkn],fun r hr=> ?_,fun r hr q a=> ?_,fun q a=> ?_,fun q a=> ?_,by rw[zxn];exact h.good.nB,by rw[ztf];exact h.good.nC⟩,by decide,by decide,fA,fB,fC⟩
 ·obtain⟨i,_,rfl⟩:=List.mem_map.1 hr;rw[zkn,ztf]
 ·exact(zyi (fA r hr q a) (by decide) (by decide) (by decide)).le (by decide)
 ·exact(zyi (fB q a) (by decide) (by decide) (by decide)).le (by decide)
 ·exact(zyi (fC q a) (by decide) (by decide) (by decide)).le (by decide)
theorem yfb {m:Nat} (b:m<=4):(A9 (K0 (40*12) (m+1)*12)).length<=3/\(A9 (K0 (40*12) (m+1))).length<=100000:=by
 have c:pw 3=1000000000000000000000000000:=rfl
 have key:K0 (40*12) (m+1)<=3057647616000000:=by
  match m,b with
  |0,_=>decide
  |1,_=>decide
  |2,_=>decide
  |3,_=>decide
  |4,_=>decide
 have a:(A9 (K0 (40*12) (m+1))).length<=3:=lim_len_le.2 og;exact⟨lim_len_le.2 og,by omega⟩
end
section
variable {P : Program} {ops : Array ag} {Q : Exit → Act → D → Prop} {md : Region.Mode} {tl : List Nat} {S C : D → Prop}
def Early (tl:List Nat) (listed:Array Bool):Prop:=∀t∈tl,listed.getD t false=false
theorem Early.less {listed:Array Bool} (h:Early tl (listed.setIfInBounds i true)):Early tl listed:=fun t b=>by
 have a:=h t b
 cases e:listed.getD t false with
 |false=>rfl
 |true=>rw[getD_set_true e] at a;cases a
theorem Early.more {listed:Array Bool} (h:Early tl listed) (b:i∉tl):Early tl (listed.setIfInBounds i true):=fun t a=>by
 rw[_root_.Go.getD_set_ne false (fun e=>b (by rw[e];exact a))]
 exact h t a
def zla (P:Program) (md:Region.Mode) (ops:Array ag) (Q:Exit->Act->D->Prop) (tl:List Nat) (S C:D->Prop):Nat->Array Bool->Act->D->Prop
 |0,listed,a,w=>Region.ready md ops listed=[]/\Q .normal a w
 |x+1,listed,a,w=>
  (Region.ready md ops listed=[]->Q .normal a w)/\
  ∀i∈Region.ready md ops listed,wpOp P ops Q i (fun b w'=>(S w'/\(Early tl (listed.setIfInBounds i true)->C w'))/\zla P md ops Q tl S C x (listed.setIfInBounds i true) b w') a w
theorem yll:∀(x:Nat) (listed:Array Bool) (a:Act) (w:D),zla P md ops Q tl S C x listed a w->wpAny P md ops Q x listed a w
 |0,_,_,_,h=>h
 |x+1,_,_,_,h=>⟨h.1,fun i d=>wpOp_mono (fun b w' c=>yll x _ b w' c.2) (h.2 i d)⟩
theorem yxq {listed:Array Bool} {d:ag} (hr:i∈Region.ready md ops listed) (f:∀e∈d.after,Region.binds md e=true->listed.getD e.on false=true):∀e∈d.after,Region.binds md e=true->e.on≠i:=fun e h g heq=>by
 have a:=f e h g
 have c:=(mem_ready.1 hr).1
 rw[heq] at a
 rcases aH i listed.size with b|b
 ·simp[b] at c a;rw[c] at a;cases a
 ·simp[Array.getElem?_eq_none b] at a
theorem ylk {T:D->Prop} {d:ag} {v:E} (z:ops[i]? =some d) (J:∀(j:Nat) (o:ag) cs b,ops[j]? =some o->o.op≠.select cs b)
 (U:∀c a w,Q (.panic c) (a.put d.dst v) w->Q (.panic c) a w) (ac:i∉tl)
 (V:∀(r:Array Bool) (w:D) (j:Nat) (f:ag),ops[j]? =some f->(∀e∈f.after,Region.binds md e=true->e.on≠i)->(Early tl r\/∀w,S w->T w)->S w->(Early tl (r.setIfInBounds j true)->C w)->T w/\(Early tl (r.setIfInBounds j true)\/∀w,S w->T w)):
 ∀(x:Nat) (listed:Array Bool) (a:Act) (w:D),
  (∀j f,ops[j]? =some f->j≠i->listed.getD j true=false->(∀e∈f.after,Region.binds md e=true->e.on≠i)->d.apart ops f=true)->
  i∈Region.ready md ops listed->YieldsIf P ops T d v a->T w->S w->(Early tl listed->C w)->(Early tl listed\/∀w,S w->T w)->
  zla P md ops Q tl S C x (listed.setIfInBounds i true) (a.put d.dst v) w->zla P md ops Q tl S C (x+1) listed a w:=by
 intro x;induction x with
 |zero=>
  intro listed a w _ hr q y u s B m;refine⟨fun h=>(by rw[h] at hr;cases hr),fun j n=> ?_⟩;by_cases g:j=i
  ·subst g;exact q.wpOp z y ⟨⟨u,fun h=>s h.less⟩,m⟩
  ·have:=ready_mono n g;rw[m.1] at this;cases this
 |succ x ih=>
  intro listed a w F hr q y u s B m;refine⟨fun h=>(by rw[h] at hr;cases hr),fun j n=> ?_⟩;by_cases g:j=i
  ·subst g;exact q.wpOp z y ⟨⟨u,fun h=>s h.less⟩,m⟩
  ·have N:=m.2 j (ready_mono n g);obtain⟨H,f,p,W⟩:=mem_ready.1 n;have I:=yxq hr W;have R:=wpOp_putIf p (F j f p g H I) (fun cs b=>J i d cs b z) (fun cs b=>J j f cs b p) U q N
   have X:∀k ok,ops[k]? =some ok->k≠i->(listed.setIfInBounds j true).getD k true=false->
    (∀e∈ok.after,Region.binds md e=true->e.on≠i)->d.apart ops ok=true:=fun k ok Y Z L aa=>by
    refine F k ok Y Z ?_ aa
    by_cases G:j=k
    ·subst G;exact H
    ·rw[_root_.Go.getD_set_ne true G] at L;exact L
   refine wpOp_mono (fun M w' l=> ?_) R;have t:Early tl (listed.setIfInBounds j true)->C w':=fun h=>l.2.1.2 (by rw[Array.setIfInBounds_comm _ _ (Ne.symm g)];exact h.more ac);have K:=V listed w' j f p I B l.2.1.1 t;refine⟨⟨l.2.1.1,t⟩,ih (listed.setIfInBounds j true) M w' X (ready_mono hr (Ne.symm g)) l.1 K.1 l.2.1.1 t K.2 ?_⟩;rw[Array.setIfInBounds_comm _ _ g];exact l.2.2
def Region.waits (md:Region.Mode) (ops:Array ag) (tl:List Nat) (i:Nat):Bool:=tl.all fun t=>((ops[t]?).map fun o=>o.after.any fun e=>Region.binds md e&&e.on==i).getD false
def Region.none (tl:List Nat) (listed:Array Bool):Bool:=tl.all fun t=> !listed.getD t false
theorem yvd {listed:Array Bool} (h:Region.none tl listed=true):Early tl listed:=fun t a=>by
 have:=List.all_eq_true.1 h t a
 simpa using this
theorem zz1353 {d:ag} {v:E} {x:Nat} {listed:Array Bool} {a:Act} {w:D} (dst:Option Tmp) (m:ops[i]? =some d) (hd:d.dst=dst) (u:Region.noSelect ops=true) (hf:Region.free md ops listed i=true)
 (hr:(Region.ready md ops listed).contains i=true) (A:Region.wanted d (yielded ops a.tmps)=true) (n:∀c a w,Q (.panic c) (a.put dst v) w->Q (.panic c) a w)
 (z:tl.contains i=false) (B:Region.waits md ops tl i=true) (r:Region.none tl listed=true)
 (F:∀w,S w->C w->(execOp a.eval d).run P w= .ok (.value v) w) (e:S w) (f:C w)
 (h:zla P md ops Q tl S C x (listed.setIfInBounds i true) (a.put dst v) w):zla P md ops Q tl S C (x+1) listed a w:=by
 subst hd;have y:i∉tl:=(by simpa using z);refine ylk (T:=fun w=>S w/\C w) m (Region.noSelect_spec u) n y (fun G w j H t s b e f=> ?_) x listed a w (Region.free_spec m hf) (by simpa using hr) (.inl ⟨A,fun w h=>F w h.1 h.2⟩) ⟨e,f⟩ e (fun _=>f) (.inl (yvd r)) h;have l:j∉tl:=fun l=>(by have g:=List.all_eq_true.1 B j l;rw[t] at g;simp only[aC,Option.getD_some,Array.any_eq_true,Bool.and_eq_true,beq_iff_eq] at g;obtain⟨k,q,o,p⟩:=g;exact s _ (Array.getElem_mem q) o p);rcases b with b|b
 ·have:=b.more l;exact⟨⟨e,f this⟩,.inl this⟩
 ·exact⟨b w e,.inr b⟩
theorem zz1354 {d:ag} {v:E} {x:Nat} {listed:Array Bool} {a:Act} {w:D} (dst:Option Tmp) (f:ops[i]? =some d) (hd:d.dst=dst) (k:Region.noSelect ops=true) (hf:Region.free md ops listed i=true)
 (hr:(Region.ready md ops listed).contains i=true) (o:Region.wanted d (yielded ops a.tmps)=true) (g:∀c a w,Q (.panic c) (a.put dst v) w->Q (.panic c) a w)
 (n:tl.contains i=false) (p:∀w,S w->(execOp a.eval d).run P w= .ok (.value v) w) (b:S w) (e:Region.none tl listed=true->C w)
 (h:zla P md ops Q tl S C x (listed.setIfInBounds i true) (a.put dst v) w):zla P md ops Q tl S C (x+1) listed a w:=by subst hd;have m:i∉tl:=(by simpa using n);refine ylk (T:=S) f (Region.noSelect_spec k) g m (fun q w j y u s r b e=>⟨b,.inr fun _ h=>h⟩) x listed a w (Region.free_spec f hf) (by simpa using hr) (.inl ⟨o,p⟩) b b (fun h=>e ?_) (.inr fun _ h=>h) h;exact List.all_eq_true.2 fun t l=>by rw[h t l];rfl
theorem zmg {d:ag} {x:Nat} {listed:Array Bool} {a:Act} {w:D} (hr:Region.ready md ops listed=[i]) (l:ops[i]? =some d) (m:Region.wanted d (yielded ops a.tmps)=true)
 (h:∀K:Act->D->Prop,Shut (∀a w,S w->C w->(S w->C w->zla P md ops Q tl S C x (listed.setIfInBounds i true) a w)->K a w)->Oper.wp P d a w K Q):zla P md ops Q tl S C (x+1) listed a w:=by refine⟨fun b=>(by rw[hr] at b;cases b),fun j f=> ?_⟩;rw[hr,List.mem_singleton] at f;subst f;refine wpOp_step l fun K g=> ?_;rw[if_pos m];exact h K fun a w e c k=>g a w ⟨⟨e,fun _=>c⟩,k e c⟩
theorem zte {d:ag} {x:Nat} {listed:Array Bool} {a:Act} {w:D} (hr:Region.ready md ops listed=[i]) (f:ops[i]? =some d) (p:Region.wanted d (yielded ops a.tmps)=true) (o:tl.contains i=true) (n:listed.size=ops.size)
 (h:∀K:Act->D->Prop,Shut (∀a w,S w->(S w->zla P md ops Q tl S C x (listed.setIfInBounds i true) a w)->K a w)->Oper.wp P d a w K Q):zla P md ops Q tl S C (x+1) listed a w:=by refine⟨fun c=>(by rw[hr] at c;cases c),fun j b=> ?_⟩;rw[hr,List.mem_singleton] at b;subst b;refine wpOp_step f fun K k=> ?_;rw[if_pos p];refine h K fun a w e l=>k a w ⟨⟨e,fun m=> ?_⟩,l e⟩;have g:=m j (by simpa using o);have b:j<listed.size:=(by rw[n];exact(Array.getElem?_eq_some_iff.1 f).1);simp[b] at g
theorem zwk {listed:Array Bool} {a:Act} {w:D} (hr:Region.ready md ops listed=[]) (h:Q .normal a w):∀x,zla P md ops Q tl S C x listed a w
 |0=>⟨hr,h⟩
 |_+1=>⟨fun _=>h,by rw[hr];simp⟩
theorem zxw (tl:List Nat) (S C:D->Prop) {id:Nat} {a:Act} {w:D} (d:P.follows .mixedOrders=true) (c:S w.drew) (b:C w.drew)
 (h:S w.drew->C w.drew->zla P .any ops Q tl S C ops.size (Array.replicate ops.size false) a w.drew):(Code.region id ops true).wp P Q a w:=
 wp_region_any d (yll _ _ _ _ (h c b))
section
variable {d : ag} {v : E} {x : Nat} {listed : Array Bool} {a : Act} {w : D}
theorem pA (i:Nat) (s:Tmp) {q:Prop} (k:q) (l:ops[i]? =some d:=by rfl) (hd:d.dst=some s:=by rfl) (o:Region.noSelect ops=true:=by kernel_rfl) (hf:Region.free md ops listed i=true:=by kernel_rfl)
 (hr:(Region.ready md ops listed).contains i=true:=by kernel_rfl) (r:Region.wanted d (yielded ops a.tmps)=true:=by rfl) (f:∀c a w,Q (.panic c) (a.put (some s) v) w->Q (.panic c) a w:=by exact fun _ _ _ h=>h)
 (p:tl.contains i=false:=by kernel_rfl) (t:Region.waits md ops tl i=true:=by kernel_rfl) (n:Region.none tl listed=true:=by kernel_rfl)
 (u:∀w,S w->C w->(execOp a.eval d).run P w= .ok (.value v) w:=by(intro w j e;(try dsimp only at j e);go_simp;(try(with_reducible rfl)))) (g:S w:=by assumption) (b:C w:=by assumption)
 (h:q->zla P md ops Q tl S C x (listed.setIfInBounds i true) (a.put (some s) v) w:=by(intro m;simp only[Act.put,_root_.List.setIfInBounds_toArray,_root_.List.set_cons_zero,_root_.List.set_cons_succ];exact m)):zla P md ops Q tl S C (x+1) listed a w:=zz1353 (some s) l hd o hf hr r f p t n u g b (h k)
theorem pB (i:Nat) (s:Tmp) {q:Prop} (k:q) (j:ops[i]? =some d:=by rfl) (hd:d.dst=some s:=by rfl) (m:Region.noSelect ops=true:=by kernel_rfl) (hf:Region.free md ops listed i=true:=by kernel_rfl)
 (hr:(Region.ready md ops listed).contains i=true:=by kernel_rfl) (o:Region.wanted d (yielded ops a.tmps)=true:=by rfl) (e:∀c a w,Q (.panic c) (a.put (some s) v) w->Q (.panic c) a w:=by exact fun _ _ _ h=>h)
 (n:tl.contains i=false:=by kernel_rfl)
 (p:∀w,S w->(execOp a.eval d).run P w= .ok (.value v) w:=by(intro w g;(try dsimp only at g);go_simp;(try(with_reducible rfl)))) (f:S w:=by assumption) (b:Region.none tl listed=true->C w:=by first|exact fun _=>by assumption|exact fun h=>absurd h (by decide))
 (h:q->zla P md ops Q tl S C x (listed.setIfInBounds i true) (a.put (some s) v) w:=by(intro l;simp only[Act.put,_root_.List.setIfInBounds_toArray,_root_.List.set_cons_zero,_root_.List.set_cons_succ];exact l)):zla P md ops Q tl S C (x+1) listed a w:=zz1354 (some s) j hd m hf hr o e n p f b (h k)
end
end
theorem ztw {w:D} {g c:Nat} {t:TypeId} {l:List Int} (hr:Row w g t (ygd l)) (Q:l.length<=40) (F:∀x∈l,x.natAbs<=1000000):
 Calls Tryz.prog 46 #[.slice (some ⟨g,0,none⟩) l.length c] w fun e w'=>(∃v,e= .returned v/\IsV w' (G4 w.heap.size w') v (C0 (O8 l)))/\A w.heap.size w w':=by
 obtain⟨G,J⟩:=C4 hr F;obtain⟨n,p⟩:=nm (l.length);have z:=af p;rw[<-p] at Q⊢;have Y:g<w.heap.size:=hr.lt;clear hr F p;go_in;go_wp2_with fail;go_loopw [3,4] (fun v i wr=>∃(k:Nat) (S:Nat->Prop),k<=n/\i= .int .i64 (k:Int)/\A w.heap.size w wr/\OwnS 3 37 IsR wr w.heap.size S v (C0 ((O8 l).take k))/\Hid (∀b,S b->w.heap.size<=b)) (fun _ i _=>n-(intOf i).toNat);case atStart=>exact⟨0,fun _=>False,aM _,rfl,Below.refl _ _,by simpa[C0] using(OwnS.nil (fun b h=>False.elim h):OwnS 3 37 IsR w w.heap.size (fun _=>False) _ _),fun _ h=>False.elim h⟩
 case round=>
  obtain⟨k,S,Z,rfl,f,C,B⟩:=hrel;have y:=af f;have r:=af B.out;have o:=af C;have aa:=f.size;clear C B;rcases aH k n with R|X
  ·obtain⟨x,j⟩:=zmx (l:=l) (j:=k) (by rw[<-z.out];exact R);have hc:wr.cell? ⟨g,k,none⟩=some (.int .i64 x):=((G.out.next f).cell k).trans (by unfold ygd;rw[ar,j];rfl);have K:=af j;have ac:=J.out x (ay j);clear j f;go_wp2_with fail;refine(zxs (a:=x) (b:=1) og og og).mono ?_;rintro e m ⟨⟨ai,rfl,q⟩,a⟩;obtain⟨H,I⟩:=C4 a q;have s:=nB y a;have O:w.heap.size<=m.heap.size:=s.out.size;obtain⟨ah,W,ae,V,ag,rfl,_,_,_⟩:=K6 q;have T:=OwnS.step IsR.stb (T:=fun b=>S b\/(wr.heap.size<=b/\b<m.heap.size)) o.out H.out (fun b h=> .inl h) (fun b h=>h);have P:=IsQ.stb.to I.out (F6 (T:=fun b=>S b\/(wr.heap.size<=b/\b<m.heap.size)) fun b h=> .inr h);clear a q hc;go_wp2_with (at_builtin;refine zpx zlc rfl _ _ rfl IsR.stb rfl rfl rfl T P rfl (by intro u E;simp[Value.cells] at E;rcases E with rfl|rfl|rfl<;>rfl) (by have d:=List.length_take_le k (O8 l);rw[Z5];omega) O ?_;intro aj ak U N ad);go_roundw;(case rel=>refine⟨k+1,fun b=>S b\/(wr.heap.size<=b/\b<m.heap.size),by omega,by go_num,s.out.trans N,?_,fun b a=>by rcases a with a|a;exact r.out b a;omega⟩;rw[zz1380 K.out,C0,List.map_append];exact U);case measure=>simp[intOf];omega
  ·obtain rfl:k=n:=og;clear f;go_wp2_with fail;go_ret;refine⟨⟨_,rfl,?_⟩,y.out⟩;have d:=OwnS.isS IsR.stb (T:=G4 w.heap.size wr) o.out (fun b a=>⟨r.out b a,by obtain⟨_,_,_,_,M⟩:=o.out;exact(M b a).1⟩) (fun b d L=>⟨d,L⟩);rw[List.take_of_length_le (by rw[zz1379,<-z.out];exact Nat.le_refl _)] at d;exact d
theorem yez (w:D):Calls Tryz.prog 43 #[] w fun e w'=>(∃v,e= .returned v/\IsP w' (C2 w') v (O7 exQ))/\A w.heap.size w w':=by obtain⟨B,R,I,N,n⟩:=K7 w #[.slice none 0 0,.slice none 0 0,.slice none 0 0] 32;obtain⟨d,c⟩:=C4 N I;clear N I;go_in;go_wp2_with fail;clear R;refine(ztw (w:=B.alloc (.cells #[.int .i64 1,.int .i64 1] 3)) (l:=[1,1]) (heap_alloc_new B _) (by decide) (by decide)).mono ?_;rintro e C ⟨⟨L,rfl,hv⟩,f⟩;have a:=C9 (O0 B _) f;have i:=af c.out.size;have c:=nB c a;obtain⟨d,g⟩:=C4 (d.out.next a) (IsV.stb.le hv (m:=w.heap.size+1) (by have p:=c.out.size;have q:=n.out;have r:=a.size;rw[aB];have s:=i.out;omega));obtain⟨G,K,rfl,_⟩:=T4 hv;clear hv f a;go_wp2_with fail;refine(ztw (w:=C.alloc (.cells #[.int .i64 1,.int .i64 3] 3)) (l:=[1,3]) (heap_alloc_new C _) (by decide) (by decide)).mono ?_;rintro e O ⟨⟨ae,rfl,hv⟩,f⟩;have a:=C9 (O0 C _) f;have g:=af (IsV.stb.fresh g.out a);have i:=af c.out.size;have c:=nB c a;obtain⟨d,j⟩:=C4 (d.out.next a) (IsV.stb.le hv (m:=w.heap.size+1) (by have p:=c.out.size;have q:=n.out;have r:=a.size;rw[aB];have s:=i.out;omega));obtain⟨H,M,rfl,_⟩:=T4 hv;clear hv f a;have Q:=af d.out.lt;obtain⟨m,S,l,t,T⟩:=K7 O #[.slice G (C0 (O8 [1,1])).length K,.slice H (C0 (O8 [1,3])).length M] 30;obtain⟨g,j⟩:=C4 (IsV.stb.fresh g.out l) (IsV.stb.fresh j.out l);have i:=af c.out.size;have c:=nB c l;have d:=af (d.out.next l);have k:Hid (IsM m (G4 (w.heap.size+1) m) (.slice (some ⟨O.heap.size,0,none⟩) 2 2) (E9 [O8 [1,1],O8 [1,3]])):=ygi (es:=[.slice G (C0 (O8 [1,1])).length K,.slice H (C0 (O8 [1,3])).length M]) (l:=[C0 (O8 [1,1]),C0 (O8 [1,3])]) t ⟨Q.out,t.lt⟩ (by intro u J;simp at J;rcases J with rfl|rfl<;>rfl) (ymf g.out j.out) (by simp);clear l t;go_wp2_with fail;clear S;refine(ztw (w:=m.alloc (.cells #[.int .i64 4,.int .i64 6] 3)) (l:=[4,6]) (heap_alloc_new m _) (by decide) (by decide)).mono ?_;rintro e F ⟨⟨ac,rfl,hv⟩,f⟩;have a:=C9 (O0 m _) f;obtain⟨g,j,k⟩:=G6 (IsV.stb.fresh g.out a) (IsV.stb.fresh j.out a) (IsM.stb.fresh k.out a);have i:=af c.out.size;have c:=nB c a;obtain⟨d,o⟩:=C4 (d.out.next a) (IsV.stb.le hv (m:=w.heap.size+1) (by have p:=c.out.size;have q:=n.out;have r:=a.size;rw[aB];have s:=i.out;omega));obtain⟨U,Z,rfl,_⟩:=T4 hv;clear hv f a;go_wp2_with fail;refine(ztw (w:=F.alloc (.cells #[.int .i64 3,.int .i64 2] 3)) (l:=[3,2]) (heap_alloc_new F _) (by decide) (by decide)).mono ?_;rintro e w4 ⟨⟨ad,rfl,hv⟩,f⟩;have a:=C9 (O0 F _) f;obtain⟨g,j,k,o⟩:=X6 (IsV.stb.fresh g.out a) (IsV.stb.fresh j.out a) (IsM.stb.fresh k.out a) (IsV.stb.fresh o.out a);have i:=af c.out.size;have c:=nB c a;obtain⟨d,P⟩:=C4 (d.out.next a) (IsV.stb.le hv (m:=w.heap.size+1) (by have p:=c.out.size;have q:=n.out;have r:=a.size;rw[aB];have s:=i.out;omega));obtain⟨V,aa,rfl,_⟩:=T4 hv;clear hv f a;obtain⟨ag,ah,ai⟩:=C5 d.out;obtain⟨W,X,Y⟩:=H5 d.out;go_wp2_with fail;refine yja Tryz.results43 rfl rfl (Row.put3 d.out _ _ _) ?_;have same:∀x y z:E,L2 (G4 (w.heap.size+1) w4) (C2 (put3 w4 w.heap.size x y z)) w4 (put3 w4 w.heap.size x y z):=fun x y z=>zox fun b h=>⟨by have:=h.1;omega,by show b<_;rw[ztr];exact h.2⟩;exact⟨⟨_,rfl,zsx (p:=O7 exQ) (IsM.stb.to k.out (same _ _ _)) (IsV.stb.to o.out (same _ _ _)) (IsV.stb.to P.out (same _ _ _))⟩,zrb c.out (Nat.le_refl _) _ _ _⟩
end Go.Proofs.YtdgilbgdkmhcmaaGreatDoor
