/-
 The contract of package dual's dot.
-/
import Derived.Test.YtlhhbccgfkhflaaGreatDoorPvv08
import Derived.Maps.OwnIn
import Derived.Maps.OwnSet
import Derived.OrdersHeld
import Derived.Below
import Derived.ProofKit
import Derived.OpenShut
import Derived.ChangeSame
import Derived.Carry
import Derived.Deep.DeepHandedRow
import Derived.Deep.Slices
namespace Go.Proofs.YtlhhbccgfkhflaaGreatDoor
open Go.RowKit Go.Shelf
open Go.RowKit
set_option linter.unusedVariables false
open Go.RowKit Go.Maps
open Go.RowKit Go.WideShapes Go.ChangeShapes
open Go.RowKit Go.WideShapes Go.ChangeShapes Go.Deep
set_option maxRecDepth 100000
set_option maxHeartbeats 8000000
open _root_.Nat renaming lt_or_ge → T, zero_le → X
open _root_.Array renaming getElem?_eq_getElem → E, getD_eq_getD_getElem? → R
open _root_.Bool renaming and_eq_true → O
open _root_.Go renaming World → e, Value → k, Calls → J, TypeId → U, undef → B, Oper → I, Addr → y
open _root_.Go.RowKit renaming Below → f, Hid → j
open _root_.Go.Proofs.Tryz renaming prog → D
variable {b g i id n o : Nat} {l : List Nat} {t : U} {v M N : k}
attribute [local go_sem] Oper.semAt_some
set_option linter.unusedVariables false
def yom (w:e) (a:(Q3×Rat)×(Q3×Rat)):Prop:=IsQ w (C3 w) (q3 a.1.1) a.1.2/\IsQ w (C3 w) (q3 a.2.1) a.2.2/\Sz a.1.2 1024/\Sz a.2.2 1024
abbrev Pair (w:e):={a:(Q3×Rat)×(Q3×Rat)//yom w a}
def Pair.qs {w:e} (x:Pair w):Rat×Rat:=(x.1.1.2,x.1.2.2)
theorem zxl {w:e} (h:w.cell? ⟨b,o,none⟩=some v):∃obj,w.heap[b]? =some obj/\obj.isCells=true:=by
 unfold World.cell? at h;cases a:w.heap[b]? with
 |none=>simp[a] at h
 |some obj=>cases obj with
  |cells c t d=>exact⟨_,rfl,rfl⟩
  |_=>simp[a] at h
def yem (w:e) (S:Nat->Prop):Nat->Prop:=fun b=>S b/\∃obj,w.heap[b]? =some obj/\obj.isCells=true
theorem IsK.cells {a:IntKind} {w:e} {S:Nat->Prop} (h:IsK a w S v l):IsK a w (yem w S) v l:=by
 obtain⟨A,g,hv,i,m,n⟩:=h;refine⟨A,g,hv,i,m,fun c=> ?_⟩;obtain⟨b,off,o,p,hc⟩:=n c;refine⟨b,off,o,⟨p,?_⟩,hc⟩;cases d:C8 a l with
 |nil=>exact absurd d c
 |cons q t=>exact zxl (hc 0 q (by rw[d];rfl))
theorem IsQ.cells {w:e} {S:Nat->Prop} {q:Rat} (h:IsQ w S v q):IsQ w (yem w S) v q:=by obtain⟨A,a,B,d,hv,b,c⟩:=h;exact⟨A,a,B,d,hv,b.cells,c.cells⟩
theorem zkc (l:List Rat):(C2 l).length=l.length:=List.length_map _
theorem zzf (a:List (List Rat)):(G6 a).length=a.length:=List.length_map _
theorem yna {n:Nat} {l:List (Rat×Rat)} (b:l.length<=40) (h:∀a∈l,Sz a.1 1024/\Sz a.2 1024):Sz (zmv l) 100000:=(ynb h).le (by have:=Nat.mul_le_mul_right (2*1024+1) b;omega)
theorem ygr {a b:List Rat} (ha:∀q∈a,Sz q 1024) (d:∀q∈b,Sz q 1024) (e:a.length<=40):Sz (K7 a b) 100000:=by refine yna (n:=1024) (by rw[List.length_zip];omega) fun f c=> ?_;exact⟨ha _ (List.of_mem_zip c).1,d _ (List.of_mem_zip c).2⟩
attribute [local go_sem] Oper.semAt_some
set_option linter.unusedVariables false
def yot (w:e) (n:Nat) (a:(S3×List Rat)×(Q3×Rat)):Prop:=IsV w (C3 w) (.slice a.1.1.1 a.1.1.2.1 a.1.1.2.2) (C2 a.1.2)/\a.1.2.length=n/\IsQ w (C3 w) (q3 a.2.1) a.2.2/\(∀q∈a.1.2,Sz q 1024)/\Sz a.2.2 1024
abbrev Side (w:e) (n:Nat):={a:(S3×List Rat)×(Q3×Rat)//yot w n a}
def Side.qs {w:e} {n:Nat} (x:Side w n):List Rat×Rat:=(x.1.1.2,x.1.2.2)


structure Sol where
 st:Int
 val:Raw
 X:List Raw
 D:List Raw
 R:List Raw
def IsSol (w:e) (S:Nat->Prop) (v:k) (s:Sol):Prop:=
 ∃P d Q l A a B b C c,v= .agg #[.int .i64 s.st,.bool s.val.neg,.slice P s.val.num.length d,.slice Q s.val.den.length l,.slice A s.X.length a,.slice B s.D.length b,.slice C s.R.length c]/\
  IsR w S (.agg #[.bool s.val.neg,.slice P s.val.num.length d,.slice Q s.val.den.length l]) s.val/\IsV w S (.slice A s.X.length a) s.X/\IsV w S (.slice B s.D.length b) s.D/\IsV w S (.slice C s.R.length c) s.R
theorem IsSol.stb:Stb IsSol:=by rintro w w' S T v s ⟨P,i,Q,l,A,a,B,b,C,d,hv,e,f,g,h⟩ c;exact⟨P,i,Q,l,A,a,B,b,C,d,hv,IsR.stb.to e c,IsV.stb.to f c,IsV.stb.to g c,IsV.stb.to h c⟩
theorem zz1401 {w w':e} {S:Nat->Prop} (hg:w.grownBy w' (some g)) (c:∀b,S b->b<w.heap.size/\b≠g):K6 S S w w':=fun b a=>⟨a,fun o=>World.cell?_of_block (hg.block b (c b a).1 (fun d=>(c b a).2 (by cases d;rfl)))⟩
theorem K0 {w w':e} {row:Option Nat} (a:f w.heap.size w w'):w.grownBy w' row:=⟨a.os,a.tape,a.output,a.size,fun c b _=>a.block c b⟩
theorem I9 (w:e) (g o:Nat) (a:k):w.grownBy (w.setCell ⟨g,o,none⟩ a) (some g):=
 ⟨rfl,rfl,rfl,by simp[World.setCell],fun d _ c=>Below.heap_setCell w ⟨g,o,none⟩ a d (fun b=>c (by rw[b]))⟩
theorem yus {a b d:e} {row:Option Nat} (h:a.grownBy b row) (c:f a.heap.size b d):a.grownBy d row:=⟨c.os.trans h.os,c.tape.trans h.tape,c.output.trans h.output,Nat.le_trans h.size c.size,fun i g hr=>(c.block i g).trans (h.block i g hr)⟩
theorem OwnS.slice {b:Type} {R:e->(Nat->Prop)->k->b->Prop} {w:e} {base:Nat} {S:Nat->Prop} {l:List b} (h:OwnS n t R w base S v l):∃A c,v= .slice A l.length c:=by
 obtain⟨j,d,_⟩:=h;rcases d.2 with⟨a,f⟩|⟨g,cap,i,a,_⟩
 ·exact⟨none,0,by rw[a,f]⟩
 ·exact⟨_,_,a⟩
theorem zz1464:(Tryz.prog.info? 26).map (fun i=>(i.zero,i.size,i.bytes))=some (some (.slice none 0 0),1,24):=by kernel_rfl
theorem zoy:ElN D 24 26 1 24:=
 ⟨Tryz.underlying24,by obtain⟨i,a,b,c,d⟩:=info_parts zz1464;exact⟨i,_,a,b,c,d,rfl⟩,by omega⟩
def SP (w c:e) (g:Nat) (a:e) (b:Nat):Prop:=(b<w.heap.size\/c.heap.size<=b)/\b<a.heap.size/\b≠g
theorem ylm {fn:Func} {slot:Tmp} {R:Ending->e->Prop} {a:Act} {w:e} {x y z:k} (hr:fn.results= #[.cell slot 54]) (ha:a.tmps.getD slot B= .pointer (some ⟨g,0,none⟩)) (hd:a.defers=[])
 (h:Row w g 54 [x,y,z]) (f:R (.returned (.agg #[x,y,z])) w):bodyPost D fn R .ret a w:=by refine bodyPost_ret (v:= .agg #[x,y,z]) ?_ hd f;obtain⟨b,c,d⟩:=B9 h;have i:a.tmps[slot]?.getD B= .pointer (some ⟨g,0,none⟩):=(by simpa using ha);simp[results,hr,i,asAddr,go_sem,b,c,d]
theorem yig {a:Type} {R:e->(Nat->Prop)->k->a->Prop} {w:e} {S:Nat->Prop} {es:List k} {l:List a} (h:Row w g t (cellsOf es)) (hg:S g) (c:Wid n es) (ha:All2 (R w S) es l) (d:l.length<=9223372036854775807):
 IsS n R w S (.slice (some ⟨g,0,none⟩) l.length l.length) l:=by refine⟨_,_,es,rfl,Nat.le_refl _,by unfold maxLen;omega,fun _=>⟨g,0,rfl,hg,fun i f b=> ?_⟩,c,ha⟩;rw[Nat.zero_add];exact h.cell i|>.trans (by simpa using b)
theorem yet {a b:Type} {R:a->b->Prop} {x:a} {y:b} (h:R x y):All2 R [x] [y]:=All2.snoc All2.nil h
theorem yoz {b c:Type} {R:b->c->Prop} {x a:b} {y v:c} (h:R x y) (d:R a v):All2 R [x,a] [y,v]:=All2.snoc (a:=[x]) (b:=[y]) (yet h) d
def U7 (l:List Int):List Rat:=l.map fun x=>zlo x 1
theorem zz1466 (l:List Int):(U7 l).length=l.length:=List.length_map _
theorem zz1467 {l:List Int} {a:Nat} {x:Int} (h:l[a]? =some x):(U7 l).take (a+1)=(U7 l).take a++[zlo x 1]:=by refine zrc ?_;unfold U7;rw[List.getElem?_map,h];rfl
def yhy (l:List Int):List k:=l.map fun x=> .int .i64 x
def exQ:ProgQ:=⟨[U7 [1,1],U7 [1,3]],U7 [4,6],U7 [3,2]⟩
section
variable {w : e} {d : y} {v1 : k} {a : y} {p : k} {q : y} {r : k} {s : y} {v4 : k} {u : y} {x : k} {z : y} {v6 : k} {A : y} {C : k} {F : y} {G : k} {K : y} {L : k} {W : y} {v10 : k} {Y : y} {v11 : k} {Z : y} {aa : k} {ab : y} {ad : k} {ac : y} {ae : k}
theorem zoh (b:w.cell? d=some v1):j (∀a:e,f w.heap.size w a->a.cell? d=some v1):=fun a h=>C0 h b
theorem znr (c:w.cell? d=some v1) (g:w.cell? a=some p):j (∀b:e,f w.heap.size w b->b.cell? d=some v1/\b.cell? a=some p):=fun b h=>⟨C0 h c,C0 h g⟩
theorem zkr (c:w.cell? d=some v1) (g:w.cell? a=some p) (i:w.cell? q=some r):j (∀b:e,f w.heap.size w b->b.cell? d=some v1/\b.cell? a=some p/\b.cell? q=some r):=fun b h=>⟨C0 h c,C0 h g,C0 h i⟩
theorem hs4 (c:w.cell? d=some v1) (g:w.cell? a=some p) (i:w.cell? q=some r) (k:w.cell? s=some v4):j (∀b:e,f w.heap.size w b->b.cell? d=some v1/\b.cell? a=some p/\b.cell? q=some r/\b.cell? s=some v4):=fun b h=>⟨C0 h c,C0 h g,C0 h i,C0 h k⟩
theorem hs5 (c:w.cell? d=some v1) (g:w.cell? a=some p) (i:w.cell? q=some r) (k:w.cell? s=some v4) (l:w.cell? u=some x):j (∀b:e,f w.heap.size w b->b.cell? d=some v1/\b.cell? a=some p/\b.cell? q=some r/\b.cell? s=some v4/\b.cell? u=some x):=fun b h=>⟨C0 h c,C0 h g,C0 h i,C0 h k,C0 h l⟩
theorem zmx (c:w.cell? d=some v1) (g:w.cell? a=some p) (i:w.cell? q=some r) (k:w.cell? s=some v4) (l:w.cell? u=some x) (m:w.cell? z=some v6):j (∀b:e,f w.heap.size w b->b.cell? d=some v1/\b.cell? a=some p/\b.cell? q=some r/\b.cell? s=some v4/\b.cell? u=some x/\b.cell? z=some v6):=fun b h=>⟨C0 h c,C0 h g,C0 h i,C0 h k,C0 h l,C0 h m⟩
theorem hs7 (c:w.cell? d=some v1) (g:w.cell? a=some p) (i:w.cell? q=some r) (k:w.cell? s=some v4) (l:w.cell? u=some x) (m:w.cell? z=some v6) (n:w.cell? A=some C):j (∀b:e,f w.heap.size w b->b.cell? d=some v1/\b.cell? a=some p/\b.cell? q=some r/\b.cell? s=some v4/\b.cell? u=some x/\b.cell? z=some v6/\b.cell? A=some C):=fun b h=>⟨C0 h c,C0 h g,C0 h i,C0 h k,C0 h l,C0 h m,C0 h n⟩
theorem hs8 (c:w.cell? d=some v1) (g:w.cell? a=some p) (i:w.cell? q=some r) (k:w.cell? s=some v4) (l:w.cell? u=some x) (m:w.cell? z=some v6) (n:w.cell? A=some C) (o:w.cell? F=some G):j (∀b:e,f w.heap.size w b->b.cell? d=some v1/\b.cell? a=some p/\b.cell? q=some r/\b.cell? s=some v4/\b.cell? u=some x/\b.cell? z=some v6/\b.cell? A=some C/\b.cell? F=some G):=fun b h=>⟨C0 h c,C0 h g,C0 h i,C0 h k,C0 h l,C0 h m,C0 h n,C0 h o⟩
theorem hs9 (c:w.cell? d=some v1) (g:w.cell? a=some p) (i:w.cell? q=some r) (k:w.cell? s=some v4) (l:w.cell? u=some x) (m:w.cell? z=some v6) (n:w.cell? A=some C) (o:w.cell? F=some G) (t:w.cell? K=some L):j (∀b:e,f w.heap.size w b->b.cell? d=some v1/\b.cell? a=some p/\b.cell? q=some r/\b.cell? s=some v4/\b.cell? u=some x/\b.cell? z=some v6/\b.cell? A=some C/\b.cell? F=some G/\b.cell? K=some L):=fun b h=>⟨C0 h c,C0 h g,C0 h i,C0 h k,C0 h l,C0 h m,C0 h n,C0 h o,C0 h t⟩
theorem yhv (c:w.cell? d=some v1) (i:w.cell? a=some p) (k:w.cell? q=some r) (l:w.cell? s=some v4) (m:w.cell? u=some x) (n:w.cell? z=some v6) (o:w.cell? A=some C) (t:w.cell? F=some G) (v:w.cell? K=some L) (g:w.cell? W=some v10):j (∀b:e,f w.heap.size w b->b.cell? d=some v1/\b.cell? a=some p/\b.cell? q=some r/\b.cell? s=some v4/\b.cell? u=some x/\b.cell? z=some v6/\b.cell? A=some C/\b.cell? F=some G/\b.cell? K=some L/\b.cell? W=some v10):=fun b h=>⟨C0 h c,C0 h i,C0 h k,C0 h l,C0 h m,C0 h n,C0 h o,C0 h t,C0 h v,C0 h g⟩
theorem yhw (c:w.cell? d=some v1) (l:w.cell? a=some p) (m:w.cell? q=some r) (n:w.cell? s=some v4) (o:w.cell? u=some x) (t:w.cell? z=some v6) (v:w.cell? A=some C) (y:w.cell? F=some G) (B:w.cell? K=some L) (g:w.cell? W=some v10) (i:w.cell? Y=some v11) (k:w.cell? Z=some aa):j (∀b:e,f w.heap.size w b->b.cell? d=some v1/\b.cell? a=some p/\b.cell? q=some r/\b.cell? s=some v4/\b.cell? u=some x/\b.cell? z=some v6/\b.cell? A=some C/\b.cell? F=some G/\b.cell? K=some L/\b.cell? W=some v10/\b.cell? Y=some v11/\b.cell? Z=some aa):=fun b h=>⟨C0 h c,C0 h l,C0 h m,C0 h n,C0 h o,C0 h t,C0 h v,C0 h y,C0 h B,C0 h g,C0 h i,C0 h k⟩
end
structure SH (w:e) where
 s:e->Prop
 h:j (∀W:e,f w.heap.size w W->s W)
theorem zkq {P:Program} {ops:Array I} {Q:Exit->Act->e->Prop} {S:e->Prop} {id:Nat} {a:Act} {c w:e} (h:j (∀b:e,f c.heap.size c b->S b)) (i:S w.drew->wpAnyH P .any ops Q S ops.size (Array.replicate ops.size false) a w.drew) (g:P.follows .mixedOrders=true:=by kernel_rfl) (d:f c.heap.size c w.drew:=by exact bel):(Code.region id ops true).wp P Q a w:=wp_region_held_drew g (h.out _ d) i
def NeL (V:Nat) (S:e->Prop):Prop:=∀(c:e->e),(∀b o v a,b≠V->a.cell? ⟨b,o,none⟩=some v->(c a).cell? ⟨b,o,none⟩=some v)->∀a,S a->S (c a)
theorem nA {V:Nat} {S:e->Prop} (n:b≠V) (d:NeL V S):NeL V (fun a=>a.cell? ⟨b,o,none⟩=some v/\S a):=fun c hf a h=>⟨hf _ _ _ _ n h.1,d c hf a h.2⟩
theorem nZ {V:Nat} (n:b≠V):NeL V (fun a=>a.cell? ⟨b,o,none⟩=some v):=fun c hf a h=>hf _ _ _ _ n h
section
variable {w : e} {V : Nat} {S : e → Prop}
theorem hpC (h:j (∀a:e,f w.heap.size w a->S a)) (g:NeL V S):j (∀a:e,f w.heap.size w a->∀o x,S (a.setCell ⟨V,o,none⟩ x)):=fun a d o x=>g (fun a=>a.setCell ⟨V,o,none⟩ x) (fun b i v a n h=>(World.cell?_setCell_other _ _ _ _ (fun c=>n (by cases c;rfl))).trans h) a (h.out a d)
theorem hp3 (h:j (∀a:e,f w.heap.size w a->S a)) (d:NeL V S):j (∀a:e,f w.heap.size w a->∀x y z,S (put3 a V x y z)):=fun a c x y z=>d (fun a=>Go.Proofs.YtlhhbccgfkhflaaGreatDoor.put3 a V x y z) (fun b o v a n h=>T7 h n) a (h.out a c)
end
def zzl (a b:Raw):Bool:=decide (a.neg=b.neg)&&decide (a.num=b.num)&&decide (a.den=b.den)
theorem zz1399 {a b:Raw}:zzl a b=true↔a=b:=by unfold zzl;rw[O,O,decide_eq_true_eq,decide_eq_true_eq,decide_eq_true_eq];obtain⟨x,y,z⟩:=a;obtain⟨c,v,t⟩:=b;simp[and_assoc]
theorem zz1398 {a b:Raw}:zzl a b=decide (a=b):=by rw[Bool.eq_iff_iff,zz1399,decide_eq_true_eq]
theorem zuc {a:IntKind} {w:e} (h:IsK a w (C3 w) v l):IsL a w 0 w.heap.size v l:=h.isL fun b c=>⟨X _,c⟩
theorem zzm {w:e} {a b:Raw} (ha:IsR w (C3 w) M a) (g:IsR w (C3 w) N b):
 J D 47 #[M,N] w fun l w'=>l= .returned (.bool (decide (a=b)))/\f w.heap.size w w':=by
 rw[<-zz1398];obtain⟨L,ab,P,ac,rfl,t,u⟩:=ha;obtain⟨Q,ad,S,ae,rfl,v,x⟩:=g;obtain⟨p,V,q,W⟩:=X7 t u v x;unfold zzl;obtain⟨s,m⟩:=nm (decide (a.neg=b.neg));obtain⟨b2,n⟩:=nm (decide (a.num=b.num));obtain⟨aa,o⟩:=nm (decide (a.den=b.den));have d:(a.neg==b.neg)=s:=(by rw[m];cases a.neg<;>cases b.neg<;>rfl);rw[<-m,<-n,<-o];obtain⟨r,Z⟩:=C5 n o;clear m n o t u v x;obtain⟨c,A,z,C,F,af⟩:=zko w #[.bool a.neg,.slice L a.num.length ab,.slice P a.den.length ac] #[.bool b.neg,.slice Q b.num.length ad,.slice S b.den.length ae] 30 30;have h:=Lib.hid z;obtain⟨ah,ai,H⟩:=B9 C;obtain⟨aj,ak,K⟩:=B9 F;clear z C F;cases s with
 |false=>go_in;go_wp2_with fail;go_ret;exact⟨rfl,h.out⟩
 |true=>
  cases b2 with
  |false=>go_in;go_wp2_with fail;clear A;refine(yal (zuc (IsK.stb.to p.out (E7 h.out))) (zuc (IsK.stb.to q.out (E7 h.out)))).mono ?_;rw[<-r.out];rintro l G ⟨rfl,hd⟩;have g:=hd.below c.heap.size;have i:=nB h g;go_wp2_with fail;go_ret;exact⟨rfl,i.out⟩
  |true=>
   cases aa
   all_goals
    go_in
    go_wp2_with fail
    clear A
    refine(yal (zuc (IsK.stb.to p.out (E7 h.out))) (zuc (IsK.stb.to q.out (E7 h.out)))).mono ?_
    rw[<-r.out]
    rintro l G ⟨rfl,hd⟩
    have g:=hd.below c.heap.size
    have i:=nB h g
    replace H:=C0 g H
    replace K:=C0 g K
    clear g hd
    go_wp2_with fail
    refine(yal (zuc (IsK.stb.to V.out (E7 i.out))) (zuc (IsK.stb.to W.out (E7 i.out)))).mono ?_
    rw[<-Z.out]
    rintro l ag ⟨rfl,hd⟩
    have g:=hd.below G.heap.size
    have Y:=nB i g
    clear g hd
    go_wp2_with fail
    go_ret
    exact⟨rfl,Y.out⟩
theorem yce {e:Type} {a b:List e} (f:a.length=b.length) (h:∀c,c<a.length->a[c]? =b[c]?):a=b:=by
 apply List.ext_getElem?;intro c;rcases T c a.length with d|d
 ·exact h c d
 ·rw[List.getElem?_eq_none d,List.getElem?_eq_none og]
theorem zut {w:e} {a b:List (Raw)} (ha:IsV w (C3 w) M a) (C:IsV w (C3 w) N b):
 J D 37 #[M,N] w fun g w'=>g= .returned (.bool (decide (a=b)))/\f w.heap.size w w':=by
 obtain⟨R,S⟩:=C5 ha C;obtain⟨A,aC,rfl,ay⟩:=X8 ha;obtain⟨B,aD,rfl,az⟩:=X8 C;clear ha C;obtain⟨l,H⟩:=nm (a.length);obtain⟨lb,I⟩:=nm (b.length);rw[<-H] at R ay⊢;rw[<-I] at S az⊢;obtain⟨s,z⟩:=C5 H I;clear H I;by_cases G:l=lb;(case neg=>have au:((l:Int) !=(lb:Int))=true:=bne_iff_ne.2 og;have o:j (decide (a=b)=false):=decide_eq_false (fun g=>G (by rw[s.out,z.out,g]));clear G;go_in;go_wp2_with fail;go_ret;exact⟨by show Ending.returned (.bool _)=_;rw[o.out],Below.refl _ _⟩);subst G;have au:((l:Int) !=(l:Int))=false:=(by simp);go_in;go_wp2_with fail;go_loopw [5] (fun i wr=>∃c:Nat,c<=l/\i= .int .i64 (c:Int)/\f w.heap.size w wr/\j (∀k,k<c->a[k]? =b[k]?)) (fun i _=>l-(intOf i).toNat);case atStart=>exact⟨0,X _,rfl,Below.refl _ _,fun k F=>by omega⟩
 case round=>
  obtain⟨c,aJ,rfl,r,hrel⟩:=hrel;have v:=Lib.hid r;have U:=Lib.hid hrel.out;clear hrel;rcases T c l with ak|aI
  ·obtain⟨x,K⟩:=zlj (l:=a) (j:=c) (by rw[<-s.out];exact ak);obtain⟨y,L⟩:=zlj (l:=b) (j:=c) (by rw[<-z.out];exact ak);obtain⟨aA,aM,P,an,Q,aq,rfl,aG,ai,ac,ad,ae⟩:=zml (IsV.stb.to R.out (E7 r)) K;obtain⟨aB,aN,Y,ao,Z,ar,rfl,aH,aj,d0,af,ag⟩:=zml (IsV.stb.to S.out (E7 r)) L;obtain⟨V,W,aa,ab⟩:=X7 K L ai aj;have aE:=T3;have aK:(0:Int)<=(c:Int):=og;have aL:(c:Int)<(l:Int):=og;obtain⟨q,al⟩:=nm (decide (x=y));have t:=Lib.hid al;clear K L ai aj r al;cases q with
   |false=>
    go_wp2_with fail;have m:=zmx ac ad ae d0 af ag;have n:j (∀d:e,f wr.heap.size wr d->J D 47 #[.agg #[.bool x.neg,.slice P x.num.length an,.slice Q x.den.length aq],.agg #[.bool y.neg,.slice Y y.num.length ao,.slice Z y.den.length ar]] d (fun g w'=>g= .returned (.bool false)/\f d.heap.size d w')):=fun d p=>by rw[t.out];exact zzm (IsR.stb.next aa.out p) (IsR.stb.next ab.out p)
    go_region_held3 (SH.mk _ m).s
     (exact m.out _ bel)
     (first
       |(go_at_call 47;(with_reducible refine Calls.mono (n.out _ bel) ?_);rintro g O ⟨rfl,E⟩))
    have u:=nB v (show f wr.heap.size wr O from bel);clear E m n;go_wp2_with fail;have o:j (decide (a=b)=false):=decide_eq_false (fun g=>by have ah:=V.out;rw[g,W.out] at ah;cases ah;have av:=t.out;simp at av);go_ret;exact⟨by show Ending.returned (.bool _)=_;rw[o.out],u.out⟩
   |true=>
    go_wp2_with fail;have m:=zmx ac ad ae d0 af ag;have n:j (∀d:e,f wr.heap.size wr d->J D 47 #[.agg #[.bool x.neg,.slice P x.num.length an,.slice Q x.den.length aq],.agg #[.bool y.neg,.slice Y y.num.length ao,.slice Z y.den.length ar]] d (fun g w'=>g= .returned (.bool true)/\f d.heap.size d w')):=fun d p=>by rw[t.out];exact zzm (IsR.stb.next aa.out p) (IsR.stb.next ab.out p)
    go_region_held3 (SH.mk _ m).s
     (exact m.out _ bel)
     (first
       |(go_at_call 47;(with_reducible refine Calls.mono (n.out _ bel) ?_);rintro g O ⟨rfl,E⟩))
    have u:=nB v (show f wr.heap.size wr O from bel);clear E m n;go_wp2_with fail;go_roundw
    case rel=>
     refine⟨c+1,by omega,by go_num,u.out,fun k F=> ?_⟩;rcases T k c with h|h
     ·exact U.out k h
     ·obtain rfl:k=c:=og;rw[V.out,W.out,of_decide_eq_true t.out.symm]
    case measure=>simp[intOf];omega
  ·obtain rfl:c=l:=og;have o:j (decide (a=b)=true):=decide_eq_true (yce (by rw[<-s.out,<-z.out]) (fun k F=>U.out k (by rw[s.out];exact F)));clear r;go_wp2_with fail;go_ret;exact⟨by show Ending.returned (.bool _)=_;rw[o.out],v.out⟩
theorem zz1402 {w:e} {a b:List (List Raw)} (ha:IsM w (C3 w) M a) (C:IsM w (C3 w) N b):
 J D 62 #[M,N] w fun g w'=>g= .returned (.bool (decide (a=b)))/\f w.heap.size w w':=by
 obtain⟨Q,R⟩:=C5 ha C;obtain⟨A,aq,rfl,ak⟩:=zqg ha;obtain⟨B,ar,rfl,al⟩:=zqg C;clear ha C;obtain⟨l,H⟩:=nm (a.length);obtain⟨lb,I⟩:=nm (b.length);rw[<-H] at Q ak⊢;rw[<-I] at R al⊢;obtain⟨s,z⟩:=C5 H I;clear H I;by_cases G:l=lb;(case neg=>have ai:((l:Int) !=(lb:Int))=true:=bne_iff_ne.2 og;have o:j (decide (a=b)=false):=decide_eq_false (fun g=>G (by rw[s.out,z.out,g]));clear G;go_in;go_wp2_with fail;go_ret;exact⟨by show Ending.returned (.bool _)=_;rw[o.out],Below.refl _ _⟩);subst G;have ai:((l:Int) !=(l:Int))=false:=(by simp);go_in;go_wp2_with fail;go_loopw [5] (fun i wr=>∃c:Nat,c<=l/\i= .int .i64 (c:Int)/\f w.heap.size w wr/\j (∀k,k<c->a[k]? =b[k]?)) (fun i _=>l-(intOf i).toNat);case atStart=>exact⟨0,X _,rfl,Below.refl _ _,fun k F=>by omega⟩
 case round=>
  obtain⟨c,aA,rfl,r,hrel⟩:=hrel;have v:=Lib.hid r;have S:=Lib.hid hrel.out;clear hrel;rcases T c l with ae|az
  ·obtain⟨x,K⟩:=zlj (l:=a) (j:=c) (by rw[<-s.out];exact ae);obtain⟨y,L⟩:=zlj (l:=b) (j:=c) (by rw[<-z.out];exact ae);obtain⟨an,aD,P,ag,rfl,av,ac,aa⟩:=zpo (IsM.stb.to Q.out (E7 r)) K;obtain⟨ao,aE,W,ah,rfl,ay,ad,d0⟩:=zpo (IsM.stb.to R.out (E7 r)) L;obtain⟨U,V,Y,Z⟩:=X7 K L ac ad;have au:=T3;have aB:(0:Int)<=(c:Int):=og;have aC:(c:Int)<(l:Int):=og;obtain⟨q,af⟩:=nm (decide (x=y));have t:=Lib.hid af;clear K L ac ad r af;cases q with
   |false=>
    go_wp2_with fail;have m:=znr aa d0;have n:j (∀d:e,f wr.heap.size wr d->J D 37 #[.slice P x.length ag,.slice W y.length ah] d (fun g w'=>g= .returned (.bool false)/\f d.heap.size d w')):=fun d p=>by rw[t.out];exact zut (IsV.stb.next Y.out p) (IsV.stb.next Z.out p)
    go_region_held3 (SH.mk _ m).s
     (exact m.out _ bel)
     (first
       |(go_at_call 37;(with_reducible refine Calls.mono (n.out _ bel) ?_);rintro g O ⟨rfl,E⟩))
    have u:=nB v (show f wr.heap.size wr O from bel);clear E m n;go_wp2_with fail;have o:j (decide (a=b)=false):=decide_eq_false (fun g=>by have ab:=U.out;rw[g,V.out] at ab;cases ab;have aj:=t.out;simp at aj);go_ret;exact⟨by show Ending.returned (.bool _)=_;rw[o.out],u.out⟩
   |true=>
    go_wp2_with fail;have m:=znr aa d0;have n:j (∀d:e,f wr.heap.size wr d->J D 37 #[.slice P x.length ag,.slice W y.length ah] d (fun g w'=>g= .returned (.bool true)/\f d.heap.size d w')):=fun d p=>by rw[t.out];exact zut (IsV.stb.next Y.out p) (IsV.stb.next Z.out p)
    go_region_held3 (SH.mk _ m).s
     (exact m.out _ bel)
     (first
       |(go_at_call 37;(with_reducible refine Calls.mono (n.out _ bel) ?_);rintro g O ⟨rfl,E⟩))
    have u:=nB v (show f wr.heap.size wr O from bel);clear E m n;go_wp2_with fail;go_roundw
    case rel=>
     refine⟨c+1,by omega,by go_num,u.out,fun k F=> ?_⟩;rcases T k c with h|h
     ·exact S.out k h
     ·obtain rfl:k=c:=og;rw[U.out,V.out,of_decide_eq_true t.out.symm]
    case measure=>simp[intOf];omega
  ·obtain rfl:c=l:=og;have o:j (decide (a=b)=true):=decide_eq_true (yce (by rw[<-s.out,<-z.out]) (fun k F=>S.out k (by rw[s.out];exact F)));clear r;go_wp2_with fail;go_ret;exact⟨by show Ending.returned (.bool _)=_;rw[o.out],v.out⟩
instance:DecidableEq Prog:=fun a b=>if h:a.A=b.A/\a.B=b.B/\a.C=b.C then isTrue (by cases a;cases b;simp only at h;obtain⟨rfl,rfl,rfl⟩:=h;rfl) else isFalse (fun c=>h (by rw[c];exact⟨rfl,rfl,rfl⟩))
def IsPS (w:e) (S:Nat->Prop) (v:k) (a:Prog) (s:Sol):Prop:=
 ∃A b B c C d P g Q h X j D f R i,v= .agg #[.slice A a.A.length b,.slice B a.B.length c,.slice C a.C.length d,.int .i64 s.st,.bool s.val.neg,.slice P s.val.num.length g,.slice Q s.val.den.length h,.slice X s.X.length j,.slice D s.D.length f,.slice R s.R.length i]/\IsM w S (.slice A a.A.length b) a.A/\IsV w S (.slice B a.B.length c) a.B/\IsV w S (.slice C a.C.length d) a.C/\
  IsR w S (.agg #[.bool s.val.neg,.slice P s.val.num.length g,.slice Q s.val.den.length h]) s.val/\IsV w S (.slice X s.X.length j) s.X/\IsV w S (.slice D s.D.length f) s.D/\IsV w S (.slice R s.R.length i) s.R
theorem IsPS.to {w w':e} {S b:Nat->Prop} {c:Prog} {s:Sol} (h:IsPS w S v c s) (a:K6 S b w w'):IsPS w' b v c s:=by
 obtain⟨A,d,B,f,C,g,P,j,Q,k,X,m,D,i,R,l,hv,n,o,p,q,r,t,u⟩:=h
 exact⟨A,d,B,f,C,g,P,j,Q,k,X,m,D,i,R,l,hv,IsM.stb.to n a,IsV.stb.to o a,IsV.stb.to p a,IsR.stb.to q a,IsV.stb.to r a,IsV.stb.to t a,IsV.stb.to u a⟩

def zkp:List Bool->Nat
 |[]=>0
 |b::l=>(if b then 0 else 1)+zkp l
theorem zxs:∀{l:List Bool} {i:Nat},l[i]? =some false->zkp (l.set i true)+1=zkp l
 |b::l,0,h=>by simp at h;subst h;simp[zkp];omega
 |b::l,i+1,h=>by
  have:=zxs (l:=l) (i:=i) (by simpa using h)
  simp only[List.set_cons_succ,zkp]
  omega
theorem zxt:∀{l:List Bool} {i:Nat} {b:Bool},zkp l=0->l[i]? =some b->b=true
 |c::l,0,b,h,a=>by
  simp at a
  subst a
  cases c
  ·simp[zkp] at h
  ·rfl
 |c::l,i+1,b,h,a=>by
  refine zxt (l:=l) (i:=i) ?_ (by simpa using a)
  simp only[zkp] at h
  omega
theorem zxr (n:Nat):zkp (List.replicate n false)=n:=by
 induction n with
 |zero=>rfl
 |succ n ih=>rw[List.replicate_succ,zkp,ih];simp;omega
def Z4 (o:I):List Nat:=(o.after.toList.filter (Region.binds .any)).map (·.on)
def zms (ops:Array I) (t:Nat):Bool:=ops.toList.any fun o=>o.dst==some t
def zye (ops:Array I) (n:Nat):Bool:=
 (List.range ops.size).all fun i=>(ops[i]?).any fun o=>
  (o.dst.any fun d=>decide (d<n)&&(List.range ops.size).all fun a=>decide (a=i)|| !((ops[a]?).any fun b=>b.dst==some d))&&(Z4 o).all fun a=>decide (a<i)
section
variable {P : Program} {ops : Array I} {Q : Exit → Act → e → Prop} {Φ : Nat → k → e → Prop} {m : Act} {c : e}
theorem yht {o:I} (h:zye ops n=true) (p:ops[i]? =some o):
 ∃d,o.dst=some d/\d<n/\(∀a m,ops[a]? =some m->m.dst=some d->a=i)/\∀a∈Z4 o,a<i:=by
 unfold zye at h;have s:i<ops.size:=(Array.getElem?_eq_some_iff.1 p).1;have g:=List.all_eq_true.1 h i (List.mem_range.2 s);rw[p] at g;simp only[Option.any_some,O] at g;obtain⟨b,q⟩:=g;cases hd:o.dst with
 |none=>rw[hd] at b;simp at b
 |some d=>rw[hd] at b;simp only[Option.any_some,O,decide_eq_true_eq] at b;refine⟨d,rfl,b.1,fun a m c t=> ?_,fun a c=>by simpa using List.all_eq_true.1 q a c⟩;have r:a<ops.size:=(Array.getElem?_eq_some_iff.1 c).1;have l:=List.all_eq_true.1 b.2 a (List.mem_range.2 r);rw[c] at l;simp only[Option.any_some,t,beq_self_eq_true,Bool.not_true,Bool.or_false,decide_eq_true_eq] at l;exact l
structure GrowInv (ops:Array I) (Φ:Nat->k->e->Prop) (m:Act) (c:e) (listed:Array Bool) (a:Act) (w:e):Prop where
 size:a.tmps.size=m.tmps.size
 defers:a.defers=m.defers
 below:f c.heap.size c w
 free:∀t,zms ops t=false->a.tmps[t]? =m.tmps[t]?
 holds:∀j oj d,ops[j]? =some oj->listed[j]? =some true->oj.dst=some d->Φ j (a.tmps.getD d B) w
theorem ydj (a:Act) (d:Tmp) (v:k):(a.put (some d) v).tmps.size=a.tmps.size:=by simp[Act.put]
theorem zzb (a:Act) {d t:Nat} (v:k) (h:t≠d):(a.put (some d) v).tmps[t]? =a.tmps[t]? :=by simp only[Act.put];rw[Array.getElem?_setIfInBounds_ne (Ne.symm h)]
theorem ydi (a:Act) {d:Nat} (v:k) (h:d<a.tmps.size):(a.put (some d) v).tmps.getD d B=v:=by simp[Act.put,h]
theorem ybi {a b:Array k} {t:Nat} (h:a[t]? =b[t]?):a.getD t B=b.getD t B:=by simp only[R,h]
theorem zwl {listed:Array Bool} {o:I} (g:ops[i]? =some o) (hr:i∈Region.ready .any ops listed):listed.getD i true=false/\∀d∈Z4 o,listed.getD d false=true:=by unfold Region.ready at hr;have a:=(List.mem_filter.1 hr).2;rw[g] at a;simp only[Option.map_some,Option.getD_some,O,Bool.not_eq_true'] at a;refine⟨a.1,fun d h=> ?_⟩;obtain⟨e,b,rfl⟩:=List.mem_map.1 h;obtain⟨b,f⟩:=List.mem_filter.1 b;have c:=(Array.all_eq_true'.1 a.2) e (by simpa using b);rw[f] at c;simpa using c
theorem zz1469 (hst:∀i v w w',Φ i v w->f w.heap.size w w'->Φ i v w') (hg:zye ops m.tmps.size=true)
 (aj:∀i o,ops[i]? =some o->∀(a:Act) (w:e),a.tmps.size=m.tmps.size->a.defers=m.defers->f c.heap.size c w->(∀t,zms ops t=false->a.tmps[t]? =m.tmps[t]?)->
   (∀b g d,b∈Z4 o->ops[b]? =some g->g.dst=some d->Φ b (a.tmps.getD d B) w)->
   if Region.wanted o (yielded ops a.tmps)=true then o.wp P a w (fun W w'=>∃v,W=a.put o.dst v/\f w.heap.size w w'/\Φ i v w') Q else Φ i B w)
 (af:∀(a:Act) (w:e),a.tmps.size=m.tmps.size->a.defers=m.defers->f c.heap.size c w->(∀t,zms ops t=false->a.tmps[t]? =m.tmps[t]?)->
   (∀b g d,ops[b]? =some g->g.dst=some d->Φ b (a.tmps.getD d B) w)->Q .normal a w):
 ∀(z:Nat) (listed:Array Bool) (a:Act) (w:e),listed.size=ops.size->zkp listed.toList<=z->GrowInv ops Φ m c listed a w->wpAny P .any ops Q z listed a w:=by
 have done:∀(listed:Array Bool) (a:Act) (w:e),listed.size=ops.size->Region.ready .any ops listed=[]->GrowInv ops Φ m c listed a w->Q .normal a w:=by
  intro listed a w C hr inv
  have all:∀n i,i<n->i<ops.size->listed[i]? =some true:=by
   intro n;induction n with
   |zero=>intro i q;omega
   |succ n ih=>
    intro i q u;rcases T i n with h|h
    ·exact ih i h u
    ·obtain rfl:i=n:=og;have s:i<listed.size:=og;cases G:listed[i] with
     |true=>rw[E s,G]
     |false=>
      exfalso
      have r:i∈Region.ready .any ops listed:=by
       unfold Region.ready;refine List.mem_filter.2 ⟨List.mem_range.2 u,?_⟩;have q:ops[i]? =some ops[i]:=E u;obtain⟨d,hd,_,_,ah⟩:=yht hg q;rw[q];simp only[Option.map_some,Option.getD_some,O,Bool.not_eq_true'];refine⟨by simp[R,E s,G],Array.all_eq_true'.2 fun x ae=> ?_⟩;cases ab:Region.binds .any x with
       |false=>rfl
       |true=>have p:=ah x.on (List.mem_map.2 ⟨x,List.mem_filter.2 ⟨by simpa using ae,ab⟩,rfl⟩);have:=ih x.on p og;simp[R,this]
      rw[hr] at r;cases r
  exact af a w inv.size inv.defers inv.below inv.free fun b g d p hd=>inv.holds b g d p (all (b+1) b og (Array.getElem?_eq_some_iff.1 p).1) hd
 intro z;induction z with
 |zero=>
  intro listed a w C hc inv
  have hr:Region.ready .any ops listed=[]:=by
   cases hr:Region.ready .any ops listed with
   |nil=>rfl
   |cons i l=>exfalso;have r:i∈Region.ready .any ops listed:=(by rw[hr];simp);have u:i<ops.size:=(by unfold Region.ready at r;exact List.mem_range.1 (List.mem_filter.1 r).1);have M:=(zwl (E u) r).1;have s:i<listed.size:=og;have N:=zxt (l:=listed.toList) (i:=i) (b:=listed[i]) og (by simp[s]);simp[R,E s,N] at M
  exact⟨hr,done listed a w C hr inv⟩
 |succ z ih=>
  intro listed a w C hc inv;refine⟨fun hr=>done listed a w C hr inv,fun i r=> ?_⟩;have u:i<ops.size:=(by unfold Region.ready at r;exact List.mem_range.1 (List.mem_filter.1 r).1);have q:ops[i]? =some ops[i]:=E u;obtain⟨M,N⟩:=zwl q r;have s:i<listed.size:=og;have G:listed[i]=false:=(by simpa[R,E s] using M);obtain⟨d,hd,ac,ad,_⟩:=yht hg q;have K:=aj i ops[i] q a w inv.size inv.defers inv.below inv.free fun b g F p aa A=>inv.holds b g F aa (by have Y:=N b p;have Z:b<listed.size:=(by have:=(Array.getElem?_eq_some_iff.1 aa).1;omega);rw[E Z];simp only[R,E Z,Option.getD_some] at Y;rw[Y]) A
  have next:∀(v:k) (w':e),f w.heap.size w w'->Φ i v w'->wpAny P .any ops Q z (listed.setIfInBounds i true) (a.put ops[i].dst v) w':=by
   intro v w' H hv;rw[hd];refine ih _ _ _ (by simp[C]) ?_ ⟨by rw[ydj];exact inv.size,inv.defers,inv.below.trans (H.mono inv.below.size),fun t L=> ?_,fun b g F p ag A=> ?_⟩
   ·have:=zxs (l:=listed.toList) (i:=i) (by simp[s,G]);simp only[Array.toList_setIfInBounds];omega
   ·rw[zzb _ _ (by rintro rfl;unfold zms at L;rw[List.any_eq_false] at L;exact L ops[i] (by simp) (by rw[hd];simp))];exact inv.free t L
   ·by_cases S:b=i
    ·subst S;rw[q] at p;cases p;rw[hd] at A;cases A;rw[ydi _ _ (by rw[inv.size];exact ac)];exact hv
    ·have ai:F≠d:=fun x=>S (ad b g p (by rw[A,x]));rw[ybi (zzb a v ai)];refine hst _ _ _ _ (inv.holds b g F p ?_ A) H;rwa[Array.getElem?_setIfInBounds_ne (Ne.symm S)] at ag
  unfold wpOp;rw[q];simp only;split
  ·rename_i V;rw[if_pos V] at K;exact .inl (Oper.wp_mono (fun W w' ⟨v,ha,H,hv⟩=>by rw[ha];exact next v w' H hv) K)
  ·rename_i V;rw[if_neg V] at K;exact next B w (Below.refl _ _) K
theorem zz1476 (Φ:Nat->k->e->Prop) (n:P.follows .mixedOrders=true) (hst:∀i v w w',Φ i v w->f w.heap.size w w'->Φ i v w') (hg:zye ops m.tmps.size=true)
 (p:∀i o,ops[i]? =some o->∀(a:Act) (w:e),a.tmps.size=m.tmps.size->a.defers=m.defers->f c.heap.size c w->(∀t,zms ops t=false->a.tmps[t]? =m.tmps[t]?)->
   (∀b g d,b∈Z4 o->ops[b]? =some g->g.dst=some d->Φ b (a.tmps.getD d B) w)->
   if Region.wanted o (yielded ops a.tmps)=true then o.wp P a w (fun j w'=>∃v,j=a.put o.dst v/\f w.heap.size w w'/\Φ i v w') Q else Φ i B w)
 (l:∀(a:Act) (w:e),a.tmps.size=m.tmps.size->a.defers=m.defers->f c.heap.size c w->(∀t,zms ops t=false->a.tmps[t]? =m.tmps[t]?)->
   (∀b g d,ops[b]? =some g->g.dst=some d->Φ b (a.tmps.getD d B) w)->Q .normal a w):
 (Code.region id ops true).wp P Q m c:=by refine wp_region_any n (zz1469 hst hg p l _ _ _ _ (by simp) (by simp[zxr]) ⟨rfl,rfl,⟨rfl,rfl,rfl,Nat.le_refl _,fun _ _=>rfl⟩,fun _ _=>rfl,fun b g d q h hd=> ?_⟩);rw[Array.getElem?_replicate] at h;split at h<;>cases h
end
theorem own:ownKnob Tryz.prog.godebug=none:=by kernel_rfl
theorem yvk:laidOutB D=true:=by kernel_rfl
section
variable {H : Type} {enc : U × k → H} {P : Program}
theorem yzr {d:Func} {s:ChangeSpec} {apart fresh handsOn again:Bool} {g h:e} {args:Array k} {i j:List (DataW H)} {before pa pv:List MemPlace}
 (m:DataW.Whole enc P d.params.toList s.vars apart g args.toList i j before)
 (u:∀(b:Nat) (sp:Nat->Bool) (hd:Bool),DataW.TrodAll enc P h b sp hd d.resultTypes.toList (v.resultList d.resultTypes.size) (s.fn H (i++j)).results [])
 (n:∀sp:Nat->Bool,(∀a∈before,sp a.block=true)->DataW.TrodAll enc P h 0 sp true d.params.toList args.toList (s.fn H (i++j)).args pa)
 (w:∀sp:Nat->Bool,(∀a∈before,sp a.block=true)->DataW.TrodVars enc P h sp s.vars (s.fn H (i++j)).vars pv)
 (l:before=pa++pv) (o:f g.heap.size g h)
 (A:∀(x:Nat) (t:U) (y:k),d.resultTypes[x]? =some t->(v.resultList d.resultTypes.size)[x]? =some y->Value.okWide P h .any 0 t y):
 s.post enc P d apart fresh handsOn again g args v h:=by
 have q:∀a∈before,a.block<g.heap.size:=fun a c=>m.lt a c;have r:∀a∈before,(fun b=>decide (b<g.heap.size)) a.block=true:=fun a c=>(by simpa using q a c);refine⟨i,j,before,[],pa,pv,m,u _ _ _,n _ r,w _ r,World.keptBut_mono (fun a c=>⟨c,?_⟩) (o.frame (·∈before)),fun _=> ?_⟩
 ·rw[l,List.mem_append] at c;exact Or.inr c
 ·obtain⟨_,_,_,_,_,B,z⟩:=m;refine⟨A,_,_,([]++pa)++pv,⟨[]++pa,pv,trodAll_append (n _ (fun _ _=>rfl)) (u _ _ _),w _ (fun _ _=>rfl),rfl,?_,?_⟩,?_⟩
  ·intro b off c;have p:MemPlace.cell b off∈before:=(by rw[l];simpa using c);rw[o.frozen (q _ p)];exact B b off p
  ·intro ha;have:=z ha;rw[l] at this;simpa using this
  ·intro a c _;rw[l];simpa using c
end
section
variable {H : Type} {enc : U × k → H} {w : e} {base : Nat} {sp : Nat → Bool} {held : Bool}
end
section
variable {H : Type} {enc : U × k → H} {w : e} {base h : Nat} {sp : Nat → Bool} {held : Bool}
end
end Go.Proofs.YtlhhbccgfkhflaaGreatDoor
