/-
 What the operations hold in the drawn regions of a function c b a program.
-/
import Derived.Test.YtdgilbgdkmhcmaaGreatDoorProofSimplexProves13
namespace Go.Proofs.YtdgilbgdkmhcmaaGreatDoor
open Go.RowKit
set_option linter.unusedVariables false
set_option maxRecDepth 100000
set_option maxHeartbeats 8000000
open _root_.Go renaming World → e, Value → b
variable {L M : Nat → Prop} {P base g k m : Nat} {l : List Int} {r : Option Nat} {u v a c : b} {d : e} {xs : List b}
theorem yig {n0 b:Nat} (h:v.ownBlock=a.ownBlock\/∃b,v.ownBlock=some b/\n0<=b) (f:b<n0) (d:a.ownBlock≠some b):v.ownBlock≠some b:=by
 rcases h with h|⟨e,h,hc⟩
 ·rw[h];exact d
 ·rw[h];intro c;cases c;omega
theorem zts {X:Nat->Option b} {c:Nat} (h:∃u,X 4=some u/\∀a,u.ownBlock=some a->a<c) (f:X k=none):∃v,W7 X k u 4=some v/\∀a,v.ownBlock=some a->a<c:=by obtain⟨v,d,e⟩:=h;exact⟨v,zqm d f,e⟩
theorem ybi {X:Nat->Option b} {c:Nat} (h:∃u,X 4=some u/\∀a,u.ownBlock=some a->a<m) (f:X k=none) (i:m<=c):∃v,W7 X k u 4=some v/\∀a,v.ownBlock=some a->a<c:=by obtain⟨v,d,e⟩:=h;exact⟨v,zqm d f,fun a g=>Nat.lt_of_lt_of_le (e a g) i⟩
def PRat (w:e) (n0:Nat) (L:Nat->Prop) (v:b):Prop:=∃q a c,zok q/\(n0<=a/\a<=c)/\c<=w.heap.size/\L a/\IsQ w (N5 a c) v q
def PRow (w:e) (n0:Nat) (L:Nat->Prop) (v:b):Prop:=∃q a c d,zok q/\(n0<=a/\a<=c)/\c<=w.heap.size/\L a/\IsQ w (N5 a c) d q/\NewRow w n0 37 d.cells.toList v
def PApp (w:e) (base n0:Nat) (L:Nat->Prop) (g:Nat->Prop) (c:b) (l:List Raw) (v:b):Prop:=
 ∃q f d,zok q/\(n0<=f/\f<=d)/\d<=w.heap.size/\L f/\OwnS 3 37 IsR w base (fun a=>g a\/N5 f d a) v (l++[D8 q])/\(v.ownBlock=c.ownBlock\/∃a,v.ownBlock=some a/\d<=a/\n0<=a)
theorem PRat.grown {w w':e} {n0:Nat} (h:PRat w n0 L v) (f:w.grownBy w' r) (hr:∀a,r=some a->a<n0) (l:∀b,L b->M b):PRat w' n0 M v:=by obtain⟨q,b,m,i,c,d,j,k⟩:=h;exact⟨q,b,m,i,c,Nat.le_trans d f.size,l _ j,k.rngG f d fun a g=>Nat.lt_of_lt_of_le (hr a g) c.1⟩
theorem PRow.grown {w w':e} {n0:Nat} (h:PRow w n0 L v) (d:w.grownBy w' r) (hr:∀a,r=some a->a<n0) (m:∀b,L b->M b):PRow w' n0 M v:=by obtain⟨q,b,n,c,i,f,g,j,k,l⟩:=h;exact⟨q,b,n,c,i,f,Nat.le_trans g d.size,m _ j,k.rngG d g fun a c=>Nat.lt_of_lt_of_le (hr a c) f.1,l.grown d hr⟩
theorem PApp.grown {w w':e} {n0:Nat} {j:Nat->Prop} {l:List Raw} (h:PApp w base n0 L j c l v) (m:w.grownBy w' r) (hr:∀f,r=some f->f<n0) (hv:∀f,r=some f->c.ownBlock≠some f/\¬j f) (x:∀i,L i->M i):PApp w' base n0 M j c l v:=by
 obtain⟨q,i,y,o,p,s,t,u,k⟩:=h;refine⟨q,i,y,o,p,Nat.le_trans s m.size,x _ t,u.grown IsR.stb m fun f g=>⟨yig (n0:=n0) (k.imp id fun⟨n,a,_,d⟩=>⟨n,a,d⟩) (hr f g) (hv f g).1,fun h=> ?_⟩,k⟩;rcases h with h|h
 ·exact(hv f g).2 h
 ·have:=hr f g;have:=h.1;omega
def zsc (g:Nat) (a c:b):Nat->Option Nat:=fun k=>match k with|4=>a.ownBlock|8=>some g|11=>some g|15=>c.ownBlock|_=>none
def zur (g:Nat) (a:b):Nat->Option Nat:=fun k=>match k with|3=>some g|7=>a.ownBlock|_=>none
def zkr (g P:Nat) (a c:b) (R:Option Addr) (m h:Nat) (n0 base:Nat) (i j:Nat->Prop) (A:List (List Rat)) (B r:List Rat) (k:Nat) (v:b) (w:e) (X:Nat->Option b):Prop:=
 match k with
 |0=>v= .pointer (some ⟨P,0,none⟩)
 |1=>v=a
 |2=>v= .slice R m h
 |3=>NewRow w n0 30 [.slice R m h] v
 |4=>(OwnS 1 30 IsV w base i v (F9 A++[C0 r])/\(v.ownBlock=a.ownBlock\/∃d,v.ownBlock=some d/\n0<=d))
 |5=>v= .pointer (some ⟨P,1,none⟩)
 |6=>v=c
 |7=>v= .pointer (some ⟨g,0,none⟩)
 |8=>(∃x:Int,0<=x/\x<=11/\v= .int .i64 x)/\(∃u,X 4=some u/\∀d,u.ownBlock=some d->d<w.heap.size)
 |9=>(∃x:Int,-3<=x/\x<=8/\v= .int .i64 x)
 |10=>v= .pointer (some ⟨g,0,none⟩)
 |11=>(∃x:Int,0<=x/\x<=1/\v= .int .i64 x)/\(∃u,X 4=some u/\∀d,u.ownBlock=some d->d<w.heap.size)
 |12=>(∃x:Int,1<=x/\x<=2/\v= .int .i64 x)
 |13=>PRat w n0 (fun f=>∃u,X 4=some u/\∀d,u.ownBlock=some d->d<f) v
 |14=>PRow w n0 (fun f=>∃u,X 4=some u/\∀d,u.ownBlock=some d->d<f) v
 |15=>PApp w base n0 (fun f=>∃u,X 4=some u/\∀d,u.ownBlock=some d->d<f) j c (C0 B) v
 |16=>v= .pointer (some ⟨P,0,none⟩)
 |_=>True
def zoi (g P:Nat) (a:b) (n0 base:Nat) (c:Nat->Prop) (C:List Rat) (d:Nat) (v:b) (w:e) (X:Nat->Option b):Prop:=
 match d with
 |0=>v= .pointer (some ⟨P,2,none⟩)
 |1=>v=a
 |2=>v= .pointer (some ⟨g,0,none⟩)
 |3=>(∃x:Int,0<=x/\x<=8/\v= .int .i64 x)
 |4=>(∃x:Int,-4<=x/\x<=4/\v= .int .i64 x)
 |5=>PRat w n0 (fun _=>True) v
 |6=>PRow w n0 (fun _=>True) v
 |7=>PApp w base n0 (fun _=>True) c a (C0 C) v
 |_=>True
theorem yvx {R:Option Addr} {s:Nat} {n0:Nat} {p q:Nat->Prop} {A:List (List Rat)} {B r:List Rat} (j:∀k f,zsc g a c k=some f->f<n0/\(k≠4->a.ownBlock≠some f/\¬p f)/\(k≠15->c.ownBlock≠some f/\¬q f)):
 ∀o k v w w' X u,o≠k->X k=none->zkr g P a c R m s n0 base p q A B r o v w X->w.grownBy w' (zsc g a c k)->zkr g P a c R m s n0 base p q A B r o v w' (W7 X k u):=fun o k v w w' X u d n h l=>match o,d,h with
 |0,d,h=>h
 |1,d,h=>h
 |2,d,h=>h
 |3,d,h=>h.grown l fun f i=>(j k f i).1
 |4,d,h=>⟨h.1.grown IsV.stb l fun f i=>⟨yig h.2 (j k f i).1 ((j k f i).2.1 (Ne.symm d)).1,((j k f i).2.1 (Ne.symm d)).2⟩,h.2⟩
 |5,d,h=>h
 |6,d,h=>h
 |7,d,h=>h
 |8,d,h=>⟨h.1,ybi h.2 n l.size⟩
 |9,d,h=>h
 |10,d,h=>h
 |11,d,h=>⟨h.1,ybi h.2 n l.size⟩
 |12,d,h=>h
 |13,d,h=>h.grown l (fun f i=>(j k f i).1) (fun t h=>zts h n)
 |14,d,h=>h.grown l (fun f i=>(j k f i).1) (fun t h=>zts h n)
 |15,d,h=>h.grown l (fun f i=>(j k f i).1) (fun f i=>(j k f i).2.2 (Ne.symm d)) (fun t h=>zts h n)
 |16,d,h=>h
 |_+17,_,_=>trivial
theorem yvy {i:b} {n0:Nat} {l:Nat->Prop} {C:List Rat} (j:∀k a,zur g i k=some a->a<n0/\(k≠7->i.ownBlock≠some a/\¬l a)):
 ∀f k v w w' X u,f≠k->X k=none->zoi g P i n0 base l C f v w X->w.grownBy w' (zur g i k)->zoi g P i n0 base l C f v w' (W7 X k u):=fun f k v w w' X u c n h m=>match f,c,h with
 |0,c,h=>h
 |1,c,h=>h
 |2,c,h=>h
 |3,c,h=>h
 |4,c,h=>h
 |5,c,h=>h.grown m (fun a d=>(j k a d).1) (fun _ h=>h)
 |6,c,h=>h.grown m (fun a d=>(j k a d).1) (fun _ h=>h)
 |7,c,h=>h.grown m (fun a d=>(j k a d).1) (fun a d=>(j k a d).2 (Ne.symm c)) (fun _ h=>h)
 |_+8,_,_=>trivial
def ylz (base:Nat) (a c h:b) (d g:Nat->Prop) (A:List (List Rat)) (B r:List Rat) (f:Nat) (w:e):Prop:=(f=4->OwnS 1 30 IsV w base d a (F9 A)/\IsV w d h (C0 r))/\(f=15->OwnS 3 37 IsR w base g c (C0 B))
def yma (base:Nat) (d:b) (a:Nat->Prop) (C:List Rat) (c:Nat) (w:e):Prop:=c=7->OwnS 3 37 IsR w base a d (C0 C)
def JD (g P:Nat) (l:List Int) (xs:List b) (r1 r2:Option Nat) (d:e) (w:e):Prop:=IsD w g l/\Row w P 32 xs/\Kept (some g) r1 r2 d w
theorem JD.step {r1 r2:Option Nat} {w w':e} (h:JD g P l xs r1 r2 d w) (c:w.grownBy w' r) (hr:r=none\/r=r1\/r=r2) (hg:∀a,r=some a->g<a/\P≠a):JD g P l xs r1 r2 d w':=
 ⟨h.1.grownN c fun a b=>(hg a b).1,h.2.1.grownN c fun a b=>(hg a b).2,h.2.2.step c (by rcases hr with h|h|h;exact .inl h;exact .inr (.inr (.inl h));exact .inr (.inr (.inr h)))⟩
theorem JD.draw {r1 r2:Option Nat} {w w':e} (h:JD g P l xs r1 r2 d w) (hD:IsD w' g l) (a:Only g w w') (b:P≠g):JD g P l xs r1 r2 d w':=
 ⟨hD,h.2.1.only a b,h.2.2.step a.grown (.inr (.inl rfl))⟩
end Go.Proofs.YtdgilbgdkmhcmaaGreatDoor
