/-
 What the operations hold in the drawn regions of a function c b a program.
-/
import Derived.Test.YtlhhbccgfkhflaaGreatDoorProofSimplexPivots15
namespace Go.Proofs.YtlhhbccgfkhflaaGreatDoor
open Go.RowKit
set_option linter.unusedVariables false
set_option maxRecDepth 100000
set_option maxHeartbeats 8000000
open _root_.Go renaming World → e, Value → b
variable {L M : Nat → Prop} {P base g k m : Nat} {l : List Int} {r : Option Nat} {u v a c : b} {d : e} {xs : List b}
theorem ykh {n0 b:Nat} (h:v.ownBlock=a.ownBlock\/∃b,v.ownBlock=some b/\n0<=b) (f:b<n0) (d:a.ownBlock≠some b):v.ownBlock≠some b:=by
 rcases h with h|⟨e,h,hc⟩
 ·rw[h];exact d
 ·rw[h];intro c;cases c;omega
theorem zui {X:Nat->Option b} {lo:Nat} (h:∃u,X 4=some u/\∀a,u.ownBlock=some a->a<lo) (e:X k=none):∃v,Y9 X k u 4=some v/\∀a,v.ownBlock=some a->a<lo:=by obtain⟨v,c,d⟩:=h;exact⟨v,zrd c e,d⟩
theorem ycf {X:Nat->Option b} {c:Nat} (h:∃u,X 4=some u/\∀a,u.ownBlock=some a->a<m) (f:X k=none) (i:m<=c):∃v,Y9 X k u 4=some v/\∀a,v.ownBlock=some a->a<c:=by obtain⟨v,d,e⟩:=h;exact⟨v,zrd d f,fun a g=>Nat.lt_of_lt_of_le (e a g) i⟩
def PRat (w:e) (n0:Nat) (L:Nat->Prop) (v:b):Prop:=∃q lo a,zpk q/\(n0<=lo/\lo<=a)/\a<=w.heap.size/\L lo/\IsQ w (O7 lo a) v q
def PRow (w:e) (n0:Nat) (L:Nat->Prop) (v:b):Prop:=∃q lo a c,zpk q/\(n0<=lo/\lo<=a)/\a<=w.heap.size/\L lo/\IsQ w (O7 lo a) c q/\NewRow w n0 30 c.cells.toList v
def PApp (w:e) (base n0:Nat) (L:Nat->Prop) (f:Nat->Prop) (c:b) (l:List Raw) (v:b):Prop:=
 ∃q lo d,zpk q/\(n0<=lo/\lo<=d)/\d<=w.heap.size/\L lo/\OwnS 3 30 IsR w base (fun a=>f a\/O7 lo d a) v (l++[C7 q])/\(v.ownBlock=c.ownBlock\/∃a,v.ownBlock=some a/\d<=a/\n0<=a)
theorem PRat.grown {w w':e} {n0:Nat} (h:PRat w n0 L v) (d:w.grownBy w' r) (hr:∀a,r=some a->a<n0) (k:∀lo,L lo->M lo):PRat w' n0 M v:=by obtain⟨q,lo,l,g,b,c,i,j⟩:=h;exact⟨q,lo,l,g,b,Nat.le_trans c d.size,k _ i,j.rngG d c fun a f=>Nat.lt_of_lt_of_le (hr a f) b.1⟩
theorem PRow.grown {w w':e} {n0:Nat} (h:PRow w n0 L v) (c:w.grownBy w' r) (hr:∀a,r=some a->a<n0) (l:∀lo,L lo->M lo):PRow w' n0 M v:=by obtain⟨q,lo,m,b,g,d,f,i,j,k⟩:=h;exact⟨q,lo,m,b,g,d,Nat.le_trans f c.size,l _ i,j.rngG c f fun a b=>Nat.lt_of_lt_of_le (hr a b) d.1,k.grown c hr⟩
theorem PApp.grown {w w':e} {n0:Nat} {i:Nat->Prop} {l:List Raw} (h:PApp w base n0 L i c l v) (k:w.grownBy w' r) (hr:∀f,r=some f->f<n0) (hv:∀f,r=some f->c.ownBlock≠some f/\¬i f) (u:∀lo,L lo->M lo):PApp w' base n0 M i c l v:=by
 obtain⟨q,lo,x,n,o,p,s,t,j⟩:=h;refine⟨q,lo,x,n,o,Nat.le_trans p k.size,u _ s,t.grown IsR.stb k fun f g=>⟨ykh (n0:=n0) (j.imp id fun⟨m,a,_,d⟩=>⟨m,a,d⟩) (hr f g) (hv f g).1,fun h=> ?_⟩,j⟩;rcases h with h|h
 ·exact(hv f g).2 h
 ·have:=hr f g;have:=h.1;omega
def zsr (g:Nat) (a c:b):Nat->Option Nat:=fun k=>match k with|4=>a.ownBlock|8=>some g|11=>some g|15=>c.ownBlock|_=>none
def zvi (g:Nat) (a:b):Nat->Option Nat:=fun k=>match k with|3=>some g|7=>a.ownBlock|_=>none
def zlb (g P:Nat) (a c:b) (R:Option Addr) (m f:Nat) (n0 base:Nat) (h i:Nat->Prop) (A:List (List Rat)) (B r:List Rat) (j:Nat) (v:b) (w:e) (X:Nat->Option b):Prop:=
 match j with
 |0=>v= .pointer (some ⟨P,0,none⟩)
 |1=>v=a
 |2=>v= .slice R m f
 |3=>NewRow w n0 26 [.slice R m f] v
 |4=>(OwnS 1 26 IsV w base h v (G6 A++[C2 r])/\(v.ownBlock=a.ownBlock\/∃d,v.ownBlock=some d/\n0<=d))
 |5=>v= .pointer (some ⟨P,1,none⟩)
 |6=>v=c
 |7=>v= .pointer (some ⟨g,0,none⟩)
 |8=>(∃x:Int,0<=x/\x<=11/\v= .int .i64 x)/\(∃u,X 4=some u/\∀d,u.ownBlock=some d->d<w.heap.size)
 |9=>(∃x:Int,-3<=x/\x<=8/\v= .int .i64 x)
 |10=>v= .pointer (some ⟨g,0,none⟩)
 |11=>(∃x:Int,0<=x/\x<=1/\v= .int .i64 x)/\(∃u,X 4=some u/\∀d,u.ownBlock=some d->d<w.heap.size)
 |12=>(∃x:Int,1<=x/\x<=2/\v= .int .i64 x)
 |13=>PRat w n0 (fun lo=>∃u,X 4=some u/\∀d,u.ownBlock=some d->d<lo) v
 |14=>PRow w n0 (fun lo=>∃u,X 4=some u/\∀d,u.ownBlock=some d->d<lo) v
 |15=>PApp w base n0 (fun lo=>∃u,X 4=some u/\∀d,u.ownBlock=some d->d<lo) i c (C2 B) v
 |16=>v= .pointer (some ⟨P,0,none⟩)
 |_=>True
def zpj (g P:Nat) (a:b) (n0 base:Nat) (c:Nat->Prop) (C:List Rat) (d:Nat) (v:b) (w:e) (X:Nat->Option b):Prop:=
 match d with
 |0=>v= .pointer (some ⟨P,2,none⟩)
 |1=>v=a
 |2=>v= .pointer (some ⟨g,0,none⟩)
 |3=>(∃x:Int,0<=x/\x<=8/\v= .int .i64 x)
 |4=>(∃x:Int,-4<=x/\x<=4/\v= .int .i64 x)
 |5=>PRat w n0 (fun _=>True) v
 |6=>PRow w n0 (fun _=>True) v
 |7=>PApp w base n0 (fun _=>True) c a (C2 C) v
 |_=>True
theorem yym {R:Option Addr} {s:Nat} {n0:Nat} {p q:Nat->Prop} {A:List (List Rat)} {B r:List Rat} (j:∀k f,zsr g a c k=some f->f<n0/\(k≠4->a.ownBlock≠some f/\¬p f)/\(k≠15->c.ownBlock≠some f/\¬q f)):
 ∀o k v w w' X u,o≠k->X k=none->zlb g P a c R m s n0 base p q A B r o v w X->w.grownBy w' (zsr g a c k)->zlb g P a c R m s n0 base p q A B r o v w' (Y9 X k u):=fun o k v w w' X u d n h l=>match o,d,h with
 |0,d,h=>h
 |1,d,h=>h
 |2,d,h=>h
 |3,d,h=>h.grown l fun f i=>(j k f i).1
 |4,d,h=>⟨h.1.grown IsV.stb l fun f i=>⟨ykh h.2 (j k f i).1 ((j k f i).2.1 (Ne.symm d)).1,((j k f i).2.1 (Ne.symm d)).2⟩,h.2⟩
 |5,d,h=>h
 |6,d,h=>h
 |7,d,h=>h
 |8,d,h=>⟨h.1,ycf h.2 n l.size⟩
 |9,d,h=>h
 |10,d,h=>h
 |11,d,h=>⟨h.1,ycf h.2 n l.size⟩
 |12,d,h=>h
 |13,d,h=>h.grown l (fun f i=>(j k f i).1) (fun lo h=>zui h n)
 |14,d,h=>h.grown l (fun f i=>(j k f i).1) (fun lo h=>zui h n)
 |15,d,h=>h.grown l (fun f i=>(j k f i).1) (fun f i=>(j k f i).2.2 (Ne.symm d)) (fun lo h=>zui h n)
 |16,d,h=>h
 |_+17,_,_=>trivial
theorem yyn {i:b} {n0:Nat} {l:Nat->Prop} {C:List Rat} (j:∀k a,zvi g i k=some a->a<n0/\(k≠7->i.ownBlock≠some a/\¬l a)):
 ∀f k v w w' X u,f≠k->X k=none->zpj g P i n0 base l C f v w X->w.grownBy w' (zvi g i k)->zpj g P i n0 base l C f v w' (Y9 X k u):=fun f k v w w' X u c n h m=>match f,c,h with
 |0,c,h=>h
 |1,c,h=>h
 |2,c,h=>h
 |3,c,h=>h
 |4,c,h=>h
 |5,c,h=>h.grown m (fun a d=>(j k a d).1) (fun _ h=>h)
 |6,c,h=>h.grown m (fun a d=>(j k a d).1) (fun _ h=>h)
 |7,c,h=>h.grown m (fun a d=>(j k a d).1) (fun a d=>(j k a d).2 (Ne.symm c)) (fun _ h=>h)
 |_+8,_,_=>trivial
def yoq (base:Nat) (a c h:b) (d g:Nat->Prop) (A:List (List Rat)) (B r:List Rat) (f:Nat) (w:e):Prop:=(f=4->OwnS 1 26 IsV w base d a (G6 A)/\IsV w d h (C2 r))/\(f=15->OwnS 3 30 IsR w base g c (C2 B))
def yor (base:Nat) (d:b) (a:Nat->Prop) (C:List Rat) (c:Nat) (w:e):Prop:=c=7->OwnS 3 30 IsR w base a d (C2 C)
def JD (g P:Nat) (l:List Int) (xs:List b) (r1 r2:Option Nat) (d:e) (w:e):Prop:=IsD w g l/\Row w P 54 xs/\Kept (some g) r1 r2 d w
theorem JD.step {r1 r2:Option Nat} {w w':e} (h:JD g P l xs r1 r2 d w) (c:w.grownBy w' r) (hr:r=none\/r=r1\/r=r2) (hg:∀a,r=some a->g<a/\P≠a):JD g P l xs r1 r2 d w':=
 ⟨h.1.grownN c fun a b=>(hg a b).1,h.2.1.grownN c fun a b=>(hg a b).2,h.2.2.step c (by rcases hr with h|h|h;exact .inl h;exact .inr (.inr (.inl h));exact .inr (.inr (.inr h)))⟩
theorem JD.draw {r1 r2:Option Nat} {w w':e} (h:JD g P l xs r1 r2 d w) (hD:IsD w' g l) (a:Only g w w') (b:P≠g):JD g P l xs r1 r2 d w':=
 ⟨hD,h.2.1.only a b,h.2.2.step a.grown (.inr (.inl rfl))⟩
end Go.Proofs.YtlhhbccgfkhflaaGreatDoor
