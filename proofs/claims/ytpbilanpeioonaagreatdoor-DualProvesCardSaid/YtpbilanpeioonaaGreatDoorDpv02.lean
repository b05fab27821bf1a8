/-
 Plain facts on rational numbers as a sign,a list of c b and one below f e;no program in d.
-/
import Derived.Test.YtpbilanpeioonaaGreatDoorDpv01
import Derived.Test.YtpbilanpeioonaaGreatDoorChecked
import Derived.Lib.TrailingZeros
import Derived.Laws.Bits64b
import Derived.Deep.RegionHeld3
namespace Go.Proofs.YtpbilanpeioonaaGreatDoor
set_option linter.unusedVariables false
open Go.RowKit
set_option maxRecDepth 100000
set_option maxHeartbeats 8000000
open _root_.Nat renaming le_refl → B, le_trans → E, lt_of_lt_of_le → H
open _root_.Go.World renaming cell?_setCell_other → I, block_lt_of_cell? → K
open _root_.Go.RowKit.Below renaming refl → F
open _root_.Int renaming natAbs_mul → J
open _root_.Go renaming World → f, Value → r, TypeId → A
open _root_.Go.RowKit renaming Below → u, Hid → s
variable {S T : Nat → Prop} {b base bytes c g hi k l lo m : Nat} {es xs : List r} {i j : Int} {p : Rat} {v C D : r} {y : f}
def sg (neg:Bool) (n:Nat):Int:=if neg then -(n:Int) else n
theorem ynx (n:Nat):sg false n=n:=rfl
theorem yoa (n:Nat):sg true n= -(n:Int):=rfl
theorem yaw (neg:Bool) (n:Nat):(sg neg n).natAbs=n:=by cases neg<;>simp[sg]
theorem zyb (neg:Bool):sg neg 0=0:=by cases neg<;>simp[sg]
theorem yny {neg:Bool} {n:Nat} (h:n≠0):decide (sg neg n<0)=neg:=by cases neg<;>simp[sg]<;>omega
theorem zya (i:Int):sg (decide (i<0)) i.natAbs=i:=by unfold sg;by_cases h:i<0<;>simp[h]<;>omega
theorem ynz (neg:Bool) (n:Nat):sg (!neg) n= -sg neg n:=by cases neg<;>simp[sg]
theorem yav (a b:Bool) (m n:Nat):sg (a !=b) (m*n)=sg a m*sg b n:=by cases a<;>cases b<;>simp[sg,Int.neg_mul,Int.mul_neg]
theorem zxz (a:Bool) (m n:Nat):sg a (m*n)=sg a m*n:=by cases a<;>simp[sg,Int.neg_mul]
theorem yfe (a:Bool) (m n:Nat):sg a (m+n)=sg a m+sg a n:=by cases a<;>simp[sg]<;>omega
theorem yff {a:Bool} {n:Nat} (h:n<=m):sg a (m-n)=sg a m+sg (!a) n:=by cases a<;>simp[sg]<;>omega
theorem sg_sub' {a:Bool} {n:Nat} (h:n<=m):sg a (m-n)=sg (!a) n+sg a m:=by cases a<;>simp[sg]<;>omega
structure Raw where
 neg:Bool
 num:List Nat
 den:List Nat
deriving DecidableEq
def E9 (q:Rat):Raw:=⟨decide (q.num<0),A9 q.num.natAbs,A9 q.den⟩
theorem zti {q:Rat} (h:E9 p=E9 q):p=q:=by unfold E9 at h;injection h with b c a;have c:=ydz c;have a:=ydz a;apply Rat.ext _ a;have b:=decide_eq_decide.1 b;omega
theorem yyr {neg:Bool} {n d:Nat} (hd:d≠0) (a:Nat.gcd n d=1):(mkRat (sg neg n) d).num=sg neg n/\(mkRat (sg neg n) d).den=d:=by have h:=Rat.mk_eq_mkRat (sg neg n) d hd (by rw[yaw];exact a);rw[<-h];exact⟨rfl,rfl⟩
theorem yap {neg:Bool} {n d:Nat} (hd:d≠0) (c:Nat.gcd n d=1) (e:n=0->neg=false):E9 (mkRat (sg neg n) d)=⟨neg,A9 n,A9 d⟩:=by
 obtain⟨a,b⟩:=yyr (neg:=neg) hd c;unfold E9;rw[a,b,yaw];congr 1;by_cases h:n=0
 ·rw[e h,h];rfl
 ·exact yny h
theorem yaq:E9 0=⟨false,[],[1]⟩:=by unfold E9;rw[show(0:Rat).num=0 from rfl,show(0:Rat).den=1 from rfl,show(0:Int).natAbs=0 from rfl,O7,zvq (n:=1) og og];rfl
theorem zkv:A9 1=[1]:=zvq og og
theorem yli {d:Nat} (a:k≠0):mkRat (i*k) (d*k)=mkRat i d:=Rat.mkRat_mul_right a
theorem yee {neg:Bool} {n d:Nat} (hd:d≠0) (b:g∣n) (a:g∣d):mkRat (sg neg n) d=mkRat (sg neg (n/g)) (d/g):=by have c:g≠0:=(by rintro rfl;exact hd (Nat.eq_zero_of_zero_dvd a));rw[<-yli (i:=sg neg (n/g)) (d:=d/g) c,<-zxz,Nat.div_mul_cancel b,Nat.div_mul_cancel a]
theorem yda {n d:Nat} (hd:d≠0):Nat.gcd (n/Nat.gcd n d) (d/Nat.gcd n d)=1:=
 Nat.gcd_div_gcd_div_gcd_of_pos_right og
theorem zxr {neg:Bool} {n d:Nat} (b:n≠0) (hd:d≠0):E9 (mkRat (sg neg n) d)=⟨neg,A9 (n/Nat.gcd n d),A9 (d/Nat.gcd n d)⟩:=by
 have a:0<Nat.gcd n d:=Nat.gcd_pos_of_pos_right _ og;rw[yee hd (Nat.gcd_dvd_left n d) (Nat.gcd_dvd_right n d)];refine yap ?_ (yda hd) ?_
 ·have:=Nat.div_pos (Nat.le_of_dvd og (Nat.gcd_dvd_right n d)) a;omega
 ·intro h;have:=Nat.div_pos (Nat.le_of_dvd og (Nat.gcd_dvd_left n d)) a;omega
theorem den_pos (q:Rat):0<q.den:=Nat.pos_of_ne_zero q.den_nz
theorem cop (q:Rat):Nat.gcd q.num.natAbs q.den=1:=q.reduced
theorem zol {q:Rat} (h:q≠0):q.num.natAbs≠0:=fun e=>h (Rat.num_eq_zero.1 og)
theorem ylv {q:Rat}:q.num.natAbs=0↔q=0:=⟨fun h=>Rat.num_eq_zero.1 og,fun h=>by subst h;rfl⟩
theorem zz1408 {q:Rat}:(E9 q).num=[]↔q=0:=by unfold E9;rw[<-ylv,<-lim_nil_iff];exact List.length_eq_zero_iff.symm
theorem yna {q:Rat}:(E9 q).neg=decide (q<0):=by unfold E9;simp only[decide_eq_decide];rw[Rat.lt_iff];simp
theorem yab (q:Rat):decide (q.num<0)=decide (q<0):=yna (q:=q)
def Sz (q:Rat) (k:Nat):Prop:=(A9 q.num.natAbs).length<=k/\(A9 q.den).length<=k
theorem Sz.le {q:Rat} (h:Sz q k) (a:k<=l):Sz q l:=⟨E h.1 a,E h.2 a⟩
theorem yfn {d:Nat} (hd:d≠0) (a:(A9 i.natAbs).length<=k) (b:(A9 d).length<=k):Sz (mkRat i d) k:=by unfold Sz;rw[Rat.num_mkRat,Rat.den_mkRat,if_neg hd,if_neg hd];refine⟨E (Y5 ?_) a,E (Y5 (Nat.div_le_self _ _)) b⟩;rw[Int.natAbs_ediv_of_dvd (Int.dvd_natAbs.1 (Int.natCast_dvd_natCast.2 (Nat.gcd_dvd_right d i.natAbs))),Int.natAbs_natCast];exact Nat.div_le_self _ _
theorem Sz.zero:Sz 0 1:=⟨by rw[show(0:Rat).num.natAbs=0 from rfl,O7];decide,by rw[show(0:Rat).den=1 from rfl,zkv];decide⟩
theorem Sz.neg {q:Rat} (h:Sz q k):Sz (-q) k:=by unfold Sz at*;rw[Rat.neg_num,Rat.neg_den,Int.natAbs_neg];exact h
theorem Sz.mul {q:Rat} (a:Sz p k) (b:Sz q l):Sz (p*q) (k+l):=by
 rw[Rat.mul_def'];refine yfn (Nat.mul_ne_zero p.den_nz q.den_nz) ?_ ?_
 ·rw[J];exact zoc a.1 b.1
 ·exact zoc a.2 b.2
theorem Sz.add {q:Rat} (a:Sz p k) (b:Sz q l):Sz (p+q) (k+l+1):=by rw[Rat.add_def'];refine yfn (Nat.mul_ne_zero p.den_nz q.den_nz) ?_ (E (zoc a.2 b.2) og);refine E (Y5 (Int.natAbs_add_le _ _)) ?_;rw[J,J,Int.natAbs_natCast,Int.natAbs_natCast];refine yfm (zoc a.1 b.2) ?_;rw[Nat.add_comm k l];exact zoc b.1 a.2
theorem yif {a:Nat} (h:Nat.gcd a (b*c)=1):Nat.gcd a b=1:=Nat.Coprime.coprime_dvd_right (Nat.dvd_mul_right b c) h
theorem zz1382 {a:Nat} (ha:a≠0) (e:Nat.gcd i.natAbs a=1) (f:Nat.gcd j.natAbs b=1):
 Nat.gcd (i*((b/Nat.gcd a b:Nat):Int)+j*((a/Nat.gcd a b:Nat):Int)).natAbs (a/Nat.gcd a b)=1/\Nat.gcd (i*((b/Nat.gcd a b:Nat):Int)+j*((a/Nat.gcd a b:Nat):Int)).natAbs (b/Nat.gcd a b)=1:=by
 have l:0<Nat.gcd a b:=Nat.gcd_pos_of_pos_left _ og;have hc:Nat.gcd (a/Nat.gcd a b) (b/Nat.gcd a b)=1:=Nat.gcd_div_gcd_div_gcd_of_pos_left og;have ea:a=a/Nat.gcd a b*Nat.gcd a b:=(Nat.div_mul_cancel (Nat.gcd_dvd_left a b)).symm;have eb:b=b/Nat.gcd a b*Nat.gcd a b:=(Nat.div_mul_cancel (Nat.gcd_dvd_right a b)).symm;generalize a/Nat.gcd a b=c at*;generalize b/Nat.gcd a b=d at*;have g:Nat.gcd i.natAbs c=1:=(by rw[ea] at e;exact yif e);have k:Nat.gcd j.natAbs d=1:=(by rw[eb] at f;exact yif f);constructor
 ·have h:Int.gcd (i*(d:Int)+j*(c:Int)) (c:Int)=1:=(by rw[Int.gcd_add_mul_right_left];rw[Int.gcd,J,Int.natAbs_natCast,Int.natAbs_natCast];exact Nat.Coprime.mul_left g (by rw[Nat.coprime_comm];exact hc));simpa[Int.gcd] using h
 ·have h:Int.gcd (i*(d:Int)+j*(c:Int)) (d:Int)=1:=(by rw[Int.add_comm,Int.gcd_add_mul_right_left];rw[Int.gcd,J,Int.natAbs_natCast,Int.natAbs_natCast];exact Nat.Coprime.mul_left k hc);simpa[Int.gcd] using h
theorem zrw {d:Nat} (h:g∣d) (hd:d≠0):g≠0/\d/g≠0:=by have a:g≠0:=(by rintro rfl;exact hd (Nat.eq_zero_of_zero_dvd h));have:=Nat.div_pos (Nat.le_of_dvd og h) og;exact⟨a,by omega⟩
theorem yot {a:Nat} (ha:a≠0) (c:b≠0):
 mkRat i a+mkRat j b=mkRat (i*((b/Nat.gcd a b:Nat):Int)+j*((a/Nat.gcd a b:Nat):Int)) (a/Nat.gcd a b*b):=by
 have d:=zrw (Nat.gcd_dvd_left a b) ha;have e:Nat.gcd a b≠0:=d.1;have ea:a=a/Nat.gcd a b*Nat.gcd a b:=(Nat.div_mul_cancel (Nat.gcd_dvd_left a b)).symm;have eb:b=b/Nat.gcd a b*Nat.gcd a b:=(Nat.div_mul_cancel (Nat.gcd_dvd_right a b)).symm;rw[Rat.mkRat_add_mkRat _ _ ha c,<-yli (i:=i*((b/Nat.gcd a b:Nat):Int)+j*((a/Nat.gcd a b:Nat):Int)) (d:=a/Nat.gcd a b*b) e];generalize a/Nat.gcd a b=f at*;generalize b/Nat.gcd a b=h at*;generalize Nat.gcd a b=g at*;subst ea;subst eb;congr 1
 ·push_cast;grind
 ·grind
theorem zz1409 {a n:Nat} {neg:Bool} (ha:a≠0) (c:b≠0) (s:Nat.gcd i.natAbs a=1) (t:Nat.gcd j.natAbs b=1)
 (k:sg neg n=i*((b/Nat.gcd a b:Nat):Int)+j*((a/Nat.gcd a b:Nat):Int)) (r:n≠0):
 E9 (mkRat i a+mkRat j b)=⟨neg,A9 (n/Nat.gcd n (Nat.gcd a b)),A9 (a/Nat.gcd a b*(b/Nat.gcd n (Nat.gcd a b)))⟩:=by have f:=zrw (Nat.gcd_dvd_left a b) ha;have x:=zrw (Nat.gcd_dvd_right a b) c;obtain⟨m,o⟩:=zz1382 (i:=i) (j:=j) (b:=b) ha s t;rw[<-k,yaw] at m o;rw[yot ha c,<-k];have eb:b=b/Nat.gcd a b*Nat.gcd a b:=(Nat.div_mul_cancel (Nat.gcd_dvd_right a b)).symm;generalize a/Nat.gcd a b=v at*;generalize w:b/Nat.gcd a b=p at*;generalize Nat.gcd a b=g at*;have d:Nat.gcd n g∣n:=Nat.gcd_dvd_left n g;have C7:Nat.gcd n g∣g:=Nat.gcd_dvd_right n g;have e:Nat.gcd n g∣b:=(by rw[eb];exact Nat.dvd_trans C7 (Nat.dvd_mul_left _ _));have hc:=zrw d r;have u:=zrw e c;rw[yee (g:=Nat.gcd n g) (Nat.mul_ne_zero f.2 c) d (Nat.dvd_trans e (Nat.dvd_mul_left _ _)),Nat.mul_div_assoc _ e];refine yap (Nat.mul_ne_zero f.2 u.2) ?_ (fun h=>absurd h hc.2);have q:b/Nat.gcd n g=p*(g/Nat.gcd n g):=(by rw[<-Nat.mul_div_assoc _ C7,<-eb]);have l:n/Nat.gcd n g∣n:=⟨Nat.gcd n g,(Nat.div_mul_cancel d).symm⟩;rw[q];refine Nat.Coprime.mul_right (Nat.Coprime.coprime_dvd_left l m) (Nat.Coprime.mul_right (Nat.Coprime.coprime_dvd_left l o) ?_);exact Nat.gcd_div_gcd_div_gcd_of_pos_left og
theorem zz1387 {a:Nat} (ha:a≠0) (c:b≠0) (d:i*((b/Nat.gcd a b:Nat):Int)+j*((a/Nat.gcd a b:Nat):Int)=0):mkRat i a+mkRat j b=0:=by rw[yot ha c,d,Rat.zero_mkRat]
theorem zz1410 {p q:Bool} {x y a:Nat} (ha:a≠0) (g:b≠0) (o:x≠0) (r:y≠0) (m:Nat.gcd x a=1) (n:Nat.gcd y b=1):
 E9 (mkRat (sg p x) a*mkRat (sg q y) b)=⟨p !=q,A9 (x/Nat.gcd x b*(y/Nat.gcd y a)),A9 (a/Nat.gcd y a*(b/Nat.gcd x b))⟩:=by
 have c:Nat.gcd x b∣x:=Nat.gcd_dvd_left _ _;have d:Nat.gcd x b∣b:=Nat.gcd_dvd_right _ _;have e:Nat.gcd y a∣y:=Nat.gcd_dvd_left _ _;have f:Nat.gcd y a∣a:=Nat.gcd_dvd_right _ _;have s:=zrw c o;have t:=zrw d g;have u:=zrw e r;have v:=zrw f ha;rw[Rat.mkRat_mul_mkRat,<-yav,yee (g:=Nat.gcd x b*Nat.gcd y a) (Nat.mul_ne_zero ha g) (Nat.mul_dvd_mul c e) (by rw[Nat.mul_comm (Nat.gcd x b)];exact Nat.mul_dvd_mul f d)];have i:Nat.gcd (x/Nat.gcd x b) (b/Nat.gcd x b)=1:=yda g;have j:Nat.gcd (y/Nat.gcd y a) (a/Nat.gcd y a)=1:=yda ha;have k:x*y/(Nat.gcd x b*Nat.gcd y a)=x/Nat.gcd x b*(y/Nat.gcd y a):=Nat.mul_div_mul_comm c e;have l:a*b/(Nat.gcd x b*Nat.gcd y a)=a/Nat.gcd y a*(b/Nat.gcd x b):=(by rw[Nat.mul_comm (Nat.gcd x b)];exact Nat.mul_div_mul_comm f d);rw[k,l];have w:x/Nat.gcd x b∣x:=⟨_,(Nat.div_mul_cancel c).symm⟩;have z:b/Nat.gcd x b∣b:=⟨_,(Nat.div_mul_cancel d).symm⟩;have q3:y/Nat.gcd y a∣y:=⟨_,(Nat.div_mul_cancel e).symm⟩;have A:a/Nat.gcd y a∣a:=⟨_,(Nat.div_mul_cancel f).symm⟩;refine yap (Nat.mul_ne_zero v.2 t.2) ?_ (fun h=>absurd h (Nat.mul_ne_zero s.2 u.2));refine Nat.Coprime.mul_left (Nat.Coprime.mul_right ?_ i) (Nat.Coprime.mul_right j ?_)
 ·exact Nat.Coprime.coprime_dvd_left w (Nat.Coprime.coprime_dvd_right A m)
 ·exact Nat.Coprime.coprime_dvd_left q3 (Nat.Coprime.coprime_dvd_right z n)
theorem zz1407 (q:Rat):E9 (-q)=⟨!(E9 q).neg&&decide (q≠0),(E9 q).num,(E9 q).den⟩:=by
 unfold E9;rw[Rat.neg_num,Rat.neg_den,Int.natAbs_neg];congr 1;by_cases h:q=0
 ·subst h;rfl
 ·have:=zol h;by_cases a:q.num<0
  ·simp[h,a];omega
  ·simp[h,a];omega
def ztz (N2:List Nat->Int) (a:Raw):Int:=
 if N2 a.num≠0 then N2 a.num else if N2 a.den≠0 then N2 a.den else if a.den=[] then 6 else if(a.num=[]/\a.neg=true)\/Nat.gcd (val a.num) (val a.den)≠1 then 3 else 0
theorem ysj {N2:List Nat->Int} (d:∀l,N2 l=0->l=A9 (val l)) {a:Raw} (h:ztz N2 a=0):∃q:Rat,a=E9 q:=by
 unfold ztz at h;split at h
 ·rename_i b;exact absurd h b
 rename_i b;split at h
 ·rename_i c;exact absurd h c
 rename_i c;split at h
 ·cases h
 rename_i i;split at h
 ·cases h
 rename_i f;have b:=Decidable.not_not.1 b;have c:=Decidable.not_not.1 c;obtain⟨f,g⟩:=not_or.1 f;have g:=Decidable.not_not.1 g;have hd:val a.den≠0:=fun e=>i (by rw[d _ c,e,O7]);refine⟨mkRat (sg a.neg (val a.num)) (val a.den),?_⟩;rw[yap hd g,<-d _ b,<-d _ c];intro e;have:a.num=[]:=(by rw[d _ b,e,O7]);cases hr:a.neg with
 |false=>rfl
 |true=>exact absurd ⟨this,hr⟩ f
theorem ysk {N2:List Nat->Int} {q:Rat} (b:N2 (E9 q).num=0) (c:N2 (E9 q).den=0):ztz N2 (E9 q)=0:=by
 unfold ztz;rw[if_neg (by simp[b]),if_neg (by simp[c])];have hd:(E9 q).den≠[]:=(by unfold E9;intro e;have:=lim_nil_iff.1 (List.length_eq_zero_iff.2 e);exact q.den_nz this);rw[if_neg hd,if_neg];rintro(⟨h,a⟩|h)
 ·rw[zz1408] at h;subst h;rw[yaq] at a;cases a
 ·unfold E9 at h;simp only[T7] at h;exact h (cop q)
def L8 (S T:Nat->Prop) (w w':f):Prop:=∀b,S b->T b/\∀o,w'.cell? ⟨b,o,none⟩=w.cell? ⟨b,o,none⟩
def Stb {a:Type} (R:f->(Nat->Prop)->r->a->Prop):Prop:=∀(w w':f) (S T:Nat->Prop) (v:r) (x:a),R w S v x->L8 S T w w'->R w' T v x
theorem Stb.to {a:Type} {R:f->(Nat->Prop)->r->a->Prop} (b:Stb R) {w w':f} {x:a} (h:R w S v x) (c:L8 S T w w'):R w' T v x:=b w w' S T v x h c
def SVS (w:f) (S:Nat->Prop) (A:Option Addr) (xs:List r):Prop:=
 xs≠[]->∃b off,A=some ⟨b,off,none⟩/\S b/\∀j v,xs[j]? =some v->w.cell? ⟨b,off+j,none⟩=some v
theorem SVS.same {w w':f} {A:Option Addr} (h:SVS w S A xs) (c:L8 S T w w'):SVS w' T A xs:=fun e=>by
 obtain⟨b,off,d,a,hc⟩:=h e
 exact⟨b,off,d,(c b a).1,fun j v hv=>((c b a).2 _).trans (hc j v hv)⟩
theorem SVS.nil {w:f} {A:Option Addr}:SVS w S A []:=fun h=>absurd rfl h
def All2 {c d:Type} (R:c->d->Prop) (a:List c) (b:List d):Prop:=a.length=b.length/\∀(j:Nat) (x:c) (y:d),a[j]? =some x->b[j]? =some y->R x y
theorem All2.nil {a b:Type} {R:a->b->Prop}:All2 R [] []:=⟨rfl,fun j x y h=>by simp at h⟩
theorem All2.snoc {e f:Type} {R:e->f->Prop} {a:List e} {b:List f} {x:e} {y:f} (h:All2 R a b) (hr:R x y):All2 R (a++[x]) (b++[y]):=by
 refine⟨by simp[h.1],fun j k v c hv=> ?_⟩;rw[List.getElem?_append] at c hv;by_cases d:j<a.length
 ·rw[if_pos d] at c;rw[if_pos (by rw[<-h.1];exact d)] at hv;exact h.2 j k v c hv
 ·rw[if_neg d] at c;rw[if_neg (by rw[<-h.1];exact d)] at hv
  have g:j-a.length=0:=by
   rcases Nat.eq_zero_or_pos (j-a.length) with i|i
   ·exact i
   ·rw[List.getElem?_eq_none (by simp;omega)] at c;cases c
  rw[g] at c;rw[<-h.1,g] at hv;simp at c hv;rw[<-c,<-hv];exact hr
theorem All2.imp {c d:Type} {R Q:c->d->Prop} {a:List c} {b:List d} (h:All2 R a b) (hr:∀x y,R x y->Q x y):All2 Q a b:=⟨h.1,fun j x y e f=>hr x y (h.2 j x y e f)⟩
theorem All2.get {f c:Type} {R:f->c->Prop} {a:List f} {b:List c} (h:All2 R a b) {j:Nat} {y:c} (e:b[j]? =some y):∃x,a[j]? =some x/\R x y:=by have g:j<b.length:=(List.getElem?_eq_some_iff.1 e).1;have d:j<a.length:=(by rw[h.1];exact g);exact⟨a[j],List.getElem?_eq_getElem d,h.2 j _ _ (List.getElem?_eq_getElem d) e⟩
theorem All2.take {e f:Type} {R:e->f->Prop} {a:List e} {b:List f} (h:All2 R a b) (n:Nat):All2 R (a.take n) (b.take n):=by
 refine⟨by simp[h.1],fun j x y c d=> ?_⟩;rw[List.getElem?_take] at c d;split at c
 ·rename_i g;rw[if_pos g] at d;exact h.2 j x y c d
 ·cases c
theorem All2.drop {e f:Type} {R:e->f->Prop} {a:List e} {b:List f} (h:All2 R a b) (n:Nat):All2 R (a.drop n) (b.drop n):=by refine⟨by simp[h.1],fun j x y c d=> ?_⟩;rw[List.getElem?_drop] at c d;exact h.2 _ x y c d
theorem All2.set {d e:Type} {R:d->e->Prop} {a:List d} {b:List e} {x:d} {y:e} (h:All2 R a b) (hr:R x y) (n:Nat):All2 R (a.set n x) (b.set n y):=by
 refine⟨by simp[h.1],fun j g v c hv=> ?_⟩;rw[List.getElem?_set] at c hv;by_cases f:n=j
 ·rw[if_pos f] at c hv;split at c
  ·split at hv
   ·cases c;cases hv;exact hr
   ·cases hv
  ·cases c
 ·rw[if_neg f] at c hv;exact h.2 j g v c hv
def cellsOf (es:List r):List r:=es.flatMap fun v=>v.cells.toList
theorem yhj (a b:List r):cellsOf (a++b)=cellsOf a++cellsOf b:=by simp[cellsOf]
theorem yry (v:r):cellsOf [v]=v.cells.toList:=by simp[cellsOf]
def Wid (n:Nat) (es:List r):Prop:=∀v∈es,v.cells.size=n
theorem Wid.nil {n:Nat}:Wid n []:=by intro v hv;cases hv
theorem Wid.snoc {n:Nat} (h:Wid n es) (hv:v.cells.size=n):Wid n (es++[v]):=by
 intro c b;rcases List.mem_append.1 b with a|a
 ·exact h c a
 ·simp at a;subst a;exact hv
theorem Wid.cons {n:Nat} (h:Wid n (v::es)):v.cells.size=n/\Wid n es:=⟨h v (by simp),fun b a=>h b (by simp[a])⟩
theorem Wid.take {n:Nat} (h:Wid n es) (k:Nat):Wid n (es.take k):=fun v hv=>h v (List.mem_of_mem_take hv)
theorem Wid.drop {n:Nat} (h:Wid n es) (k:Nat):Wid n (es.drop k):=fun v hv=>h v (List.mem_of_mem_drop hv)
theorem ztv {n:Nat} (h:Wid n es):(cellsOf es).length=es.length*n:=by
 induction es with
 |nil=>simp[cellsOf]
 |cons v es ih=>obtain⟨a,b⟩:=h.cons;have:=ih b;simp only[cellsOf,List.flatMap_cons,List.length_append,Array.length_toList,a] at this⊢;rw[this,List.length_cons,Nat.add_mul];omega
theorem zof {n:Nat} (h:Wid n es) {j i:Nat} {e u:r} (a:es[j]? =some e) (b:e.cells[i]? =some u):(cellsOf es)[j*n+i]? =some u:=by
 induction es generalizing j with
 |nil=>simp at a
 |cons v es ih=>
  obtain⟨d,f⟩:=h.cons;have c:cellsOf (v::es)=v.cells.toList++cellsOf es:=(by simp[cellsOf]);rw[c,List.getElem?_append,Array.length_toList,d];cases j with
  |zero=>simp at a;subst a;have hi:i<v.cells.size:=(Array.getElem?_eq_some_iff.1 b).1;rw[if_pos og];simpa using b
  |succ j=>rw[if_neg (by rw[Nat.add_mul];omega),show(j+1)*n+i-n=j*n+i by rw[Nat.add_mul];omega];exact ih f (by simpa using a)
def IsS {a:Type} (n:Nat) (R:f->(Nat->Prop)->r->a->Prop) (w:f) (S:Nat->Prop) (v:r) (l:List a):Prop:=
 ∃A c es,v= .slice A l.length c/\l.length<=c/\c<=maxLen/\SVS w S A (cellsOf es)/\Wid n es/\All2 (R w S) es l
theorem IsS.stb {k:Type} {n:Nat} {R:f->(Nat->Prop)->r->k->Prop} (j:Stb R):Stb (IsS n R):=by rintro w w' S T v l ⟨A,c,es,hv,b,d,e,g,i⟩ a;exact⟨A,c,es,hv,b,d,e.same a,g,i.imp fun x y h=>j.to h a⟩
theorem IsS.nil {a:Type} {n:Nat} {R:f->(Nat->Prop)->r->a->Prop} {w:f}:IsS n R w S (.slice none 0 0) ([]:List a):=
 ⟨none,0,[],rfl,B _,by unfold maxLen;omega,SVS.nil,Wid.nil,All2.nil⟩
theorem IsS.get {k:Type} {n:Nat} {R:f->(Nat->Prop)->r->k->Prop} {w:f} {A:Option Addr} {l:List k} (h:IsS n R w S (.slice A m c) l) (y:0<n) {j:Nat} {x:k} (v:l[j]? =some x):
 ∃b off e,A=some ⟨b,off,none⟩/\S b/\R w S e x/\e.cells.size=n/\∀i a,e.cells[i]? =some a->w.cell? ⟨b,off+(j*n+i),none⟩=some a:=by obtain⟨D,E,es,hv,F,G,q,d,s⟩:=h;simp only[Value.slice.injEq] at hv;obtain⟨rfl,rfl,rfl⟩:=hv;obtain⟨e,g,hr⟩:=s.get v;have B:=d e (List.mem_of_getElem? g);have z:cellsOf es≠[]:=(by intro p;have o:=ztv d;rw[p] at o;have:j<es.length:=(List.getElem?_eq_some_iff.1 g).1;have:=Nat.mul_pos (by omega:0<es.length) y;simp at o;omega);obtain⟨b,off,t,u,hc⟩:=q z;exact⟨b,off,e,t,u,hr,B,fun i a C=>hc _ a (zof d g C)⟩
def IsK (k:IntKind) (w:f) (S:Nat->Prop) (v:r) (l:List Nat):Prop:=
 ∃A c,v= .slice A l.length c/\l.length<=c/\c<=maxLen/\SVS w S A (E7 k l)
theorem IsK.stb {k:IntKind}:Stb (IsK k):=by rintro w w' S T v l ⟨A,c,hv,a,b,d⟩ e;exact⟨A,c,hv,a,b,d.same e⟩
theorem IsK.isL {k:IntKind} {w:f} {l:List Nat} (h:IsK k w S v l) (a:∀b,S b->lo<=b/\b<hi):IsL k w lo hi v l:=by obtain⟨A,c,hv,e,g,i⟩:=h;refine⟨A,c,hv,e,g,fun m=> ?_⟩;obtain⟨b,off,j,d,hc⟩:=i m;exact⟨b,off,j,(a b d).1,(a b d).2,hc⟩
theorem IsL.isK {k:IntKind} {w:f} {l:List Nat} (h:IsL k w lo hi v l) (i:∀b,lo<=b->b<hi->S b):IsK k w S v l:=by obtain⟨A,c,hv,a,d,e⟩:=h;refine⟨A,c,hv,a,d,fun n=> ?_⟩;obtain⟨b,off,g,j,m,hc⟩:=e n;exact⟨b,off,g,i b j m,hc⟩
def IsR (w:f) (S:Nat->Prop) (v:r) (a:Raw):Prop:=
 ∃A c B d,v= .agg #[.bool a.neg,.slice A a.num.length c,.slice B a.den.length d]/\IsK .u32 w S (.slice A a.num.length c) a.num/\IsK .u32 w S (.slice B a.den.length d) a.den
theorem IsR.stb:Stb IsR:=by rintro w w' S T v r ⟨A,c,B,d,hv,b,e⟩ a;exact⟨A,c,B,d,hv,IsK.stb.to b a,IsK.stb.to e a⟩
def IsQ (w:f) (S:Nat->Prop) (v:r) (q:Rat):Prop:=IsR w S v (E9 q)
theorem IsQ.stb:Stb IsQ:=fun _ _ _ _ _ _ h a=>IsR.stb.to h a
def IsV:f->(Nat->Prop)->r->List Raw->Prop:=IsS 3 IsR
def IsM:f->(Nat->Prop)->r->List (List Raw)->Prop:=IsS 1 IsV
theorem IsV.stb:Stb IsV:=IsS.stb IsR.stb
theorem IsM.stb:Stb IsM:=IsS.stb IsV.stb
def C6 (w:f):Nat->Prop:=fun b=>b<w.heap.size
def I8 (n:Nat) (w:f):Nat->Prop:=fun b=>n<=b/\b<w.heap.size
theorem E0 {w w':f} (h:u w.heap.size w w'):L8 (C6 w) (C6 w') w w':=fun b a=>⟨H a h.size,fun o=>h.cell (p:=⟨b,o,none⟩) a⟩
theorem zkc {w w':f} {n:Nat} (h:u w.heap.size w w'):L8 (I8 n w) (I8 n w') w w':=fun b a=>⟨⟨a.1,H a.2 h.size⟩,fun o=>h.cell (p:=⟨b,o,none⟩) a.2⟩
theorem G6 {w:f} (h:∀b,S b->T b):L8 S T w w:=fun b a=>⟨h b a,fun _=>rfl⟩
theorem zqs {w w':f} {B:Nat} (h:u B w w') (c:∀b,S b->b<B):L8 S S w w':=fun b a=>⟨a,fun o=>h.cell (p:=⟨b,o,none⟩) (c b a)⟩
theorem ylp {w:f} {n:Nat}:∀b,I8 n w b->C6 w b:=fun b h=>h.2
theorem yzh {w:f} {n:Nat} (h:m<=n):∀b,I8 n w b->I8 m w b:=fun b a=>⟨E h a.1,a.2⟩
def OwnS {a:Type} (n:Nat) (t:A) (R:f->(Nat->Prop)->r->a->Prop) (w:f) (base:Nat) (S:Nat->Prop) (v:r) (l:List a):Prop:=
 ∃es,w.ownsRow base t n v l.length (cellsOf es)/\Wid n es/\All2 (R w S) es l/\∀b,S b->b<w.heap.size/\some b≠v.ownBlock
theorem OwnS.nil {a:Type} {n:Nat} {t:A} {R:f->(Nat->Prop)->r->a->Prop} {w:f} (c:∀b,S b->b<w.heap.size):OwnS n t R w base S (.slice none 0 0) ([]:List a):=
 ⟨[],by simpa[cellsOf] using World.ownsRow_nil w base t n,Wid.nil,All2.nil,fun b d=>⟨c b d,by simp[Value.ownBlock]⟩⟩
theorem OwnS.step {i:Type} {n:Nat} {t:A} {R:f->(Nat->Prop)->r->i->Prop} (p:Stb R) {w w':f} {l:List i} (h:OwnS n t R w base S v l)
 (a:u w.heap.size w w') (q:∀b,S b->T b) (s:∀b,T b->S b\/(w.heap.size<=b/\b<w'.heap.size)):OwnS n t R w' base T v l:=by
 obtain⟨es,d,j,m,g⟩:=h;have z:w.grownBy w' none:=⟨a.os,a.tape,a.output,a.size,fun k B _=>a.block k B⟩;refine⟨es,d.kept z (by cases v.ownBlock<;>simp),j,m.imp fun x y h=>p.to h fun b c=>⟨q b c,fun o=>a.cell (p:=⟨b,o,none⟩) (g b c).1⟩,fun b c=> ?_⟩;rcases s b c with h|h
 ·have:=g b h;exact⟨H this.1 a.size,this.2⟩
 ·refine⟨h.2,fun e=> ?_⟩;have:=(d.lt b e.symm).2;omega
theorem OwnS.app {i:Type} {n:Nat} {t:A} {R:f->(Nat->Prop)->r->i->Prop} (j:Stb R) {w w':f} {g e:r} {l:List i} {x:i}
 (p:Wid n es) (q:All2 (R w S) es l) (d:∀b,S b->b<w.heap.size/\some b≠v.ownBlock) (s:R w S e x) (u:e.cells.size=n)
 (B:w'.ownsRow base t n g (l.length+1) (cellsOf es++e.cells.toList)) (k:w.grownBy w' v.ownBlock) (z:g.ownBlock=v.ownBlock\/g.ownBlock=some w.heap.size):
 OwnS n t R w' base S g (l++[x]):=by
 have m:L8 S S w w':=fun b a=>⟨a,fun o=>World.cell?_of_block (k.block b (d b a).1 (d b a).2)⟩;refine⟨es++[e],?_,p.snoc u,(q.imp fun x y h=>j.to h m).snoc (j.to s m),fun b a=>⟨H (d b a).1 k.size,fun c=> ?_⟩⟩
 ·rw[yhj,yry,List.length_append];exact B
 ·have:=d b a;rcases z with h|h
  ·rw[h] at c;exact this.2 c
  ·rw[h] at c;simp at c;omega
theorem OwnS.isS {d:Type} {n:Nat} {t:A} {R:f->(Nat->Prop)->r->d->Prop} (k:Stb R) {w:f} {l:List d} (h:OwnS n t R w base S v l)
 (m:∀b,S b->T b) (o:∀b,base<=b->b<w.heap.size->T b):IsS n R w T v l:=by
 obtain⟨es,c,e,i,F⟩:=h;have B:L8 S T w w:=fun b a=>⟨m b a,fun _=>rfl⟩;rcases c.2 with⟨rfl,u⟩|⟨g,cap,E,rfl,a,q,z,p,G,H⟩
 ·have s:l=[]:=List.eq_nil_of_length_eq_zero u;subst s;exact IsS.nil
 ·refine⟨some ⟨g,0,none⟩,cap,es,rfl,z,p,fun _=>⟨g,0,rfl,o g a (Array.getElem?_eq_some_iff.1 q).1,fun j D C=> ?_⟩,e,i.imp fun x y h=>k.to h B⟩;have:=c.cells (g:=g) rfl j D C;rw[Addr.add_lit] at this;exact this
section
variable {P : Program} {w : f} {ops : Array Oper} {rest : List Oper} {o : Oper} {a : Act} {Q : Exit → Act → f → Prop} {t e : A}
structure ElN (P:Program) (t e:A) (n bytes:Nat):Prop where
 und:P.underlying t=some (.slice e)
 info:∃i z,P.info? e=some i/\i.zero=some z/\i.size=n/\i.bytes=bytes/\z.cells.size=n
 pos:0<n
theorem zqb {n:Nat} (p:ElN P t e n bytes) (Z:o.guard=none) (s x:Operand) (ab:o.op= .call {callee:= .builtin .append,args:= #[s,x],argTypes:= #[t,t]})
 {E:Type} {R:f->(Nat->Prop)->r->E->Prop} (D:Stb R) {c:r} {l:List E} {y:E} {te:A} {G:Array r}
 (ad:a.eval s=v) (ag:a.eval x= .slice (some ⟨w.heap.size,0,none⟩) 1 1) (X:G=c.cells) (ac:OwnS n e R w base S v l) (Y:R w S c y) (K:c.cells.size=n)
 (O:∀L∈c.cells,L.oneCell'=true) (d:(l.length+1)*(bytes+1)<=140737488355328) (V:base<=w.heap.size)
 (h:∀m w',OwnS n e R w' base S m (l++[y])->u base w w'->w.heap.size<=w'.heap.size->wpList P ops Q rest (a.put o.dst m) w'):wpList P ops Q (o::rest) a (w.alloc (.cells G te)):=by
 subst X
 obtain⟨i,z,hi,ah,ae,W,ai⟩:=p.info
 obtain⟨es,I,T,U,C⟩:=ac
 rw[Nat.mul_add,Nat.mul_one] at d
 have J:=(F w.heap.size w).alloc (B _) (.cells c.cells te)
 have hst:L8 S S w (w.alloc (.cells c.cells te)):=zqs J (fun b d=>(C b d).1)
 refine wpList_append_own_at _ Z s x t ab base e i z n bytes p.und hi ah ae W ai p.pos v l.length (cellsOf es) ad (I.alloc _) ⟨w.heap.size,0,none⟩ 1 1 c.cells.toList ag (by simp[K]) (fun j L af=> ?_) (by simpa using O)
  (by unfold maxLen;omega) og (by simp;omega) fun m w' M q _ N=>h m w' ?_ ?_ ?_
 ·rw[Addr.add_lit,Nat.zero_add,cell_of_row _ _ _ _ _ _ (heap_alloc_new w _)]
  simpa using af
 ·refine OwnS.app D T (U.imp fun x y h=>D.to h hst) (fun b d=>⟨H (C b d).1 J.size,(C b d).2⟩) (D.to Y hst) K M q ?_
  rcases N with g|g
  ·exact .inl g
  ·exact .inr g
 ·exact((F base w).alloc V _).grown q (by simp;omega) (fun k aa=>(I.lt k aa).1)
 ·have:=q.size
  simp at this
  omega
theorem zwl {n:Nat} (p:ElN P t e n bytes) (J:o.guard=none) (l c:Operand) (L:o.op=Op.makeSlice t l c) {y:Type} (R:f->(Nat->Prop)->r->y->Prop) {x s:IntKind} {C:Int} (m:Nat)
 (K:a.eval l= .int x 0) (hc:a.eval c= .int s C) (E:C=(m:Int)) (d:m*(bytes+1)<=140737488355328) (T:base<=w.heap.size) (q:∀b,S b->b<w.heap.size)
 (G:∀v w',OwnS n e R w' base S v ([]:List y)->u w.heap.size w w'->w.heap.size<=w'.heap.size->wpList P ops Q rest (a.put o.dst v) w'):
 wpList P ops Q (o::rest) a w:=by
 obtain⟨i,z,hi,N,M,I,U⟩:=p.info;rw[Nat.mul_add,Nat.mul_one] at d
 refine wpList_make_own w J l c t L w.heap.size e i z n p.und hi N M x s C m K hc E (by rw[I,Nat.mul_comm];omega) (by unfold maxLen;omega) (B _)
  fun w' j k=>G _ w' ⟨[],⟨j.1,?_⟩,Wid.nil,All2.nil,fun b d=>⟨H (q b d) k.size,fun D=> ?_⟩⟩ ((F _ _).grown k (B _) (by simp)) k.size
 ·rcases j.2 with h|⟨g,cap,A,hv,O,rest⟩
  ·exact .inl h
  ·exact .inr ⟨g,cap,A,hv,by omega,rest⟩
 ·have:=(j.lt b D.symm).1;have:=q b d;omega
end
section
variable {d q : Rat} {x z neg : Bool} {n G : Nat}
theorem ztj {q:Rat} {s:Bool} (h:s=decide (q.num<0)):sg s q.num.natAbs=q.num:=by rw[h];exact zya _
theorem zvu (q:Rat):mkRat q.num q.den=q:=Rat.mkRat_self q
theorem ymo (a:x=decide (d.num<0)) (b:z=decide (q.num<0)) (c:sg neg n=sg x (d.num.natAbs*(q.den/G))+sg z (q.num.natAbs*(d.den/G))):
 sg neg n=d.num*((q.den/G:Nat):Int)+q.num*((d.den/G:Nat):Int):=by rw[c,zxz,zxz,ztj a,ztj b]
theorem ymq (a:x=decide (d.num<0)) (b:z=decide (q.num<0)) (c:G=Nat.gcd d.den q.den) (e:sg neg n=sg x (d.num.natAbs*(q.den/G))+sg z (q.num.natAbs*(d.den/G))) (f:n≠0):
 E9 (d+q)=⟨neg,A9 (n/Nat.gcd n G),A9 (d.den/G*(q.den/Nat.gcd n G))⟩:=by have h:=ymo a b e;subst c;have:=zz1409 (i:=d.num) (j:=q.num) (a:=d.den) (b:=q.den) (n:=n) (neg:=neg) d.den_nz q.den_nz d.reduced q.reduced h f;rw[zvu,zvu] at this;exact this
theorem zz1384 (a:x=decide (d.num<0)) (b:z=decide (q.num<0)) (c:G=Nat.gcd d.den q.den) (f:sg neg n=sg x (d.num.natAbs*(q.den/G))+sg z (q.num.natAbs*(d.den/G))) (g:n≠0) (e:G=1):
 E9 (d+q)=⟨neg,A9 n,A9 (d.den*q.den)⟩:=by have h:=ymq a b c f g;rw[e,Nat.gcd_one_right,Nat.div_one,Nat.div_one,Nat.div_one] at h;exact h
theorem zz1383 (a:x=decide (d.num<0)) (b:z=decide (q.num<0)) (c:G=Nat.gcd d.den q.den) (e:sg neg n=sg x (d.num.natAbs*(q.den/G))+sg z (q.num.natAbs*(d.den/G))) (f:n=0):d+q=0:=by have h:=ymo a b e;subst c;rw[f,zyb] at h;have:=zz1387 (i:=d.num) (j:=q.num) (a:=d.den) (b:=q.den) d.den_nz q.den_nz h.symm;rw[zvu,zvu] at this;exact this
theorem yer (a:x=decide (d.num<0)) (b:z=decide (q.num<0)) (c:sg neg n=sg x (d.num.natAbs*q.den)+sg z (q.num.natAbs*d.den)):mkRat (sg neg n) (d.den*q.den)=d+q:=by rw[c,zxz,zxz,ztj a,ztj b,Rat.add_def']
theorem zz1489 (a:x=decide (d.num<0)) (b:z=decide (q.num<0)) (ha:d≠0) (c:q≠0):
 E9 (d*q)=⟨x !=z,A9 (d.num.natAbs/Nat.gcd d.num.natAbs q.den*(q.num.natAbs/Nat.gcd q.num.natAbs d.den)),A9 (d.den/Nat.gcd q.num.natAbs d.den*(q.den/Nat.gcd d.num.natAbs q.den))⟩:=by have:=zz1410 (p:=x) (q:=z) d.den_nz q.den_nz (zol ha) (zol c) d.reduced q.reduced;rw[ztj a,ztj b,zvu,zvu] at this;exact this
theorem yoz (a:x=decide (d.num<0)) (b:z=decide (q.num<0)):mkRat (sg (x !=z) (d.num.natAbs*q.num.natAbs)) (d.den*q.den)=d*q:=by rw[yav,ztj a,ztj b,Rat.mul_def']
end
def Z0 (p q:Rat):Int:=if p<q then -1 else if p=q then 0 else 1
theorem zwt {q:Rat} (h:p<q):Z0 p q= -1:=by unfold Z0;rw[if_pos h]
theorem zys {q:Rat} (h:p=q):Z0 p q=0:=by unfold Z0;rw[if_neg (by rw[h];exact Rat.lt_irrefl),if_pos h]
theorem zyt {q:Rat} (h:q<p):Z0 p q=1:=by unfold Z0;rw[if_neg (Rat.not_lt.2 (Rat.le_of_lt h)),if_neg (Rat.ne_of_gt h)]
theorem yia {q:Rat}:Z0 p q=0↔p=q:=by
 unfold Z0;split
 ·rename_i h;exact⟨fun a=>by omega,fun a=>absurd a (Rat.ne_of_lt h)⟩
 ·split
  ·rename_i h;exact⟨fun _=>h,fun _=>rfl⟩
  ·rename_i h;exact⟨fun a=>by omega,fun a=>absurd a h⟩
theorem yso {q:Rat}:0<Z0 p q↔q<p:=by
 unfold Z0;split
 ·rename_i h;exact⟨fun a=>by omega,fun a=>absurd h (Rat.not_lt.2 (Rat.le_of_lt a))⟩
 ·rename_i h;split
  ·rename_i b;exact⟨fun a=>by omega,fun a=>by rw[b] at a;exact absurd a Rat.lt_irrefl⟩
  ·rename_i b;exact⟨fun _=>Rat.lt_of_le_of_ne (Rat.not_lt.1 h) (Ne.symm b),fun _=>by omega⟩
theorem ysm {q:Rat}:Z0 p q<0↔p<q:=by
 unfold Z0;split
 ·rename_i h;exact⟨fun _=>h,fun _=>by omega⟩
 ·rename_i h;split
  ·exact⟨fun a=>by omega,fun a=>absurd a h⟩
  ·exact⟨fun a=>by omega,fun a=>absurd a h⟩
def U6 (q:Rat):Int:=if q=0 then 0 else if q<0 then -1 else 1
theorem yfg (q:Rat):U6 q=Z0 q 0:=by
 unfold U6 Z0;by_cases h:q=0
 ·rw[if_pos h,if_neg (by rw[h];exact Rat.lt_irrefl),if_pos h]
 ·rw[if_neg h];by_cases a:q<0
  ·rw[if_pos a,if_pos a]
  ·rw[if_neg a,if_neg a,if_neg h]
theorem sgnQ_zero {q:Rat}:U6 q=0↔q=0:=by rw[yfg];exact yia
theorem sgnQ_pos {q:Rat}:0<U6 q↔0<q:=by rw[yfg];exact yso
theorem sgnQ_neg {q:Rat}:U6 q<0↔q<0:=by rw[yfg];exact ysm
theorem zyc (q:Rat):U6 q= -1\/U6 q=0\/U6 q=1:=by
 unfold U6;split
 ·exact .inr (.inl rfl)
 ·split
  ·exact .inl rfl
  ·exact .inr (.inr rfl)
theorem yzx (p q:Rat) (s:Nat->Nat->Int) (l:∀x y,(x<y->s x y= -1)/\(x=y->s x y=0)/\(y<x->s x y=1)) (h:U6 p=U6 q):
 U6 p*s (p.num.natAbs*q.den) (q.num.natAbs*p.den)=Z0 p q:=by
 obtain⟨i,j,k⟩:=l (p.num.natAbs*q.den) (q.num.natAbs*p.den);have g:((p.num.natAbs*q.den:Nat):Int)=(p.num.natAbs:Int)*q.den:=Int.natCast_mul _ _;have eq:((q.num.natAbs*p.den:Nat):Int)=(q.num.natAbs:Int)*p.den:=Int.natCast_mul _ _;rcases zyc p with b|b|b
 ·have c:p<0:=sgnQ_neg.1 og;have d:q<0:=sgnQ_neg.1 og;rw[b];rw[Rat.lt_iff] at c d;simp at c d;have e:(p.num.natAbs:Int)= -p.num:=og;have f:(q.num.natAbs:Int)= -q.num:=og;rw[e,Int.neg_mul] at g;rw[f,Int.neg_mul] at eq;rcases Nat.lt_trichotomy (p.num.natAbs*q.den) (q.num.natAbs*p.den) with a|a|a
  ·rw[i a,zyt (by rw[Rat.lt_iff];omega)];rfl
  ·rw[j a,zys (by rw[Rat.eq_iff_mul_eq_mul];omega)];rfl
  ·rw[k a,zwt (by rw[Rat.lt_iff];omega)];rfl
 ·have c:=sgnQ_zero.1 b;have d:=sgnQ_zero.1 (h▸b);rw[b,Int.zero_mul,zys (by rw[c,d])]
 ·have c:0<p:=sgnQ_pos.1 og;have d:0<q:=sgnQ_pos.1 og;rw[b];rw[Rat.lt_iff] at c d;simp at c d;have e:(p.num.natAbs:Int)=p.num:=og;have f:(q.num.natAbs:Int)=q.num:=og;rw[e] at g;rw[f] at eq;rcases Nat.lt_trichotomy (p.num.natAbs*q.den) (q.num.natAbs*p.den) with a|a|a
  ·rw[i a,zwt (by rw[Rat.lt_iff];omega)];rfl
  ·rw[j a,zys (by rw[Rat.eq_iff_mul_eq_mul];omega)];rfl
  ·rw[k a,zyt (by rw[Rat.lt_iff];omega)];rfl
theorem yme {q:Rat} (h:U6 p≠U6 q):Z0 p q=if U6 p<U6 q then -1 else 1:=by
 have key:∀{a b:Rat},U6 a<U6 b->a<b:=by
  intro a b h;rcases zyc a with ha|ha|ha<;>rcases zyc b with e|e|e<;>first|omega|skip
  ·have c:a<0:=sgnQ_neg.1 og;have d:=sgnQ_zero.1 e;rw[d];exact c
  ·have c:a<0:=sgnQ_neg.1 og;have d:0<b:=sgnQ_pos.1 og;grind
  ·have c:=sgnQ_zero.1 ha;have d:0<b:=sgnQ_pos.1 og;rw[c];exact d
 by_cases c:U6 p<U6 q
 ·rw[if_pos c,zwt (key c)]
 ·rw[if_neg c,zyt (key og)]
def bruT:List Nat:=Lib.deBruijn64tab
def Bru (w:f):Prop:=0<w.heap.size/\∀i,i<64->w.cell? ⟨0,i,none⟩=some (.int .u8 (bruT.getD i 0:Nat))
theorem Bru.below {w w':f} (h:Bru w) (a:u w.heap.size w w'):Bru w':=
 ⟨H h.1 a.size,fun i hi=>(a.cell (p:=⟨0,i,none⟩) h.1).trans (h.2 i hi)⟩
theorem Bru.alloc {w:f} (h:Bru w) (o:Obj):Bru (w.alloc o):=h.below ((F _ _).alloc (B _) o)
theorem Bru.drewN {w:f} (h:Bru w) (n:Nat):Bru (w.drewN n):=h
theorem zz1497 (x a:Nat) (d:x<18446744073709551616) (e:x≠0) (c:x&&&(18446744073709551616-x)=a):
 IntKind.u64.wrap (bits BinOp.and IntKind.u64 (x:Int) (IntKind.u64.wrap (-(x:Int)))*285870213051353865)/288230376151711744=((a*285870213051353865%18446744073709551616/288230376151711744:Nat):Int):=by have b:IntKind.u64.wrap (-(x:Int))=((18446744073709551616-x:Nat):Int):=(by rw[IntKind.wrap_u64];omega);rw[b,bits_and_u64_nat x _ d og,c,IntKind.wrap_u64];omega
theorem zz1496 (x k a:Nat) (w:f) (d:((x:Int)==0)=false)
 (key:IntKind.u64.wrap (bits BinOp.and IntKind.u64 (x:Int) (IntKind.u64.wrap (-(x:Int)))*285870213051353865)/288230376151711744=(a:Int))
 (hi:a<64) (c:k<64) (b:w.cell? ⟨0,a,none⟩=some (.int .u8 k)):
 Calls Tryz.prog 202 #[.int .u64 x] w fun e w'=>e= .returned (.int .i64 k)/\w=w':=by go_in;go_wp2_with (simp only[key]);go_ret;exact⟨rfl,rfl⟩
theorem yfr (x:Nat) (w:f) (g:Bru w) (d:x≠0) (c:x<18446744073709551616):
 ∃k m:Nat,k<64/\x=2^k*(2*m+1)/\Calls Tryz.prog 202 #[.int .u64 (x:Int)] w fun e w'=>e= .returned (.int .i64 (k:Int))/\w=w':=by obtain⟨h,b⟩:=Lib.lowest_bit 64 x d c;obtain⟨hi,j⟩:=Lib.deBruijn64_at _ b;have a:=g.2 _ hi;unfold bruT at a;rw[j] at a;obtain⟨m,i,_⟩:=Lib.ctzFrom_spec 64 x og c;refine⟨Lib.ctz 64 x,m,b,?_,zz1496 x _ _ w (by simp;omega) (zz1497 x _ c d h) hi b a⟩;unfold Lib.ctz;rw[if_neg d];exact i
abbrev NumS (w:f) (S:Nat->Prop) (v:r) (n:Nat):Prop:=IsK .u32 w S v (A9 n)
theorem ykf {w:f} {q:Rat} {neg:Bool} {n d:Nat} (h:E9 q=⟨neg,A9 n,A9 d⟩) (l:NumS w S D n) (hd:NumS w S C d):IsQ w S (.agg #[.bool neg,D,C]) q:=by obtain⟨A,c,rfl,b,g,j⟩:=l;obtain⟨B,a,rfl,e,i,k⟩:=hd;unfold IsQ;rw[h];exact⟨A,c,B,a,rfl,⟨A,c,rfl,b,g,j⟩,⟨B,a,rfl,e,i,k⟩⟩
theorem G4 {w:f} {q:Rat} (h:IsQ w S v q):∃neg A c B d,v= .agg #[.bool neg,.slice A (A9 q.num.natAbs).length c,.slice B (A9 q.den).length d]/\s (neg=decide (q.num<0))/\
 s (NumS w S (.slice A (A9 q.num.natAbs).length c) q.num.natAbs)/\s (NumS w S (.slice B (A9 q.den).length d) q.den):=by obtain⟨A,c,B,d,rfl,a,b⟩:=h;exact⟨_,A,c,B,d,rfl,rfl,a,b⟩
theorem F7 {w:f} {n:Nat} (h:NumS w (C6 w) v n):IsN w 0 w.heap.size v n:=h.isL fun b a=>⟨Nat.zero_le _,a⟩
theorem zqi {w:f} {n:Nat} (h:IsN w lo w.heap.size v n):NumS w (I8 lo w) v n:=h.isK fun b a c=>⟨a,c⟩
theorem zot {w:f} {n:Nat} (h:IsN w lo w.heap.size v n):NumS w (C6 w) v n:=h.isK fun b c a=>a
theorem Stb.next {a:Type} {R:f->(Nat->Prop)->r->a->Prop} (b:Stb R) {w w':f} {x:a} (h:R w (C6 w) v x) (c:u w.heap.size w w'):R w' (C6 w') v x:=b.to h (E0 c)
theorem Stb.fresh {a:Type} {R:f->(Nat->Prop)->r->a->Prop} (b:Stb R) {w w':f} {n:Nat} {x:a} (h:R w (I8 n w) v x) (c:u w.heap.size w w'):R w' (I8 n w') v x:=b.to h (zkc c)
theorem Stb.old {a:Type} {R:f->(Nat->Prop)->r->a->Prop} (b:Stb R) {w:f} {n:Nat} {x:a} (h:R w (I8 n w) v x):R w (C6 w) v x:=b.to h (G6 ylp)
theorem Stb.le {a:Type} {R:f->(Nat->Prop)->r->a->Prop} (b:Stb R) {w:f} {n:Nat} {x:a} (h:R w (I8 n w) v x) (c:m<=n):R w (I8 m w) v x:=b.to h (G6 (yzh c))
theorem yeh {w:f}:NumS w S (.slice none 0 0) 0:=by unfold NumS;rw[O7];exact⟨none,0,rfl,B _,by unfold maxLen;omega,SVS.nil⟩
def L5 (w:f) (q:Rat) (e:Ending) (w':f):Prop:=(∃v,e= .returned v/\IsQ w' (I8 w.heap.size w') v q)/\u w.heap.size w w'
theorem Row.next {w w':f} {t:A} (h:Row w g t xs) (a:u w.heap.size w w'):Row w' g t xs:=h.below a h.lt
theorem C8 {w a:f} (h:u w.heap.size w y) (b:u y.heap.size y a):u w.heap.size w a:=h.trans (b.mono h.size)
theorem yrh {w:f} {n:Nat} (h:u n w y) (o:Obj) (a:n<=y.heap.size:=by first|exact Below.size ‹_›|simp):u n w (y.alloc o):=h.alloc a o
abbrev put3 (w:f) (g:Nat) (a b c:r):f:=((w.setCell ⟨g,0,none⟩ a).setCell ⟨g,1,none⟩ b).setCell ⟨g,2,none⟩ c
theorem Row.put3 {w:f} {t:A} {x y z:r} (h:Row w g t [x,y,z]) (a b c:r):Row (put3 w g a b c) g t [a,b,c]:=((h.set_ 0 a).set_ 1 b).set_ 2 c
theorem zqe {w:f} {n:Nat} (h:u n w y) (d:n<=g) (a b c:r):u n w (put3 y g a b c):=((h.setCell (p:=⟨g,0,none⟩) d a).setCell (p:=⟨g,1,none⟩) d b).setCell (p:=⟨g,2,none⟩) d c
theorem zqv (w:f) (g:Nat) (a b c:r):(put3 w g a b c).heap.size=w.heap.size:=by simp[put3,World.setCell]
theorem zqt {w:f} {a b c:r} (h:∀x,S x->x≠g/\T x):L8 S T w (put3 w g a b c):=fun x d=>by
 have:=h x d
 refine⟨this.2,fun o=> ?_⟩
 rw[I _ _ _ _ (fun e=>this.1 (by cases e;rfl)),I _ _ _ _ (fun e=>this.1 (by cases e;rfl)),I _ _ _ _ (fun e=>this.1 (by cases e;rfl))]
theorem C4 {w:f} {t:A} {x y z:r} (h:Row w g t [x,y,z]):w.cell? ⟨g,0,none⟩=some x/\w.cell? ⟨g,1,none⟩=some y/\w.cell? ⟨g,2,none⟩=some z:=⟨h.cell 0,h.cell 1,h.cell 2⟩
theorem F6 {w:f} {t:A} {x y z:r} (h:Row w g t [x,y,z]):w.frozen? ⟨g,0,none⟩=false/\w.frozen? ⟨g,1,none⟩=false/\w.frozen? ⟨g,2,none⟩=false:=⟨h.frozen 0,h.frozen 1,h.frozen 2⟩
theorem C0 {w w':f} {p:Addr} (a:u w.heap.size w w') (h:w.cell? p=some v):w'.cell? p=some v:=(a.cell (K w p h)).trans h
theorem J8 {w w':f} {p:Addr} (a:u w.heap.size w w') (h:w.cell? p=some v) (hf:w.frozen? p=false):w'.frozen? p=false:=(a.frozen (K w p h)).trans hf
theorem W6 {w:f} {o:Nat} {x y z:r} (h:w.cell? ⟨b,o,none⟩=some v) (a:b≠g):(put3 w g x y z).cell? ⟨b,o,none⟩=some v:=by rw[I _ _ _ _ (fun e=>a (by cases e;rfl)),I _ _ _ _ (fun e=>a (by cases e;rfl)),I _ _ _ _ (fun e=>a (by cases e;rfl))];exact h
theorem T6 {b:Func} {slot:Tmp} {R:Ending->f->Prop} {a:Act} {w:f} {x y z:r} (hr:b.results= #[.cell slot 37]) (ha:a.tmps.getD slot undef= .pointer (some ⟨g,0,none⟩)) (hd:a.defers=[])
 (h:Row w g 37 [x,y,z]) (i:R (.returned (.agg #[x,y,z])) w):bodyPost Tryz.prog b R .ret a w:=by refine bodyPost_ret (v:= .agg #[x,y,z]) ?_ hd i;obtain⟨c,d,e⟩:=C4 h;have j:a.tmps[slot]?.getD undef= .pointer (some ⟨g,0,none⟩):=(by simpa using ha);simp[results,hr,j,asAddr,go_sem,c,d,e]
theorem zmv {w:f} {b c:Nat} {q:Rat} {neg:Bool} {n d:Nat} (i:E9 q=⟨neg,A9 n,A9 d⟩) (j:u w.heap.size w y) (e:w.heap.size<=g)
 (h:NumS y (I8 b y) D n) (hd:NumS y (I8 c y) C d) (k:g<b) (l:g<c):L5 w q (.returned (.agg #[.bool neg,D,C])) (put3 y g (.bool neg) D C):=by
 refine⟨⟨_,rfl,ykf i (IsK.stb.to h (zqt fun x a=> ?_)) (IsK.stb.to hd (zqt fun x a=> ?_))⟩,zqe j e _ _ _⟩
 ·exact⟨by have:=a.1;omega,by have:=a.1;omega,by rw[zqv];exact a.2⟩
 ·exact⟨by have:=a.1;omega,by have:=a.1;omega,by rw[zqv];exact a.2⟩
theorem zlu {w:f} {x:r} {q:Rat} (h:IsQ y (I8 lo y) (.agg #[x,D,C]) q) (d:u w.heap.size w y) (c:w.heap.size<=g) (hlo:g<lo):L5 w q (.returned (.agg #[x,D,C])) (put3 y g x D C):=
 ⟨⟨_,rfl,IsQ.stb.to h (zqt fun b a=>⟨by have:=a.1;omega,by have:=a.1;omega,by rw[zqv];exact a.2⟩)⟩,zqe d c _ _ _⟩
theorem zku {w:f} {q:Rat} {neg:Bool} (h:IsQ w S (.agg #[.bool neg,D,C]) q):NumS w S D q.num.natAbs:=by obtain⟨A,c,B,d,hv,a,b⟩:=h;simp only[Value.agg.injEq] at hv;injection hv with hv;simp only[List.cons.injEq] at hv;obtain⟨_,rfl,rfl,_⟩:=hv;exact a
theorem zlc {w:f} {q:Rat} {neg:Bool} (h:IsQ w S (.agg #[.bool neg,D,C]) q):NumS w S C q.den:=by obtain⟨A,c,B,d,hv,b,a⟩:=h;simp only[Value.agg.injEq] at hv;injection hv with hv;simp only[List.cons.injEq] at hv;obtain⟨_,rfl,rfl,_⟩:=hv;exact a
theorem zpu {w:f} {A:Option Addr} {n x:Nat} (h:NumS w S (.slice A n c) x) (a:(A9 x).length=1):∃b o,A=some ⟨b,o,none⟩/\w.cell? ⟨b,o,none⟩=some (.int .u32 (x:Int))/\1<=(x:Int)/\(x:Int)<=999999999:=by obtain⟨k,l,hv,m,p,d⟩:=h;simp only[Value.slice.injEq] at hv;obtain⟨rfl,rfl,rfl⟩:=hv;have j:x≠0:=(by rintro rfl;rw[O7] at a;simp at a);have i:x<1000000000:=(by have:=lim_len_le.1 (Nat.le_of_eq a);rw[zvy] at this;exact this);have e:=zvq i j;rw[e] at d;obtain⟨b,o,g,_,hc⟩:=d (by simp[E7]);have:=hc 0 (.int .u32 (x:Int)) (by simp[E7]);exact⟨b,o,g,this,by omega,by omega⟩
theorem J7 (w:f) (b:Array r) (c:A):∃a,w.alloc (.cells b c)=a/\u w.heap.size w a/\Row a w.heap.size c b.toList/\s (a.heap.size=w.heap.size+1):=
 ⟨_,rfl,(F _ w).alloc (B _) _,heap_alloc_new w _,by simp[s]⟩
theorem zkn (w:f) (a d:Array r) (c e:A):∃b,(w.alloc (.cells a c)).alloc (.cells d e)=b/\u w.heap.size w b/\Row b w.heap.size c a.toList/\Row b (w.heap.size+1) e d.toList/\s (b.heap.size=w.heap.size+2):=by refine⟨_,rfl,((F _ w).alloc (B _) _).alloc (by simp) _,Row.alloc (xs:=a.toList) (heap_alloc_new w (.cells a c)) _,?_,by simp[s]⟩;have:=heap_alloc_new (w.alloc (.cells a c)) (.cells d e);rw[World.size_alloc] at this;exact this
theorem znd (w:f) (b c g:Array r) (d e h:A):∃a,((w.alloc (.cells b d)).alloc (.cells c e)).alloc (.cells g h)=a/\u w.heap.size w a/\Row a w.heap.size d b.toList/\Row a (w.heap.size+1) e c.toList/\Row a (w.heap.size+1+1) h g.toList/\s (a.heap.size=w.heap.size+3):=by obtain⟨y,rfl,i,j,k,l⟩:=zkn w b c d e;refine⟨_,rfl,i.alloc i.size _,j.alloc _,k.alloc _,?_,by simp[s]⟩;have:=heap_alloc_new ((w.alloc (.cells b d)).alloc (.cells c e)) (.cells g h);rw[l.out] at this;exact this
theorem N6 (w:f) (o:Obj):u w.heap.size w (w.alloc o):=(F _ w).alloc (B _) o
theorem L9 (w:f):u w.heap.size w w.drew:=⟨rfl,rfl,rfl,B _,fun _ _=>rfl⟩
def Rd (w:f) (v:r) (n:Nat):Prop:=∀w',u w.heap.size w w'->IsN w' 0 w'.heap.size v n
theorem Rd.to {w w':f} {n:Nat} (h:Rd w v n) (a:u w.heap.size w w'):IsN w' 0 w'.heap.size v n:=h w' a
theorem NumS.rd {w:f} {n:Nat} (h:NumS w (C6 w) v n):Rd w v n:=fun w' a=>F7 (IsK.stb.next h a)
theorem zui (x:Nat) {y:Nat} (h:y≠0):0<Nat.gcd x y:=Nat.gcd_pos_of_pos_right _ og
theorem zuh (x:Nat) {y:Nat} (h:y≠0) (a:(A9 y).length<=k):(A9 (Nat.gcd x y)).length<=k:=E (Y5 (Nat.le_of_dvd og (Nat.gcd_dvd_right _ _))) a
theorem zoh {x y:Nat} (a:(A9 x).length<=k):(A9 (x/y)).length<=k:=E (Y5 (Nat.div_le_self _ _)) a
theorem zma {w:f} {t:A} {x:r} (h:Row w g t [x]):w.cell? ⟨g,0,none⟩=some x:=h.cell 0
theorem IsN.next {w w':f} {n:Nat} (h:IsN w 0 w.heap.size v n) (a:u w.heap.size w w'):IsN w' 0 w'.heap.size v n:=(h.below a (B _)).wide (B _) a.size
theorem Bru.next {w w':f} (h:Bru w) (a:u w.heap.size w w'):Bru w':=h.below a
theorem yaz {w w':f} {n:Nat} (h:n<=w.heap.size) (a:u w.heap.size w w'):n<=w'.heap.size:=E h a.size
theorem N5 {w:f} {n:Nat} (h:IsN w lo w.heap.size v n) (a:m<=lo):NumS w (I8 m w) v n:=IsK.stb.le (zqi h) a
theorem zuj {w:f} {n:Nat} (h:IsN w lo w.heap.size v n):NumS w (C6 w) v n:=zot h
theorem nQ {w w':f} {q:Rat} (h:s (IsQ w (C6 w) v q)) (a:u w.heap.size w w'):s (IsQ w' (C6 w') v q):=IsQ.stb.next h.out a
theorem nV {w w':f} {l:List Raw} (h:s (IsV w (C6 w) v l)) (a:u w.heap.size w w'):s (IsV w' (C6 w') v l):=IsV.stb.next h.out a
theorem nM {w w':f} {l:List (List Raw)} (h:s (IsM w (C6 w) v l)) (a:u w.heap.size w w'):s (IsM w' (C6 w') v l):=IsM.stb.next h.out a
theorem nR {w w':f} {t:A} (h:s (Row w g t xs)) (a:u w.heap.size w w'):s (Row w' g t xs):=Row.next h.out a
theorem nB {w a w':f} (h:s (u w.heap.size w a)) (b:u a.heap.size a w'):s (u w.heap.size w w'):=C8 h.out b
theorem nS {n:Nat} {w w':f} (h:s (n<=w.heap.size)) (a:u w.heap.size w w'):s (n<=w'.heap.size):=yaz h.out a
theorem nU {w w':f} (h:s (Bru w)) (a:u w.heap.size w w'):s (Bru w'):=Bru.next h.out a
end Go.Proofs.YtpbilanpeioonaaGreatDoor
