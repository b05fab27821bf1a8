/-
 Plain facts on rational numbers as a sign,a list of c b and one below f e;no program in d.
-/
import Derived.Test.YtlhhbccgfkhflaaGreatDoorPvv01
import Derived.Test.YtlhhbccgfkhflaaGreatDoorChecked
import Derived.Lib.TrailingZeros
import Derived.Laws.Bits64b
import Derived.Deep.RegionHeld3
namespace Go.Proofs.YtlhhbccgfkhflaaGreatDoor
set_option linter.unusedVariables false
open Go.RowKit
set_option maxRecDepth 100000
set_option maxHeartbeats 8000000
open _root_.Nat renaming le_refl → D, le_trans → E, lt_of_lt_of_le → I
open _root_.Go.World renaming cell?_setCell_other → J, size_alloc → M, block_lt_of_cell? → N
open _root_.Go.RowKit.Below renaming refl → H
open _root_.Int renaming natAbs_mul → K
open _root_.Go renaming World → f, Value → r, TypeId → B
open _root_.Go.RowKit renaming Below → A, Hid → s
variable {T : Nat → Prop} {b base bytes c L g hi k l m : Nat} {es xs : List r} {i j : Int} {F : Oper} {p : Rat} {u v C : r} {y h wB : f}
def sg (neg:Bool) (n:Nat):Int:=if neg then -(n:Int) else n
theorem ydu (n:Nat):sg false n=n:=rfl
theorem ymi (n:Nat):sg true n= -(n:Int):=rfl
theorem zws (neg:Bool) (n:Nat):(sg neg n).natAbs=n:=by cases neg<;>simp[sg]
theorem zuw (neg:Bool):sg neg 0=0:=by cases neg<;>simp[sg]
theorem ymg {neg:Bool} {n:Nat} (h:n≠0):decide (sg neg n<0)=neg:=by cases neg<;>simp[sg]<;>omega
theorem zuv (i:Int):sg (decide (i<0)) i.natAbs=i:=by unfold sg;by_cases h:i<0<;>simp[h]<;>omega
theorem ymh (neg:Bool) (n:Nat):sg (!neg) n= -sg neg n:=by cases neg<;>simp[sg]
theorem zwq (a b:Bool) (m n:Nat):sg (a !=b) (m*n)=sg a m*sg b n:=by cases a<;>cases b<;>simp[sg,Int.neg_mul,Int.mul_neg]
theorem zwr (a:Bool) (m n:Nat):sg a (m*n)=sg a m*n:=by cases a<;>simp[sg,Int.neg_mul]
theorem ydt (a:Bool) (m n:Nat):sg a (m+n)=sg a m+sg a n:=by cases a<;>simp[sg]<;>omega
theorem ydv {a:Bool} {n:Nat} (h:n<=m):sg a (m-n)=sg a m+sg (!a) n:=by cases a<;>simp[sg]<;>omega
theorem sg_sub' {a:Bool} {n:Nat} (h:n<=m):sg a (m-n)=sg (!a) n+sg a m:=by cases a<;>simp[sg]<;>omega
structure Raw where
 neg:Bool
 num:List Nat
 den:List Nat
deriving DecidableEq
def C7 (q:Rat):Raw:=⟨decide (q.num<0),A9 q.num.natAbs,A9 q.den⟩
theorem yxd {neg:Bool} {n d:Nat} (hd:d≠0) (hg:Nat.gcd n d=1):(mkRat (sg neg n) d).num=sg neg n/\(mkRat (sg neg n) d).den=d:=by have h:=Rat.mk_eq_mkRat (sg neg n) d hd (by rw[zws];exact hg);rw[<-h];exact⟨rfl,rfl⟩
theorem zzh {neg:Bool} {n d:Nat} (hd:d≠0) (hg:Nat.gcd n d=1) (c:n=0->neg=false):C7 (mkRat (sg neg n) d)=⟨neg,A9 n,A9 d⟩:=by
 obtain⟨a,b⟩:=yxd (neg:=neg) hd hg;unfold C7;rw[a,b,zws];congr 1;by_cases h:n=0
 ·rw[c h,h];rfl
 ·exact ymg h
theorem zzi:C7 0=⟨false,[],[1]⟩:=by unfold C7;rw[show(0:Rat).num=0 from rfl,show(0:Rat).den=1 from rfl,show(0:Int).natAbs=0 from rfl,N6,ztd (n:=1) og og];rfl
theorem zkf:A9 1=[1]:=ztd og og
theorem ycj {d:Nat} (a:k≠0):mkRat (i*k) (d*k)=mkRat i d:=Rat.mkRat_mul_right a
theorem yci {neg:Bool} {n d:Nat} (hd:d≠0) (b:g∣n) (a:g∣d):mkRat (sg neg n) d=mkRat (sg neg (n/g)) (d/g):=by have hg:g≠0:=(by rintro rfl;exact hd (Nat.eq_zero_of_zero_dvd a));rw[<-ycj (i:=sg neg (n/g)) (d:=d/g) hg,<-zwr,Nat.div_mul_cancel b,Nat.div_mul_cancel a]
theorem ybf {n d:Nat} (hd:d≠0):Nat.gcd (n/Nat.gcd n d) (d/Nat.gcd n d)=1:=
 Nat.gcd_div_gcd_div_gcd_of_pos_right og
theorem zwj {neg:Bool} {n d:Nat} (a:n≠0) (hd:d≠0):C7 (mkRat (sg neg n) d)=⟨neg,A9 (n/Nat.gcd n d),A9 (d/Nat.gcd n d)⟩:=by
 have hg:0<Nat.gcd n d:=Nat.gcd_pos_of_pos_right _ og;rw[yci hd (Nat.gcd_dvd_left n d) (Nat.gcd_dvd_right n d)];refine zzh ?_ (ybf hd) ?_
 ·have:=Nat.div_pos (Nat.le_of_dvd og (Nat.gcd_dvd_right n d)) hg;omega
 ·intro h;have:=Nat.div_pos (Nat.le_of_dvd og (Nat.gcd_dvd_left n d)) hg;omega
theorem den_pos (q:Rat):0<q.den:=Nat.pos_of_ne_zero q.den_nz
theorem cop (q:Rat):Nat.gcd q.num.natAbs q.den=1:=q.reduced
theorem zmr {q:Rat} (h:q≠0):q.num.natAbs≠0:=fun e=>h (Rat.num_eq_zero.1 og)
theorem ycn {q:Rat}:q.num.natAbs=0↔q=0:=⟨fun h=>Rat.num_eq_zero.1 og,fun h=>by subst h;rfl⟩
theorem zz1363 {q:Rat}:(C7 q).num=[]↔q=0:=by unfold C7;rw[<-ycn,<-lim_nil_iff];exact List.length_eq_zero_iff.symm
theorem yle {q:Rat}:(C7 q).neg=decide (q<0):=by unfold C7;simp only[decide_eq_decide];rw[Rat.lt_iff];simp
theorem yjt (q:Rat):decide (q.num<0)=decide (q<0):=yle (q:=q)
def Sz (q:Rat) (k:Nat):Prop:=(A9 q.num.natAbs).length<=k/\(A9 q.den).length<=k
theorem Sz.le {q:Rat} (h:Sz q k) (a:k<=l):Sz q l:=⟨E h.1 a,E h.2 a⟩
theorem zzu {d:Nat} (hd:d≠0) (a:(A9 i.natAbs).length<=k) (b:(A9 d).length<=k):Sz (mkRat i d) k:=by unfold Sz;rw[Rat.num_mkRat,Rat.den_mkRat,if_neg hd,if_neg hd];refine⟨E (W9 ?_) a,E (W9 (Nat.div_le_self _ _)) b⟩;rw[Int.natAbs_ediv_of_dvd (Int.dvd_natAbs.1 (Int.natCast_dvd_natCast.2 (Nat.gcd_dvd_right d i.natAbs))),Int.natAbs_natCast];exact Nat.div_le_self _ _
theorem Sz.zero:Sz 0 1:=⟨by rw[show(0:Rat).num.natAbs=0 from rfl,N6];decide,by rw[show(0:Rat).den=1 from rfl,zkf];decide⟩
theorem Sz.neg {q:Rat} (h:Sz q k):Sz (-q) k:=by unfold Sz at*;rw[Rat.neg_num,Rat.neg_den,Int.natAbs_neg];exact h
theorem Sz.mul {q:Rat} (a:Sz p k) (b:Sz q l):Sz (p*q) (k+l):=by
 rw[Rat.mul_def'];refine zzu (Nat.mul_ne_zero p.den_nz q.den_nz) ?_ ?_
 ·rw[K];exact znk a.1 b.1
 ·exact znk a.2 b.2
theorem Sz.add {q:Rat} (a:Sz p k) (b:Sz q l):Sz (p+q) (k+l+1):=by rw[Rat.add_def'];refine zzu (Nat.mul_ne_zero p.den_nz q.den_nz) ?_ (E (znk a.2 b.2) og);refine E (W9 (Int.natAbs_add_le _ _)) ?_;rw[K,K,Int.natAbs_natCast,Int.natAbs_natCast];refine yea (znk a.1 b.2) ?_;rw[Nat.add_comm k l];exact znk b.1 a.2
theorem Sz.sub {q:Rat} (a:Sz p k) (b:Sz q l):Sz (p-q) (k+l+1):=by rw[Rat.sub_eq_add_neg];exact a.add b.neg
theorem ygb {a:Nat} (h:Nat.gcd a (b*c)=1):Nat.gcd a b=1:=Nat.Coprime.coprime_dvd_right (Nat.dvd_mul_right b c) h
theorem yzj {a:Nat} (ha:a≠0) (e:Nat.gcd i.natAbs a=1) (f:Nat.gcd j.natAbs b=1):
 Nat.gcd (i*((b/Nat.gcd a b:Nat):Int)+j*((a/Nat.gcd a b:Nat):Int)).natAbs (a/Nat.gcd a b)=1/\Nat.gcd (i*((b/Nat.gcd a b:Nat):Int)+j*((a/Nat.gcd a b:Nat):Int)).natAbs (b/Nat.gcd a b)=1:=by
 have hg:0<Nat.gcd a b:=Nat.gcd_pos_of_pos_left _ og;have hc:Nat.gcd (a/Nat.gcd a b) (b/Nat.gcd a b)=1:=Nat.gcd_div_gcd_div_gcd_of_pos_left og;have ea:a=a/Nat.gcd a b*Nat.gcd a b:=(Nat.div_mul_cancel (Nat.gcd_dvd_left a b)).symm;have eb:b=b/Nat.gcd a b*Nat.gcd a b:=(Nat.div_mul_cancel (Nat.gcd_dvd_right a b)).symm;generalize a/Nat.gcd a b=c at*;generalize b/Nat.gcd a b=d at*;have g:Nat.gcd i.natAbs c=1:=(by rw[ea] at e;exact ygb e);have k:Nat.gcd j.natAbs d=1:=(by rw[eb] at f;exact ygb f);constructor
 ·have h:Int.gcd (i*(d:Int)+j*(c:Int)) (c:Int)=1:=(by rw[Int.gcd_add_mul_right_left];rw[Int.gcd,K,Int.natAbs_natCast,Int.natAbs_natCast];exact Nat.Coprime.mul_left g (by rw[Nat.coprime_comm];exact hc));simpa[Int.gcd] using h
 ·have h:Int.gcd (i*(d:Int)+j*(c:Int)) (d:Int)=1:=(by rw[Int.add_comm,Int.gcd_add_mul_right_left];rw[Int.gcd,K,Int.natAbs_natCast,Int.natAbs_natCast];exact Nat.Coprime.mul_left k hc);simpa[Int.gcd] using h
theorem zqp {d:Nat} (h:g∣d) (hd:d≠0):g≠0/\d/g≠0:=by have hg:g≠0:=(by rintro rfl;exact hd (Nat.eq_zero_of_zero_dvd h));have:=Nat.div_pos (Nat.le_of_dvd og h) og;exact⟨hg,by omega⟩
theorem ynd {a:Nat} (ha:a≠0) (c:b≠0):
 mkRat i a+mkRat j b=mkRat (i*((b/Nat.gcd a b:Nat):Int)+j*((a/Nat.gcd a b:Nat):Int)) (a/Nat.gcd a b*b):=by
 have hg:=zqp (Nat.gcd_dvd_left a b) ha;have d:Nat.gcd a b≠0:=hg.1;have ea:a=a/Nat.gcd a b*Nat.gcd a b:=(Nat.div_mul_cancel (Nat.gcd_dvd_left a b)).symm;have eb:b=b/Nat.gcd a b*Nat.gcd a b:=(Nat.div_mul_cancel (Nat.gcd_dvd_right a b)).symm;rw[Rat.mkRat_add_mkRat _ _ ha c,<-ycj (i:=i*((b/Nat.gcd a b:Nat):Int)+j*((a/Nat.gcd a b:Nat):Int)) (d:=a/Nat.gcd a b*b) d];generalize a/Nat.gcd a b=e at*;generalize b/Nat.gcd a b=f at*;generalize Nat.gcd a b=g at*;subst ea;subst eb;congr 1
 ·push_cast;grind
 ·grind
theorem zz1364 {a n:Nat} {neg:Bool} (ha:a≠0) (c:b≠0) (r:Nat.gcd i.natAbs a=1) (s:Nat.gcd j.natAbs b=1)
 (f:sg neg n=i*((b/Nat.gcd a b:Nat):Int)+j*((a/Nat.gcd a b:Nat):Int)) (q:n≠0):
 C7 (mkRat i a+mkRat j b)=⟨neg,A9 (n/Nat.gcd n (Nat.gcd a b)),A9 (a/Nat.gcd a b*(b/Nat.gcd n (Nat.gcd a b)))⟩:=by have hg:=zqp (Nat.gcd_dvd_left a b) ha;have w:=zqp (Nat.gcd_dvd_right a b) c;obtain⟨l,m⟩:=yzj (i:=i) (j:=j) (b:=b) ha r s;rw[<-f,zws] at l m;rw[ynd ha c,<-f];have eb:b=b/Nat.gcd a b*Nat.gcd a b:=(Nat.div_mul_cancel (Nat.gcd_dvd_right a b)).symm;generalize a/Nat.gcd a b=u at*;generalize v:b/Nat.gcd a b=o at*;generalize Nat.gcd a b=g at*;have d:Nat.gcd n g∣n:=Nat.gcd_dvd_left n g;have C5:Nat.gcd n g∣g:=Nat.gcd_dvd_right n g;have e:Nat.gcd n g∣b:=(by rw[eb];exact Nat.dvd_trans C5 (Nat.dvd_mul_left _ _));have hc:=zqp d q;have t:=zqp e c;rw[yci (g:=Nat.gcd n g) (Nat.mul_ne_zero hg.2 c) d (Nat.dvd_trans e (Nat.dvd_mul_left _ _)),Nat.mul_div_assoc _ e];refine zzh (Nat.mul_ne_zero hg.2 t.2) ?_ (fun h=>absurd h hc.2);have p:b/Nat.gcd n g=o*(g/Nat.gcd n g):=(by rw[<-Nat.mul_div_assoc _ C5,<-eb]);have k:n/Nat.gcd n g∣n:=⟨Nat.gcd n g,(Nat.div_mul_cancel d).symm⟩;rw[p];refine Nat.Coprime.mul_right (Nat.Coprime.coprime_dvd_left k l) (Nat.Coprime.mul_right (Nat.Coprime.coprime_dvd_left k m) ?_);exact Nat.gcd_div_gcd_div_gcd_of_pos_left og
theorem yzo {a:Nat} (ha:a≠0) (c:b≠0) (d:i*((b/Nat.gcd a b:Nat):Int)+j*((a/Nat.gcd a b:Nat):Int)=0):mkRat i a+mkRat j b=0:=by rw[ynd ha c,d,Rat.zero_mkRat]
theorem zz1365 {p q:Bool} {x y a:Nat} (ha:a≠0) (g:b≠0) (o:x≠0) (r:y≠0) (m:Nat.gcd x a=1) (n:Nat.gcd y b=1):
 C7 (mkRat (sg p x) a*mkRat (sg q y) b)=⟨p !=q,A9 (x/Nat.gcd x b*(y/Nat.gcd y a)),A9 (a/Nat.gcd y a*(b/Nat.gcd x b))⟩:=by
 have c:Nat.gcd x b∣x:=Nat.gcd_dvd_left _ _;have d:Nat.gcd x b∣b:=Nat.gcd_dvd_right _ _;have e:Nat.gcd y a∣y:=Nat.gcd_dvd_left _ _;have f:Nat.gcd y a∣a:=Nat.gcd_dvd_right _ _;have s:=zqp c o;have t:=zqp d g;have u:=zqp e r;have v:=zqp f ha;rw[Rat.mkRat_mul_mkRat,<-zwq,yci (g:=Nat.gcd x b*Nat.gcd y a) (Nat.mul_ne_zero ha g) (Nat.mul_dvd_mul c e) (by rw[Nat.mul_comm (Nat.gcd x b)];exact Nat.mul_dvd_mul f d)];have i:Nat.gcd (x/Nat.gcd x b) (b/Nat.gcd x b)=1:=ybf g;have j:Nat.gcd (y/Nat.gcd y a) (a/Nat.gcd y a)=1:=ybf ha;have k:x*y/(Nat.gcd x b*Nat.gcd y a)=x/Nat.gcd x b*(y/Nat.gcd y a):=Nat.mul_div_mul_comm c e;have l:a*b/(Nat.gcd x b*Nat.gcd y a)=a/Nat.gcd y a*(b/Nat.gcd x b):=(by rw[Nat.mul_comm (Nat.gcd x b)];exact Nat.mul_div_mul_comm f d);rw[k,l];have w:x/Nat.gcd x b∣x:=⟨_,(Nat.div_mul_cancel c).symm⟩;have z:b/Nat.gcd x b∣b:=⟨_,(Nat.div_mul_cancel d).symm⟩;have q3:y/Nat.gcd y a∣y:=⟨_,(Nat.div_mul_cancel e).symm⟩;have A:a/Nat.gcd y a∣a:=⟨_,(Nat.div_mul_cancel f).symm⟩;refine zzh (Nat.mul_ne_zero v.2 t.2) ?_ (fun h=>absurd h (Nat.mul_ne_zero s.2 u.2));refine Nat.Coprime.mul_left (Nat.Coprime.mul_right ?_ i) (Nat.Coprime.mul_right j ?_)
 ·exact Nat.Coprime.coprime_dvd_left w (Nat.Coprime.coprime_dvd_right A m)
 ·exact Nat.Coprime.coprime_dvd_left q3 (Nat.Coprime.coprime_dvd_right z n)
theorem ylf (q:Rat):C7 (-q)=⟨!(C7 q).neg&&decide (q≠0),(C7 q).num,(C7 q).den⟩:=by
 unfold C7;rw[Rat.neg_num,Rat.neg_den,Int.natAbs_neg];congr 1;by_cases h:q=0
 ·subst h;rfl
 ·have:=zmr h;by_cases a:q.num<0
  ·simp[h,a];omega
  ·simp[h,a];omega
def zvj (N0:List Nat->Int) (a:Raw):Int:=
 if N0 a.num≠0 then N0 a.num else if N0 a.den≠0 then N0 a.den else if a.den=[] then 6 else if(a.num=[]/\a.neg=true)\/Nat.gcd (val a.num) (val a.den)≠1 then 3 else 0
theorem yqw {N0:List Nat->Int} {q:Rat} (b:N0 (C7 q).num=0) (c:N0 (C7 q).den=0):zvj N0 (C7 q)=0:=by
 unfold zvj;rw[if_neg (by simp[b]),if_neg (by simp[c])];have hd:(C7 q).den≠[]:=(by unfold C7;intro e;have:=lim_nil_iff.1 (List.length_eq_zero_iff.2 e);exact q.den_nz this);rw[if_neg hd,if_neg];rintro(⟨h,a⟩|h)
 ·rw[zz1363] at h;subst h;rw[zzi] at a;cases a
 ·unfold C7 at h;simp only[R7] at h;exact h (cop q)
def K6 (S T:Nat->Prop) (w w':f):Prop:=∀b,S b->T b/\∀o,w'.cell? ⟨b,o,none⟩=w.cell? ⟨b,o,none⟩
def Stb {a:Type} (R:f->(Nat->Prop)->r->a->Prop):Prop:=∀(w w':f) (S T:Nat->Prop) (v:r) (x:a),R w S v x->K6 S T w w'->R w' T v x
theorem Stb.to {a:Type} {R:f->(Nat->Prop)->r->a->Prop} (b:Stb R) {w w':f} {S:Nat->Prop} {x:a} (h:R w S v x) (c:K6 S T w w'):R w' T v x:=b w w' S T v x h c
def SVS (w:f) (S:Nat->Prop) (A:Option Addr) (xs:List r):Prop:=
 xs≠[]->∃b off,A=some ⟨b,off,none⟩/\S b/\∀j v,xs[j]? =some v->w.cell? ⟨b,off+j,none⟩=some v
theorem SVS.same {w w':f} {S:Nat->Prop} {A:Option Addr} (h:SVS w S A xs) (c:K6 S T w w'):SVS w' T A xs:=fun e=>by
 obtain⟨b,off,d,a,hc⟩:=h e
 exact⟨b,off,d,(c b a).1,fun j v hv=>((c b a).2 _).trans (hc j v hv)⟩
theorem SVS.nil {w:f} {S:Nat->Prop} {A:Option Addr}:SVS w S A []:=fun h=>absurd rfl h
def All2 {c d:Type} (R:c->d->Prop) (a:List c) (b:List d):Prop:=a.length=b.length/\∀(j:Nat) (x:c) (y:d),a[j]? =some x->b[j]? =some y->R x y
theorem All2.nil {a b:Type} {R:a->b->Prop}:All2 R [] []:=⟨rfl,fun j x y h=>by simp at h⟩
theorem All2.snoc {e f:Type} {R:e->f->Prop} {a:List e} {b:List f} {x:e} {y:f} (h:All2 R a b) (hr:R x y):All2 R (a++[x]) (b++[y]):=by
 refine⟨by simp[h.1],fun j u v c hv=> ?_⟩;rw[List.getElem?_append] at c hv;by_cases d:j<a.length
 ·rw[if_pos d] at c;rw[if_pos (by rw[<-h.1];exact d)] at hv;exact h.2 j u v c hv
 ·rw[if_neg d] at c;rw[if_neg (by rw[<-h.1];exact d)] at hv
  have g:j-a.length=0:=by
   rcases Nat.eq_zero_or_pos (j-a.length) with i|i
   ·exact i
   ·rw[List.getElem?_eq_none (by simp;omega)] at c;cases c
  rw[g] at c;rw[<-h.1,g] at hv;simp at c hv;rw[<-c,<-hv];exact hr
theorem All2.imp {c d:Type} {R Q:c->d->Prop} {a:List c} {b:List d} (h:All2 R a b) (hr:∀x y,R x y->Q x y):All2 Q a b:=⟨h.1,fun j x y e f=>hr x y (h.2 j x y e f)⟩
theorem All2.get {f c:Type} {R:f->c->Prop} {a:List f} {b:List c} (h:All2 R a b) {j:Nat} {y:c} (e:b[j]? =some y):∃x,a[j]? =some x/\R x y:=by have g:j<b.length:=(List.getElem?_eq_some_iff.1 e).1;have d:j<a.length:=(by rw[h.1];exact g);exact⟨a[j],List.getElem?_eq_getElem d,h.2 j _ _ (List.getElem?_eq_getElem d) e⟩
theorem All2.take {e f:Type} {R:e->f->Prop} {a:List e} {b:List f} (h:All2 R a b) (n:Nat):All2 R (a.take n) (b.take n):=by
 refine⟨by simp[h.1],fun j x y c d=> ?_⟩;rw[List.getElem?_take] at c d;split at c
 ·rename_i g;rw[if_pos g] at d;exact h.2 j x y c d
 ·cases c
theorem All2.drop {e f:Type} {R:e->f->Prop} {a:List e} {b:List f} (h:All2 R a b) (n:Nat):All2 R (a.drop n) (b.drop n):=by refine⟨by simp[h.1],fun j x y c d=> ?_⟩;rw[List.getElem?_drop] at c d;exact h.2 _ x y c d
theorem All2.set {d e:Type} {R:d->e->Prop} {a:List d} {b:List e} {x:d} {y:e} (h:All2 R a b) (hr:R x y) (n:Nat):All2 R (a.set n x) (b.set n y):=by
 refine⟨by simp[h.1],fun j u v c hv=> ?_⟩;rw[List.getElem?_set] at c hv;by_cases f:n=j
 ·rw[if_pos f] at c hv;split at c
  ·split at hv
   ·cases c;cases hv;exact hr
   ·cases hv
  ·cases c
 ·rw[if_neg f] at c hv;exact h.2 j u v c hv
def cellsOf (es:List r):List r:=es.flatMap fun v=>v.cells.toList
theorem yfg (a b:List r):cellsOf (a++b)=cellsOf a++cellsOf b:=by simp[cellsOf]
theorem yqk (v:r):cellsOf [v]=v.cells.toList:=by simp[cellsOf]
def Wid (n:Nat) (es:List r):Prop:=∀v∈es,v.cells.size=n
theorem Wid.nil {n:Nat}:Wid n []:=by intro v hv;cases hv
theorem Wid.snoc {n:Nat} (h:Wid n es) (hv:v.cells.size=n):Wid n (es++[v]):=by
 intro u b;rcases List.mem_append.1 b with a|a
 ·exact h u a
 ·simp at a;subst a;exact hv
theorem Wid.cons {n:Nat} (h:Wid n (v::es)):v.cells.size=n/\Wid n es:=⟨h v (by simp),fun u a=>h u (by simp[a])⟩
theorem Wid.take {n:Nat} (h:Wid n es) (k:Nat):Wid n (es.take k):=fun v hv=>h v (List.mem_of_mem_take hv)
theorem Wid.drop {n:Nat} (h:Wid n es) (k:Nat):Wid n (es.drop k):=fun v hv=>h v (List.mem_of_mem_drop hv)
theorem zqc {n:Nat} (h:Wid n es):(cellsOf es).length=es.length*n:=by
 induction es with
 |nil=>simp[cellsOf]
 |cons v es ih=>obtain⟨a,b⟩:=h.cons;have:=ih b;simp only[cellsOf,List.flatMap_cons,List.length_append,Array.length_toList,a] at this⊢;rw[this,List.length_cons,Nat.add_mul];omega
theorem zmi {n:Nat} (h:Wid n es) {j i:Nat} {e:r} (a:es[j]? =some e) (b:e.cells[i]? =some u):(cellsOf es)[j*n+i]? =some u:=by
 induction es generalizing j with
 |nil=>simp at a
 |cons v es ih=>
  obtain⟨d,g⟩:=h.cons;have c:cellsOf (v::es)=v.cells.toList++cellsOf es:=(by simp[cellsOf]);rw[c,List.getElem?_append,Array.length_toList,d];cases j with
  |zero=>simp at a;subst a;have hi:i<v.cells.size:=(Array.getElem?_eq_some_iff.1 b).1;rw[if_pos og];simpa using b
  |succ j=>rw[if_neg (by rw[Nat.add_mul];omega),show(j+1)*n+i-n=j*n+i by rw[Nat.add_mul];omega];exact ih g (by simpa using a)
def IsS {a:Type} (n:Nat) (R:f->(Nat->Prop)->r->a->Prop) (w:f) (S:Nat->Prop) (v:r) (l:List a):Prop:=
 ∃A c es,v= .slice A l.length c/\l.length<=c/\c<=maxLen/\SVS w S A (cellsOf es)/\Wid n es/\All2 (R w S) es l
theorem IsS.stb {k:Type} {n:Nat} {R:f->(Nat->Prop)->r->k->Prop} (j:Stb R):Stb (IsS n R):=by rintro w w' S T v l ⟨A,c,es,hv,b,d,e,g,i⟩ a;exact⟨A,c,es,hv,b,d,e.same a,g,i.imp fun x y h=>j.to h a⟩
theorem IsS.nil {a:Type} {n:Nat} {R:f->(Nat->Prop)->r->a->Prop} {w:f} {S:Nat->Prop}:IsS n R w S (.slice none 0 0) ([]:List a):=
 ⟨none,0,[],rfl,D _,by unfold maxLen;omega,SVS.nil,Wid.nil,All2.nil⟩
theorem IsS.get {g:Type} {n:Nat} {R:f->(Nat->Prop)->r->g->Prop} {w:f} {S:Nat->Prop} {A:Option Addr} {l:List g} (h:IsS n R w S (.slice A m c) l) (y:0<n) {j:Nat} {x:g} (v:l[j]? =some x):
 ∃b off e,A=some ⟨b,off,none⟩/\S b/\R w S e x/\e.cells.size=n/\∀i u,e.cells[i]? =some u->w.cell? ⟨b,off+(j*n+i),none⟩=some u:=by obtain⟨D,E,es,hv,F,G,p,a,q⟩:=h;simp only[Value.slice.injEq] at hv;obtain⟨rfl,rfl,rfl⟩:=hv;obtain⟨e,d,hr⟩:=q.get v;have B:=a e (List.mem_of_getElem? d);have z:cellsOf es≠[]:=(by intro o;have k:=zqc a;rw[o] at k;have:j<es.length:=(List.getElem?_eq_some_iff.1 d).1;have:=Nat.mul_pos (by omega:0<es.length) y;simp at k;omega);obtain⟨b,off,s,t,hc⟩:=p z;exact⟨b,off,e,s,t,hr,B,fun i u C=>hc _ u (zmi a d C)⟩
def IsK (k:IntKind) (w:f) (S:Nat->Prop) (v:r) (l:List Nat):Prop:=
 ∃A c,v= .slice A l.length c/\l.length<=c/\c<=maxLen/\SVS w S A (C8 k l)
theorem IsK.stb {k:IntKind}:Stb (IsK k):=by rintro w w' S T v l ⟨A,c,hv,a,b,d⟩ e;exact⟨A,c,hv,a,b,d.same e⟩
theorem IsK.isL {k:IntKind} {w:f} {S:Nat->Prop} {l:List Nat} {lo:Nat} (h:IsK k w S v l) (a:∀b,S b->lo<=b/\b<hi):IsL k w lo hi v l:=by obtain⟨A,c,hv,e,g,i⟩:=h;refine⟨A,c,hv,e,g,fun m=> ?_⟩;obtain⟨b,off,j,d,hc⟩:=i m;exact⟨b,off,j,(a b d).1,(a b d).2,hc⟩
theorem IsL.isK {k:IntKind} {w:f} {S:Nat->Prop} {l:List Nat} {lo:Nat} (h:IsL k w lo hi v l) (i:∀b,lo<=b->b<hi->S b):IsK k w S v l:=by obtain⟨A,c,hv,a,d,e⟩:=h;refine⟨A,c,hv,a,d,fun n=> ?_⟩;obtain⟨b,off,g,j,m,hc⟩:=e n;exact⟨b,off,g,i b j m,hc⟩
def IsR (w:f) (S:Nat->Prop) (v:r) (a:Raw):Prop:=
 ∃A c B d,v= .agg #[.bool a.neg,.slice A a.num.length c,.slice B a.den.length d]/\IsK .u32 w S (.slice A a.num.length c) a.num/\IsK .u32 w S (.slice B a.den.length d) a.den
theorem IsR.stb:Stb IsR:=by rintro w w' S T v r ⟨A,c,B,d,hv,b,e⟩ a;exact⟨A,c,B,d,hv,IsK.stb.to b a,IsK.stb.to e a⟩
def IsQ (w:f) (S:Nat->Prop) (v:r) (q:Rat):Prop:=IsR w S v (C7 q)
theorem IsQ.stb:Stb IsQ:=fun _ _ _ _ _ _ h a=>IsR.stb.to h a
def IsV:f->(Nat->Prop)->r->List Raw->Prop:=IsS 3 IsR
def IsM:f->(Nat->Prop)->r->List (List Raw)->Prop:=IsS 1 IsV
theorem IsV.stb:Stb IsV:=IsS.stb IsR.stb
theorem IsM.stb:Stb IsM:=IsS.stb IsV.stb
def C3 (w:f):Nat->Prop:=fun b=>b<w.heap.size
def G4 (n:Nat) (w:f):Nat->Prop:=fun b=>n<=b/\b<w.heap.size
theorem E7 {w w':f} (h:A w.heap.size w w'):K6 (C3 w) (C3 w') w w':=fun b a=>⟨I a h.size,fun o=>h.cell (p:=⟨b,o,none⟩) a⟩
theorem ztk {w w':f} {n:Nat} (h:A w.heap.size w w'):K6 (G4 n w) (G4 n w') w w':=fun b a=>⟨⟨a.1,I a.2 h.size⟩,fun o=>h.cell (p:=⟨b,o,none⟩) a.2⟩
theorem F7 {w:f} {S:Nat->Prop} (h:∀b,S b->T b):K6 S T w w:=fun b a=>⟨h b a,fun _=>rfl⟩
theorem zqy {w w':f} {S:Nat->Prop} {B:Nat} (h:A B w w') (c:∀b,S b->b<B):K6 S S w w':=fun b a=>⟨a,fun o=>h.cell (p:=⟨b,o,none⟩) (c b a)⟩
theorem yjp {w:f} {n:Nat}:∀b,G4 n w b->C3 w b:=fun b h=>h.2
theorem yxs {w:f} {n:Nat} (h:m<=n):∀b,G4 n w b->G4 m w b:=fun b a=>⟨E h a.1,a.2⟩
def OwnS {a:Type} (n:Nat) (t:B) (R:f->(Nat->Prop)->r->a->Prop) (w:f) (base:Nat) (S:Nat->Prop) (v:r) (l:List a):Prop:=
 ∃es,w.ownsRow base t n v l.length (cellsOf es)/\Wid n es/\All2 (R w S) es l/\∀b,S b->b<w.heap.size/\some b≠v.ownBlock
theorem OwnS.nil {a:Type} {n:Nat} {t:B} {R:f->(Nat->Prop)->r->a->Prop} {w:f} {S:Nat->Prop} (c:∀b,S b->b<w.heap.size):OwnS n t R w base S (.slice none 0 0) ([]:List a):=
 ⟨[],by simpa[cellsOf] using World.ownsRow_nil w base t n,Wid.nil,All2.nil,fun b d=>⟨c b d,by simp[Value.ownBlock]⟩⟩
theorem OwnS.step {i:Type} {n:Nat} {t:B} {R:f->(Nat->Prop)->r->i->Prop} (p:Stb R) {w w':f} {S:Nat->Prop} {l:List i} (h:OwnS n t R w base S v l)
 (a:A w.heap.size w w') (q:∀b,S b->T b) (s:∀b,T b->S b\/(w.heap.size<=b/\b<w'.heap.size)):OwnS n t R w' base T v l:=by
 obtain⟨es,d,j,m,g⟩:=h;have hg:w.grownBy w' none:=⟨a.os,a.tape,a.output,a.size,fun k u _=>a.block k u⟩;refine⟨es,d.kept hg (by cases v.ownBlock<;>simp),j,m.imp fun x y h=>p.to h fun b c=>⟨q b c,fun o=>a.cell (p:=⟨b,o,none⟩) (g b c).1⟩,fun b c=> ?_⟩;rcases s b c with h|h
 ·have:=g b h;exact⟨I this.1 a.size,this.2⟩
 ·refine⟨h.2,fun e=> ?_⟩;have:=(d.lt b e.symm).2;omega
theorem OwnS.app {i:Type} {n:Nat} {t:B} {R:f->(Nat->Prop)->r->i->Prop} (j:Stb R) {w w':f} {S:Nat->Prop} {g e:r} {l:List i} {x:i}
 (m:Wid n es) (p:All2 (R w S) es l) (d:∀b,S b->b<w.heap.size/\some b≠v.ownBlock) (q:R w S e x) (s:e.cells.size=n)
 (z:w'.ownsRow base t n g (l.length+1) (cellsOf es++e.cells.toList)) (hg:w.grownBy w' v.ownBlock) (u:g.ownBlock=v.ownBlock\/g.ownBlock=some w.heap.size):
 OwnS n t R w' base S g (l++[x]):=by
 have k:K6 S S w w':=fun b a=>⟨a,fun o=>World.cell?_of_block (hg.block b (d b a).1 (d b a).2)⟩;refine⟨es++[e],?_,m.snoc s,(p.imp fun x y h=>j.to h k).snoc (j.to q k),fun b a=>⟨I (d b a).1 hg.size,fun c=> ?_⟩⟩
 ·rw[yfg,yqk,List.length_append];exact z
 ·have:=d b a;rcases u with h|h
  ·rw[h] at c;exact this.2 c
  ·rw[h] at c;simp at c;omega
theorem OwnS.isS {d:Type} {n:Nat} {t:B} {R:f->(Nat->Prop)->r->d->Prop} (k:Stb R) {w:f} {S:Nat->Prop} {l:List d} (h:OwnS n t R w base S v l)
 (m:∀b,S b->T b) (o:∀b,base<=b->b<w.heap.size->T b):IsS n R w T v l:=by
 obtain⟨es,c,e,i,F⟩:=h;have C:K6 S T w w:=fun b a=>⟨m b a,fun _=>rfl⟩;rcases c.2 with⟨rfl,z⟩|⟨g,cap,E,rfl,a,q,A,p,G,H⟩
 ·have s:l=[]:=List.eq_nil_of_length_eq_zero z;subst s;exact IsS.nil
 ·refine⟨some ⟨g,0,none⟩,cap,es,rfl,A,p,fun _=>⟨g,0,rfl,o g a (Array.getElem?_eq_some_iff.1 q).1,fun j u D=> ?_⟩,e,i.imp fun x y h=>k.to h C⟩;have:=c.cells (g:=g) rfl j u D;rw[Addr.add_lit] at this;exact this
section
variable {P : Program} {w : f} {ops : Array Oper} {rest : List Oper} {o : Oper} {a : Act} {Q : Exit → Act → f → Prop} {t e : B}
structure ElN (P:Program) (t e:B) (n bytes:Nat):Prop where
 und:P.underlying t=some (.slice e)
 info:∃i z,P.info? e=some i/\i.zero=some z/\i.size=n/\i.bytes=bytes/\z.cells.size=n
 pos:0<n
theorem zpz {n:Nat} (p:ElN P t e n bytes) (aa:o.guard=none) (s x:Operand) (ac:o.op= .call {callee:= .builtin .append,args:= #[s,x],argTypes:= #[t,t]})
 {G:Type} {R:f->(Nat->Prop)->r->G->Prop} (E:Stb R) {S:Nat->Prop} {c:r} {l:List G} {y:G} {F:B} {J:Array r}
 (ae:a.eval s=v) (ah:a.eval x= .slice (some ⟨w.heap.size,0,none⟩) 1 1) (Y:J=c.cells) (ad:OwnS n e R w base S v l) (Z:R w S c y) (M:c.cells.size=n)
 (T:∀u∈c.cells,u.oneCell'=true) (d:(l.length+1)*(bytes+1)<=140737488355328) (W:base<=w.heap.size)
 (h:∀m w',OwnS n e R w' base S m (l++[y])->A base w w'->w.heap.size<=w'.heap.size->wpList P ops Q rest (a.put o.dst m) w'):wpList P ops Q (o::rest) a (w.alloc (.cells J F)):=by
 subst Y
 obtain⟨i,z,hi,ai,af,X,aj⟩:=p.info
 obtain⟨es,K,U,V,C⟩:=ad
 rw[Nat.mul_add,Nat.mul_one] at d
 have L:=(H w.heap.size w).alloc (D _) (.cells c.cells F)
 have hst:K6 S S w (w.alloc (.cells c.cells F)):=zqy L (fun b d=>(C b d).1)
 refine wpList_append_own_at _ aa s x t ac base e i z n bytes p.und hi ai af X aj p.pos v l.length (cellsOf es) ae (K.alloc _) ⟨w.heap.size,0,none⟩ 1 1 c.cells.toList ah (by simp[M]) (fun j u ag=> ?_) (by simpa using T)
  (by unfold maxLen;omega) og (by simp;omega) fun m w' N q _ O=>h m w' ?_ ?_ ?_
 ·rw[Addr.add_lit,Nat.zero_add,cell_of_row _ _ _ _ _ _ (heap_alloc_new w _)]
  simpa using ag
 ·refine OwnS.app E U (V.imp fun x y h=>E.to h hst) (fun b d=>⟨I (C b d).1 L.size,(C b d).2⟩) (E.to Z hst) M N q ?_
  rcases O with g|g
  ·exact .inl g
  ·exact .inr g
 ·exact((H base w).alloc W _).grown q (by simp;omega) (fun k ab=>(K.lt k ab).1)
 ·have:=q.size
  simp at this
  omega
theorem zxc {n:Nat} (p:ElN P t e n bytes) (hg:o.guard=none) (l c:Operand) (K:o.op=Op.makeSlice t l c) {x:Type} (R:f->(Nat->Prop)->r->x->Prop) {u s:IntKind} {C:Int} (m:Nat)
 (J:a.eval l= .int u 0) (hc:a.eval c= .int s C) (E:C=(m:Int)) (d:m*(bytes+1)<=140737488355328) {S:Nat->Prop} (O:base<=w.heap.size) (q:∀b,S b->b<w.heap.size)
 (F:∀v w',OwnS n e R w' base S v ([]:List x)->A w.heap.size w w'->w.heap.size<=w'.heap.size->wpList P ops Q rest (a.put o.dst v) w'):
 wpList P ops Q (o::rest) a w:=by
 obtain⟨i,z,hi,M,L,G,T⟩:=p.info;rw[Nat.mul_add,Nat.mul_one] at d
 refine wpList_make_own w hg l c t K w.heap.size e i z n p.und hi M L u s C m J hc E (by rw[G,Nat.mul_comm];omega) (by unfold maxLen;omega) (D _)
  fun w' j k=>F _ w' ⟨[],⟨j.1,?_⟩,Wid.nil,All2.nil,fun b d=>⟨I (q b d) k.size,fun B=> ?_⟩⟩ ((H _ _).grown k (D _) (by simp)) k.size
 ·rcases j.2 with h|⟨g,cap,y,hv,N,rest⟩
  ·exact .inl h
  ·exact .inr ⟨g,cap,y,hv,by omega,rest⟩
 ·have:=(j.lt b B.symm).1;have:=q b d;omega
end
section
variable {d q : Rat} {x z neg : Bool} {n G : Nat}
theorem zsd {q:Rat} {s:Bool} (h:s=decide (q.num<0)):sg s q.num.natAbs=q.num:=by rw[h];exact zuv _
theorem zuk (q:Rat):mkRat q.num q.den=q:=Rat.mkRat_self q
theorem ykr (a:x=decide (d.num<0)) (b:z=decide (q.num<0)) (c:sg neg n=sg x (d.num.natAbs*(q.den/G))+sg z (q.num.natAbs*(d.den/G))):
 sg neg n=d.num*((q.den/G:Nat):Int)+q.num*((d.den/G:Nat):Int):=by rw[c,zwr,zwr,zsd a,zsd b]
theorem ykt (a:x=decide (d.num<0)) (b:z=decide (q.num<0)) (c:G=Nat.gcd d.den q.den) (e:sg neg n=sg x (d.num.natAbs*(q.den/G))+sg z (q.num.natAbs*(d.den/G))) (f:n≠0):
 C7 (d+q)=⟨neg,A9 (n/Nat.gcd n G),A9 (d.den/G*(q.den/Nat.gcd n G))⟩:=by have h:=ykr a b e;subst c;have:=zz1364 (i:=d.num) (j:=q.num) (a:=d.den) (b:=q.den) (n:=n) (neg:=neg) d.den_nz q.den_nz d.reduced q.reduced h f;rw[zuk,zuk] at this;exact this
theorem yzl (a:x=decide (d.num<0)) (b:z=decide (q.num<0)) (c:G=Nat.gcd d.den q.den) (f:sg neg n=sg x (d.num.natAbs*(q.den/G))+sg z (q.num.natAbs*(d.den/G))) (g:n≠0) (e:G=1):
 C7 (d+q)=⟨neg,A9 n,A9 (d.den*q.den)⟩:=by have h:=ykt a b c f g;rw[e,Nat.gcd_one_right,Nat.div_one,Nat.div_one,Nat.div_one] at h;exact h
theorem yzk (a:x=decide (d.num<0)) (b:z=decide (q.num<0)) (c:G=Nat.gcd d.den q.den) (e:sg neg n=sg x (d.num.natAbs*(q.den/G))+sg z (q.num.natAbs*(d.den/G))) (f:n=0):d+q=0:=by have h:=ykr a b e;subst c;rw[f,zuw] at h;have:=yzo (i:=d.num) (j:=q.num) (a:=d.den) (b:=q.den) d.den_nz q.den_nz h.symm;rw[zuk,zuk] at this;exact this
theorem ydc (a:x=decide (d.num<0)) (b:z=decide (q.num<0)) (c:sg neg n=sg x (d.num.natAbs*q.den)+sg z (q.num.natAbs*d.den)):mkRat (sg neg n) (d.den*q.den)=d+q:=by rw[c,zwr,zwr,zsd a,zsd b,Rat.add_def']
theorem zz1444 (a:x=decide (d.num<0)) (b:z=decide (q.num<0)) (ha:d≠0) (c:q≠0):
 C7 (d*q)=⟨x !=z,A9 (d.num.natAbs/Nat.gcd d.num.natAbs q.den*(q.num.natAbs/Nat.gcd q.num.natAbs d.den)),A9 (d.den/Nat.gcd q.num.natAbs d.den*(q.den/Nat.gcd d.num.natAbs q.den))⟩:=by have:=zz1365 (p:=x) (q:=z) d.den_nz q.den_nz (zmr ha) (zmr c) d.reduced q.reduced;rw[zsd a,zsd b,zuk,zuk] at this;exact this
theorem ynk (a:x=decide (d.num<0)) (b:z=decide (q.num<0)):mkRat (sg (x !=z) (d.num.natAbs*q.num.natAbs)) (d.den*q.den)=d*q:=by rw[zwq,zsd a,zsd b,Rat.mul_def']
end
def zxq (p q:Rat):Int:=if p<q then -1 else if p=q then 0 else 1
theorem yqx {q:Rat}:zxq p q=0↔p=q:=by
 unfold zxq;split
 ·rename_i h;exact⟨fun a=>by omega,fun a=>absurd a (Rat.ne_of_lt h)⟩
 ·split
  ·rename_i h;exact⟨fun _=>h,fun _=>rfl⟩
  ·rename_i h;exact⟨fun a=>by omega,fun a=>absurd a h⟩
def znj (q:Rat):Int:=if q=0 then 0 else if q<0 then -1 else 1
theorem zz1409 (q:Rat):znj q=zxq q 0:=by
 unfold znj zxq;by_cases h:q=0
 ·rw[if_pos h,if_neg (by rw[h];exact Rat.lt_irrefl),if_pos h]
 ·rw[if_neg h];by_cases a:q<0
  ·rw[if_pos a,if_pos a]
  ·rw[if_neg a,if_neg a,if_neg h]
theorem sgnQ_zero {q:Rat}:znj q=0↔q=0:=by rw[zz1409];exact yqx
def bruT:List Nat:=Lib.deBruijn64tab
def Bru (w:f):Prop:=0<w.heap.size/\∀i,i<64->w.cell? ⟨0,i,none⟩=some (.int .u8 (bruT.getD i 0:Nat))
theorem Bru.below {w w':f} (h:Bru w) (a:A w.heap.size w w'):Bru w':=
 ⟨I h.1 a.size,fun i hi=>(a.cell (p:=⟨0,i,none⟩) h.1).trans (h.2 i hi)⟩
theorem Bru.alloc {w:f} (h:Bru w) (o:Obj):Bru (w.alloc o):=h.below ((H _ _).alloc (D _) o)
theorem Bru.drewN {w:f} (h:Bru w) (n:Nat):Bru (w.drewN n):=h
theorem zz1452 (x a:Nat) (d:x<18446744073709551616) (e:x≠0) (c:x&&&(18446744073709551616-x)=a):
 IntKind.u64.wrap (bits BinOp.and IntKind.u64 (x:Int) (IntKind.u64.wrap (-(x:Int)))*285870213051353865)/288230376151711744=((a*285870213051353865%18446744073709551616/288230376151711744:Nat):Int):=by have b:IntKind.u64.wrap (-(x:Int))=((18446744073709551616-x:Nat):Int):=(by rw[IntKind.wrap_u64];omega);rw[b,bits_and_u64_nat x _ d og,c,IntKind.wrap_u64];omega
theorem zz1451 (x k a:Nat) (w:f) (d:((x:Int)==0)=false)
 (key:IntKind.u64.wrap (bits BinOp.and IntKind.u64 (x:Int) (IntKind.u64.wrap (-(x:Int)))*285870213051353865)/288230376151711744=(a:Int))
 (hi:a<64) (c:k<64) (b:w.cell? ⟨0,a,none⟩=some (.int .u8 k)):
 Calls Tryz.prog 194 #[.int .u64 x] w fun e w'=>e= .returned (.int .i64 k)/\w=w':=by go_in;go_wp2_with (simp only[key]);go_ret;exact⟨rfl,rfl⟩
theorem yee (x:Nat) (w:f) (g:Bru w) (d:x≠0) (c:x<18446744073709551616):
 ∃k m:Nat,k<64/\x=2^k*(2*m+1)/\Calls Tryz.prog 194 #[.int .u64 (x:Int)] w fun e w'=>e= .returned (.int .i64 (k:Int))/\w=w':=by obtain⟨h,b⟩:=Lib.lowest_bit 64 x d c;obtain⟨hi,j⟩:=Lib.deBruijn64_at _ b;have a:=g.2 _ hi;unfold bruT at a;rw[j] at a;obtain⟨m,i,_⟩:=Lib.ctzFrom_spec 64 x og c;refine⟨Lib.ctz 64 x,m,b,?_,zz1451 x _ _ w (by simp;omega) (zz1452 x _ c d h) hi b a⟩;unfold Lib.ctz;rw[if_neg d];exact i
abbrev NumS (w:f) (S:Nat->Prop) (v:r) (n:Nat):Prop:=IsK .u32 w S v (A9 n)
theorem ybq {w:f} {S:Nat->Prop} {vd:r} {q:Rat} {neg:Bool} {n d:Nat} (h:C7 q=⟨neg,A9 n,A9 d⟩) (l:NumS w S C n) (hd:NumS w S vd d):IsQ w S (.agg #[.bool neg,C,vd]) q:=by obtain⟨A,c,rfl,b,g,j⟩:=l;obtain⟨B,a,rfl,e,i,k⟩:=hd;unfold IsQ;rw[h];exact⟨A,c,B,a,rfl,⟨A,c,rfl,b,g,j⟩,⟨B,a,rfl,e,i,k⟩⟩
theorem G7 {w:f} {S:Nat->Prop} {q:Rat} (h:IsQ w S v q):∃neg A c B d,v= .agg #[.bool neg,.slice A (A9 q.num.natAbs).length c,.slice B (A9 q.den).length d]/\s (neg=decide (q.num<0))/\
 s (NumS w S (.slice A (A9 q.num.natAbs).length c) q.num.natAbs)/\s (NumS w S (.slice B (A9 q.den).length d) q.den):=by obtain⟨A,c,B,d,rfl,a,b⟩:=h;exact⟨_,A,c,B,d,rfl,rfl,a,b⟩
theorem E9 {w:f} {n:Nat} (h:NumS w (C3 w) v n):IsN w 0 w.heap.size v n:=h.isL fun b a=>⟨Nat.zero_le _,a⟩
theorem zpp {w:f} {n lo:Nat} (h:IsN w lo w.heap.size v n):NumS w (G4 lo w) v n:=h.isK fun b a c=>⟨a,c⟩
theorem zoi {w:f} {n lo:Nat} (h:IsN w lo w.heap.size v n):NumS w (C3 w) v n:=h.isK fun b c a=>a
theorem Stb.next {a:Type} {R:f->(Nat->Prop)->r->a->Prop} (b:Stb R) {w w':f} {x:a} (h:R w (C3 w) v x) (c:A w.heap.size w w'):R w' (C3 w') v x:=b.to h (E7 c)
theorem Stb.fresh {a:Type} {R:f->(Nat->Prop)->r->a->Prop} (b:Stb R) {w w':f} {n:Nat} {x:a} (h:R w (G4 n w) v x) (c:A w.heap.size w w'):R w' (G4 n w') v x:=b.to h (ztk c)
theorem Stb.old {a:Type} {R:f->(Nat->Prop)->r->a->Prop} (b:Stb R) {w:f} {n:Nat} {x:a} (h:R w (G4 n w) v x):R w (C3 w) v x:=b.to h (F7 yjp)
theorem Stb.le {a:Type} {R:f->(Nat->Prop)->r->a->Prop} (b:Stb R) {w:f} {n:Nat} {x:a} (h:R w (G4 n w) v x) (c:m<=n):R w (G4 m w) v x:=b.to h (F7 (yxs c))
theorem zyv {w:f} {S:Nat->Prop}:NumS w S (.slice none 0 0) 0:=by unfold NumS;rw[N6];exact⟨none,0,rfl,D _,by unfold maxLen;omega,SVS.nil⟩
def N8 (w:f) (q:Rat) (e:Ending) (w':f):Prop:=(∃v,e= .returned v/\IsQ w' (G4 w.heap.size w') v q)/\A w.heap.size w w'
theorem Row.next {w w':f} {t:B} (h:Row w g t xs) (a:A w.heap.size w w'):Row w' g t xs:=h.below a h.lt
theorem C6 {w a:f} (h:A w.heap.size w y) (b:A y.heap.size y a):A w.heap.size w a:=h.trans (b.mono h.size)
theorem ypy {w:f} {n:Nat} (h:A n w y) (o:Obj) (a:n<=y.heap.size:=by first|exact Below.size ‹_›|simp):A n w (y.alloc o):=h.alloc a o
abbrev put3 (w:f) (g:Nat) (a b c:r):f:=((w.setCell ⟨g,0,none⟩ a).setCell ⟨g,1,none⟩ b).setCell ⟨g,2,none⟩ c
theorem Row.put3 {w:f} {t:B} {x y z:r} (h:Row w g t [x,y,z]) (a b c:r):Row (put3 w g a b c) g t [a,b,c]:=((h.set_ 0 a).set_ 1 b).set_ 2 c
theorem zoc {w:f} {n:Nat} (h:A n w y) (hg:n<=g) (a b c:r):A n w (put3 y g a b c):=((h.setCell (p:=⟨g,0,none⟩) hg a).setCell (p:=⟨g,1,none⟩) hg b).setCell (p:=⟨g,2,none⟩) hg c
theorem zsf (w:f) (g:Nat) (a b c:r):(put3 w g a b c).heap.size=w.heap.size:=by simp[put3,World.setCell]
theorem zpg {w:f} {S:Nat->Prop} {a b c:r} (h:∀x,S x->x≠g/\T x):K6 S T w (put3 w g a b c):=fun x d=>by
 have:=h x d
 refine⟨this.2,fun o=> ?_⟩
 rw[J _ _ _ _ (fun e=>this.1 (by cases e;rfl)),J _ _ _ _ (fun e=>this.1 (by cases e;rfl)),J _ _ _ _ (fun e=>this.1 (by cases e;rfl))]
theorem B9 {w:f} {t:B} {x y z:r} (h:Row w g t [x,y,z]):w.cell? ⟨g,0,none⟩=some x/\w.cell? ⟨g,1,none⟩=some y/\w.cell? ⟨g,2,none⟩=some z:=⟨h.cell 0,h.cell 1,h.cell 2⟩
theorem E0 {w:f} {t:B} {x y z:r} (h:Row w g t [x,y,z]):w.frozen? ⟨g,0,none⟩=false/\w.frozen? ⟨g,1,none⟩=false/\w.frozen? ⟨g,2,none⟩=false:=⟨h.frozen 0,h.frozen 1,h.frozen 2⟩
theorem C0 {w w':f} {p:Addr} (a:A w.heap.size w w') (h:w.cell? p=some v):w'.cell? p=some v:=(a.cell (N w p h)).trans h
theorem I8 {w w':f} {p:Addr} (a:A w.heap.size w w') (h:w.cell? p=some v) (hf:w.frozen? p=false):w'.frozen? p=false:=(a.frozen (N w p h)).trans hf
theorem T7 {w:f} {o:Nat} {x y z:r} (h:w.cell? ⟨b,o,none⟩=some v) (hg:b≠g):(put3 w g x y z).cell? ⟨b,o,none⟩=some v:=by rw[J _ _ _ _ (fun e=>hg (by cases e;rfl)),J _ _ _ _ (fun e=>hg (by cases e;rfl)),J _ _ _ _ (fun e=>hg (by cases e;rfl))];exact h
theorem M7 {fn:Func} {slot:Tmp} {R:Ending->f->Prop} {a:Act} {w:f} {x y z:r} (hr:fn.results= #[.cell slot 30]) (ha:a.tmps.getD slot undef= .pointer (some ⟨g,0,none⟩)) (hd:a.defers=[])
 (h:Row w g 30 [x,y,z]) (e:R (.returned (.agg #[x,y,z])) w):bodyPost Tryz.prog fn R .ret a w:=by refine bodyPost_ret (v:= .agg #[x,y,z]) ?_ hd e;obtain⟨b,c,d⟩:=B9 h;have i:a.tmps[slot]?.getD undef= .pointer (some ⟨g,0,none⟩):=(by simpa using ha);simp[results,hr,i,asAddr,go_sem,b,c,d]
theorem zme {w:f} {b c:Nat} {vd:r} {q:Rat} {neg:Bool} {n d:Nat} (h:C7 q=⟨neg,A9 n,A9 d⟩) (i:A w.heap.size w y) (hg:w.heap.size<=g)
 (e:NumS y (G4 b y) C n) (hd:NumS y (G4 c y) vd d) (j:g<b) (k:g<c):N8 w q (.returned (.agg #[.bool neg,C,vd])) (put3 y g (.bool neg) C vd):=by
 refine⟨⟨_,rfl,ybq h (IsK.stb.to e (zpg fun x a=> ?_)) (IsK.stb.to hd (zpg fun x a=> ?_))⟩,zoc i hg _ _ _⟩
 ·exact⟨by have:=a.1;omega,by have:=a.1;omega,by rw[zsf];exact a.2⟩
 ·exact⟨by have:=a.1;omega,by have:=a.1;omega,by rw[zsf];exact a.2⟩
theorem zky {w:f} {lo:Nat} {x vd:r} {q:Rat} (h:IsQ y (G4 lo y) (.agg #[x,C,vd]) q) (c:A w.heap.size w y) (hg:w.heap.size<=g) (hlo:g<lo):N8 w q (.returned (.agg #[x,C,vd])) (put3 y g x C vd):=
 ⟨⟨_,rfl,IsQ.stb.to h (zpg fun b a=>⟨by have:=a.1;omega,by have:=a.1;omega,by rw[zsf];exact a.2⟩)⟩,zoc c hg _ _ _⟩
theorem zkx {w:f} {S:Nat->Prop} {vd:r} {q:Rat} {neg:Bool} (h:IsQ w S (.agg #[.bool neg,C,vd]) q):NumS w S C q.num.natAbs:=by obtain⟨A,c,B,d,hv,a,b⟩:=h;simp only[Value.agg.injEq] at hv;injection hv with hv;simp only[List.cons.injEq] at hv;obtain⟨_,rfl,rfl,_⟩:=hv;exact a
theorem zle {w:f} {S:Nat->Prop} {vd:r} {q:Rat} {neg:Bool} (h:IsQ w S (.agg #[.bool neg,C,vd]) q):NumS w S vd q.den:=by obtain⟨A,c,B,d,hv,b,a⟩:=h;simp only[Value.agg.injEq] at hv;injection hv with hv;simp only[List.cons.injEq] at hv;obtain⟨_,rfl,rfl,_⟩:=hv;exact a
theorem zpe {w:f} {S:Nat->Prop} {A:Option Addr} {n x:Nat} (h:NumS w S (.slice A n c) x) (a:(A9 x).length=1):∃b o,A=some ⟨b,o,none⟩/\w.cell? ⟨b,o,none⟩=some (.int .u32 (x:Int))/\1<=(x:Int)/\(x:Int)<=999999999:=by obtain⟨k,l,hv,m,p,d⟩:=h;simp only[Value.slice.injEq] at hv;obtain⟨rfl,rfl,rfl⟩:=hv;have j:x≠0:=(by rintro rfl;rw[N6] at a;simp at a);have i:x<1000000000:=(by have:=lim_len_le.1 (Nat.le_of_eq a);rw[zur] at this;exact this);have e:=ztd i j;rw[e] at d;obtain⟨b,o,g,_,hc⟩:=d (by simp[C8]);have:=hc 0 (.int .u32 (x:Int)) (by simp[C8]);exact⟨b,o,g,this,by omega,by omega⟩
theorem J5 (w:f) (b:Array r) (c:B):∃a,w.alloc (.cells b c)=a/\A w.heap.size w a/\Row a w.heap.size c b.toList/\s (a.heap.size=w.heap.size+1):=
 ⟨_,rfl,(H _ w).alloc (D _) _,heap_alloc_new w _,by simp[s]⟩
theorem zko (w:f) (a d:Array r) (c e:B):∃b,(w.alloc (.cells a c)).alloc (.cells d e)=b/\A w.heap.size w b/\Row b w.heap.size c a.toList/\Row b (w.heap.size+1) e d.toList/\s (b.heap.size=w.heap.size+2):=by refine⟨_,rfl,((H _ w).alloc (D _) _).alloc (by simp) _,Row.alloc (xs:=a.toList) (heap_alloc_new w (.cells a c)) _,?_,by simp[s]⟩;have:=heap_alloc_new (w.alloc (.cells a c)) (.cells d e);rw[M] at this;exact this
theorem znm (w:f) (b c g:Array r) (d e h:B):∃a,((w.alloc (.cells b d)).alloc (.cells c e)).alloc (.cells g h)=a/\A w.heap.size w a/\Row a w.heap.size d b.toList/\Row a (w.heap.size+1) e c.toList/\Row a (w.heap.size+1+1) h g.toList/\s (a.heap.size=w.heap.size+3):=by obtain⟨y,rfl,i,j,k,l⟩:=zko w b c d e;refine⟨_,rfl,i.alloc i.size _,j.alloc _,k.alloc _,?_,by simp[s]⟩;have:=heap_alloc_new ((w.alloc (.cells b d)).alloc (.cells c e)) (.cells g h);rw[l.out] at this;exact this
theorem L8 (w:f) (o:Obj):A w.heap.size w (w.alloc o):=(H _ w).alloc (D _) o
theorem U4 (w:f):A w.heap.size w w.drew:=⟨rfl,rfl,rfl,D _,fun _ _=>rfl⟩
def Rd (w:f) (v:r) (n:Nat):Prop:=∀w',A w.heap.size w w'->IsN w' 0 w'.heap.size v n
theorem Rd.to {w w':f} {n:Nat} (h:Rd w v n) (a:A w.heap.size w w'):IsN w' 0 w'.heap.size v n:=h w' a
theorem NumS.rd {w:f} {n:Nat} (h:NumS w (C3 w) v n):Rd w v n:=fun w' a=>E9 (IsK.stb.next h a)
theorem zsz (x:Nat) {y:Nat} (h:y≠0):0<Nat.gcd x y:=Nat.gcd_pos_of_pos_right _ og
theorem zsy (x:Nat) {y:Nat} (h:y≠0) (a:(A9 y).length<=k):(A9 (Nat.gcd x y)).length<=k:=E (W9 (Nat.le_of_dvd og (Nat.gcd_dvd_right _ _))) a
theorem znq {x y:Nat} (a:(A9 x).length<=k):(A9 (x/y)).length<=k:=E (W9 (Nat.div_le_self _ _)) a
theorem IsN.next {w w':f} {n:Nat} (h:IsN w 0 w.heap.size v n) (a:A w.heap.size w w'):IsN w' 0 w'.heap.size v n:=(h.below a (D _)).wide (D _) a.size
theorem Bru.next {w w':f} (h:Bru w) (a:A w.heap.size w w'):Bru w':=h.below a
theorem ymp {w w':f} {n:Nat} (h:n<=w.heap.size) (a:A w.heap.size w w'):n<=w'.heap.size:=E h a.size
theorem M6 {w:f} {n lo:Nat} (h:IsN w lo w.heap.size v n) (a:m<=lo):NumS w (G4 m w) v n:=IsK.stb.le (zpp h) a
theorem zud {w:f} {n lo:Nat} (h:IsN w lo w.heap.size v n):NumS w (C3 w) v n:=zoi h
theorem nQ {w w':f} {q:Rat} (h:s (IsQ w (C3 w) v q)) (a:A w.heap.size w w'):s (IsQ w' (C3 w') v q):=IsQ.stb.next h.out a
theorem nV {w w':f} {l:List Raw} (h:s (IsV w (C3 w) v l)) (a:A w.heap.size w w'):s (IsV w' (C3 w') v l):=IsV.stb.next h.out a
theorem nM {w w':f} {l:List (List Raw)} (h:s (IsM w (C3 w) v l)) (a:A w.heap.size w w'):s (IsM w' (C3 w') v l):=IsM.stb.next h.out a
theorem nR {w w':f} {t:B} (h:s (Row w g t xs)) (a:A w.heap.size w w'):s (Row w' g t xs):=Row.next h.out a
theorem nB {w a w':f} (h:s (A w.heap.size w a)) (b:A a.heap.size a w'):s (A w.heap.size w w'):=C6 h.out b
theorem nS {n:Nat} {w w':f} (h:s (n<=w.heap.size)) (a:A w.heap.size w w'):s (n<=w'.heap.size):=ymp h.out a
theorem nU {w w':f} (h:s (Bru w)) (a:A w.heap.size w w'):s (Bru w'):=Bru.next h.out a
theorem zvh {w X:f} (h:A w.heap.size w X) (o:Obj):A w.heap.size w (X.alloc o):=h.alloc h.size o
theorem ypv {w X:f} (h:A w.heap.size w X):A w.heap.size w X.drew:=C6 h (U4 X)
theorem yey {w X:f} (h:A w.heap.size w y) (d:A w.heap.size w X) (a b c:r):A w.heap.size w (put3 y X.heap.size a b c):=zoc h d.size a b c
theorem ypx {w:f} {o:Nat} (h:A w.heap.size w y) (hg:w.heap.size<=g):A w.heap.size w (y.setCell ⟨g,o,none⟩ u):=h.setCell (p:=⟨g,o,none⟩) hg u
theorem yjd {X a:f} {o:Obj} (h:A (X.alloc o).heap.size (X.alloc o) a):X.heap.size<a.heap.size:=by have:=h.size;rw[M] at this;omega
theorem Row.far3 {w:f} {s:Nat} {t:B} (h:Row w g t xs) (hg:g≠s) (a b c:r):Row (Go.Proofs.YtlhhbccgfkhflaaGreatDoor.put3 w s a b c) g t xs:=((h.far (p:=⟨s,0,none⟩) hg a).far (p:=⟨s,1,none⟩) hg b).far (p:=⟨s,2,none⟩) hg c
abbrev zts:Obj:= .cells #[.bool false,.slice none 0 0,.slice none 0 0] 30
theorem yhb {X:f} {lo:Nat} {a b c:r} {q:Rat} (hv:IsQ h (G4 lo h) (.agg #[a,b,c]) q) (j:A wB.heap.size wB h) (e:A wB.heap.size wB X) (hr:A (X.alloc zts).heap.size (X.alloc zts) h)
 (hlo:X.heap.size<lo) (m:wB.heap.size<=lo) (hg:X.heap.size=g):
 ∃d,put3 h g a b c=d/\A wB.heap.size wB d/\Row d g 30 [a,b,c]/\IsQ d (fun b=>G4 wB.heap.size d b/\b≠g) (.agg #[a,b,c]) q/\s (wB.heap.size<=g):=by subst hg;refine⟨_,rfl,yey j e a b c,Row.put3 (Row.next (heap_alloc_new X zts) hr) a b c,?_,e.size⟩;refine IsQ.stb.to hv (zpg fun x i=> ?_);have k:=i.1;have l:=i.2;refine⟨by omega,⟨by omega,by rw[zsf];omega⟩,by omega⟩
theorem ytr {lo:Nat} {a b c:r} {q:Rat} (hv:IsQ h (G4 lo h) (.agg #[a,b,c]) q) (f:A wB.heap.size wB h) (g:wB.heap.size<=lo):
 ∃d,h.alloc (.cells #[a,b,c] 30)=d/\A wB.heap.size wB d/\Row d h.heap.size 30 [a,b,c]/\IsQ d (fun b=>G4 wB.heap.size d b/\b≠h.heap.size) (.agg #[a,b,c]) q/\s (wB.heap.size<=h.heap.size):=by refine⟨_,rfl,zvh f _,heap_alloc_new h _,?_,f.size⟩;refine IsQ.stb.to hv fun x e=>⟨⟨⟨by have:=e.1;omega,by have:=e.2;rw[M];omega⟩,by have:=e.2;omega⟩,fun o=> ?_⟩;exact(L8 h _).cell (p:=⟨x,o,none⟩) e.2
section
variable {P : Program} {ops : Array Oper} {Q : Exit → Act → f → Prop} {md : Region.Mode} {S : f → Prop}
theorem ynf {i:Nat} (d:Option Tmp) {listed:Array Bool} {a:Act} {w:f} (hi:ops[i]? =some F) (hd:F.dst=d) (g:Region.noSelect ops=true) (hf:Region.free md ops listed i=true) (hr:(Region.ready md ops listed).contains i=true)
 (j:Region.wanted F (yielded ops a.tmps)=true) (b:∀c a w,Q (.panic c) (a.put d v) w->Q (.panic c) a w) (k:∀w,S w->(execOp a.eval F).run P w= .ok (.value v) w) (e:S w)
 (h:wpAnyH P md ops Q S L (listed.setIfInBounds i true) (a.put d v) w):wpAnyH P md ops Q S (L+1) listed a w:=by subst hd;exact wpAnyH_take hi g hf hr b (Or.inl ⟨j,k⟩) e h
theorem yng {i:Nat} (d:Option Tmp) {listed:Array Bool} {a:Act} {w:f} (hi:ops[i]? =some F) (hd:F.dst=d) (g:Region.noSelect ops=true) (hf:Region.free md ops listed i=true) (hr:(Region.ready md ops listed).contains i=true)
 (j:Region.wanted F (yielded ops a.tmps)=false) (b:∀c a w,Q (.panic c) (a.put d undef) w->Q (.panic c) a w) (e:S w)
 (h:wpAnyH P md ops Q S L (listed.setIfInBounds i true) (a.put d undef) w):wpAnyH P md ops Q S (L+1) listed a w:=by subst hd;exact wpAnyH_take hi g hf hr b (Or.inr ⟨j,rfl⟩) e h
end
end Go.Proofs.YtlhhbccgfkhflaaGreatDoor
