/-
 Plain facts on rational numbers as a sign,a list of c b and one below f e;no program in d.
-/
import Derived.Test.YtlhhbccgfkhflaaGreatDoorDwv01
import Derived.Test.YtlhhbccgfkhflaaGreatDoorChecked
import Derived.Lib.TrailingZeros
import Derived.Laws.Bits64b
import Derived.Deep.RegionHeld3
namespace Go.Proofs.YtlhhbccgfkhflaaGreatDoor
set_option linter.unusedVariables false
open Go.RowKit
set_option maxRecDepth 100000
set_option maxHeartbeats 8000000
open _root_.Nat renaming le_refl → D, le_trans → E, lt_of_lt_of_le → H
open _root_.Go.World renaming cell?_setCell_other → I, block_lt_of_cell? → K
open _root_.Go.RowKit.Below renaming refl → F
open _root_.Int renaming natAbs_mul → J
open _root_.Go renaming World → f, Value → r, TypeId → B
open _root_.Go.RowKit renaming Below → A, Hid → s
variable {S T : Nat → Prop} {b base bytes c g hi k l lo m : Nat} {es xs : List r} {i j : Int} {p : Rat} {v z C : r} {u : f}
def sg (neg:Bool) (n:Nat):Int:=if neg then -(n:Int) else n
theorem ylx (n:Nat):sg false n=n:=rfl
theorem ymb (n:Nat):sg true n= -(n:Int):=rfl
theorem zzr (neg:Bool) (n:Nat):(sg neg n).natAbs=n:=by cases neg<;>simp[sg]
theorem zzs (neg:Bool):sg neg 0=0:=by cases neg<;>simp[sg]
theorem yly {neg:Bool} {n:Nat} (h:n≠0):decide (sg neg n<0)=neg:=by cases neg<;>simp[sg]<;>omega
theorem zwz (i:Int):sg (decide (i<0)) i.natAbs=i:=by unfold sg;by_cases h:i<0<;>simp[h]<;>omega
theorem ylz (neg:Bool) (n:Nat):sg (!neg) n= -sg neg n:=by cases neg<;>simp[sg]
theorem zzq (a b:Bool) (m n:Nat):sg (a !=b) (m*n)=sg a m*sg b n:=by cases a<;>cases b<;>simp[sg,Int.neg_mul,Int.mul_neg]
theorem zwy (a:Bool) (m n:Nat):sg a (m*n)=sg a m*n:=by cases a<;>simp[sg,Int.neg_mul]
theorem ylw (a:Bool) (m n:Nat):sg a (m+n)=sg a m+sg a n:=by cases a<;>simp[sg]<;>omega
theorem yma {a:Bool} {n:Nat} (h:n<=m):sg a (m-n)=sg a m+sg (!a) n:=by cases a<;>simp[sg]<;>omega
theorem sg_sub' {a:Bool} {n:Nat} (h:n<=m):sg a (m-n)=sg (!a) n+sg a m:=by cases a<;>simp[sg]<;>omega
structure Raw where
 neg:Bool
 num:List Nat
 den:List Nat
deriving DecidableEq
def E0 (q:Rat):Raw:=⟨decide (q.num<0),A8 q.num.natAbs,A8 q.den⟩
theorem ylg {q:Rat} (h:E0 p=E0 q):p=q:=by unfold E0 at h;injection h with b c a;have c:=ycp c;have a:=ycp a;apply Rat.ext _ a;have b:=decide_eq_decide.1 b;omega
theorem ywv {neg:Bool} {n d:Nat} (hd:d≠0) (a:Nat.gcd n d=1):(mkRat (sg neg n) d).num=sg neg n/\(mkRat (sg neg n) d).den=d:=by have h:=Rat.mk_eq_mkRat (sg neg n) d hd (by rw[zzr];exact a);rw[<-h];exact⟨rfl,rfl⟩
theorem ydp {neg:Bool} {n d:Nat} (hd:d≠0) (c:Nat.gcd n d=1) (e:n=0->neg=false):E0 (mkRat (sg neg n) d)=⟨neg,A8 n,A8 d⟩:=by
 obtain⟨a,b⟩:=ywv (neg:=neg) hd c;unfold E0;rw[a,b,zzr];congr 1;by_cases h:n=0
 ·rw[e h,h];rfl
 ·exact yly h
theorem yds:E0 0=⟨false,[],[1]⟩:=by unfold E0;rw[show(0:Rat).num=0 from rfl,show(0:Rat).den=1 from rfl,show(0:Int).natAbs=0 from rfl,T6,ztt (n:=1) og og];rfl
theorem zlg:A8 1=[1]:=ztt og og
theorem yjk {d:Nat} (a:k≠0):mkRat (i*k) (d*k)=mkRat i d:=Rat.mkRat_mul_right a
theorem ycy {neg:Bool} {n d:Nat} (hd:d≠0) (b:g∣n) (a:g∣d):mkRat (sg neg n) d=mkRat (sg neg (n/g)) (d/g):=by have c:g≠0:=(by rintro rfl;exact hd (Nat.eq_zero_of_zero_dvd a));rw[<-yjk (i:=sg neg (n/g)) (d:=d/g) c,<-zwy,Nat.div_mul_cancel b,Nat.div_mul_cancel a]
theorem ybu {n d:Nat} (hd:d≠0):Nat.gcd (n/Nat.gcd n d) (d/Nat.gcd n d)=1:=
 Nat.gcd_div_gcd_div_gcd_of_pos_right og
theorem zzm {neg:Bool} {n d:Nat} (b:n≠0) (hd:d≠0):E0 (mkRat (sg neg n) d)=⟨neg,A8 (n/Nat.gcd n d),A8 (d/Nat.gcd n d)⟩:=by
 have a:0<Nat.gcd n d:=Nat.gcd_pos_of_pos_right _ og;rw[ycy hd (Nat.gcd_dvd_left n d) (Nat.gcd_dvd_right n d)];refine ydp ?_ (ybu hd) ?_
 ·have:=Nat.div_pos (Nat.le_of_dvd og (Nat.gcd_dvd_right n d)) a;omega
 ·intro h;have:=Nat.div_pos (Nat.le_of_dvd og (Nat.gcd_dvd_left n d)) a;omega
theorem den_pos (q:Rat):0<q.den:=Nat.pos_of_ne_zero q.den_nz
theorem cop (q:Rat):Nat.gcd q.num.natAbs q.den=1:=q.reduced
theorem zod {q:Rat} (h:q≠0):q.num.natAbs≠0:=fun e=>h (Rat.num_eq_zero.1 og)
theorem yjy {q:Rat}:q.num.natAbs=0↔q=0:=⟨fun h=>Rat.num_eq_zero.1 og,fun h=>by subst h;rfl⟩
theorem zz1363 {q:Rat}:(E0 q).num=[]↔q=0:=by unfold E0;rw[<-yjy,<-lim_nil_iff];exact List.length_eq_zero_iff.symm
theorem ydq {q:Rat}:(E0 q).neg=decide (q<0):=by unfold E0;simp only[decide_eq_decide];rw[Rat.lt_iff];simp
theorem yjw (q:Rat):decide (q.num<0)=decide (q<0):=ydq (q:=q)
def Sz (q:Rat) (k:Nat):Prop:=(A8 q.num.natAbs).length<=k/\(A8 q.den).length<=k
theorem Sz.le {q:Rat} (h:Sz q k) (a:k<=l):Sz q l:=⟨E h.1 a,E h.2 a⟩
theorem yed {d:Nat} (hd:d≠0) (a:(A8 i.natAbs).length<=k) (b:(A8 d).length<=k):Sz (mkRat i d) k:=by unfold Sz;rw[Rat.num_mkRat,Rat.den_mkRat,if_neg hd,if_neg hd];refine⟨E (zkn ?_) a,E (zkn (Nat.div_le_self _ _)) b⟩;rw[Int.natAbs_ediv_of_dvd (Int.dvd_natAbs.1 (Int.natCast_dvd_natCast.2 (Nat.gcd_dvd_right d i.natAbs))),Int.natAbs_natCast];exact Nat.div_le_self _ _
theorem Sz.zero:Sz 0 1:=⟨by rw[show(0:Rat).num.natAbs=0 from rfl,T6];decide,by rw[show(0:Rat).den=1 from rfl,zlg];decide⟩
theorem Sz.neg {q:Rat} (h:Sz q k):Sz (-q) k:=by unfold Sz at*;rw[Rat.neg_num,Rat.neg_den,Int.natAbs_neg];exact h
theorem Sz.mul {q:Rat} (a:Sz p k) (b:Sz q l):Sz (p*q) (k+l):=by
 rw[Rat.mul_def'];refine yed (Nat.mul_ne_zero p.den_nz q.den_nz) ?_ ?_
 ·rw[J];exact zqz a.1 b.1
 ·exact zqz a.2 b.2
theorem Sz.add {q:Rat} (a:Sz p k) (b:Sz q l):Sz (p+q) (k+l+1):=by rw[Rat.add_def'];refine yed (Nat.mul_ne_zero p.den_nz q.den_nz) ?_ (E (zqz a.2 b.2) og);refine E (zkn (Int.natAbs_add_le _ _)) ?_;rw[J,J,Int.natAbs_natCast,Int.natAbs_natCast];refine ymv (zqz a.1 b.2) ?_;rw[Nat.add_comm k l];exact zqz b.1 a.2
theorem Sz.sub {q:Rat} (a:Sz p k) (b:Sz q l):Sz (p-q) (k+l+1):=by rw[Rat.sub_eq_add_neg];exact a.add b.neg
theorem ygf {a:Nat} (h:Nat.gcd a (b*c)=1):Nat.gcd a b=1:=Nat.Coprime.coprime_dvd_right (Nat.dvd_mul_right b c) h
theorem yzl {a:Nat} (ha:a≠0) (e:Nat.gcd i.natAbs a=1) (f:Nat.gcd j.natAbs b=1):
 Nat.gcd (i*((b/Nat.gcd a b:Nat):Int)+j*((a/Nat.gcd a b:Nat):Int)).natAbs (a/Nat.gcd a b)=1/\Nat.gcd (i*((b/Nat.gcd a b:Nat):Int)+j*((a/Nat.gcd a b:Nat):Int)).natAbs (b/Nat.gcd a b)=1:=by
 have l:0<Nat.gcd a b:=Nat.gcd_pos_of_pos_left _ og;have hc:Nat.gcd (a/Nat.gcd a b) (b/Nat.gcd a b)=1:=Nat.gcd_div_gcd_div_gcd_of_pos_left og;have ea:a=a/Nat.gcd a b*Nat.gcd a b:=(Nat.div_mul_cancel (Nat.gcd_dvd_left a b)).symm;have eb:b=b/Nat.gcd a b*Nat.gcd a b:=(Nat.div_mul_cancel (Nat.gcd_dvd_right a b)).symm;generalize a/Nat.gcd a b=c at*;generalize b/Nat.gcd a b=d at*;have g:Nat.gcd i.natAbs c=1:=(by rw[ea] at e;exact ygf e);have k:Nat.gcd j.natAbs d=1:=(by rw[eb] at f;exact ygf f);constructor
 ·have h:Int.gcd (i*(d:Int)+j*(c:Int)) (c:Int)=1:=(by rw[Int.gcd_add_mul_right_left];rw[Int.gcd,J,Int.natAbs_natCast,Int.natAbs_natCast];exact Nat.Coprime.mul_left g (by rw[Nat.coprime_comm];exact hc));simpa[Int.gcd] using h
 ·have h:Int.gcd (i*(d:Int)+j*(c:Int)) (d:Int)=1:=(by rw[Int.add_comm,Int.gcd_add_mul_right_left];rw[Int.gcd,J,Int.natAbs_natCast,Int.natAbs_natCast];exact Nat.Coprime.mul_left k hc);simpa[Int.gcd] using h
theorem zri {d:Nat} (h:g∣d) (hd:d≠0):g≠0/\d/g≠0:=by have a:g≠0:=(by rintro rfl;exact hd (Nat.eq_zero_of_zero_dvd h));have:=Nat.div_pos (Nat.le_of_dvd og h) og;exact⟨a,by omega⟩
theorem ymu {a:Nat} (ha:a≠0) (c:b≠0):
 mkRat i a+mkRat j b=mkRat (i*((b/Nat.gcd a b:Nat):Int)+j*((a/Nat.gcd a b:Nat):Int)) (a/Nat.gcd a b*b):=by
 have d:=zri (Nat.gcd_dvd_left a b) ha;have e:Nat.gcd a b≠0:=d.1;have ea:a=a/Nat.gcd a b*Nat.gcd a b:=(Nat.div_mul_cancel (Nat.gcd_dvd_left a b)).symm;have eb:b=b/Nat.gcd a b*Nat.gcd a b:=(Nat.div_mul_cancel (Nat.gcd_dvd_right a b)).symm;rw[Rat.mkRat_add_mkRat _ _ ha c,<-yjk (i:=i*((b/Nat.gcd a b:Nat):Int)+j*((a/Nat.gcd a b:Nat):Int)) (d:=a/Nat.gcd a b*b) e];generalize a/Nat.gcd a b=f at*;generalize b/Nat.gcd a b=h at*;generalize Nat.gcd a b=g at*;subst ea;subst eb;congr 1
 ·push_cast;grind
 ·grind
theorem zz1364 {a n:Nat} {neg:Bool} (ha:a≠0) (c:b≠0) (s:Nat.gcd i.natAbs a=1) (t:Nat.gcd j.natAbs b=1)
 (k:sg neg n=i*((b/Nat.gcd a b:Nat):Int)+j*((a/Nat.gcd a b:Nat):Int)) (r:n≠0):
 E0 (mkRat i a+mkRat j b)=⟨neg,A8 (n/Nat.gcd n (Nat.gcd a b)),A8 (a/Nat.gcd a b*(b/Nat.gcd n (Nat.gcd a b)))⟩:=by have f:=zri (Nat.gcd_dvd_left a b) ha;have x:=zri (Nat.gcd_dvd_right a b) c;obtain⟨m,o⟩:=yzl (i:=i) (j:=j) (b:=b) ha s t;rw[<-k,zzr] at m o;rw[ymu ha c,<-k];have eb:b=b/Nat.gcd a b*Nat.gcd a b:=(Nat.div_mul_cancel (Nat.gcd_dvd_right a b)).symm;generalize a/Nat.gcd a b=v at*;generalize w:b/Nat.gcd a b=p at*;generalize Nat.gcd a b=g at*;have d:Nat.gcd n g∣n:=Nat.gcd_dvd_left n g;have C7:Nat.gcd n g∣g:=Nat.gcd_dvd_right n g;have e:Nat.gcd n g∣b:=(by rw[eb];exact Nat.dvd_trans C7 (Nat.dvd_mul_left _ _));have hc:=zri d r;have u:=zri e c;rw[ycy (g:=Nat.gcd n g) (Nat.mul_ne_zero f.2 c) d (Nat.dvd_trans e (Nat.dvd_mul_left _ _)),Nat.mul_div_assoc _ e];refine ydp (Nat.mul_ne_zero f.2 u.2) ?_ (fun h=>absurd h hc.2);have q:b/Nat.gcd n g=p*(g/Nat.gcd n g):=(by rw[<-Nat.mul_div_assoc _ C7,<-eb]);have l:n/Nat.gcd n g∣n:=⟨Nat.gcd n g,(Nat.div_mul_cancel d).symm⟩;rw[q];refine Nat.Coprime.mul_right (Nat.Coprime.coprime_dvd_left l m) (Nat.Coprime.mul_right (Nat.Coprime.coprime_dvd_left l o) ?_);exact Nat.gcd_div_gcd_div_gcd_of_pos_left og
theorem yzq {a:Nat} (ha:a≠0) (c:b≠0) (d:i*((b/Nat.gcd a b:Nat):Int)+j*((a/Nat.gcd a b:Nat):Int)=0):mkRat i a+mkRat j b=0:=by rw[ymu ha c,d,Rat.zero_mkRat]
theorem zz1365 {p q:Bool} {x y a:Nat} (ha:a≠0) (g:b≠0) (o:x≠0) (r:y≠0) (m:Nat.gcd x a=1) (n:Nat.gcd y b=1):
 E0 (mkRat (sg p x) a*mkRat (sg q y) b)=⟨p !=q,A8 (x/Nat.gcd x b*(y/Nat.gcd y a)),A8 (a/Nat.gcd y a*(b/Nat.gcd x b))⟩:=by
 have c:Nat.gcd x b∣x:=Nat.gcd_dvd_left _ _;have d:Nat.gcd x b∣b:=Nat.gcd_dvd_right _ _;have e:Nat.gcd y a∣y:=Nat.gcd_dvd_left _ _;have f:Nat.gcd y a∣a:=Nat.gcd_dvd_right _ _;have s:=zri c o;have t:=zri d g;have u:=zri e r;have v:=zri f ha;rw[Rat.mkRat_mul_mkRat,<-zzq,ycy (g:=Nat.gcd x b*Nat.gcd y a) (Nat.mul_ne_zero ha g) (Nat.mul_dvd_mul c e) (by rw[Nat.mul_comm (Nat.gcd x b)];exact Nat.mul_dvd_mul f d)];have i:Nat.gcd (x/Nat.gcd x b) (b/Nat.gcd x b)=1:=ybu g;have j:Nat.gcd (y/Nat.gcd y a) (a/Nat.gcd y a)=1:=ybu ha;have k:x*y/(Nat.gcd x b*Nat.gcd y a)=x/Nat.gcd x b*(y/Nat.gcd y a):=Nat.mul_div_mul_comm c e;have l:a*b/(Nat.gcd x b*Nat.gcd y a)=a/Nat.gcd y a*(b/Nat.gcd x b):=(by rw[Nat.mul_comm (Nat.gcd x b)];exact Nat.mul_div_mul_comm f d);rw[k,l];have w:x/Nat.gcd x b∣x:=⟨_,(Nat.div_mul_cancel c).symm⟩;have z:b/Nat.gcd x b∣b:=⟨_,(Nat.div_mul_cancel d).symm⟩;have q3:y/Nat.gcd y a∣y:=⟨_,(Nat.div_mul_cancel e).symm⟩;have A:a/Nat.gcd y a∣a:=⟨_,(Nat.div_mul_cancel f).symm⟩;refine ydp (Nat.mul_ne_zero v.2 t.2) ?_ (fun h=>absurd h (Nat.mul_ne_zero s.2 u.2));refine Nat.Coprime.mul_left (Nat.Coprime.mul_right ?_ i) (Nat.Coprime.mul_right j ?_)
 ·exact Nat.Coprime.coprime_dvd_left w (Nat.Coprime.coprime_dvd_right A m)
 ·exact Nat.Coprime.coprime_dvd_left q3 (Nat.Coprime.coprime_dvd_right z n)
theorem zz1362 (q:Rat):E0 (-q)=⟨!(E0 q).neg&&decide (q≠0),(E0 q).num,(E0 q).den⟩:=by
 unfold E0;rw[Rat.neg_num,Rat.neg_den,Int.natAbs_neg];congr 1;by_cases h:q=0
 ·subst h;rfl
 ·have:=zod h;by_cases a:q.num<0
  ·simp[h,a];omega
  ·simp[h,a];omega
def zvw (U0:List Nat->Int) (a:Raw):Int:=
 if U0 a.num≠0 then U0 a.num else if U0 a.den≠0 then U0 a.den else if a.den=[] then 6 else if(a.num=[]/\a.neg=true)\/Nat.gcd (val a.num) (val a.den)≠1 then 3 else 0
theorem yqm {U0:List Nat->Int} {q:Rat} (b:U0 (E0 q).num=0) (c:U0 (E0 q).den=0):zvw U0 (E0 q)=0:=by
 unfold zvw;rw[if_neg (by simp[b]),if_neg (by simp[c])];have hd:(E0 q).den≠[]:=(by unfold E0;intro e;have:=lim_nil_iff.1 (List.length_eq_zero_iff.2 e);exact q.den_nz this);rw[if_neg hd,if_neg];rintro(⟨h,a⟩|h)
 ·rw[zz1363] at h;subst h;rw[yds] at a;cases a
 ·unfold E0 at h;simp only[Z6] at h;exact h (cop q)
def L6 (S T:Nat->Prop) (w w':f):Prop:=∀b,S b->T b/\∀o,w'.cell? ⟨b,o,none⟩=w.cell? ⟨b,o,none⟩
def Stb {a:Type} (R:f->(Nat->Prop)->r->a->Prop):Prop:=∀(w w':f) (S T:Nat->Prop) (v:r) (x:a),R w S v x->L6 S T w w'->R w' T v x
theorem Stb.to {a:Type} {R:f->(Nat->Prop)->r->a->Prop} (b:Stb R) {w w':f} {x:a} (h:R w S v x) (c:L6 S T w w'):R w' T v x:=b w w' S T v x h c
def SVS (w:f) (S:Nat->Prop) (A:Option Addr) (xs:List r):Prop:=
 xs≠[]->∃b off,A=some ⟨b,off,none⟩/\S b/\∀j v,xs[j]? =some v->w.cell? ⟨b,off+j,none⟩=some v
theorem SVS.same {w w':f} {A:Option Addr} (h:SVS w S A xs) (c:L6 S T w w'):SVS w' T A xs:=fun e=>by
 obtain⟨b,off,d,a,hc⟩:=h e
 exact⟨b,off,d,(c b a).1,fun j v hv=>((c b a).2 _).trans (hc j v hv)⟩
theorem SVS.nil {w:f} {A:Option Addr}:SVS w S A []:=fun h=>absurd rfl h
def All2 {c d:Type} (R:c->d->Prop) (a:List c) (b:List d):Prop:=a.length=b.length/\∀(j:Nat) (x:c) (y:d),a[j]? =some x->b[j]? =some y->R x y
theorem All2.nil {a b:Type} {R:a->b->Prop}:All2 R [] []:=⟨rfl,fun j x y h=>by simp at h⟩
theorem All2.snoc {e f:Type} {R:e->f->Prop} {a:List e} {b:List f} {x:e} {y:f} (h:All2 R a b) (hr:R x y):All2 R (a++[x]) (b++[y]):=by
 refine⟨by simp[h.1],fun j k v c hv=> ?_⟩;rw[List.getElem?_append] at c hv;by_cases d:j<a.length
 ·rw[if_pos d] at c;rw[if_pos (by rw[<-h.1];exact d)] at hv;exact h.2 j k v c hv
 ·rw[if_neg d] at c;rw[if_neg (by rw[<-h.1];exact d)] at hv
  have g:j-a.length=0:=by
   rcases Nat.eq_zero_or_pos (j-a.length) with i|i
   ·exact i
   ·rw[List.getElem?_eq_none (by simp;omega)] at c;cases c
  rw[g] at c;rw[<-h.1,g] at hv;simp at c hv;rw[<-c,<-hv];exact hr
theorem All2.imp {c d:Type} {R Q:c->d->Prop} {a:List c} {b:List d} (h:All2 R a b) (hr:∀x y,R x y->Q x y):All2 Q a b:=⟨h.1,fun j x y e f=>hr x y (h.2 j x y e f)⟩
theorem All2.get {f c:Type} {R:f->c->Prop} {a:List f} {b:List c} (h:All2 R a b) {j:Nat} {y:c} (e:b[j]? =some y):∃x,a[j]? =some x/\R x y:=by have g:j<b.length:=(List.getElem?_eq_some_iff.1 e).1;have d:j<a.length:=(by rw[h.1];exact g);exact⟨a[j],List.getElem?_eq_getElem d,h.2 j _ _ (List.getElem?_eq_getElem d) e⟩
theorem All2.take {e f:Type} {R:e->f->Prop} {a:List e} {b:List f} (h:All2 R a b) (n:Nat):All2 R (a.take n) (b.take n):=by
 refine⟨by simp[h.1],fun j x y c d=> ?_⟩;rw[List.getElem?_take] at c d;split at c
 ·rename_i g;rw[if_pos g] at d;exact h.2 j x y c d
 ·cases c
theorem All2.drop {e f:Type} {R:e->f->Prop} {a:List e} {b:List f} (h:All2 R a b) (n:Nat):All2 R (a.drop n) (b.drop n):=by refine⟨by simp[h.1],fun j x y c d=> ?_⟩;rw[List.getElem?_drop] at c d;exact h.2 _ x y c d
theorem All2.set {d e:Type} {R:d->e->Prop} {a:List d} {b:List e} {x:d} {y:e} (h:All2 R a b) (hr:R x y) (n:Nat):All2 R (a.set n x) (b.set n y):=by
 refine⟨by simp[h.1],fun j g v c hv=> ?_⟩;rw[List.getElem?_set] at c hv;by_cases f:n=j
 ·rw[if_pos f] at c hv;split at c
  ·split at hv
   ·cases c;cases hv;exact hr
   ·cases hv
  ·cases c
 ·rw[if_neg f] at c hv;exact h.2 j g v c hv
def cellsOf (es:List r):List r:=es.flatMap fun v=>v.cells.toList
theorem yfl (a b:List r):cellsOf (a++b)=cellsOf a++cellsOf b:=by simp[cellsOf]
theorem ypy (v:r):cellsOf [v]=v.cells.toList:=by simp[cellsOf]
def Wid (n:Nat) (es:List r):Prop:=∀v∈es,v.cells.size=n
theorem Wid.nil {n:Nat}:Wid n []:=by intro v hv;cases hv
theorem Wid.snoc {n:Nat} (h:Wid n es) (hv:v.cells.size=n):Wid n (es++[v]):=by
 intro c b;rcases List.mem_append.1 b with a|a
 ·exact h c a
 ·simp at a;subst a;exact hv
theorem Wid.cons {n:Nat} (h:Wid n (v::es)):v.cells.size=n/\Wid n es:=⟨h v (by simp),fun b a=>h b (by simp[a])⟩
theorem Wid.take {n:Nat} (h:Wid n es) (k:Nat):Wid n (es.take k):=fun v hv=>h v (List.mem_of_mem_take hv)
theorem Wid.drop {n:Nat} (h:Wid n es) (k:Nat):Wid n (es.drop k):=fun v hv=>h v (List.mem_of_mem_drop hv)
theorem zte {n:Nat} (h:Wid n es):(cellsOf es).length=es.length*n:=by
 induction es with
 |nil=>simp[cellsOf]
 |cons v es ih=>obtain⟨a,b⟩:=h.cons;have:=ih b;simp only[cellsOf,List.flatMap_cons,List.length_append,Array.length_toList,a] at this⊢;rw[this,List.length_cons,Nat.add_mul];omega
theorem znv {n:Nat} (h:Wid n es) {j i:Nat} {e u:r} (a:es[j]? =some e) (b:e.cells[i]? =some u):(cellsOf es)[j*n+i]? =some u:=by
 induction es generalizing j with
 |nil=>simp at a
 |cons v es ih=>
  obtain⟨d,g⟩:=h.cons;have c:cellsOf (v::es)=v.cells.toList++cellsOf es:=(by simp[cellsOf]);rw[c,List.getElem?_append,Array.length_toList,d];cases j with
  |zero=>simp at a;subst a;have hi:i<v.cells.size:=(Array.getElem?_eq_some_iff.1 b).1;rw[if_pos og];simpa using b
  |succ j=>rw[if_neg (by rw[Nat.add_mul];omega),show(j+1)*n+i-n=j*n+i by rw[Nat.add_mul];omega];exact ih g (by simpa using a)
def IsS {a:Type} (n:Nat) (R:f->(Nat->Prop)->r->a->Prop) (w:f) (S:Nat->Prop) (v:r) (l:List a):Prop:=
 ∃A c es,v= .slice A l.length c/\l.length<=c/\c<=maxLen/\SVS w S A (cellsOf es)/\Wid n es/\All2 (R w S) es l
theorem IsS.stb {k:Type} {n:Nat} {R:f->(Nat->Prop)->r->k->Prop} (j:Stb R):Stb (IsS n R):=by rintro w w' S T v l ⟨A,c,es,hv,b,d,e,g,i⟩ a;exact⟨A,c,es,hv,b,d,e.same a,g,i.imp fun x y h=>j.to h a⟩
theorem IsS.nil {a:Type} {n:Nat} {R:f->(Nat->Prop)->r->a->Prop} {w:f}:IsS n R w S (.slice none 0 0) ([]:List a):=
 ⟨none,0,[],rfl,D _,by unfold maxLen;omega,SVS.nil,Wid.nil,All2.nil⟩
theorem IsS.get {k:Type} {n:Nat} {R:f->(Nat->Prop)->r->k->Prop} {w:f} {A:Option Addr} {l:List k} (h:IsS n R w S (.slice A m c) l) (y:0<n) {j:Nat} {x:k} (v:l[j]? =some x):
 ∃b off e,A=some ⟨b,off,none⟩/\S b/\R w S e x/\e.cells.size=n/\∀i a,e.cells[i]? =some a->w.cell? ⟨b,off+(j*n+i),none⟩=some a:=by obtain⟨D,E,es,hv,F,G,q,d,s⟩:=h;simp only[Value.slice.injEq] at hv;obtain⟨rfl,rfl,rfl⟩:=hv;obtain⟨e,g,hr⟩:=s.get v;have B:=d e (List.mem_of_getElem? g);have z:cellsOf es≠[]:=(by intro p;have o:=zte d;rw[p] at o;have:j<es.length:=(List.getElem?_eq_some_iff.1 g).1;have:=Nat.mul_pos (by omega:0<es.length) y;simp at o;omega);obtain⟨b,off,t,u,hc⟩:=q z;exact⟨b,off,e,t,u,hr,B,fun i a C=>hc _ a (znv d g C)⟩
def IsK (k:IntKind) (w:f) (S:Nat->Prop) (v:r) (l:List Nat):Prop:=
 ∃A c,v= .slice A l.length c/\l.length<=c/\c<=maxLen/\SVS w S A (F6 k l)
theorem IsK.stb {k:IntKind}:Stb (IsK k):=by rintro w w' S T v l ⟨A,c,hv,a,b,d⟩ e;exact⟨A,c,hv,a,b,d.same e⟩
theorem IsK.isL {k:IntKind} {w:f} {l:List Nat} (h:IsK k w S v l) (a:∀b,S b->lo<=b/\b<hi):IsL k w lo hi v l:=by obtain⟨A,c,hv,e,g,i⟩:=h;refine⟨A,c,hv,e,g,fun m=> ?_⟩;obtain⟨b,off,j,d,hc⟩:=i m;exact⟨b,off,j,(a b d).1,(a b d).2,hc⟩
theorem IsL.isK {k:IntKind} {w:f} {l:List Nat} (h:IsL k w lo hi v l) (i:∀b,lo<=b->b<hi->S b):IsK k w S v l:=by obtain⟨A,c,hv,a,d,e⟩:=h;refine⟨A,c,hv,a,d,fun n=> ?_⟩;obtain⟨b,off,g,j,m,hc⟩:=e n;exact⟨b,off,g,i b j m,hc⟩
def IsR (w:f) (S:Nat->Prop) (v:r) (a:Raw):Prop:=
 ∃A c B d,v= .agg #[.bool a.neg,.slice A a.num.length c,.slice B a.den.length d]/\IsK .u32 w S (.slice A a.num.length c) a.num/\IsK .u32 w S (.slice B a.den.length d) a.den
theorem IsR.stb:Stb IsR:=by rintro w w' S T v r ⟨A,c,B,d,hv,b,e⟩ a;exact⟨A,c,B,d,hv,IsK.stb.to b a,IsK.stb.to e a⟩
def IsQ (w:f) (S:Nat->Prop) (v:r) (q:Rat):Prop:=IsR w S v (E0 q)
theorem IsQ.stb:Stb IsQ:=fun _ _ _ _ _ _ h a=>IsR.stb.to h a
def IsV:f->(Nat->Prop)->r->List Raw->Prop:=IsS 3 IsR
def IsM:f->(Nat->Prop)->r->List (List Raw)->Prop:=IsS 1 IsV
theorem IsV.stb:Stb IsV:=IsS.stb IsR.stb
theorem IsM.stb:Stb IsM:=IsS.stb IsV.stb
def C5 (w:f):Nat->Prop:=fun b=>b<w.heap.size
def I7 (n:Nat) (w:f):Nat->Prop:=fun b=>n<=b/\b<w.heap.size
theorem C9 {w w':f} (h:A w.heap.size w w'):L6 (C5 w) (C5 w') w w':=fun b a=>⟨H a h.size,fun o=>h.cell (p:=⟨b,o,none⟩) a⟩
theorem Y9 {w w':f} {n:Nat} (h:A w.heap.size w w'):L6 (I7 n w) (I7 n w') w w':=fun b a=>⟨⟨a.1,H a.2 h.size⟩,fun o=>h.cell (p:=⟨b,o,none⟩) a.2⟩
theorem G4 {w:f} (h:∀b,S b->T b):L6 S T w w:=fun b a=>⟨h b a,fun _=>rfl⟩
theorem zqg {w w':f} {B:Nat} (h:A B w w') (c:∀b,S b->b<B):L6 S S w w':=fun b a=>⟨a,fun o=>h.cell (p:=⟨b,o,none⟩) (c b a)⟩
theorem yjr {w:f} {n:Nat}:∀b,I7 n w b->C5 w b:=fun b h=>h.2
theorem yxn {w:f} {n:Nat} (h:m<=n):∀b,I7 n w b->I7 m w b:=fun b a=>⟨E h a.1,a.2⟩
def OwnS {a:Type} (n:Nat) (t:B) (R:f->(Nat->Prop)->r->a->Prop) (w:f) (base:Nat) (S:Nat->Prop) (v:r) (l:List a):Prop:=
 ∃es,w.ownsRow base t n v l.length (cellsOf es)/\Wid n es/\All2 (R w S) es l/\∀b,S b->b<w.heap.size/\some b≠v.ownBlock
theorem OwnS.nil {a:Type} {n:Nat} {t:B} {R:f->(Nat->Prop)->r->a->Prop} {w:f} (c:∀b,S b->b<w.heap.size):OwnS n t R w base S (.slice none 0 0) ([]:List a):=
 ⟨[],by simpa[cellsOf] using World.ownsRow_nil w base t n,Wid.nil,All2.nil,fun b d=>⟨c b d,by simp[Value.ownBlock]⟩⟩
theorem OwnS.step {i:Type} {n:Nat} {t:B} {R:f->(Nat->Prop)->r->i->Prop} (p:Stb R) {w w':f} {l:List i} (h:OwnS n t R w base S v l)
 (a:A w.heap.size w w') (q:∀b,S b->T b) (s:∀b,T b->S b\/(w.heap.size<=b/\b<w'.heap.size)):OwnS n t R w' base T v l:=by
 obtain⟨es,d,j,m,g⟩:=h;have u:w.grownBy w' none:=⟨a.os,a.tape,a.output,a.size,fun k z _=>a.block k z⟩;refine⟨es,d.kept u (by cases v.ownBlock<;>simp),j,m.imp fun x y h=>p.to h fun b c=>⟨q b c,fun o=>a.cell (p:=⟨b,o,none⟩) (g b c).1⟩,fun b c=> ?_⟩;rcases s b c with h|h
 ·have:=g b h;exact⟨H this.1 a.size,this.2⟩
 ·refine⟨h.2,fun e=> ?_⟩;have:=(d.lt b e.symm).2;omega
theorem OwnS.app {i:Type} {n:Nat} {t:B} {R:f->(Nat->Prop)->r->i->Prop} (j:Stb R) {w w':f} {g e:r} {l:List i} {x:i}
 (p:Wid n es) (q:All2 (R w S) es l) (d:∀b,S b->b<w.heap.size/\some b≠v.ownBlock) (s:R w S e x) (u:e.cells.size=n)
 (A:w'.ownsRow base t n g (l.length+1) (cellsOf es++e.cells.toList)) (k:w.grownBy w' v.ownBlock) (z:g.ownBlock=v.ownBlock\/g.ownBlock=some w.heap.size):
 OwnS n t R w' base S g (l++[x]):=by
 have m:L6 S S w w':=fun b a=>⟨a,fun o=>World.cell?_of_block (k.block b (d b a).1 (d b a).2)⟩;refine⟨es++[e],?_,p.snoc u,(q.imp fun x y h=>j.to h m).snoc (j.to s m),fun b a=>⟨H (d b a).1 k.size,fun c=> ?_⟩⟩
 ·rw[yfl,ypy,List.length_append];exact A
 ·have:=d b a;rcases z with h|h
  ·rw[h] at c;exact this.2 c
  ·rw[h] at c;simp at c;omega
theorem OwnS.isS {d:Type} {n:Nat} {t:B} {R:f->(Nat->Prop)->r->d->Prop} (k:Stb R) {w:f} {l:List d} (h:OwnS n t R w base S v l)
 (m:∀b,S b->T b) (o:∀b,base<=b->b<w.heap.size->T b):IsS n R w T v l:=by
 obtain⟨es,c,e,i,F⟩:=h;have A:L6 S T w w:=fun b a=>⟨m b a,fun _=>rfl⟩;rcases c.2 with⟨rfl,u⟩|⟨g,cap,E,rfl,a,q,z,p,G,H⟩
 ·have s:l=[]:=List.eq_nil_of_length_eq_zero u;subst s;exact IsS.nil
 ·refine⟨some ⟨g,0,none⟩,cap,es,rfl,z,p,fun _=>⟨g,0,rfl,o g a (Array.getElem?_eq_some_iff.1 q).1,fun j D C=> ?_⟩,e,i.imp fun x y h=>k.to h A⟩;have:=c.cells (g:=g) rfl j D C;rw[Addr.add_lit] at this;exact this
section
variable {P : Program} {w : f} {ops : Array Oper} {rest : List Oper} {o : Oper} {a : Act} {Q : Exit → Act → f → Prop} {t e : B}
structure ElN (P:Program) (t e:B) (n bytes:Nat):Prop where
 und:P.underlying t=some (.slice e)
 info:∃i z,P.info? e=some i/\i.zero=some z/\i.size=n/\i.bytes=bytes/\z.cells.size=n
 pos:0<n
theorem zpn {n:Nat} (p:ElN P t e n bytes) (Z:o.guard=none) (s x:Operand) (ab:o.op= .call {callee:= .builtin .append,args:= #[s,x],argTypes:= #[t,t]})
 {E:Type} {R:f->(Nat->Prop)->r->E->Prop} (C:Stb R) {c:r} {l:List E} {y:E} {te:B} {G:Array r}
 (ad:a.eval s=v) (ag:a.eval x= .slice (some ⟨w.heap.size,0,none⟩) 1 1) (X:G=c.cells) (ac:OwnS n e R w base S v l) (Y:R w S c y) (K:c.cells.size=n)
 (O:∀L∈c.cells,L.oneCell'=true) (d:(l.length+1)*(bytes+1)<=140737488355328) (V:base<=w.heap.size)
 (h:∀m w',OwnS n e R w' base S m (l++[y])->A base w w'->w.heap.size<=w'.heap.size->wpList P ops Q rest (a.put o.dst m) w'):wpList P ops Q (o::rest) a (w.alloc (.cells G te)):=by
 subst X
 obtain⟨i,z,hi,ah,ae,W,ai⟩:=p.info
 obtain⟨es,I,T,U,u⟩:=ac
 rw[Nat.mul_add,Nat.mul_one] at d
 have J:=(F w.heap.size w).alloc (D _) (.cells c.cells te)
 have hst:L6 S S w (w.alloc (.cells c.cells te)):=zqg J (fun b d=>(u b d).1)
 refine wpList_append_own_at _ Z s x t ab base e i z n bytes p.und hi ah ae W ai p.pos v l.length (cellsOf es) ad (I.alloc _) ⟨w.heap.size,0,none⟩ 1 1 c.cells.toList ag (by simp[K]) (fun j L af=> ?_) (by simpa using O)
  (by unfold maxLen;omega) og (by simp;omega) fun m w' M q _ N=>h m w' ?_ ?_ ?_
 ·rw[Addr.add_lit,Nat.zero_add,cell_of_row _ _ _ _ _ _ (heap_alloc_new w _)]
  simpa using af
 ·refine OwnS.app C T (U.imp fun x y h=>C.to h hst) (fun b d=>⟨H (u b d).1 J.size,(u b d).2⟩) (C.to Y hst) K M q ?_
  rcases N with g|g
  ·exact .inl g
  ·exact .inr g
 ·exact((F base w).alloc V _).grown q (by simp;omega) (fun k aa=>(I.lt k aa).1)
 ·have:=q.size
  simp at this
  omega
theorem zvp {n:Nat} (p:ElN P t e n bytes) (J:o.guard=none) (l c:Operand) (L:o.op=Op.makeSlice t l c) {x:Type} (R:f->(Nat->Prop)->r->x->Prop) {u s:IntKind} {C:Int} (m:Nat)
 (K:a.eval l= .int u 0) (hc:a.eval c= .int s C) (E:C=(m:Int)) (d:m*(bytes+1)<=140737488355328) (T:base<=w.heap.size) (q:∀b,S b->b<w.heap.size)
 (G:∀v w',OwnS n e R w' base S v ([]:List x)->A w.heap.size w w'->w.heap.size<=w'.heap.size->wpList P ops Q rest (a.put o.dst v) w'):
 wpList P ops Q (o::rest) a w:=by
 obtain⟨i,z,hi,N,M,I,U⟩:=p.info;rw[Nat.mul_add,Nat.mul_one] at d
 refine wpList_make_own w J l c t L w.heap.size e i z n p.und hi N M u s C m K hc E (by rw[I,Nat.mul_comm];omega) (by unfold maxLen;omega) (D _)
  fun w' j k=>G _ w' ⟨[],⟨j.1,?_⟩,Wid.nil,All2.nil,fun b d=>⟨H (q b d) k.size,fun B=> ?_⟩⟩ ((F _ _).grown k (D _) (by simp)) k.size
 ·rcases j.2 with h|⟨g,cap,y,hv,O,rest⟩
  ·exact .inl h
  ·exact .inr ⟨g,cap,y,hv,by omega,rest⟩
 ·have:=(j.lt b B.symm).1;have:=q b d;omega
end
section
variable {d q : Rat} {x y neg : Bool} {n G : Nat}
theorem zsv {q:Rat} {s:Bool} (h:s=decide (q.num<0)):sg s q.num.natAbs=q.num:=by rw[h];exact zwz _
theorem zuw (q:Rat):mkRat q.num q.den=q:=Rat.mkRat_self q
theorem ykr (a:x=decide (d.num<0)) (b:y=decide (q.num<0)) (c:sg neg n=sg x (d.num.natAbs*(q.den/G))+sg y (q.num.natAbs*(d.den/G))):
 sg neg n=d.num*((q.den/G:Nat):Int)+q.num*((d.den/G:Nat):Int):=by rw[c,zwy,zwy,zsv a,zsv b]
theorem yku (a:x=decide (d.num<0)) (b:y=decide (q.num<0)) (c:G=Nat.gcd d.den q.den) (e:sg neg n=sg x (d.num.natAbs*(q.den/G))+sg y (q.num.natAbs*(d.den/G))) (f:n≠0):
 E0 (d+q)=⟨neg,A8 (n/Nat.gcd n G),A8 (d.den/G*(q.den/Nat.gcd n G))⟩:=by have h:=ykr a b e;subst c;have:=zz1364 (i:=d.num) (j:=q.num) (a:=d.den) (b:=q.den) (n:=n) (neg:=neg) d.den_nz q.den_nz d.reduced q.reduced h f;rw[zuw,zuw] at this;exact this
theorem yzn (a:x=decide (d.num<0)) (b:y=decide (q.num<0)) (c:G=Nat.gcd d.den q.den) (f:sg neg n=sg x (d.num.natAbs*(q.den/G))+sg y (q.num.natAbs*(d.den/G))) (g:n≠0) (e:G=1):
 E0 (d+q)=⟨neg,A8 n,A8 (d.den*q.den)⟩:=by have h:=yku a b c f g;rw[e,Nat.gcd_one_right,Nat.div_one,Nat.div_one,Nat.div_one] at h;exact h
theorem yzm (a:x=decide (d.num<0)) (b:y=decide (q.num<0)) (c:G=Nat.gcd d.den q.den) (e:sg neg n=sg x (d.num.natAbs*(q.den/G))+sg y (q.num.natAbs*(d.den/G))) (f:n=0):d+q=0:=by have h:=ykr a b e;subst c;rw[f,zzs] at h;have:=yzq (i:=d.num) (j:=q.num) (a:=d.den) (b:=q.den) d.den_nz q.den_nz h.symm;rw[zuw,zuw] at this;exact this
theorem yks (a:x=decide (d.num<0)) (b:y=decide (q.num<0)) (c:sg neg n=sg x (d.num.natAbs*q.den)+sg y (q.num.natAbs*d.den)):mkRat (sg neg n) (d.den*q.den)=d+q:=by rw[c,zwy,zwy,zsv a,zsv b,Rat.add_def']
theorem zz1446 (a:x=decide (d.num<0)) (b:y=decide (q.num<0)) (ha:d≠0) (c:q≠0):
 E0 (d*q)=⟨x !=y,A8 (d.num.natAbs/Nat.gcd d.num.natAbs q.den*(q.num.natAbs/Nat.gcd q.num.natAbs d.den)),A8 (d.den/Nat.gcd q.num.natAbs d.den*(q.den/Nat.gcd d.num.natAbs q.den))⟩:=by have:=zz1365 (p:=x) (q:=y) d.den_nz q.den_nz (zod ha) (zod c) d.reduced q.reduced;rw[zsv a,zsv b,zuw,zuw] at this;exact this
theorem zz1444 (a:x=decide (d.num<0)) (b:y=decide (q.num<0)):mkRat (sg (x !=y) (d.num.natAbs*q.num.natAbs)) (d.den*q.den)=d*q:=by rw[zzq,zsv a,zsv b,Rat.mul_def']
end
def V6 (p q:Rat):Int:=if p<q then -1 else if p=q then 0 else 1
theorem zvx {q:Rat} (h:p<q):V6 p q= -1:=by unfold V6;rw[if_pos h]
theorem zxp {q:Rat} (h:p=q):V6 p q=0:=by unfold V6;rw[if_neg (by rw[h];exact Rat.lt_irrefl),if_pos h]
theorem zxq {q:Rat} (h:q<p):V6 p q=1:=by unfold V6;rw[if_neg (Rat.not_lt.2 (Rat.le_of_lt h)),if_neg (Rat.ne_of_gt h)]
theorem cmpQ_zero {q:Rat}:V6 p q=0↔p=q:=by
 unfold V6;split
 ·rename_i h;exact⟨fun a=>by omega,fun a=>absurd a (Rat.ne_of_lt h)⟩
 ·split
  ·rename_i h;exact⟨fun _=>h,fun _=>rfl⟩
  ·rename_i h;exact⟨fun a=>by omega,fun a=>absurd a h⟩
theorem yqs {q:Rat}:0<V6 p q↔q<p:=by
 unfold V6;split
 ·rename_i h;exact⟨fun a=>by omega,fun a=>absurd h (Rat.not_lt.2 (Rat.le_of_lt a))⟩
 ·rename_i h;split
  ·rename_i b;exact⟨fun a=>by omega,fun a=>by rw[b] at a;exact absurd a Rat.lt_irrefl⟩
  ·rename_i b;exact⟨fun _=>Rat.lt_of_le_of_ne (Rat.not_lt.1 h) (Ne.symm b),fun _=>by omega⟩
theorem yqq {q:Rat}:V6 p q<0↔p<q:=by
 unfold V6;split
 ·rename_i h;exact⟨fun _=>h,fun _=>by omega⟩
 ·rename_i h;split
  ·exact⟨fun a=>by omega,fun a=>absurd a h⟩
  ·exact⟨fun a=>by omega,fun a=>absurd a h⟩
def T7 (q:Rat):Int:=if q=0 then 0 else if q<0 then -1 else 1
theorem ydw (q:Rat):T7 q=V6 q 0:=by
 unfold T7 V6;by_cases h:q=0
 ·rw[if_pos h,if_neg (by rw[h];exact Rat.lt_irrefl),if_pos h]
 ·rw[if_neg h];by_cases a:q<0
  ·rw[if_pos a,if_pos a]
  ·rw[if_neg a,if_neg a,if_neg h]
theorem sgnQ_zero {q:Rat}:T7 q=0↔q=0:=by rw[ydw];exact cmpQ_zero
theorem sgnQ_pos {q:Rat}:0<T7 q↔0<q:=by rw[ydw];exact yqs
theorem sgnQ_neg {q:Rat}:T7 q<0↔q<0:=by rw[ydw];exact yqq
theorem zxa (q:Rat):T7 q= -1\/T7 q=0\/T7 q=1:=by
 unfold T7;split
 ·exact .inr (.inl rfl)
 ·split
  ·exact .inl rfl
  ·exact .inr (.inr rfl)
theorem yyf (p q:Rat) (s:Nat->Nat->Int) (l:∀x y,(x<y->s x y= -1)/\(x=y->s x y=0)/\(y<x->s x y=1)) (h:T7 p=T7 q):
 T7 p*s (p.num.natAbs*q.den) (q.num.natAbs*p.den)=V6 p q:=by
 obtain⟨i,j,k⟩:=l (p.num.natAbs*q.den) (q.num.natAbs*p.den);have g:((p.num.natAbs*q.den:Nat):Int)=(p.num.natAbs:Int)*q.den:=Int.natCast_mul _ _;have eq:((q.num.natAbs*p.den:Nat):Int)=(q.num.natAbs:Int)*p.den:=Int.natCast_mul _ _;rcases zxa p with b|b|b
 ·have c:p<0:=sgnQ_neg.1 og;have d:q<0:=sgnQ_neg.1 og;rw[b];rw[Rat.lt_iff] at c d;simp at c d;have e:(p.num.natAbs:Int)= -p.num:=og;have f:(q.num.natAbs:Int)= -q.num:=og;rw[e,Int.neg_mul] at g;rw[f,Int.neg_mul] at eq;rcases Nat.lt_trichotomy (p.num.natAbs*q.den) (q.num.natAbs*p.den) with a|a|a
  ·rw[i a,zxq (by rw[Rat.lt_iff];omega)];rfl
  ·rw[j a,zxp (by rw[Rat.eq_iff_mul_eq_mul];omega)];rfl
  ·rw[k a,zvx (by rw[Rat.lt_iff];omega)];rfl
 ·have c:=sgnQ_zero.1 b;have d:=sgnQ_zero.1 (h▸b);rw[b,Int.zero_mul,zxp (by rw[c,d])]
 ·have c:0<p:=sgnQ_pos.1 og;have d:0<q:=sgnQ_pos.1 og;rw[b];rw[Rat.lt_iff] at c d;simp at c d;have e:(p.num.natAbs:Int)=p.num:=og;have f:(q.num.natAbs:Int)=q.num:=og;rw[e] at g;rw[f] at eq;rcases Nat.lt_trichotomy (p.num.natAbs*q.den) (q.num.natAbs*p.den) with a|a|a
  ·rw[i a,zvx (by rw[Rat.lt_iff];omega)];rfl
  ·rw[j a,zxp (by rw[Rat.eq_iff_mul_eq_mul];omega)];rfl
  ·rw[k a,zxq (by rw[Rat.lt_iff];omega)];rfl
theorem ykh {q:Rat} (h:T7 p≠T7 q):V6 p q=if T7 p<T7 q then -1 else 1:=by
 have key:∀{a b:Rat},T7 a<T7 b->a<b:=by
  intro a b h;rcases zxa a with ha|ha|ha<;>rcases zxa b with e|e|e<;>first|omega|skip
  ·have c:a<0:=sgnQ_neg.1 og;have d:=sgnQ_zero.1 e;rw[d];exact c
  ·have c:a<0:=sgnQ_neg.1 og;have d:0<b:=sgnQ_pos.1 og;grind
  ·have c:=sgnQ_zero.1 ha;have d:0<b:=sgnQ_pos.1 og;rw[c];exact d
 by_cases c:T7 p<T7 q
 ·rw[if_pos c,zvx (key c)]
 ·rw[if_neg c,zxq (key og)]
def bruT:List Nat:=Lib.deBruijn64tab
def Bru (w:f):Prop:=0<w.heap.size/\∀i,i<64->w.cell? ⟨0,i,none⟩=some (.int .u8 (bruT.getD i 0:Nat))
theorem Bru.below {w w':f} (h:Bru w) (a:A w.heap.size w w'):Bru w':=
 ⟨H h.1 a.size,fun i hi=>(a.cell (p:=⟨0,i,none⟩) h.1).trans (h.2 i hi)⟩
theorem Bru.alloc {w:f} (h:Bru w) (o:Obj):Bru (w.alloc o):=h.below ((F _ _).alloc (D _) o)
theorem Bru.drewN {w:f} (h:Bru w) (n:Nat):Bru (w.drewN n):=h
theorem zz1456 (x a:Nat) (d:x<18446744073709551616) (e:x≠0) (c:x&&&(18446744073709551616-x)=a):
 IntKind.u64.wrap (bits BinOp.and IntKind.u64 (x:Int) (IntKind.u64.wrap (-(x:Int)))*285870213051353865)/288230376151711744=((a*285870213051353865%18446744073709551616/288230376151711744:Nat):Int):=by have b:IntKind.u64.wrap (-(x:Int))=((18446744073709551616-x:Nat):Int):=(by rw[IntKind.wrap_u64];omega);rw[b,bits_and_u64_nat x _ d og,c,IntKind.wrap_u64];omega
theorem zz1455 (x k a:Nat) (w:f) (d:((x:Int)==0)=false)
 (key:IntKind.u64.wrap (bits BinOp.and IntKind.u64 (x:Int) (IntKind.u64.wrap (-(x:Int)))*285870213051353865)/288230376151711744=(a:Int))
 (hi:a<64) (c:k<64) (b:w.cell? ⟨0,a,none⟩=some (.int .u8 k)):
 Calls Tryz.prog 194 #[.int .u64 x] w fun e w'=>e= .returned (.int .i64 k)/\w=w':=by go_in;go_wp2_with (simp only[key]);go_ret;exact⟨rfl,rfl⟩
theorem yef (x:Nat) (w:f) (g:Bru w) (d:x≠0) (c:x<18446744073709551616):
 ∃k m:Nat,k<64/\x=2^k*(2*m+1)/\Calls Tryz.prog 194 #[.int .u64 (x:Int)] w fun e w'=>e= .returned (.int .i64 (k:Int))/\w=w':=by obtain⟨h,b⟩:=Lib.lowest_bit 64 x d c;obtain⟨hi,j⟩:=Lib.deBruijn64_at _ b;have a:=g.2 _ hi;unfold bruT at a;rw[j] at a;obtain⟨m,i,_⟩:=Lib.ctzFrom_spec 64 x og c;refine⟨Lib.ctz 64 x,m,b,?_,zz1455 x _ _ w (by simp;omega) (zz1456 x _ c d h) hi b a⟩;unfold Lib.ctz;rw[if_neg d];exact i
abbrev NumS (w:f) (S:Nat->Prop) (v:r) (n:Nat):Prop:=IsK .u32 w S v (A8 n)
theorem yii {w:f} {q:Rat} {neg:Bool} {n d:Nat} (h:E0 q=⟨neg,A8 n,A8 d⟩) (l:NumS w S C n) (hd:NumS w S z d):IsQ w S (.agg #[.bool neg,C,z]) q:=by obtain⟨A,c,rfl,b,g,j⟩:=l;obtain⟨B,a,rfl,e,i,k⟩:=hd;unfold IsQ;rw[h];exact⟨A,c,B,a,rfl,⟨A,c,rfl,b,g,j⟩,⟨B,a,rfl,e,i,k⟩⟩
theorem F9 {w:f} {q:Rat} (h:IsQ w S v q):∃neg A c B d,v= .agg #[.bool neg,.slice A (A8 q.num.natAbs).length c,.slice B (A8 q.den).length d]/\s (neg=decide (q.num<0))/\
 s (NumS w S (.slice A (A8 q.num.natAbs).length c) q.num.natAbs)/\s (NumS w S (.slice B (A8 q.den).length d) q.den):=by obtain⟨A,c,B,d,rfl,a,b⟩:=h;exact⟨_,A,c,B,d,rfl,rfl,a,b⟩
theorem F7 {w:f} {n:Nat} (h:NumS w (C5 w) v n):IsN w 0 w.heap.size v n:=h.isL fun b a=>⟨Nat.zero_le _,a⟩
theorem zpx {w:f} {n:Nat} (h:IsN w lo w.heap.size v n):NumS w (I7 lo w) v n:=h.isK fun b a c=>⟨a,c⟩
theorem zrn {w:f} {n:Nat} (h:IsN w lo w.heap.size v n):NumS w (C5 w) v n:=h.isK fun b c a=>a
theorem Stb.next {a:Type} {R:f->(Nat->Prop)->r->a->Prop} (b:Stb R) {w w':f} {x:a} (h:R w (C5 w) v x) (c:A w.heap.size w w'):R w' (C5 w') v x:=b.to h (C9 c)
theorem Stb.fresh {a:Type} {R:f->(Nat->Prop)->r->a->Prop} (b:Stb R) {w w':f} {n:Nat} {x:a} (h:R w (I7 n w) v x) (c:A w.heap.size w w'):R w' (I7 n w') v x:=b.to h (Y9 c)
theorem Stb.old {a:Type} {R:f->(Nat->Prop)->r->a->Prop} (b:Stb R) {w:f} {n:Nat} {x:a} (h:R w (I7 n w) v x):R w (C5 w) v x:=b.to h (G4 yjr)
theorem Stb.le {a:Type} {R:f->(Nat->Prop)->r->a->Prop} (b:Stb R) {w:f} {n:Nat} {x:a} (h:R w (I7 n w) v x) (c:m<=n):R w (I7 m w) v x:=b.to h (G4 (yxn c))
theorem yjt {w:f}:NumS w S (.slice none 0 0) 0:=by unfold NumS;rw[T6];exact⟨none,0,rfl,D _,by unfold maxLen;omega,SVS.nil⟩
def K8 (w:f) (q:Rat) (e:Ending) (w':f):Prop:=(∃v,e= .returned v/\IsQ w' (I7 w.heap.size w') v q)/\A w.heap.size w w'
theorem Row.next {w w':f} {t:B} (h:Row w g t xs) (a:A w.heap.size w w'):Row w' g t xs:=h.below a h.lt
theorem C8 {w a:f} (h:A w.heap.size w u) (b:A u.heap.size u a):A w.heap.size w a:=h.trans (b.mono h.size)
abbrev put3 (w:f) (g:Nat) (a b c:r):f:=((w.setCell ⟨g,0,none⟩ a).setCell ⟨g,1,none⟩ b).setCell ⟨g,2,none⟩ c
theorem Row.put3 {w:f} {t:B} {x y z:r} (h:Row w g t [x,y,z]) (a b c:r):Row (put3 w g a b c) g t [a,b,c]:=((h.set_ 0 a).set_ 1 b).set_ 2 c
theorem zoy {w:f} {n:Nat} (h:A n w u) (d:n<=g) (a b c:r):A n w (put3 u g a b c):=((h.setCell (p:=⟨g,0,none⟩) d a).setCell (p:=⟨g,1,none⟩) d b).setCell (p:=⟨g,2,none⟩) d c
theorem zqi (w:f) (g:Nat) (a b c:r):(put3 w g a b c).heap.size=w.heap.size:=by simp[put3,World.setCell]
theorem zqh {w:f} {a b c:r} (h:∀x,S x->x≠g/\T x):L6 S T w (put3 w g a b c):=fun x d=>by
 have:=h x d
 refine⟨this.2,fun o=> ?_⟩
 rw[I _ _ _ _ (fun e=>this.1 (by cases e;rfl)),I _ _ _ _ (fun e=>this.1 (by cases e;rfl)),I _ _ _ _ (fun e=>this.1 (by cases e;rfl))]
theorem C0 {w:f} {t:B} {x y z:r} (h:Row w g t [x,y,z]):w.cell? ⟨g,0,none⟩=some x/\w.cell? ⟨g,1,none⟩=some y/\w.cell? ⟨g,2,none⟩=some z:=⟨h.cell 0,h.cell 1,h.cell 2⟩
theorem E9 {w:f} {t:B} {x y z:r} (h:Row w g t [x,y,z]):w.frozen? ⟨g,0,none⟩=false/\w.frozen? ⟨g,1,none⟩=false/\w.frozen? ⟨g,2,none⟩=false:=⟨h.frozen 0,h.frozen 1,h.frozen 2⟩
theorem A9 {w w':f} {p:Addr} (a:A w.heap.size w w') (h:w.cell? p=some v):w'.cell? p=some v:=(a.cell (K w p h)).trans h
theorem J5 {w w':f} {p:Addr} (a:A w.heap.size w w') (h:w.cell? p=some v) (hf:w.frozen? p=false):w'.frozen? p=false:=(a.frozen (K w p h)).trans hf
theorem zkj {w:f} {o:Nat} {x y z:r} (h:w.cell? ⟨b,o,none⟩=some v) (a:b≠g):(put3 w g x y z).cell? ⟨b,o,none⟩=some v:=by rw[I _ _ _ _ (fun e=>a (by cases e;rfl)),I _ _ _ _ (fun e=>a (by cases e;rfl)),I _ _ _ _ (fun e=>a (by cases e;rfl))];exact h
theorem U5 {fn:Func} {slot:Tmp} {R:Ending->f->Prop} {a:Act} {w:f} {x y z:r} (hr:fn.results= #[.cell slot 30]) (ha:a.tmps.getD slot undef= .pointer (some ⟨g,0,none⟩)) (hd:a.defers=[])
 (h:Row w g 30 [x,y,z]) (e:R (.returned (.agg #[x,y,z])) w):bodyPost Tryz.prog fn R .ret a w:=by refine bodyPost_ret (v:= .agg #[x,y,z]) ?_ hd e;obtain⟨b,c,d⟩:=C0 h;have i:a.tmps[slot]?.getD undef= .pointer (some ⟨g,0,none⟩):=(by simpa using ha);simp[results,hr,i,asAddr,go_sem,b,c,d]
theorem znq {w:f} {b c:Nat} {q:Rat} {neg:Bool} {n d:Nat} (i:E0 q=⟨neg,A8 n,A8 d⟩) (j:A w.heap.size w u) (e:w.heap.size<=g)
 (h:NumS u (I7 b u) C n) (hd:NumS u (I7 c u) z d) (k:g<b) (l:g<c):K8 w q (.returned (.agg #[.bool neg,C,z])) (put3 u g (.bool neg) C z):=by
 refine⟨⟨_,rfl,yii i (IsK.stb.to h (zqh fun x a=> ?_)) (IsK.stb.to hd (zqh fun x a=> ?_))⟩,zoy j e _ _ _⟩
 ·exact⟨by have:=a.1;omega,by have:=a.1;omega,by rw[zqi];exact a.2⟩
 ·exact⟨by have:=a.1;omega,by have:=a.1;omega,by rw[zqi];exact a.2⟩
theorem zmw {w:f} {x:r} {q:Rat} (h:IsQ u (I7 lo u) (.agg #[x,C,z]) q) (d:A w.heap.size w u) (c:w.heap.size<=g) (hlo:g<lo):K8 w q (.returned (.agg #[x,C,z])) (put3 u g x C z):=
 ⟨⟨_,rfl,IsQ.stb.to h (zqh fun b a=>⟨by have:=a.1;omega,by have:=a.1;omega,by rw[zqi];exact a.2⟩)⟩,zoy d c _ _ _⟩
theorem zls {w:f} {q:Rat} {neg:Bool} (h:IsQ w S (.agg #[.bool neg,C,z]) q):NumS w S C q.num.natAbs:=by obtain⟨A,c,B,d,hv,a,b⟩:=h;simp only[Value.agg.injEq] at hv;injection hv with hv;simp only[List.cons.injEq] at hv;obtain⟨_,rfl,rfl,_⟩:=hv;exact a
theorem zms {w:f} {q:Rat} {neg:Bool} (h:IsQ w S (.agg #[.bool neg,C,z]) q):NumS w S z q.den:=by obtain⟨A,c,B,d,hv,b,a⟩:=h;simp only[Value.agg.injEq] at hv;injection hv with hv;simp only[List.cons.injEq] at hv;obtain⟨_,rfl,rfl,_⟩:=hv;exact a
theorem zsp {w:f} {A:Option Addr} {n x:Nat} (h:NumS w S (.slice A n c) x) (a:(A8 x).length=1):∃b o,A=some ⟨b,o,none⟩/\w.cell? ⟨b,o,none⟩=some (.int .u32 (x:Int))/\1<=(x:Int)/\(x:Int)<=999999999:=by obtain⟨k,l,hv,m,p,d⟩:=h;simp only[Value.slice.injEq] at hv;obtain⟨rfl,rfl,rfl⟩:=hv;have j:x≠0:=(by rintro rfl;rw[T6] at a;simp at a);have i:x<1000000000:=(by have:=lim_len_le.1 (Nat.le_of_eq a);rw[ylb] at this;exact this);have e:=ztt i j;rw[e] at d;obtain⟨b,o,g,_,hc⟩:=d (by simp[F6]);have:=hc 0 (.int .u32 (x:Int)) (by simp[F6]);exact⟨b,o,g,this,by omega,by omega⟩
theorem J9 (w:f) (b:Array r) (c:B):∃a,w.alloc (.cells b c)=a/\A w.heap.size w a/\Row a w.heap.size c b.toList/\s (a.heap.size=w.heap.size+1):=
 ⟨_,rfl,(F _ w).alloc (D _) _,heap_alloc_new w _,by simp[s]⟩
theorem zkd (w:f) (a d:Array r) (c e:B):∃b,(w.alloc (.cells a c)).alloc (.cells d e)=b/\A w.heap.size w b/\Row b w.heap.size c a.toList/\Row b (w.heap.size+1) e d.toList/\s (b.heap.size=w.heap.size+2):=by refine⟨_,rfl,((F _ w).alloc (D _) _).alloc (by simp) _,Row.alloc (xs:=a.toList) (heap_alloc_new w (.cells a c)) _,?_,by simp[s]⟩;have:=heap_alloc_new (w.alloc (.cells a c)) (.cells d e);rw[World.size_alloc] at this;exact this
theorem znc (w:f) (b c g:Array r) (d e h:B):∃a,((w.alloc (.cells b d)).alloc (.cells c e)).alloc (.cells g h)=a/\A w.heap.size w a/\Row a w.heap.size d b.toList/\Row a (w.heap.size+1) e c.toList/\Row a (w.heap.size+1+1) h g.toList/\s (a.heap.size=w.heap.size+3):=by obtain⟨u,rfl,i,j,k,l⟩:=zkd w b c d e;refine⟨_,rfl,i.alloc i.size _,j.alloc _,k.alloc _,?_,by simp[s]⟩;have:=heap_alloc_new ((w.alloc (.cells b d)).alloc (.cells c e)) (.cells g h);rw[l.out] at this;exact this
theorem L7 (w:f) (o:Obj):A w.heap.size w (w.alloc o):=(F _ w).alloc (D _) o
theorem L8 (w:f):A w.heap.size w w.drew:=⟨rfl,rfl,rfl,D _,fun _ _=>rfl⟩
def Rd (w:f) (v:r) (n:Nat):Prop:=∀w',A w.heap.size w w'->IsN w' 0 w'.heap.size v n
theorem Rd.to {w w':f} {n:Nat} (h:Rd w v n) (a:A w.heap.size w w'):IsN w' 0 w'.heap.size v n:=h w' a
theorem NumS.rd {w:f} {n:Nat} (h:NumS w (C5 w) v n):Rd w v n:=fun w' a=>F7 (IsK.stb.next h a)
theorem ztm (x:Nat) {y:Nat} (h:y≠0):0<Nat.gcd x y:=Nat.gcd_pos_of_pos_right _ og
theorem ztl (x:Nat) {y:Nat} (h:y≠0) (a:(A8 y).length<=k):(A8 (Nat.gcd x y)).length<=k:=E (zkn (Nat.le_of_dvd og (Nat.gcd_dvd_right _ _))) a
theorem znx {x y:Nat} (a:(A8 x).length<=k):(A8 (x/y)).length<=k:=E (zkn (Nat.div_le_self _ _)) a
theorem zlo {w:f} {t:B} {x:r} (h:Row w g t [x]):w.cell? ⟨g,0,none⟩=some x:=h.cell 0
theorem IsN.next {w w':f} {n:Nat} (h:IsN w 0 w.heap.size v n) (a:A w.heap.size w w'):IsN w' 0 w'.heap.size v n:=(h.below a (D _)).wide (D _) a.size
theorem Bru.next {w w':f} (h:Bru w) (a:A w.heap.size w w'):Bru w':=h.below a
theorem zzw {w w':f} {n:Nat} (h:n<=w.heap.size) (a:A w.heap.size w w'):n<=w'.heap.size:=E h a.size
theorem U2 {w:f} {n:Nat} (h:IsN w lo w.heap.size v n) (a:m<=lo):NumS w (I7 m w) v n:=IsK.stb.le (zpx h) a
theorem zto {w:f} {n:Nat} (h:IsN w lo w.heap.size v n):NumS w (C5 w) v n:=zrn h
theorem nQ {w w':f} {q:Rat} (h:s (IsQ w (C5 w) v q)) (a:A w.heap.size w w'):s (IsQ w' (C5 w') v q):=IsQ.stb.next h.out a
theorem nV {w w':f} {l:List Raw} (h:s (IsV w (C5 w) v l)) (a:A w.heap.size w w'):s (IsV w' (C5 w') v l):=IsV.stb.next h.out a
theorem nM {w w':f} {l:List (List Raw)} (h:s (IsM w (C5 w) v l)) (a:A w.heap.size w w'):s (IsM w' (C5 w') v l):=IsM.stb.next h.out a
theorem nR {w w':f} {t:B} (h:s (Row w g t xs)) (a:A w.heap.size w w'):s (Row w' g t xs):=Row.next h.out a
theorem nB {w a w':f} (h:s (A w.heap.size w a)) (b:A a.heap.size a w'):s (A w.heap.size w w'):=C8 h.out b
theorem nS {n:Nat} {w w':f} (h:s (n<=w.heap.size)) (a:A w.heap.size w w'):s (n<=w'.heap.size):=zzw h.out a
theorem nU {w w':f} (h:s (Bru w)) (a:A w.heap.size w w'):s (Bru w'):=Bru.next h.out a
end Go.Proofs.YtlhhbccgfkhflaaGreatDoor
