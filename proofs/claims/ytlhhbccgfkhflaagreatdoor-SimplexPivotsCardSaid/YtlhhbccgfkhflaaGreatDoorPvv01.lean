/-
 Facts that a tactic of their own proves:short names for proofs that stand many times in these texts.
-/
import Derived.WalkKit
import Derived.WalkSpells
import Derived.WalkLawsBesides
import Derived.BigQuiet
import Derived.Deep.QuietTactic
import Derived.Lib.Hide
import Derived.Maps.AppendAt
import Derived.Deep.AppendLies
namespace Go.Proofs.YtlhhbccgfkhflaaGreatDoor
open Go.RowKit
set_option linter.unusedVariables false
set_option maxRecDepth 100000
set_option maxHeartbeats 8000000
open _root_.Nat renaming le_refl → D, lt_of_lt_of_le → K, lt_or_ge → I, lt_succ_self → J
open _root_.List renaming getD_eq_getElem?_getD → s, getElem?_eq_getElem → C, take_of_length_le → H
open _root_.Go renaming World → q, Value → d, TypeId → u, Program → G, Oper → E, Addr → B
open _root_.Go.RowKit renaming Hid → f
variable {L F b : List Nat} {V bw bw' c c' r : Int} {i j m n off : Nat} {p : B}
theorem C5 {A B:Prop} (a:A) (b:B):f A/\f B:=⟨a,b⟩
theorem G0 {A B C:Prop} (a:A) (b:B) (c:C):f A/\f B/\f C:=⟨a,b,c⟩
theorem X7 {A B C D:Prop} (a:A) (b:B) (c:C) (d:D):f A/\f B/\f C/\f D:=⟨a,b,c,d⟩
theorem hd5 {A B C D g:Prop} (a:A) (b:B) (c:C) (d:D) (e:g):f A/\f B/\f C/\f D/\f g:=⟨a,b,c,d,e⟩
theorem hd6 {A B C D g h:Prop} (a:A) (b:B) (c:C) (d:D) (e:g) (i:h):f A/\f B/\f C/\f D/\f g/\f h:=⟨a,b,c,d,e,i⟩
theorem hd7 {A B C D h i j:Prop} (a:A) (b:B) (c:C) (d:D) (e:h) (k:i) (g:j):f A/\f B/\f C/\f D/\f h/\f i/\f j:=⟨a,b,c,d,e,k,g⟩
theorem hd8 {A B C D i j k l:Prop} (a:A) (b:B) (c:C) (d:D) (e:i) (m:j) (g:k) (h:l):f A/\f B/\f C/\f D/\f i/\f j/\f k/\f l:=⟨a,b,c,d,e,m,g,h⟩
theorem nm {a:Sort _} (e:a):∃x,x=e:=⟨e,rfl⟩
theorem mn {a:Sort _} (e:a):∃x,e=x:=⟨e,rfl⟩
theorem kr {p:Prop} (h:p:=by kernel_rfl):p:=h
theorem asm {p:Prop} (h:p:=by assumption):p:=h
theorem oH {p:Prop} (h:p:=by omega):f p:=h
theorem oH1 {a p:Prop} (ha:f a) (h:a->p:=by(intro _;omega)):f p:=h ha
theorem oH2 {a b p:Prop} (ha:f a) (c:f b) (h:a->b->p:=by(intro _ _;omega)):f p:=h ha c
theorem oH3 {a b c p:Prop} (ha:f a) (d:f b) (hc:f c) (h:a->b->c->p:=by(intro _ _ _;omega)):f p:=h ha d hc
theorem oh {a p:Prop} (ha:f a) (h:a->p:=by(intro _;omega)):p:=h ha
theorem znu {a b p:Prop} (ha:f a) (c:f b) (h:a->b->p:=by(intro _ _;omega)):p:=h ha c
theorem zmc {a b c p:Prop} (ha:f a) (d:f b) (hc:f c) (h:a->b->c->p:=by(intro _ _ _;omega)):p:=h ha d hc
theorem sP {g q:Prop} (k:q) (h:q->g:=by(intro a;(try simp only[Act.put,_root_.List.setIfInBounds_toArray,_root_.List.set_cons_zero,_root_.List.set_cons_succ]);exact a)):g:=h k
theorem og {p:Prop} (h:p:=by omega):p:=h
def val:List Nat->Nat
 |[]=>0
 |x::l=>x+1000000000*val l
def A9 (n:Nat):List Nat:=if n=0 then[] else n%1000000000::A9 (n/1000000000)
termination_by n
decreasing_by omega
def Lo (l:List Nat):Prop:=∀x∈l,x<1000000000
def pw (k:Nat):Nat:=1000000000^k
theorem zz1353:pw 0=1:=rfl
theorem zur:pw 1=1000000000:=by simp[pw]
theorem zkg (k:Nat):pw (k+1)=1000000000*pw k:=by simp[pw,Nat.pow_succ,Nat.mul_comm]
theorem znw (k:Nat):0<pw k:=Nat.pow_pos og
theorem zwh (a b:Nat):pw (a+b)=pw a*pw b:=by simp[pw,Nat.pow_add]
theorem zwi {a b:Nat} (h:a<=b):pw a<=pw b:=Nat.pow_le_pow_right og h
theorem N6:A9 0=[]:=by rw[A9];simp
theorem zpb (h:n≠0):A9 n=n%1000000000::A9 (n/1000000000):=by rw[A9];simp[h]
theorem zpy:val []=0:=rfl
theorem zsi (x:Nat) (l:List Nat):val (x::l)=x+1000000000*val l:=rfl
theorem zny (a b:List Nat):val (a++b)=val a+pw a.length*val b:=by
 induction a with
 |nil=>simp[val,pw]
 |cons x a ih=>simp only[List.cons_append,val,ih,List.length_cons,zkg];grind
theorem R7 (n:Nat):val (A9 n)=n:=by
 induction n using Nat.strongRecOn with
 |_ n ih=>
  by_cases h:n=0
  ·subst h;simp[N6,val]
  ·rw[zpb h,val,ih _ og];omega
theorem zvw:Lo []:=by intro x a;cases a
theorem lo_cons {x:Nat} {l:List Nat}:Lo (x::l)↔x<1000000000/\Lo l:=by simp[Lo]
theorem lo_append {a:List Nat}:Lo (a++b)↔Lo a/\Lo b:=by simp only[Lo,List.mem_append];exact⟨fun h=>⟨fun x c=>h x (.inl c),fun x c=>h x (.inr c)⟩,fun h x c=>c.elim (h.1 x) (h.2 x)⟩
theorem zmy {l:List Nat} (h:Lo l) (k:Nat):Lo (l.take k):=fun x a=>h x (List.mem_of_mem_take a)
theorem zvv {l:List Nat} (h:Lo l) (k:Nat):Lo (l.drop k):=fun x a=>h x (List.mem_of_mem_drop a)
theorem zpc {l:List Nat} (h:Lo l) (k:Nat):l.getD k 0<1000000000:=by
 rw[s];by_cases a:k<l.length
 ·rw[C a];exact h _ (List.getElem_mem a)
 ·rw[List.getElem?_eq_none og];simp
theorem M4 (n:Nat):Lo (A9 n):=by
 induction n using Nat.strongRecOn with
 |_ n ih=>
  by_cases h:n=0
  ·subst h;rw[N6];exact zvw
  ·rw[zpb h,lo_cons];exact⟨Nat.mod_lt _ og,ih _ og⟩
theorem ycb {l:List Nat} (h:Lo l) (a:l.getLastD 1≠0):A9 (val l)=l:=by
 induction l with
 |nil=>simp[val,N6]
 |cons x l ih=>
  rw[lo_cons] at h
  have hv:val (x::l)≠0:=by
   intro e;simp only[val] at e;have g:x=0:=og;have i:val l=0:=og;cases l with
   |nil=>simp[g] at a
   |cons y j=>have:=ih h.2 (by simpa using a);rw[i,N6] at this;cases this
  rw[zpb hv];simp only[val];have b:(x+1000000000*val l)%1000000000=x:=og;have c:(x+1000000000*val l)/1000000000=val l:=og;rw[b,c];congr 1;apply ih h.2;cases l with
  |nil=>simp
  |cons y j=>simpa using a
theorem yvm (n:Nat):(A9 n).getLastD 1≠0:=by
 induction n using Nat.strongRecOn with
 |_ n ih=>
  by_cases h:n=0
  ·subst h;simp[N6]
  ·rw[zpb h];have:=ih (n/1000000000) og;by_cases a:n/1000000000=0
   ·rw[a,N6];simp;omega
   ·rw[zpb a] at this⊢;simpa using this
theorem zmf {l:List Nat} (h:Lo l):val l<pw l.length:=by
 induction l with
 |nil=>simp[val,pw]
 |cons x l ih=>rw[lo_cons] at h;have:=ih h.2;simp only[val,List.length_cons,zkg];omega
theorem lim_len_le {k:Nat}:(A9 n).length<=k↔n<pw k:=by
 induction k generalizing n with
 |zero=>
  by_cases h:n=0
  ·subst h;simp[N6,pw]
  ·rw[zpb h];simp[pw];omega
 |succ k ih=>
  by_cases h:n=0
  ·subst h;simp[N6,znw]
  ·rw[zpb h,List.length_cons,zkg];have:=ih (n:=n/1000000000);constructor
   ·intro a;have:=this.1 og;omega
   ·intro a;have:=this.2 og;omega
theorem lim_len_lt {k:Nat}:k<(A9 n).length↔pw k<=n:=by have:=lim_len_le (n:=n) (k:=k);omega
theorem zqt (n:Nat):n<pw (A9 n).length:=lim_len_le.1 (D _)
theorem W9 {a b:Nat} (h:a<=b):(A9 a).length<=(A9 b).length:=lim_len_le.2 (Nat.lt_of_le_of_lt h (zqt b))
theorem zyp (a b:Nat):(A9 (a*b)).length<=(A9 a).length+(A9 b).length:=by rw[lim_len_le,zwh];have ha:=zqt a;have c:=zqt b;have:=Nat.mul_le_mul (Nat.succ_le_of_lt ha) (Nat.succ_le_of_lt c);grind
theorem ywj (a b:Nat):(A9 (a+b)).length<=max (A9 a).length (A9 b).length+1:=by rw[lim_len_le,zkg];have ha:=K (zqt a) (zwi (Nat.le_max_left (A9 a).length (A9 b).length));have c:=K (zqt b) (zwi (Nat.le_max_right (A9 a).length (A9 b).length));omega
theorem lim_nil_iff:(A9 n).length=0↔n=0:=by have:=lim_len_le (n:=n) (k:=0);simp only[zz1353] at this;omega
theorem ywi {a b:Nat} (h:A9 a=A9 b):a=b:=by rw[<-R7 a,<-R7 b,h]
theorem zzz {l:List Nat} (h:∀x∈l,x=0):val l=0:=by
 induction l with
 |nil=>rfl
 |cons x l ih=>simp only[val];have b:=h x (by simp);have c:=ih (fun y a=>h y (by simp[a]));omega
theorem zz1460 {l:List Nat} (h:∀j,m<=j->j<l.length->l.getD j 0=0):val (l.take m)=val l:=by have e:val l=val (l.take m++l.drop m):=(by rw[List.take_append_drop]);rw[e,zny,zzz (l:=l.drop m),Nat.mul_zero,Nat.add_zero];intro x b;obtain⟨j,a,rfl⟩:=List.getElem_of_mem b;rw[List.getElem_drop];have:=h (m+j) og (by simp at a;omega);rw[s,C (by simp at a;omega)] at this;simpa using this
theorem yec {l:List Nat} (d:Lo l) (f:m<=l.length) (h:∀j,m<=j->j<l.length->l.getD j 0=0) (e:m=0\/l.getD (m-1) 0≠0):
 A9 (val l)=l.take m:=by
 rw[<-zz1460 h];apply ycb (zmy d m);rcases e with rfl|a
 ·simp
 ·by_cases c:m=0
  ·subst c;simp
  ·rw[List.getLastD_eq_getLast?,List.getLast?_eq_getElem?,List.length_take,Nat.min_eq_left f,List.getElem?_take,if_pos og];rw[s] at a;cases b:l[m-1]? with
   |none=>rw[List.getElem?_eq_none_iff] at b;omega
   |some x=>rw[b] at a;simpa using a
theorem ywm {l:List Nat} (a:Lo l):(A9 (val l)).length<=l.length:=lim_len_le.2 (zmf a)
theorem ztd (h:n<1000000000) (a:n≠0):A9 n=[n]:=by rw[zpb a,Nat.div_eq_of_lt h,N6,Nat.mod_eq_of_lt h]
theorem yeh {l:List Nat} {k:Nat} (h:k<l.length):val (l.take (k+1))=val (l.take k)+pw k*l.getD k 0:=by rw[List.take_succ_eq_append_getElem h,zny,List.length_take,Nat.min_eq_left (Nat.le_of_lt h),s,C h];simp[val]
theorem zsj {l:List Nat} {k:Nat} (h:k<l.length):val (l.drop k)=l.getD k 0+1000000000*val (l.drop (k+1)):=by rw[List.drop_eq_getElem_cons h,val,s,C h];rfl
theorem zqm (l:List Nat) (k:Nat) (h:k<=l.length):val l=val (l.take k)+pw k*val (l.drop k):=by have e:val l=val (l.take k++l.drop k):=(by rw[List.take_append_drop]);rw[e,zny,List.length_take,Nat.min_eq_left h]
theorem zrv (n k:Nat):(A9 n).getD k 0=n/pw k%1000000000:=by
 induction k generalizing n with
 |zero=>
  by_cases h:n=0
  ·subst h;simp[N6,pw]
  ·rw[zpb h];simp[pw]
 |succ k ih=>
  by_cases h:n=0
  ·subst h;simp[N6]
  ·rw[zpb h,zkg,<-Nat.div_div_eq_div_mul];simpa using ih (n/1000000000)
def C8 (k:IntKind) (l:List Nat):List d:=l.map fun(n:Nat)=>Value.int k (n:Int)
theorem zmh (k:IntKind) (l:List Nat):(C8 k l).length=l.length:=by simp[C8]
theorem yqh (k:IntKind) (a b:List Nat):C8 k (a++b)=C8 k a++C8 k b:=by simp[C8]
theorem cel_getElem? (k:IntKind) (l:List Nat) (j:Nat):(C8 k l)[j]? =l[j]?.map fun(n:Nat)=>Value.int k (n:Int):=by simp[C8]
theorem cel_nil_iff {k:IntKind} {l:List Nat}:C8 k l=[]↔l=[]:=by simp[C8]
theorem M5 {k:IntKind} {l:List Nat} (h:j+1<=l.length):C8 k l≠[]:=by rw[ne_eq,cel_nil_iff];rintro rfl;simp at h
theorem yap (k:IntKind) (l:List Nat):∀b∈C8 k l,b.oneCell'=true:=by intro b a;simp only[C8,List.mem_map] at a;obtain⟨n,_,rfl⟩:=a;rfl
theorem zxj (k:IntKind) (l:List Nat) (n:Nat):C8 k (l.take n)=(C8 k l).take n:=by simp[C8]
theorem yfe (k:IntKind) (l:List Nat) (n:Nat):C8 k (l.drop n)=(C8 k l).drop n:=by simp[C8]
theorem yff (k:IntKind) (l:List Nat) (i n:Nat):C8 k (l.set i n)=(C8 k l).set i (.int k (n:Int)):=by simp[C8]
theorem zpl {k:IntKind} {l:List Nat} (h:j<l.length):(C8 k l)[j]? =some (.int k (l.getD j 0:Nat)):=by rw[cel_getElem?,C h,s,C h];rfl
def SV (w:q) (lo hi:Nat) (A:Option B) (xs:List d):Prop:=
 xs≠[]->∃b off,A=some ⟨b,off,none⟩/\lo<=b/\b<hi/\∀j v,xs[j]? =some v->w.cell? ⟨b,off+j,none⟩=some v
section
variable {w w' : q} {lo hi lo' y : Nat} {A : Option B} {xs : List d}
theorem SV.nil:SV w lo hi A []:=fun h=>absurd rfl h
theorem SV.keep (h:SV w lo hi A xs) (e:∀p:B,lo<=p.block->p.block<hi->w'.cell? p=w.cell? p):SV w' lo hi A xs:=fun f=>by
 obtain⟨b,off,d,a,c,hc⟩:=h f
 exact⟨b,off,d,a,c,fun j v hv=>(e _ a c).trans (hc j v hv)⟩
theorem SV.wide (h:SV w lo hi A xs) (f:lo'<=lo) (g:hi<=y):SV w lo' y A xs:=fun c=>by
 obtain⟨b,off,a,d,e,hc⟩:=h c
 exact⟨b,off,a,by omega,by omega,hc⟩
theorem SV.below {B:Nat} (h:SV w lo hi A xs) (a:Below B w w') (c:hi<=B):SV w' lo hi A xs:=h.keep fun p _ b=>a.cell og
theorem SV.drewN (h:SV w lo hi A xs) (n:Nat):SV (w.drewN n) lo hi A xs:=h
theorem SV.drew (h:SV w lo hi A xs):SV w.drew lo hi A xs:=h
theorem SV.alloc (h:SV w lo hi A xs) (b:hi<=w.heap.size) (o:Obj):SV (w.alloc o) lo hi A xs:=h.keep fun p _ a=>World.cell?_alloc_lt w o p og
theorem SV.setCell (h:SV w lo hi A xs) (f:p.block<lo\/hi<=p.block) (a:d):SV (w.setCell p a) lo hi A xs:=
 h.keep fun q b c=>World.cell?_setCell_other w p q a (fun e=>by subst e;omega)
theorem SV.grown {row:Option Nat} (h:SV w lo hi A xs) (hg:w.grownBy w' row) (c:hi<=w.heap.size) (hr:∀g,row=some g->g<lo\/hi<=g):SV w' lo hi A xs:=
 h.keep fun p a b=>World.cell?_of_block (hg.block p.block og (fun e=>by have:=hr _ e.symm;omega))
theorem SV.take (h:SV w lo hi A xs) (n:Nat):SV w lo hi A (xs.take n):=fun f=>by
 have e:xs≠[]:=by rintro rfl;simp at f
 obtain⟨b,off,d,a,c,hc⟩:=h e
 refine⟨b,off,d,a,c,fun j v hv=>hc j v ?_⟩
 rw[List.getElem?_take] at hv
 split at hv
 ·exact hv
 ·cases hv
theorem SV.cut (h:SV w lo hi A xs) {k cap:Nat} (hc:xs.length<=cap):SV w lo hi (if cap=k then A else A.map (·.add k)) (xs.drop k):=fun i=>by
 have f:k<xs.length:=by
  rcases I k xs.length with a|a
  ·exact a
  ·exact absurd (List.drop_eq_nil_of_le a) i
 have g:xs≠[]:=(by rintro rfl;simp at f);obtain⟨b,off,rfl,c,d,e⟩:=h g;rw[if_neg og];refine⟨b,off+k,by simp[Addr.add_lit],c,d,fun j v hv=> ?_⟩;rw[Nat.add_assoc];exact e _ v (by rw[<-hv,List.getElem?_drop])
theorem SV.at_ {b:Nat} (h:SV w lo hi (some ⟨b,off,none⟩) xs):∀j v,xs[j]? =some v->w.cell? ⟨b,off+j,none⟩=some v:=by intro j v hv;obtain⟨c,d,a,_,_,hc⟩:=h (by rintro rfl;simp at hv);simp only[Option.some.injEq,Addr.mk.injEq,and_true] at a;obtain⟨rfl,rfl⟩:=a;exact hc j v hv
theorem SV.news (h:SV w lo hi A xs) (e:xs≠[]):∃c,A=some c/\∀j a,xs[j]? =some a->w.cell? (c.add j)=some a:=by obtain⟨b,off,d,_,_,hc⟩:=h e;exact⟨_,d,fun j a f=>by rw[Addr.add_lit];exact hc j a f⟩
end
def IsL (k:IntKind) (w:q) (lo hi:Nat) (v:d) (l:List Nat):Prop:=
 ∃A c,v= .slice A l.length c/\l.length<=c/\c<=maxLen/\SV w lo hi A (C8 k l)
def IsN (w:q) (lo hi:Nat) (v:d) (n:Nat):Prop:=IsL .u32 w lo hi v (A9 n)
section
variable {k : IntKind} {w w' : q} {lo hi lo' y : Nat} {v : d} {l : List Nat}
theorem IsL.wide (h:IsL k w lo hi v l) (a:lo'<=lo) (b:hi<=y):IsL k w lo' y v l:=by obtain⟨A,c,rfl,hc,d,e⟩:=h;exact⟨A,c,rfl,hc,d,e.wide a b⟩
theorem IsL.keep (h:IsL k w lo hi v l) (a:∀p:B,lo<=p.block->p.block<hi->w'.cell? p=w.cell? p):IsL k w' lo hi v l:=by obtain⟨A,c,rfl,hc,b,d⟩:=h;exact⟨A,c,rfl,hc,b,d.keep a⟩
theorem IsL.below {B:Nat} (h:IsL k w lo hi v l) (a:Below B w w') (c:hi<=B):IsL k w' lo hi v l:=h.keep fun p _ b=>a.cell og
theorem IsL.drewN (h:IsL k w lo hi v l) (n:Nat):IsL k (w.drewN n) lo hi v l:=h
theorem IsN.drewN (h:IsN w lo hi v n) (m:Nat):IsN (w.drewN m) lo hi v n:=IsL.drewN h m
theorem IsN.below {B:Nat} (h:IsN w lo hi v n) (b:Below B w w') (a:hi<=B):IsN w' lo hi v n:=IsL.below h b a
theorem IsN.wide (h:IsN w lo hi v n) (a:lo'<=lo) (b:hi<=y):IsN w lo' y v n:=IsL.wide h a b
theorem IsN.keep (h:IsN w lo hi v n) (a:∀p:B,lo<=p.block->p.block<hi->w'.cell? p=w.cell? p):IsN w' lo hi v n:=IsL.keep h a
theorem IsL.nil:IsL k w lo hi (.slice none 0 0) []:=⟨none,0,rfl,D _,by unfold maxLen;omega,SV.nil⟩
theorem IsN.zero:IsN w lo hi (.slice none 0 0) 0:=by unfold IsN;rw[N6];exact IsL.nil
theorem IsL.length_le (h:IsL k w lo hi v l):l.length<=maxLen:=by obtain⟨A,c,rfl,hc,a,b⟩:=h;omega
end
theorem znn {k:IntKind} {w:q} {b:Nat} {l:List Nat} (hc:∀j v,(C8 k l)[j]? =some v->w.cell? ⟨b,off+j,none⟩=some v) (a:j<l.length):
 ∃x:Int,f (x=(l.getD j 0:Nat))/\0<=x/\w.cell? ⟨b,off+j,none⟩=some (.int k x):=
 ⟨_,rfl,by omega,hc j _ (zpl a)⟩
theorem W4 {k:IntKind} {w:q} {b:Nat} {l:List Nat} (c:Lo l) (hc:∀j v,(C8 k l)[j]? =some v->w.cell? ⟨b,off+j,none⟩=some v) (a:j<l.length):
 ∃x:Int,f (x=(l.getD j 0:Nat))/\0<=x/\x<=999999999/\w.cell? ⟨b,off+j,none⟩=some (.int k x):=
 ⟨_,rfl,by omega,by have:=zpc c j;omega,hc j _ (zpl a)⟩
def Row (w:q) (g:Nat) (t:u) (xs:List d):Prop:=w.heap[g]? =some (.cells xs.toArray t (0,0))
section
variable {w w' : q} {g : Nat} {t : u} {xs : List d}
theorem Row.lt (h:Row w g t xs):g<w.heap.size:=by
 rcases I g w.heap.size with b|a
 ·exact b
 ·unfold Row at h;rw[Array.getElem?_eq_none a] at h;cases h
theorem Row.cell (h:Row w g t xs) (i:Nat):w.cell? ⟨g,i,none⟩=xs[i]? :=by rw[cell_of_row w g i _ t (0,0) h];simp
theorem Row.frozen (h:Row w g t xs) (i:Nat):w.frozen? ⟨g,i,none⟩=false:=by unfold Row at h;simp[World.frozen?,h]
theorem Row.drewN (h:Row w g t xs) (n:Nat):Row (w.drewN n) g t xs:=h
theorem Row.drew (h:Row w g t xs):Row w.drew g t xs:=h
theorem Row.alloc (h:Row w g t xs) (o:Obj):Row (w.alloc o) g t xs:=(Below.heap_alloc w o g h.lt).trans h
theorem Row.set_ (h:Row w g t xs) (i:Nat) (a:d):Row (w.setCell ⟨g,i,none⟩ a) g t (xs.set i a):=by unfold Row at h⊢;simp[World.setCell,Array.getElem?_modify,h]
theorem Row.far (h:Row w g t xs) (b:g≠p.block) (a:d):Row (w.setCell p a) g t xs:=(Below.heap_setCell w p a g b).trans h
theorem Row.below {B:Nat} (h:Row w g t xs) (a:Below B w w') (hg:g<B):Row w' g t xs:=(a.block g hg).trans h
theorem Row.grown {row:Option Nat} (h:Row w g t xs) (a:w.grownBy w' row) (hg:some g≠row):Row w' g t xs:=(a.block g h.lt hg).trans h
theorem Row.sv (h:Row w g t xs):SV w g (g+1) (some ⟨g,0,none⟩) xs:=fun _=>⟨g,0,rfl,D _,J _,fun j v hv=>by rw[Nat.zero_add,h.cell];exact hv⟩
theorem Row.num {k:IntKind} {l:List Nat} (h:Row w g t (C8 k l)) (hi:i<l.length):∃x:Int,f (x=(l.getD i 0:Nat))/\0<=x/\w.cell? ⟨g,i,none⟩=some (.int k x):=
 ⟨_,rfl,by omega,by rw[h.cell,zpl hi]⟩
theorem Row.lo {k:IntKind} {l:List Nat} (h:Row w g t (C8 k l)) (a:Lo l) (hi:i<l.length):
 ∃x:Int,f (x=(l.getD i 0:Nat))/\0<=x/\x<=999999999/\w.cell? ⟨g,i,none⟩=some (.int k x):=
 ⟨_,rfl,by omega,by have:=zpc a i;omega,by rw[h.cell,zpl hi]⟩
theorem Row.setNum {k:IntKind} {l:List Nat} (h:Row w g t (C8 k l)) (i n:Nat) (x:Int) (a:x=(n:Int)):Row (w.setCell ⟨g,i,none⟩ (.int k x)) g t (C8 k (l.set i n)):=by subst a;rw[yff];exact h.set_ i _
end
theorem getD_set_ne {l:List Nat} {x:Nat} (h:i≠j):(l.set i x).getD j 0=l.getD j 0:=by simp[s,List.getElem?_set_ne h]
theorem W5 {l:List Nat} (h:Lo l) {x:Nat} (c:x<1000000000):Lo (l.set i x):=fun y b=>by
 rcases List.mem_or_eq_of_mem_set b with a|a
 ·exact h y a
 ·omega
theorem zz1473 {P:G} (w:q) {ops:Array E} {rest:List E} {o:E} {a:Act} {Q:Exit->Act->q->Prop}
 (hg:o.guard=none) (l c:Operand) (t:u) (B:o.op=Op.makeSlice t l c)
 (e:u) (i:TypeInfo) (k:IntKind) (g:P.underlying t=some (.slice e)) (j:P.info? e=some i) (m:i.zero=some (.int k 0)) (p:i.size=1)
 (d b:IntKind) (L C:Int) (n:Nat) (z:a.eval l= .int d L) (hc:a.eval c= .int b C) (x:L=(n:Int)) (r:C=(n:Int)) (b2:i.bytes*n<=281474976710656) (f:n<=maxLen)
 (s:∀w',Row w' w.heap.size e (C8 k (List.replicate n 0))->Below w.heap.size w w'->w'.heap.size=w.heap.size+1->wpList P ops Q rest (a.put o.dst (.slice (some ⟨w.heap.size,0,none⟩) n n)) w'):
 wpList P ops Q (o::rest) a w:=by refine wpList_plain hg fun F v=> ?_;have y:(i.bytes:Int)*(n:Int)<=281474976710656:=(by have h:((i.bytes*n:Nat):Int)<=281474976710656:=og;rwa[Int.natCast_mul] at h);have hr:=run_make (P:=P) w t e i (.int k 0) g j m d b n n og (Int.le_refl _) y (by simp only[maxLen] at f;omega);simp only[Int.toNat_natCast] at hr;subst x;subst r;unfold Oper.wp;simp[execOp,B,z,hc,hr,Result.andThen];refine v _ _ (s _ ?_ ((Below.refl _ _).alloc (D _) _) (by simp));unfold Row;(have A:(C8 k (List.replicate n 0)).toArray=madeCells (Value.int k 0).cells (n*i.size):=by apply Array.ext';rw[p,Nat.mul_one];show _=(madeCells #[.int k 0] n).toList;rw[toList_madeCells_one];simp[C8]);rw[A];exact heap_alloc_new w _
def Own (w:q) (base:Nat) (e:u) (v:d) (xs:List d):Prop:=w.ownsRow base e 1 v xs.length xs
theorem Own.sl {w:q} {base:Nat} {e:u} {v:d} {xs:List d} (h:Own w base e v xs):
 ∃A c,v= .slice A xs.length c/\xs.length<=c/\c<=maxLen/\SV w base w.heap.size A xs:=by
 have b:=h;rcases h.2 with⟨hv,a⟩|⟨g,cap,o,hv,f,k,a,i,p,r⟩
 ·have m:xs=[]:=List.eq_nil_of_length_eq_zero a;subst m;exact⟨none,0,by simpa using hv,D _,by unfold maxLen;omega,SV.nil⟩
 ·refine⟨some ⟨g,0,none⟩,cap,hv,a,i,fun _=>⟨g,0,rfl,f,(Array.getElem?_eq_some_iff.1 k).1,fun j n l=> ?_⟩⟩;subst hv;have:=World.ownsRow.cells b (g:=g) rfl j n l;rw[Addr.add_lit] at this;exact this
theorem Own.isL {k:IntKind} {w:q} {base:Nat} {e:u} {v:d} {l:List Nat} (h:Own w base e v (C8 k l)):IsL k w base w.heap.size v l:=by obtain⟨A,c,hv,a,b,f⟩:=h.sl;rw[zmh] at hv a;exact⟨A,c,hv,a,b,f⟩
theorem Own.nil (w:q) (base:Nat) (e:u):Own w base e (.slice none 0 0) []:=World.ownsRow_nil w base e 1
theorem Own.below {w w':q} {base:Nat} {e:u} {v:d} {xs:List d} (h:Own w base e v xs) (a:Below w.heap.size w w'):Own w' base e v xs:=
 World.ownsRow.kept (row:=none) h ⟨a.os,a.tape,a.output,a.size,fun k b _=>a.block k b⟩ (by cases v.ownBlock<;>simp)
theorem Own.drewN {w:q} {base:Nat} {e:u} {v:d} {xs:List d} (h:Own w base e v xs) (n:Nat):Own (w.drewN n) base e v xs:=h.below ⟨rfl,rfl,rfl,D _,fun _ _=>rfl⟩
section
variable {P : G} (w : q)
theorem zz1396 (base:Nat) (t h e:u) (i:TypeInfo) (size:Nat) (a:P.underlying t=some (.slice e)) (hi:P.info? e=some i)
 (v:d) (n:Nat) (xs:List d) (f:w.ownsRow base e size v n xs) (c:Nat):(Builtin.append_ #[t,t] h #[v,.slice none 0 c]).run P w= .ok v w:=by
 rcases f.2 with⟨rfl,rfl⟩|⟨g,cap,j,rfl,_,_,b,_⟩
 ·simp[Builtin.append_,run_underlying a,sizeOf,typeInfo,hi,Builtin.lenOf,Builtin.firstCells]
 ·simp[Builtin.append_,run_underlying a,sizeOf,typeInfo,hi,Builtin.lenOf,Builtin.firstCells,b,storeCells]
theorem zz1395 (base:Nat) (t l e:u) (i:TypeInfo) (z:d) (size bytes:Nat) (s:P.underlying t=some (.slice e)) (hi:P.info? e=some i) (Q:i.zero=some z)
 (O:i.size=size) (I:i.bytes=bytes) (R:z.cells.size=size) (r:0<size)
 (v:d) (n:Nat) (xs:List d) (k:w.ownsRow base e size v n xs)
 (lo y:Nat) (A:Option B) (m c:Nat) (news:List d) (p:news.length=m*size) (hr:SV w lo y A news) (C:∀f∈news,f.oneCell'=true)
 (G:n+m<=maxLen) (J:(n+m)*bytes<=140737488355328) (H:base<=w.heap.size):
 ∃g w',(Builtin.append_ #[t,t] l #[v,.slice A m c]).run P w= .ok g w'/\w'.ownsRow base e size g (n+m) (xs++news)/\w.grownBy w' v.ownBlock/\
  (g.ownBlock=v.ownBlock\/g.ownBlock=some w.heap.size):=by
 rcases A with _|o
 ·have q:news=[]:=by
   rcases Classical.em (news=[]) with a|a
   ·exact a
   ·obtain⟨b,off,h,_⟩:=hr a;cases h
  have L:m=0:=by
   subst q;rcases Nat.eq_zero_or_pos m with a|a
   ·exact a
   ·have:=Nat.mul_pos a r;simp at p;omega
  subst L;subst q;exact⟨v,w,zz1396 w base t l e i size s hi v n xs k c,by simpa using k,World.grownBy.refl w _,.inl rfl⟩
 ·have K:∀j f,news[j]? =some f->w.cell? (o.add j)=some f:=(by intro j f x;have M:news≠[]:=(by rintro rfl;simp at x);obtain⟨S,h,hc⟩:=hr.news M;injection h with h;subst h;exact hc j f x);obtain⟨g,w',N,D,E,_,F⟩:=run_append_own_at (P:=P) w base t l e i z size bytes s hi Q O I R r v n xs k o m c news p K C G J H;exact⟨g,w',N,D,E,F⟩
theorem yof {o:E} {a:Act} {f:Act->q->Prop} {Q:Exit->Act->q->Prop} (s x:Operand) (t:u)
 (G:o.op= .call {callee:= .builtin .append,args:= #[s,x],argTypes:= #[t,t]})
 (base:Nat) (e:u) (i:TypeInfo) (z:d) (size bytes:Nat) (M:P.underlying t=some (.slice e)) (hi:P.info? e=some i) (O:i.zero=some z)
 (K:i.size=size) (C:i.bytes=bytes) (R:z.cells.size=size) (L:0<size)
 (v:d) (n:Nat) (xs:List d) (J:a.eval s=v) (H:w.ownsRow base e size v n xs)
 (lo y:Nat) (A:Option B) (m c:Nat) (news:List d) (N:a.eval x= .slice A m c) (F:news.length=m*size) (hr:SV w lo y A news) (g:∀S∈news,S.oneCell'=true)
 (p:n+m<=maxLen) (D:(n+m)*bytes<=140737488355328) (r:base<=w.heap.size)
 (h:∀b w',w'.ownsRow base e size b (n+m) (xs++news)->w.grownBy w' v.ownBlock->(b.ownBlock=v.ownBlock\/b.ownBlock=some w.heap.size)->f (a.put o.dst b) w'):o.wp P a w f Q:=by
 obtain⟨b,w',I,j,k,l⟩:=zz1395 (P:=P) w base t o.type e i z size bytes M hi O K C R L v n xs H lo y A m c news F hr g p D r
 unfold Oper.wp execOp
 simp only[G,resolve,invoke,builtin,Sem.run_bind,Sem.run_pure,Result.andThen_ok,List.map_toArray,List.map_cons,List.map_nil,J,N,I]
 exact h b w' j k l
theorem zz1472 {ops:Array E} {rest:List E} {o:E} {a:Act} {Q:Exit->Act->q->Prop} (F:o.guard=none) (s x:Operand) (t:u)
 (I:o.op= .call {callee:= .builtin .append,args:= #[s,x],argTypes:= #[t,t]})
 (base:Nat) (e:u) (i:TypeInfo) (z:d) (bytes:Nat) (L:P.underlying t=some (.slice e)) (hi:P.info? e=some i) (N:i.zero=some z)
 (K:i.size=1) (C:i.bytes=bytes) (O:z.cells.size=1)
 (v:d) (xs:List d) (J:a.eval s=v) (j:Own w base e v xs)
 (lo y:Nat) (A:Option B) (m c:Nat) (news:List d) (M:a.eval x= .slice A m c) (H:news.length=m) (hr:SV w lo y A news) (l:∀R∈news,R.oneCell'=true)
 (p:xs.length+m<=maxLen) (D:(xs.length+m)*bytes<=140737488355328) (g:base<=w.heap.size)
 (h:∀b w',Own w' base e b (xs++news)->Below base w w'->w.heap.size<=w'.heap.size->wpList P ops Q rest (a.put o.dst b) w'):wpList P ops Q (o::rest) a w:=
 wpList_plain F fun _ r=>yof w s x t I base e i z 1 bytes L hi N K C O og v xs.length xs J j lo y A m c news M og hr l p D g fun b w' n f _=>
  r _ _ (h b w' (by unfold Own;rw[List.length_append,H];exact n)
   ((Below.refl _ _).grown f g (fun k G=>(World.ownsRow.lt j k G).1)) f.size)
end
theorem zz1430 (w:q) (a:d) (t:u):SV (w.alloc (.cells #[a] t)) w.heap.size (w.heap.size+1) (some ⟨w.heap.size,0,none⟩) [a]:=fun _=>
 ⟨w.heap.size,0,rfl,D _,J _,fun j v hv=>by
   have:=cell_one_new w a t j v hv
   rw[Addr.add_lit] at this
   exact this⟩
theorem Own.alloc {w:q} {base:Nat} {e:u} {v:d} {xs:List d} (h:Own w base e v xs) (o:Obj):Own (w.alloc o) base e v xs:=World.ownsRow.alloc h o
structure ElT (P:G) (t e:u) (z:d) (bytes:Nat):Prop where
 und:P.underlying t=some (.slice e)
 info:∃i,P.info? e=some i/\i.zero=some z/\i.size=1/\i.bytes=bytes
 zc:z.cells.size=1
section
variable {P : G} {w : q} {ops : Array E} {rest : List E} {o : E} {a : Act} {Q : Exit → Act → q → Prop} {t e : u} {z : d} {bytes base : Nat}
theorem yej (b:ElT P t e z bytes) (n:o.guard=none) (s x:Operand) (q:o.op= .call {callee:= .builtin .append,args:= #[s,x],argTypes:= #[t,t]})
 {v:d} {xs:List d} (u:a.eval s=v) (r:Own w base e v xs) {lo hi:Nat} {A:Option B} {c:Nat} {news:List d} (C:a.eval x= .slice A m c) (p:news.length=m) (hr:SV w lo hi A news)
 (g:∀E∈news,E.oneCell'=true) (j:(xs.length+m)*(bytes+1)<=140737488355328) (k:base<=w.heap.size)
 (h:∀f w',Own w' base e f (xs++news)->Below base w w'->w.heap.size<=w'.heap.size->wpList P ops Q rest (a.put o.dst f) w'):wpList P ops Q (o::rest) a w:=by
 obtain⟨i,hi,D,y,l⟩:=b.info
 rw[Nat.mul_add,Nat.mul_one] at j
 exact zz1472 w n s x t q base e i z bytes b.und hi D y l b.zc v xs u r lo _ A m c news C p hr g (by unfold maxLen;omega) og k h
theorem zlk (i:ElT P t e z bytes) (q:o.guard=none) (s x:Operand) (r:o.op= .call {callee:= .builtin .append,args:= #[s,x],argTypes:= #[t,t]})
 {v:d} {xs:List d} {b:d} {g:u} (B:a.eval s=v) (A:Own w base e v xs) (C:a.eval x= .slice (some ⟨w.heap.size,0,none⟩) 1 1)
 (m:b.oneCell'=true) (n:(xs.length+1)*(bytes+1)<=140737488355328) (p:base<=w.heap.size)
 (h:∀c w',Own w' base e c (xs++[b])->Below base w w'->w.heap.size<=w'.heap.size->wpList P ops Q rest (a.put o.dst c) w'):wpList P ops Q (o::rest) a (w.alloc (.cells #[b] g)):=by
 refine yej i q s x r B (A.alloc _) C rfl (zz1430 w b g) (by intro y f;simp at f;subst f;exact m) n (by simp;omega) fun c w' j k l=>h c w' j ?_ ?_
 ·exact((Below.refl base w).alloc p _).trans k
 ·simp at l;omega
theorem ztq {k:IntKind} (b:ElT P t e (.int k 0) bytes) (hg:o.guard=none) (l c:Operand) (y:o.op=Op.makeSlice t l c) {h d:IntKind} {L C:Int} (n:Nat)
 (x:a.eval l= .int h L) (hc:a.eval c= .int d C) (s:L=(n:Int)) (q:C=(n:Int)) (u:n*(bytes+1)<=140737488355328)
 (r:∀g w',f (g=w.heap.size)->Row w' g e (C8 k (List.replicate n 0))->Below g w w'->f (w'.heap.size=g+1)->wpList P ops Q rest (a.put o.dst (.slice (some ⟨g,0,none⟩) n n)) w'):
 wpList P ops Q (o::rest) a w:=by obtain⟨i,hi,A,z,v⟩:=b.info;rw[Nat.mul_add,Nat.mul_one] at u;exact zz1473 w hg l c t y e i k b.und hi A z h d L C n x hc s q (by rw[v,Nat.mul_comm];omega) (by unfold maxLen;omega) (fun w' j m p=>r _ w' rfl j m p)
theorem yoh (b:ElT P t e z bytes) (hg:o.guard=none) (l c:Operand) (s:o.op=Op.makeSlice t l c) {g f:IntKind} {C:Int} (n:Nat)
 (r:a.eval l= .int g 0) (hc:a.eval c= .int f C) (j:C=(n:Int)) (m:n*(bytes+1)<=140737488355328) (p:base<=w.heap.size)
 (k:∀v w',Own w' base e v []->Below w.heap.size w w'->w.heap.size<=w'.heap.size->wpList P ops Q rest (a.put o.dst v) w'):
 wpList P ops Q (o::rest) a w:=by
 obtain⟨i,hi,x,u,q⟩:=b.info;rw[Nat.mul_add,Nat.mul_one] at m
 exact wpList_make_own w hg l c t s base e i z 1 b.und hi x u g f C n r hc j (by rw[q,Nat.mul_comm];omega) (by unfold maxLen;omega) p
  fun w' h d=>k _ w' h ((Below.refl _ _).grown d (D _) (by simp)) d.size
end
theorem ybp (k:IntKind) (w:q) (t:u) (l:List Nat) (h:l.length<=maxLen):
 IsL k (w.alloc (.cells (C8 k l).toArray t)) w.heap.size (w.heap.size+1) (.slice (some ⟨w.heap.size,0,none⟩) l.length l.length) l:=
 ⟨_,_,rfl,D _,h,Row.sv (heap_alloc_new w _)⟩
def Dr (w w':q):Prop:=∃n,w'=w.drewN n
theorem Dr.refl (w:q):Dr w w:=⟨0,rfl⟩
theorem Dr.drewN {w w':q} (h:Dr w w') (n:Nat):Dr w (w'.drewN n):=by obtain⟨m,rfl⟩:=h;exact⟨m+n,World.drewN_drewN w m n⟩
theorem Dr.drew {w w':q} (h:Dr w w'):Dr w w'.drew:=h.drewN 1
theorem Dr.below {w w':q} (h:Dr w w') (B:Nat):Below B w w':=by obtain⟨m,rfl⟩:=h;exact below_drewN (Below.refl _ _) m
theorem Dr.size {w w':q} (h:Dr w w'):w'.heap.size=w.heap.size:=by obtain⟨m,rfl⟩:=h;rfl
structure Only (g:Nat) (w w':q):Prop where
 os:w'.os=w.os
 tape:w'.tape=w.tape
 output:w'.output=w.output
 size:w'.heap.size=w.heap.size
 block:∀k,k≠g->w'.heap[k]? =w.heap[k]?
theorem Only.refl (g:Nat) (w:q):Only g w w:=⟨rfl,rfl,rfl,rfl,fun _ _=>rfl⟩
theorem Only.trans {g:Nat} {a b c:q} (h:Only g a b) (k:Only g b c):Only g a c:=
 ⟨k.os.trans h.os,k.tape.trans h.tape,k.output.trans h.output,k.size.trans h.size,fun i hi=>(k.block i hi).trans (h.block i hi)⟩
theorem Only.drewN {g:Nat} {a b:q} (h:Only g a b) (n:Nat):Only g a (b.drewN n):=h.trans ⟨rfl,rfl,rfl,rfl,fun _ _=>rfl⟩
theorem Only.setCell {g:Nat} {a b:q} (h:Only g a b) (i:Nat) (e:d):Only g a (b.setCell ⟨g,i,none⟩ e):=
 h.trans ⟨rfl,rfl,rfl,by simp[World.setCell],fun k c=>Below.heap_setCell _ _ _ _ c⟩
theorem Only.below {g B:Nat} {a b:q} (h:Only g a b) (c:B<=g):Below B a b:=⟨h.os,h.tape,h.output,Nat.le_of_eq h.size.symm,fun k d=>h.block k og⟩
theorem SV.only {w w':q} {lo hi g:Nat} {A:Option B} {xs:List d} (h:SV w lo hi A xs) (a:Only g w w') (hg:g<lo\/hi<=g):SV w' lo hi A xs:=
 h.keep fun p b c=>World.cell?_of_block (a.block p.block og)
theorem Row.only {w w':q} {g a:Nat} {t:u} {xs:List d} (h:Row w g t xs) (b:Only a w w') (hg:g≠a):Row w' g t xs:=(b.block g hg).trans h
theorem zrp {k:IntKind} {a b:Int} (h:a=b):Value.int k a=Value.int k b:=by rw[h]
theorem J0 {k:IntKind} {a b:Int} (h:a=b):Ending.returned (.int k a)= .returned (.int k b):=by rw[h]
theorem zsb {a b:Bool} (h:a=b):Ending.returned (.bool a)= .returned (.bool b):=by rw[h]
def X6 (x y:Nat):Int:=if x<y then -1 else if x=y then 0 else 1
theorem zqz {x y:Nat} (h:x<y):X6 x y= -1:=by simp[X6,h]
theorem zzn {x y:Nat} (h:x=y):X6 x y=0:=by simp[X6,h]
theorem ztm {x y:Nat} (h:y<x):X6 x y=1:=by unfold X6;rw[if_neg og,if_neg og]
theorem zyq {x y:Nat} (h:(A9 x).length<(A9 y).length):x<y:=by
 rcases I x y with a|a
 ·exact a
 ·have:=W9 a;omega
theorem zzw {a:List Nat} {k:Nat} (ha:Lo a) (g:Lo b) (i:a.length=b.length) (f:k<a.length) (hd:a.drop (k+1)=b.drop (k+1)) (h:a.getD k 0<b.getD k 0):val a<val b:=by rw[zqm a k og,zqm b k og,zsj f,zsj (l:=b) (k:=k) og,hd];have c:=zmf (zmy ha k);rw[List.length_take,Nat.min_eq_left og] at c;have d:a.getD k 0+1000000000*val (b.drop (k+1))+1<=b.getD k 0+1000000000*val (b.drop (k+1)):=og;have e:=Nat.mul_le_mul_left (pw k) d;rw[Nat.mul_add (pw k) _ 1,Nat.mul_one] at e;omega
theorem ygv {a:List Nat} {k:Nat} (d:a.length=b.length) (c:k<a.length) (hd:a.drop (k+1)=b.drop (k+1)) (h:a.getD k 0=b.getD k 0):a.drop k=b.drop k:=by rw[List.drop_eq_getElem_cons c,List.drop_eq_getElem_cons (l:=b) (i:=k) og,hd];rw[s,s,C c,C (l:=b) (i:=k) og] at h;simp only[Option.getD_some] at h;rw[h]
theorem zz1435 {l:List Nat} {k x:Nat} (h:k<l.length):(l.set k x).take (k+1)=l.take k++[x]:=by rw[List.take_succ_eq_append_getElem (by simpa using h)];rw[List.take_set_of_le (D k)];simp
theorem zuy {l:List Nat} {k x:Nat} (h:k<l.length):val ((l.set k x).take (k+1))=val (l.take k)+pw k*x:=by rw[zz1435 h,zny,List.length_take,Nat.min_eq_left (Nat.le_of_lt h)];simp[val]
theorem val_take_succ' (l:List Nat) (k:Nat):val (l.take (k+1))=val (l.take k)+pw k*l.getD k 0:=by
 by_cases h:k<l.length
 ·exact yeh h
 ·rw[H og,H og,s,List.getElem?_eq_none og];simp
theorem zki {l:List Nat} {k:Nat} (h:l.length<=k):val (l.take k)=val l:=by rw[H h]
theorem zmj {l:List Nat} {k:Nat} (h:l.length<=k):l.getD k 0=0:=by rw[s,List.getElem?_eq_none h];rfl
theorem ynv (l:List Nat):val (l.take 0)=0:=by simp[val]
theorem zzs {a:List Nat} {k:Nat} {x y:Int} (c:k<L.length) (f:x=(a.getD k 0:Nat)) (g:y=(b.getD k 0:Nat)) (hr:r=x-y-bw+1000000000*bw') (d:0<=r)
 (h:(val (L.take k):Int)=val (a.take k)-val (b.take k)+bw*pw k):
 (val ((L.set k r.toNat).take (k+1)):Int)=val (a.take (k+1))-val (b.take (k+1))+bw'*pw (k+1):=by rw[zuy c,val_take_succ' a,val_take_succ' b,zkg];have e:((r.toNat:Nat):Int)=r:=Int.toNat_of_nonneg d;simp only[Int.natCast_add,Int.natCast_mul,e,h,<-f,<-g];rw[hr];grind
theorem ymx {a:List Nat} (d:L.length=n) (ha:a.length=n) (f:b.length<=n) (e:Lo L) (g:bw=0\/bw=1) (i:val b<=val a)
 (h:(val (L.take n):Int)=val (a.take n)-val (b.take n)+bw*pw n):val L=val a-val b:=by rw[zki og,zki og,zki f] at h;have c:=zmf e;rw[d] at c;rcases g with rfl|rfl<;>omega
theorem yeg {l:List Nat} {k x:Nat} (h:k<l.length):val (l.set k x)+pw k*l.getD k 0=val l+pw k*x:=by have a:=zqm (l.set k x) (k+1) (by simp;omega);have b:=zqm l (k+1) h;rw[zuy h,List.drop_set_of_lt og] at a;rw[yeh h] at b;omega
theorem zpq {x y:Int} (c:0<=x) (b:x<=999999999) (a:0<=y) (d:y<=999999999):0<=x*y/\x*y<=999999998000000001:=by refine⟨Int.mul_nonneg c a,?_⟩;have e:=Int.mul_le_mul b d a (by omega:(0:Int)<=999999999);omega
theorem yxf {b d P Q x y z t a:Int} (e:t=x*y+z+c) (hr:r=t-c'*1000000000) (f:d+P*Q*z=V+P*Q*r) (h:V+c*(P*Q)=b+x*P*a):
 d+c'*(1000000000*(P*Q))=b+x*P*(a+Q*y):=by subst e;subst hr;grind
theorem yjl {x y z t:Int} (g:i+j<L.length) (m:y=(b.getD j 0:Nat)) (o:z=(L.getD (i+j) 0:Nat)) (l:t=x*y+z+c) (hr:r=t-c'*1000000000) (k:0<=r)
 (h:(val L:Int)+c*pw (i+j)=val F+x*pw i*val (b.take j)):
 (val (L.set (i+j) r.toNat):Int)+c'*pw (i+(j+1))=val F+x*pw i*val (b.take (j+1)):=by have e:=yeg (x:=r.toNat) g;have a:(val (L.set (i+j) r.toNat):Int)+pw (i+j)*z=val L+pw (i+j)*r:=(by have f:((r.toNat:Nat):Int)=r:=Int.toNat_of_nonneg k;rw[o];have:=congrArg (fun n:Nat=>(n:Int)) e;simp only[Int.natCast_add,Int.natCast_mul,f] at this;exact this);rw[val_take_succ' b,<-Nat.add_assoc,zkg];have d:(pw (i+j):Int)=pw i*pw j:=(by rw[zwh];simp);rw[d] at a h;simp only[Int.natCast_add,Int.natCast_mul,<-m,d];exact yxf l hr a h
theorem yjk {a:List Nat} {x:Int} (o:b.length=m) (l:i+m<L.length) (p:x=(a.getD i 0:Nat)) (q:L.getD (i+m) 0=0) (k:0<=c)
 (g:val F=val (a.take i)*val b) (h:(val L:Int)+c*pw (i+m)=val F+x*pw i*val (b.take m)):
 val (L.set (i+m) c.toNat)=val (a.take (i+1))*val b:=by have e:=yeg (x:=c.toNat) l;rw[q,Nat.mul_zero,Nat.add_zero] at e;rw[zki (Nat.le_of_eq o)] at h;rw[val_take_succ' a];have j:((c.toNat:Nat):Int)=c:=Int.toNat_of_nonneg k;have d:=congrArg (fun n:Nat=>(n:Int)) e;have f:=congrArg (fun n:Nat=>(n:Int)) g;simp only[Int.natCast_add,Int.natCast_mul,j] at d f;apply Int.ofNat_inj.1;simp only[Int.natCast_add,Int.natCast_mul,<-p];grind
theorem ygu {l:List Nat} {k x:Nat} (h:k<l.length):val ((l.set k x).drop k)=x+1000000000*val (l.drop (k+1)):=by rw[zsj (by simpa using h),getD_set_eq' h,List.drop_set_of_lt og]
where
 getD_set_eq' {l:List Nat} {i x:Nat} (h:i<l.length):(l.set i x).getD i 0=x:=by simp[s,h]
theorem ymk {x b:Int} (c:0<=r) (d:r<=b-1) (e:0<=x) (f:x<=999999999):
 0<=(r*1000000000+x)/b/\(r*1000000000+x)/b<=999999999/\0<=(r*1000000000+x)%b/\(r*1000000000+x)%b<=b-1:=by
 have a:0<b:=og;refine⟨Int.ediv_nonneg og og,?_,Int.emod_nonneg _ og,?_⟩
 ·have:=Int.ediv_lt_of_lt_mul (a:=r*1000000000+x) (b:=1000000000) a og;omega
 ·have:=Int.emod_lt_of_pos (r*1000000000+x) a;omega
theorem ymn {a:List Nat} {k:Nat} {x b:Int} (c:k<a.length) (i:L.length=a.length) (g:x=(a.getD k 0:Nat)) (f:0<=(r*1000000000+x)/b)
 (h:(val (a.drop (k+1)):Int)=val (L.drop (k+1))*b+r):
 (val (a.drop k):Int)=val ((L.set k ((r*1000000000+x)/b).toNat).drop k)*b+(r*1000000000+x)%b:=by rw[zsj c,ygu og];have e:((((r*1000000000+x)/b).toNat:Nat):Int)=(r*1000000000+x)/b:=Int.toNat_of_nonneg f;have d:=Int.mul_ediv_add_emod (r*1000000000+x) b;simp only[Int.natCast_add,Int.natCast_mul,e,h,<-g];generalize (r*1000000000+x)/b=q at*;generalize (r*1000000000+x)%b=m at*;grind
theorem yml {a:List Nat} {b:Int} (d:0<b) (g:0<=r) (i:r<=b-1) (h:(val (a.drop 0):Int)=val (L.drop 0)*b+r):val L=val a/b.toNat/\r.toNat=val a%b.toNat:=by
 simp only[List.drop_zero] at h;obtain⟨n,rfl⟩:=Int.eq_ofNat_of_zero_le (Int.le_of_lt d);obtain⟨m,rfl⟩:=Int.eq_ofNat_of_zero_le g;simp only[Int.toNat_natCast];have e:val a=val L*n+m:=(by apply Int.ofNat_inj.1;rw[h];simp);have f:0<n:=og;have c:m<n:=og;rw[e];constructor
 ·rw[Nat.mul_comm,Nat.mul_add_div f,Nat.div_eq_of_lt c,Nat.add_zero]
 ·rw[Nat.mul_comm,Nat.mul_add_mod,Nat.mod_eq_of_lt c]
theorem ynl {a:List Nat} {k:Nat} {x y:Int} (b:k<L.length) (f:y=(a.getD k 0:Nat)) (hr:r=c+y*x-c'*1000000000) (d:0<=r)
 (h:(val (L.take k):Int)+c*pw k=val (a.take k)*x):(val ((L.set k r.toNat).take (k+1)):Int)+c'*pw (k+1)=val (a.take (k+1))*x:=by rw[zuy b,val_take_succ' a,zkg];have e:((r.toNat:Nat):Int)=r:=Int.toNat_of_nonneg d;simp only[Int.natCast_add,Int.natCast_mul,e,<-f];subst hr;generalize (val (L.take k):Int)=V at*;generalize (val (a.take k):Int)=g at*;generalize (pw k:Int)=P at*;grind
theorem zug {l:List Nat} (h:Lo l) (c:l=[]\/pw (l.length-1)<=val l):A9 (val l)=l:=by
 rcases c with rfl|c
 ·rw[zpy,N6]
 ·apply ycb h;rcases Nat.eq_zero_or_pos l.length with a|a
  ·rw[List.eq_nil_of_length_eq_zero a];decide
  ·intro b;rw[List.getLastD_eq_getLast?,List.getLast?_eq_getElem?,C og] at b;have e:l.getD (l.length-1) 0=0:=(by rw[s,C og];exact b);have d:=val_take_succ' l (l.length-1);rw[show l.length-1+1=l.length from by omega,List.take_length,e,Nat.mul_zero,Nat.add_zero] at d;have f:=zmf (zmy h (l.length-1));rw[List.length_take,Nat.min_eq_left og] at f;omega
theorem yzm {A B P x y:Int} (h:V+c*P=A+B) (hr:r=c+x+y-c'*1000000000):V+P*r+c'*(1000000000*P)=A+P*x+(B+P*y):=by subst hr;grind
theorem zpf {a:List Nat} {k:Nat} {x y:Int} (f:L.length=k) (i:x=(a.getD k 0:Nat)) (j:y=(b.getD k 0:Nat)) (hr:r=c+x+y-c'*1000000000) (g:0<=r)
 (h:(val L:Int)+c*pw k=val (a.take k)+val (b.take k)):(val (L++[r.toNat]):Int)+c'*pw (k+1)=val (a.take (k+1))+val (b.take (k+1)):=by have e:=yzm (x:=x) (y:=y) (c':=c') h hr;rw[zny,val_take_succ' a,val_take_succ' b,f,zsi,zpy,Nat.mul_zero,Nat.add_zero,zkg];have d:((r.toNat:Nat):Int)=r:=Int.toNat_of_nonneg g;simp only[Int.natCast_add,Int.natCast_mul,d,<-i,<-j];exact e
theorem zma {r:Nat} (h:Lo L) (hr:r<1000000000):Lo (L++[r]):=lo_append.2 ⟨h,by intro x a;simp at a;omega⟩
theorem zzc {x k:Nat} (h:k<(A9 x).length):pw k<=x:=lim_len_lt.1 h
theorem ywy {A B P x y:Int} (h:V=A-B+bw*P) (hr:r=x-y-bw+1000000000*bw'):V+P*r=A+P*x-(B+P*y)+bw'*(1000000000*P):=by subst hr;subst h;grind
theorem zys {a:List Nat} {k:Nat} {x y:Int} (d:L.length=k) (g:x=(a.getD k 0:Nat)) (i:y=(b.getD k 0:Nat)) (hr:r=x-y-bw+1000000000*bw') (f:0<=r)
 (h:(val L:Int)=val (a.take k)-val (b.take k)+bw*pw k):(val (L++[r.toNat]):Int)=val (a.take (k+1))-val (b.take (k+1))+bw'*pw (k+1):=by have e:=ywy (x:=x) (y:=y) (bw':=bw') h hr;rw[zny,val_take_succ' a,val_take_succ' b,d,zsi,zpy,Nat.mul_zero,Nat.add_zero,zkg];have c:((r.toNat:Nat):Int)=r:=Int.toNat_of_nonneg f;simp only[Int.natCast_add,Int.natCast_mul,c,<-g,<-i];exact e
theorem yea {x y k:Nat} (a:(A9 x).length<=k) (b:(A9 y).length<=k):(A9 (x+y)).length<=k+1:=by have:=ywj x y;omega
theorem znk {x y k l:Nat} (a:(A9 x).length<=k) (b:(A9 y).length<=l):(A9 (x*y)).length<=k+l:=by have:=zyp x y;omega
end Go.Proofs.YtlhhbccgfkhflaaGreatDoor
