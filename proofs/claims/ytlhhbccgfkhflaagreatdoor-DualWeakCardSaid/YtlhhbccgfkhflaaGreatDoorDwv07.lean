/-
 Contracts of the verifier's kit:Gcd,a,b.
-/
import Derived.Test.YtlhhbccgfkhflaaGreatDoorDwv06
namespace Go.Proofs.YtlhhbccgfkhflaaGreatDoor
open Go.RowKit
set_option linter.unusedVariables false
set_option maxRecDepth 100000
set_option maxHeartbeats 8000000
open _root_.Go.Lib renaming hid → o
open _root_.Nat renaming le_refl → p, le_trans → H, lt_or_ge → B, zero_le → G
open _root_.List renaming getD_eq_getElem?_getD → A, getElem?_eq_getElem → I, length_map → F, getElem?_map → C
open _root_.Go.RowKit.Below renaming refl → d
open _root_.Go renaming World → t, Calls → D
open _root_.Go.RowKit renaming Hid → i
open _root_.Go.Proofs.Tryz renaming prog → E
variable {S : Nat → Prop} {b c g j k n : Nat} {f : Nat → Rat} {l : List Raw} {m : List (List Raw)} {qs : List Rat} {r : Raw} {v va e : Value}
theorem zz1448 (m n:Nat):Int.tmod (m:Int) (n:Int)=((m%n:Nat):Int):=rfl
theorem yhp {w:t} {a:Nat} (ha:a<=4611686018427387904) (j:b<=4611686018427387904):
 D E 111 #[.int .i64 (a:Int),.int .i64 (b:Int)] w fun h w'=>h= .returned (.int .i64 ((Nat.gcd a b:Nat):Int))/\Dr w w':=by
 go_in;go_wp2_with fail;go_loopw [0,1] (fun x y wr=>∃m n:Nat,x= .int .i64 (m:Int)/\y= .int .i64 (n:Int)/\i (Nat.gcd m n=Nat.gcd a b)/\m<=4611686018427387904/\n<=4611686018427387904/\Dr w wr) (fun _ y _=>(intOf y).toNat);case atStart=>exact⟨a,b,rfl,rfl,rfl,ha,j,Dr.refl _⟩
 case round=>
  obtain⟨m,n,rfl,rfl,e,p,l,⟨k,rfl⟩⟩:=hrel;rcases Nat.eq_zero_or_pos n with c|c
  ·have f:i (m=Nat.gcd a b):=(by rw[i,<-e.out,c,Nat.gcd_zero_right]);have g:((n:Int) !=0)=false:=(by rw[c];rfl);have q:max (m:Int) (-(m:Int))=(m:Int):=og;subst c;go_wp2_with fail;go_ret;exact⟨by show Ending.returned (.int .i64 _)=_;rw[<-f.out],⟨k,rfl⟩⟩
  ·have g:((n:Int) !=0)=true:=bne_iff_ne.2 og;have b2:(n:Int)≠0:=og;have r:=zz1448 m n;have o:m%n<n:=Nat.mod_lt _ c;go_wp2_with fail;go_quiet (fail);go_wp2_with fail;have d:(m:Int)%(n:Int)=((m%n:Nat):Int):=rfl;go_roundw;(case rel=>exact⟨n,m%n,rfl,by rw[d],by rw[i,Nat.gcd_comm,<-Nat.gcd_rec,Nat.gcd_comm];exact e.out,l,by omega,⟨k+nq,by simp[World.drewN,Nat.add_assoc]⟩⟩);case measure=>rw[d];simp[intOf];omega
theorem ywc (h:n≠0):A8 n=(n%1000000000)::A8 (n/1000000000):=zpf h
theorem zyt {w:t} (u:n<=4611686018427387904):
 D E 112 #[.int .i64 (n:Int)] w fun p w'=>(∃v,p= .returned v/\IsN w' w.heap.size w'.heap.size v n)/\Below w.heap.size w w':=by
 have k:i ((A8 n).length<=3):=lim_len_le.2 (by have:pw 3=1000000000000000000000000000:=rfl;omega);go_in;go_wp2_with fail;go_loopw [0,3] (fun x v wr=>∃(m:Nat) (l:List Nat),x= .int .i64 (m:Int)/\m<=4611686018427387904/\Own wr w.heap.size 140 v (F6 .u32 l)/\Below w.heap.size w wr/\i (A8 n=l++A8 m)) (fun x _ _=>(intOf x).toNat);case atStart=>exact⟨n,[],rfl,u,Own.nil _ _ _,d _ _,rfl⟩
 case round=>
  obtain⟨m,l,rfl,C,g,a,c⟩:=hrel;rcases Nat.eq_zero_or_pos m with b|b
  ·have j:i (A8 n=l):=(by rw[i,c.out,b,T6,List.append_nil]);have o:¬((m:Int)>0):=og;subst b;have A:=a;go_wp2_with fail;go_ret;refine⟨⟨_,rfl,?_⟩,a⟩;have f:=g.isL;rw[<-j.out] at f;exact f
  ·have o:(m:Int)>0:=og;have z:Int.tmod (m:Int) 1000000000=((m%1000000000:Nat):Int):=rfl;have y:Int.tdiv (m:Int) 1000000000=((m/1000000000:Nat):Int):=rfl;have B:m%1000000000<1000000000:=Nat.mod_lt _ og;have s:i ((F6 .u32 l).length<=100):=(by rw[i,zsg];have:=congrArg List.length c.out;rw[List.length_append] at this;have:=k.out;omega);have q:w.heap.size<=wr.heap.size:=a.size;go_wp2_with (at_builtin;refine zpm zky rfl _ _ rfl rfl g rfl rfl (oh s) q ?_;intro G H h r F);have e:(m:Int)/1000000000=((m/1000000000:Nat):Int):=rfl;rw[zpa .u32 l (m%1000000000) _ og] at h;go_roundw;(case rel=>exact⟨m/1000000000,l++[m%1000000000],by rw[e],by omega,h,a.trans r,by rw[i,c.out,ywc og];simp⟩);case measure=>rw[e];simp[intOf];omega
def W9 (a:Int) (b:Nat):Rat:=mkRat a b
theorem zva {a:Int} (ha:a.natAbs<=4611686018427387904) (e:b<=4611686018427387904) (c:b≠0):Sz (W9 a b) 3:=by have d:pw 3=1000000000000000000000000000:=rfl;exact yed c (lim_len_le.2 og) (lim_len_le.2 og)
theorem ylc {neg:Bool} {d:Nat} (hd:d≠0) (a:g=Nat.gcd n d) (b:n=0->neg=false):E0 (W9 (sg neg n) d)=⟨neg,A8 (n/g),A8 (d/g)⟩:=by
 unfold W9;subst a;rcases Nat.eq_zero_or_pos n with h|h
 ·subst h;rw[zzs,Rat.zero_mkRat,yds,Nat.zero_div,Nat.gcd_zero_left,Nat.div_self og,T6,zlg,b rfl]
 ·exact zzm og hd
theorem zws {w:t} {a:Int} (ha:a.natAbs<=4611686018427387904) (P:b<=4611686018427387904) (v:b≠0):
 D E 48 #[.int .i64 a,.int .i64 (b:Int)] w (K8 w (W9 a b)):=by
 obtain⟨n,T⟩:=nm (a.natAbs);obtain⟨g,k⟩:=nm (Nat.gcd n b);have ae:0<g:=(by rw[k];exact Nat.gcd_pos_of_pos_right _ og);have aB:n/g<=n:=Nat.div_le_self _ _;have S:b/g<=b:=Nat.div_le_self _ _;obtain⟨M,av⟩:=C7 k v;obtain⟨W,U,Q,V,N⟩:=J9 w #[.bool false,.slice none 0 0,.slice none 0 0] 30;obtain⟨O,L⟩:=C7 V Q;clear V Q;rcases(by omega:a<0\/0<=a) with aj|aC
 ·have ea:a= -(n:Int):=og;have ai:0<n:=og;have R:g∣n:=(by rw[k];exact Nat.gcd_dvd_left _ _);have ak:0<n/g:=Nat.div_pos (Nat.le_of_dvd ai R) ae;have y:i (E0 (W9 a b)=⟨true,A8 (n/g),A8 (b/g)⟩):=(by rw[i,ea];exact ylc (neg:=true) v k (fun h=>by omega));rw[ea] at y⊢;have ah:max (-(n:Int)) (n:Int)=(n:Int):=og;have az:Int.tdiv (-(n:Int)) (g:Int)= -((n/g:Nat):Int):=(by rw[Int.neg_tdiv];rfl);have aA: -((n/g:Nat):Int)<0:=(by have:(0:Int)<((n/g:Nat):Int):=Int.natCast_pos.2 ak;exact Int.neg_neg_of_pos this);have b2:(g:Int)≠0:=og;have I:wrap64 ((b:Int)/(g:Int))=((b/g:Nat):Int):=(by rw[show(b:Int)/(g:Int)=((b/g:Nat):Int) from rfl];(generalize b/g=q at S⊢;unfold wrap64;omega));have K:n<=4611686018427387904:=og;clear k v T ha ea aj R;go_in;go_wp2_with fail;clear U;refine(yhp (a:=n) (b:=b) K P).mono ?_;rw[<-M.out];rintro u e ⟨rfl,hd⟩;have c:=hd.below W.heap.size;have r:=nB L c;have B:=o c.size;have C:=o (O.out.next c);clear hd c;go_wp2_with fail;go_quiet (fail);go_wp2_with fail;rw[show(n:Int)/(g:Int)=((n/g:Nat):Int) from rfl];refine(zyt (n:=n/g) og).mono ?_;rintro u ar ⟨⟨ao,rfl,l⟩,x⟩;have j:=C8 (Dr.below (⟨nq,rfl⟩:Dr e (e.drewN nq)) e.heap.size) x;have z:=nB r j;obtain⟨s,F⟩:=C7 (C.out.next j) (IsK.stb.le (zpx l) (m:=w.heap.size+1) (by have J:=N.out;have af:=r.out.size;have ag:=B.out;show _<=e.heap.size;omega));obtain⟨X,al,rfl,_,_,_⟩:=id l;clear l x j;go_wp2_with fail;(try rw[I])
  refine(zyt (n:=b/g) og).mono ?_;rintro u au ⟨⟨aq,rfl,m⟩,d⟩;have A:=nB z d;obtain⟨f,H,G⟩:=F0 (s.out.next d) (IsK.stb.le (zpx m) (m:=w.heap.size+1) (by have J:=s.out.lt;omega)) (IsK.stb.fresh F.out d);obtain⟨Y,an,rfl,_,_,_⟩:=id m;obtain⟨d0,Z,aa⟩:=C0 f.out;obtain⟨ab,ac,ad⟩:=E9 f.out;clear m d;go_wp2_with fail;exact U5 Tryz.results48 rfl rfl (Row.put3 f.out _ _ _) (znq y.out A.out (p _) G.out H.out og og)
 ·have ea:a=(n:Int):=og;have y:i (E0 (W9 a b)=⟨false,A8 (n/g),A8 (b/g)⟩):=(by rw[i,ea];exact ylc (neg:=false) v k (fun _=>rfl));subst ea;have ah:max (n:Int) (-(n:Int))=(n:Int):=og;have ay:¬((n/g:Nat):Int)<0:=Int.not_lt.2 (Int.natCast_nonneg _);have b2:(g:Int)≠0:=og;have I:wrap64 ((b:Int)/(g:Int))=((b/g:Nat):Int):=(by rw[show(b:Int)/(g:Int)=((b/g:Nat):Int) from rfl];(generalize b/g=q at S⊢;unfold wrap64;omega));have K:n<=4611686018427387904:=og;clear k v T ha;go_in;go_wp2_with fail;clear U;refine(yhp (a:=n) (b:=b) K P).mono ?_;rw[<-M.out];rintro u e ⟨rfl,hd⟩;have c:=hd.below W.heap.size;have r:=nB L c;have B:=o c.size;have C:=o (O.out.next c);clear hd c;go_wp2_with fail;go_quiet (fail);go_wp2_with fail;rw[show(n:Int)/(g:Int)=((n/g:Nat):Int) from rfl];refine(zyt (n:=n/g) og).mono ?_;rintro u ar ⟨⟨ao,rfl,l⟩,x⟩;have j:=C8 (Dr.below (⟨nq,rfl⟩:Dr e (e.drewN nq)) e.heap.size) x;have z:=nB r j;obtain⟨s,F⟩:=C7 (C.out.next j) (IsK.stb.le (zpx l) (m:=w.heap.size+1) (by have J:=N.out;have af:=r.out.size;have ag:=B.out;show _<=e.heap.size;omega));obtain⟨X,al,rfl,_,_,_⟩:=id l;clear l x j;go_wp2_with fail;(try rw[I])
  refine(zyt (n:=b/g) og).mono ?_;rintro u au ⟨⟨aq,rfl,m⟩,d⟩;have A:=nB z d;obtain⟨f,H,G⟩:=F0 (s.out.next d) (IsK.stb.le (zpx m) (m:=w.heap.size+1) (by have J:=s.out.lt;omega)) (IsK.stb.fresh F.out d);obtain⟨Y,an,rfl,_,_,_⟩:=id m;obtain⟨d0,Z,aa⟩:=C0 f.out;obtain⟨ab,ac,ad⟩:=E9 f.out;clear m d;go_wp2_with fail;exact U5 Tryz.results48 rfl rfl (Row.put3 f.out _ _ _) (znq y.out A.out (p _) G.out H.out og og)
abbrev RV:=Nat->Rat
def X9 (a:List RV->Rat) (c:Nat):List RV->List RV->Rat
 |_,[]=>0
 |pre,v::post=>v c*a (pre++post)-X9 a c (pre++[v]) post
def W5:List Nat->List RV->Rat
 |[],[]=>1
 |[],_::_=>0
 |c::cs,rows=>X9 (W5 cs) c [] rows
def yan (c:List RV->Rat):Prop:=∀(d e:List RV) (f v:RV) (a b:Rat),c (d++(fun x=>a*f x+b*v x)::e)=a*c (d++f::e)+b*c (d++v::e)
def yal (b:List RV->Rat):Prop:=∀(c d:List RV) (a:RV),b (c++a::a::d)=0
theorem you {g:List RV->Rat} (h:yan g) (c:Nat) (j v:RV) (a b:Rat) (f:List RV):∀X e:List RV,X9 g c (X++(fun x=>a*j x+b*v x)::e) f=a*X9 g c (X++j::e) f+b*X9 g c (X++v::e) f:=by
 induction f with
 |nil=>intro X e;simp only[X9];grind
 |cons q f ih=>intro X e;have k:=h X (e++f) j v a b;have l:=ih X (e++[q]);simp only[X9,List.append_assoc,List.cons_append] at k l⊢;rw[k,l];grind
theorem yot {j:List RV->Rat} (h:yan j) (c:Nat) (e f:List RV) (k v:RV) (a b:Rat):∀pre:List RV,X9 j c pre (e++(fun x=>a*k x+b*v x)::f)=a*X9 j c pre (e++k::f)+b*X9 j c pre (e++v::f):=by
 induction e with
 |nil=>intro pre;have g:=you h c k v a b f pre [];simp only[X9,List.nil_append] at g⊢;rw[g];grind
 |cons m e ih=>intro pre;have g:=h (pre++e) f k v a b;have l:=ih (pre++[m]);simp only[X9,List.append_assoc,List.cons_append] at g l⊢;rw[g,l];grind
theorem zui (g:List Nat):yan (W5 g):=by
 induction g with
 |nil=>intro e f j v a b;have h:∀w:RV,W5 [] (e++w::f)=0:=fun w=>(by cases e<;>rfl);rw[h,h,h];grind
 |cons c g ih=>intro e f j v a b;exact yot ih c e f j v a b []
theorem yop {f:List RV->Rat} (h:yal f) (c:Nat) (e:RV) (b:List RV):∀X a:List RV,X9 f c (X++e::e::a) b=0:=by
 induction b with
 |nil=>intro X a;rfl
 |cons q b ih=>intro X a;have g:=h X (a++b) e;have j:=ih X (a++[q]);simp only[X9,List.append_assoc,List.cons_append] at g j⊢;rw[g,j];grind
theorem yoo {g:List RV->Rat} (h:yal g) (c:Nat) (b f:List RV) (e:RV):∀pre:List RV,X9 g c pre (b++e::e::f)=0:=by
 induction b with
 |nil=>intro pre;have a:=yop h c e f pre [];simp only[X9,List.nil_append,List.append_assoc,List.cons_append] at a⊢;rw[a];grind
 |cons k b ih=>intro pre;have a:=h (pre++b) f e;have j:=ih (pre++[k]);simp only[X9,List.append_assoc,List.cons_append] at a j⊢;rw[a,j];grind
theorem zxs (b:List Nat):yal (W5 b):=by
 induction b with
 |nil=>intro a e f;cases a<;>rfl
 |cons c b ih=>intro a e f;exact yoo ih c a e f []
theorem yri (d:List Nat) (b c:List RV) (a v:RV):W5 d (b++a::v::c)= -W5 d (b++v::a::c):=by have g:=zxs d b c (fun x=>1*a x+1*v x);have h:=zui d b ((fun x=>1*a x+1*v x)::c) a v 1 1;have e:=zui d (b++[a]) c a v 1 1;have f:=zui d (b++[v]) c a v 1 1;have i:=zxs d b c a;have j:=zxs d b c v;simp only[List.append_assoc,List.cons_append,List.nil_append] at e f;rw[g,e,f,i,j] at h;grind
theorem yrf (e:List Nat) (b:RV) (c R:List RV):∀a:List RV,W5 e (a++b::(R++b::c))=0:=by
 induction R with
 |nil=>intro a;exact zxs e a c b
 |cons r R ih=>intro a;have f:=yri e a (R++b::c) b r;have g:=ih (a++[r]);simp only[List.append_assoc,List.cons_append,List.nil_append] at f g⊢;rw[f,g];grind
theorem yoq {b e:List RV->Rat} {k:Rat} {w:RV} (hF:∀r:List RV,r.length=n->b (r++[w])=e r*k) (j:w c=0) (a:List RV):∀pre:List RV,pre.length+a.length=n+1->X9 b c pre (a++[w])=X9 e c pre a*k:=by
 induction a with
 |nil=>intro pre _;simp only[X9,List.nil_append,j];grind
 |cons m a ih=>intro pre h;have f:=hF (pre++a) (by simp at h⊢;omega);have g:=ih (pre++[m]) (by simp at h⊢;omega);simp only[X9,List.append_assoc,List.cons_append] at f g⊢;rw[f,g];grind
theorem yre {w:RV} (x:Nat) (e:List Nat) (f:∀c∈e,w c=0):∀b:List RV,b.length=e.length->W5 (e++[x]) (b++[w])=W5 e b*w x:=by
 induction e with
 |nil=>
  intro b h;cases b with
  |nil=>simp only[List.nil_append,W5,X9];grind
  |cons m b=>simp at h
 |cons c e ih=>intro b h;exact yoq (n:=e.length) (fun r hr=>ih (fun a ha=>f a (by simp[ha])) r hr) (f c (by simp)) b [] (by simpa using h)
inductive Spn (Ms:List RV):RV->Prop
 |row (v:RV):v∈Ms->Spn Ms v
 |lin (a b:Rat) (u v:RV):Spn Ms u->Spn Ms v->Spn Ms (fun x=>a*u x+b*v x)
theorem Spn.mono {c e:List RV} (h:∀v∈c,v∈e) {v:RV} (hv:Spn c v):Spn e v:=by
 induction hv with
 |row v hv=>exact .row v (h v hv)
 |lin a b j v _ _ f g=>exact .lin a b j v f g
def C6 (n:Nat) (f:Nat->Rat):Rat:=match n with
 |0=>0
 |n+1=>C6 n f+f n
theorem M8 {g:Nat->Rat} (h:∀a,a<n->f a=g a):C6 n f=C6 n g:=by
 induction n with
 |zero=>rfl
 |succ n ih=>rw[C6,C6,ih fun a b=>h a og,h n og]
theorem zlk (h:∀a,a<n->f a=0):C6 n f=0:=by
 induction n with
 |zero=>rfl
 |succ n ih=>rw[C6,ih fun a b=>h a og,h n og];grind
theorem zmz {a:Nat} (g:a<n) (h:∀j,j<n->j≠a->f j=0):C6 n f=f a:=by
 induction n with
 |zero=>omega
 |succ n ih=>
  rw[C6];rcases B a n with b|b
  ·rw[ih b fun j c e=>h j og e,h n og og];grind
  ·obtain rfl:a=n:=og;rw[zlk fun j c=>h j og og];grind
theorem znu (n:Nat) (a:Rat) (f:Nat->Rat):C6 n (fun b=>a*f b)=a*C6 n f:=by
 induction n with
 |zero=>simp only[C6];grind
 |succ n ih=>rw[C6,C6,ih];grind
theorem zsa (n:Nat) (f g:Nat->Rat):C6 n (fun a=>f a+g a)=C6 n f+C6 n g:=by
 induction n with
 |zero=>simp only[C6];grind
 |succ n ih=>rw[C6,C6,C6,ih];grind
def zqm (v:RV):Prop:=∀x,∃z:Int,v x=(z:Rat)
theorem yor {j:List RV->Rat} (hF:∀r:List RV,(∀v∈r,zqm v)->∃z:Int,j r=(z:Rat)) (c:Nat) (post:List RV):∀pre:List RV,(∀v∈pre,zqm v)->(∀v∈post,zqm v)->∃z:Int,X9 j c pre post=(z:Rat):=by
 induction post with
 |nil=>intro pre _ _;exact⟨0,rfl⟩
 |cons v post ih=>intro pre k g;obtain⟨a,ha⟩:=g v (by simp) c;obtain⟨b,m⟩:=hF (pre++post) (fun e f=>by rcases List.mem_append.1 f with h|h;exact k e h;exact g e (by simp[h]));obtain⟨l,n⟩:=ih (pre++[v]) (fun e f=>by rcases List.mem_append.1 f with h|h;exact k e h;exact g e (by simp at h;simp[h])) (fun e f=>g e (by simp[f]));refine⟨a*b-l,?_⟩;rw[X9,ha,m,n,Rat.intCast_sub,Rat.intCast_mul]
theorem yrg (b:List Nat):∀rows:List RV,(∀v∈rows,zqm v)->∃z:Int,W5 b rows=(z:Rat):=by
 induction b with
 |nil=>
  intro rows _;cases rows with
  |nil=>exact⟨1,rfl⟩
  |cons a l=>exact⟨0,rfl⟩
 |cons c b ih=>intro rows h;exact yor ih c rows [] (fun v hv=>by cases hv) h
def zkp (l:List (Rat×Rat)):Rat:=l.foldl (fun s a=>s+a.1*a.2) 0
def H7 (a b:List Rat):Rat:=zkp (a.zip b)
theorem zz1432 (l:List (Rat×Rat)) (x:Rat×Rat):zkp (l++[x])=zkp l+x.1*x.2:=by simp[zkp]
theorem ymt:∀(l:List (Rat×Rat)) (s:Rat) (m:Nat),Sz s m->(∀a∈l,Sz a.1 n/\Sz a.2 n)->Sz (l.foldl (fun s a=>s+a.1*a.2) s) (m+l.length*(2*n+1))
 |[],_,_,h,_=>by simpa using h
 |a::l,s,m,h,b=>by
  have:=ymt l (s+a.1*a.2) (m+(n+n)+1) (h.add ((b a (List.mem_cons_self ..)).1.mul (b a (List.mem_cons_self ..)).2)|>.le og) fun q c=>b q (List.mem_cons_of_mem _ c)
  exact this.le (by rw[List.length_cons,Nat.add_mul];omega)
theorem yec {l:List (Rat×Rat)} (h:∀a∈l,Sz a.1 n/\Sz a.2 n):Sz (zkp l) (1+l.length*(2*n+1)):=ymt l 0 1 Sz.zero h
theorem zz1430 (l:List (Rat×Rat)):∀s:Rat,l.foldl (fun s a=>s+a.1*a.2) s=s+zkp l:=by
 induction l with
 |nil=>intro s;simp only[List.foldl_nil,zkp];grind
 |cons a l ih=>intro s;have b:=ih (s+a.1*a.2);have c:=ih (0+a.1*a.2);simp only[zkp,List.foldl_cons] at b c⊢;rw[b,c];grind
theorem yry (x y:Rat) (a b:List Rat):H7 (x::a) (y::b)=x*y+H7 a b:=by have h:=zz1430 (a.zip b) (0+x*y);unfold H7;rw[List.zip_cons_cons];simp only[zkp,List.foldl_cons] at h⊢;rw[h];grind
theorem zz1427 (n:Nat) (f:Nat->Rat):C6 (n+1) f=f 0+C6 n fun a=>f (a+1):=by
 induction n with
 |zero=>simp only[C6];grind
 |succ n ih=>rw[C6,ih,C6];grind
theorem ztj (a:List Rat):∀b:List Rat,a.length=b.length->H7 a b=C6 a.length fun j=>a.getD j 0*b.getD j 0:=by
 induction a with
 |nil=>intro b _;rfl
 |cons x a ih=>
  intro b h;cases b with
  |nil=>simp at h
  |cons y b=>rw[yry,ih b (by simpa using h),List.length_cons,zz1427];rfl
theorem yms (n a:Nat) (f:Nat->Nat->Rat):C6 n (fun j=>C6 a fun l=>f j l)=C6 a fun l=>C6 n fun j=>f j l:=by
 induction n with
 |zero=>exact(zlk fun c _=>rfl).symm
 |succ n ih=>rw[C6,ih];have b:(C6 a fun l=>C6 (n+1) fun j=>f j l)=C6 a fun l=>(C6 n fun j=>f j l)+f n l:=M8 fun l _=>rfl;rw[b,zsa]
theorem ypt {d:Nat} (hd:0<d):((d:Int):Rat)≠0:=by intro a;have:(d:Int)=0:=Rat.intCast_inj.1 (by rw[a];rfl);omega
theorem yuu {w:t} (h:IsR w S v r):∃A c B d,v= .agg #[.bool r.neg,.slice A r.num.length c,.slice B r.den.length d]/\IsK .u32 w S (.slice A r.num.length c) r.num/\IsK .u32 w S (.slice B r.den.length d) r.den:=h
theorem zmt {w:t} {A:Option Addr} {m:Nat} (h:IsV w S (.slice A m c) l) (o:l[j]? =some r):
 ∃b off a k e d,A=some ⟨b,off,none⟩/\S b/\IsR w S (.agg #[.bool r.neg,.slice a r.num.length k,.slice e r.den.length d]) r/\
  w.cell? ⟨b,off+j*3,none⟩=some (.bool r.neg)/\w.cell? ⟨b,off+j*3+1,none⟩=some (.slice a r.num.length k)/\w.cell? ⟨b,off+j*3+2,none⟩=some (.slice e r.den.length d):=by
 obtain⟨b,off,p,i,n,hr,_,hc⟩:=IsS.get h og o;obtain⟨a,k,e,d,rfl,f,g⟩:=hr;refine⟨b,off,a,k,e,d,i,n,⟨a,k,e,d,rfl,f,g⟩,?_,?_,?_⟩
 ·exact hc 0 _ rfl
 ·exact hc 1 _ rfl
 ·exact hc 2 _ rfl
theorem J6 {w:t} (h:IsV w S v l):∃A c,v= .slice A l.length c/\l.length<=9223372036854775807:=by obtain⟨A,c,b,rfl,d,a,_⟩:=h;exact⟨A,c,rfl,by unfold maxLen at a;omega⟩
theorem zoa {w:t} {A:Option Addr} (h:IsM w S (.slice A n c) m) (i:m[j]? =some l):
 ∃b off a k,A=some ⟨b,off,none⟩/\S b/\IsV w S (.slice a l.length k) l/\w.cell? ⟨b,off+j,none⟩=some (.slice a l.length k):=by obtain⟨b,off,o,f,g,hr,_,hc⟩:=IsS.get h og i;obtain⟨a,k,d,rfl,e⟩:=hr;refine⟨b,off,a,k,f,g,⟨a,k,d,rfl,e⟩,?_⟩;have:=hc 0 _ rfl;rw[Nat.mul_one,Nat.add_zero] at this;exact this
theorem zpw {w:t} (h:IsM w S v m):∃A c,v= .slice A m.length c/\m.length<=9223372036854775807:=by obtain⟨A,c,b,rfl,d,a,_⟩:=h;exact⟨A,c,rfl,by unfold maxLen at a;omega⟩
theorem N9:Tryz.prog.cellsOf 30=3:=by kernel_rfl
def zkl (r:Raw):Int:=zvw U0 r
def zme (num den:List Nat):Int:=if U0 num≠0 then U0 num else if U0 den≠0 then U0 den else if den=[] then 6 else 0
theorem yqk (h:zme r.num r.den≠0):zkl r=zme r.num r.den:=by
 unfold zme at*;unfold zkl zvw;split
 ·rfl
 ·rename_i a;rw[if_neg a] at h;split
  ·rfl
  ·rename_i b;rw[if_neg b] at h;split
   ·rfl
   ·rename_i c;rw[if_neg c] at h;exact absurd rfl h
theorem yql (h:zme r.num r.den=0):zkl r=if(r.num=[]/\r.neg=true)\/Nat.gcd (val r.num) (val r.den)≠1 then 3 else 0:=by
 unfold zme at h;unfold zkl zvw;split at h
 ·rename_i a;exact absurd h a
 rename_i a;split at h
 ·rename_i b;exact absurd h b
 rename_i b;split at h
 ·cases h
 rename_i c;rw[if_neg a,if_neg b,if_neg c]
theorem yqj {num den:List Nat} (h:zme num den=0):U0 num=0/\U0 den=0/\den≠[]/\val den≠0:=by
 unfold zme at h;split at h
 ·rename_i b;exact absurd h b
 rename_i b;split at h
 ·rename_i a;exact absurd h a
 rename_i a;split at h
 ·cases h
 rename_i c;have b:=Decidable.not_not.1 b;have a:=Decidable.not_not.1 a;refine⟨b,a,c,fun d=>c ?_⟩;rw[(zuh a).2.2,d,T6]
theorem yfu {q:Rat} (h:Sz q 1024):zkl (E0 q)=0:=yqm (yfw h.1) (yfw h.2)
def zka:List Int->Int
 |[]=>0
 |e::l=>if e≠0 then e else zka l
theorem yhl {l:List Int} (h:∀j,j<k->l.getD j 0=0):zka l=zka (l.drop k):=by
 induction l generalizing k with
 |nil=>simp
 |cons b l ih=>
  cases k with
  |zero=>rfl
  |succ k=>have a:=h 0 og;simp at a;rw[List.drop_succ_cons,<-ih (k:=k) (fun j c=>by have:=h (j+1) og;simpa using this)];simp[zka,a]
theorem zul {l:List Int} {a:Int} (h:∀j,j<k->l.getD j 0=0) (b:l[k]? =some a) (c:a≠0):zka l=a:=by rw[yhl h];have d:k<l.length:=(List.getElem?_eq_some_iff.1 b).1;rw[List.drop_eq_getElem_cons d];have:l[k]=a:=(List.getElem?_eq_some_iff.1 b).2;rw[this];simp[zka,c]
theorem zwf {l:List Int} (h:∀j,j<l.length->l.getD j 0=0):zka l=0:=by rw[yhl h,List.drop_length];rfl
def zxn (l:List Raw):Int:=zka (l.map zkl)
def U9 (l:List Raw):Int:=if 40<l.length then 4 else zxn l
def znf (m:List (List Raw)):Int:=if 40<m.length then 4 else zka (m.map fun row=>if row.length≠(m.headD []).length then 3 else U9 row)
theorem yqh (h:∀q∈qs,Sz q 1024):zxn (qs.map E0)=0:=by
 unfold zxn;induction qs with
 |nil=>rfl
 |cons q qs ih=>rw[List.map_cons,List.map_cons,zka,if_neg (by simp[yfu (h q (by simp))])];exact ih fun b a=>h b (by simp[a])
theorem zug (a:qs.length<=40) (h:∀q∈qs,Sz q 1024):U9 (qs.map E0)=0:=by unfold U9;rw[if_neg (by simp;omega)];exact yqh h
structure Prog where
 A:List (List Raw)
 B:List Raw
 C:List Raw
def IsP (w:t) (S:Nat->Prop) (v:Value) (d:Prog):Prop:=
 ∃A a B b C c,v= .agg #[.slice A d.A.length a,.slice B d.B.length b,.slice C d.C.length c]/\IsM w S (.slice A d.A.length a) d.A/\IsV w S (.slice B d.B.length b) d.B/\IsV w S (.slice C d.C.length c) d.C
theorem IsP.stb:Stb IsP:=by rintro w w' S T v h ⟨A,a,B,b,C,c,hv,e,f,g⟩ d;exact⟨A,a,B,b,C,c,hv,IsM.stb.to e d,IsV.stb.to f d,IsV.stb.to g d⟩
theorem zwi {w:t} {a b c:Value} {p:Prog} (d:IsM w S a p.A) (e:IsV w S b p.B) (f:IsV w S c p.C):IsP w S (.agg #[a,b,c]) p:=by obtain⟨A,g,rfl,_⟩:=zpw d;obtain⟨B,h,rfl,_⟩:=J6 e;obtain⟨C,i,rfl,_⟩:=J6 f;exact⟨A,g,B,h,C,i,rfl,d,e,f⟩
def ztk (m:List (List Raw)) (b c:Nat):Int:=if m.length≠b\/(0<b/\(m.headD []).length≠c) then 10 else 0
def ybi (a:Prog):Int:=ztk a.A a.B.length a.C.length
def zok (a:Prog):Int:=if zka [znf a.A,U9 a.B,U9 a.C]≠0 then zka [znf a.A,U9 a.B,U9 a.C] else ybi a
structure ProgQ where
 A:List (List Rat)
 B:List Rat
 C:List Rat
def C4 (l:List Rat):List Raw:=l.map E0
def I0 (m:List (List Rat)):List (List Raw):=m.map C4
def I8 (a:ProgQ):Prog:=⟨I0 a.A,C4 a.B,C4 a.C⟩
structure Good (p:ProgQ) (k:Nat):Prop where
 rows:p.A.length=p.B.length
 cols:∀row∈p.A,row.length=p.C.length
 szA:∀row∈p.A,∀q∈row,Sz q k
 szB:∀q∈p.B,Sz q k
 szC:∀q∈p.C,Sz q k
 nB:p.B.length<=40
 nC:p.C.length<=40
theorem zuf {q:ProgQ} (h:Good q 1024):zok (I8 q)=0:=by
 have k:U9 (C4 q.B)=0:=zug h.nB h.szB;have l:U9 (C4 q.C)=0:=zug h.nC h.szC
 have n:∀row∈I0 q.A,row.length=((I0 q.A).headD []).length:=by
  intro row hr;obtain⟨r,b,rfl⟩:=List.mem_map.1 hr;cases d:q.A with
  |nil=>rw[d] at b;cases b
  |cons a o=>simp only[I0,List.map_cons,List.headD_cons,C4,F];rw[h.cols r b,h.cols a (by rw[d];simp)]
 have m:znf (I0 q.A)=0:=(by unfold znf;rw[if_neg (by simp[I0];have:=h.rows;have:=h.nB;omega)];refine zwf fun j f=> ?_;rw[F] at f;rw[A,C,I f];have g:=List.getElem_mem f;simp only[Option.map_some,Option.getD_some];rw[if_neg (by rw[n _ g];simp)];obtain⟨r,b,e⟩:=List.mem_map.1 g;rw[<-e];exact zug (by rw[h.cols r b];exact h.nC) (h.szA r b));unfold zok;(have e:zka [znf (I8 q).A,U9 (I8 q).B,U9 (I8 q).C]=0:=by show zka [znf (I0 q.A),U9 (C4 q.B),U9 (C4 q.C)]=0;rw[m,k,l];rfl);rw[if_neg (by rw[e];simp)];unfold ybi ztk;rw[if_neg];rintro(c|⟨c,i⟩)
 ·exact c (by show(I0 q.A).length=(C4 q.B).length;simp[I0,C4,h.rows])
 ·apply i;show((I0 q.A).headD []).length=(C4 q.C).length;cases d:q.A with
  |nil=>have:=h.rows;rw[d] at this;simp at this;have c:0<(C4 q.B).length:=c;simp[C4] at c;omega
  |cons a o=>simp only[I0,List.map_cons,List.headD_cons,C4,F];exact h.cols a (by rw[d];simp)
theorem zzd {w:t} {a b:List Nat} (ha:IsL .u32 w 0 w.heap.size va a) (u:IsL .u32 w 0 w.heap.size e b):D E 136 #[va,e] w fun g w'=>g= .returned (.int .i64 (zme a b))/\w=w':=by
 obtain⟨p,r⟩:=C7 ha u;obtain⟨A,c,rfl,_,_,_⟩:=ha;obtain⟨B,d,rfl,_,_,_⟩:=u;obtain⟨x,v⟩:=nm (U0 a);obtain⟨y,z⟩:=nm (U0 b);obtain⟨f,j⟩:=C7 v z;clear v z;by_cases m:x=0;(case neg=>have C:(x !=0)=true:=bne_iff_ne.2 m;have h:i (zme a b=x):=(by unfold i zme;rw[<-f.out,if_pos m]);go_in;go_wp2_with fail;refine(ztg p.out).mono ?_;rw[<-f.out];rintro g l ⟨rfl,rfl⟩;go_wp2_with fail;go_ret;exact⟨K2 h.out.symm,rfl⟩);have C:(x !=0)=false:=(by rw[m];rfl);have q:=o m;clear m;by_cases n:y=0;(case neg=>have F:(y !=0)=true:=bne_iff_ne.2 n;have h:i (zme a b=y):=(by unfold i zme;rw[<-f.out,if_neg (by simp[q.out]),<-j.out,if_pos n]);go_in;go_wp2_with fail;refine(ztg p.out).mono ?_;rw[<-f.out];rintro g l ⟨rfl,rfl⟩;go_wp2_with fail;refine(ztg r.out).mono ?_;rw[<-j.out];rintro g l ⟨rfl,rfl⟩;go_wp2_with fail;go_ret;exact⟨K2 h.out.symm,rfl⟩);have F:(y !=0)=false:=(by rw[n];rfl);have s:=o n;clear n;by_cases k:b=[]
 ·have G:((b.length:Int)==0)=true:=(by rw[k];rfl);have h:i (zme a b=6):=(by unfold i zme;rw[<-f.out,if_neg (by simp[q.out]),<-j.out,if_neg (by simp[s.out]),if_pos k]);clear k;go_in;go_wp2_with fail;refine(ztg p.out).mono ?_;rw[<-f.out];rintro g l ⟨rfl,rfl⟩;go_wp2_with fail;refine(ztg r.out).mono ?_;rw[<-j.out];rintro g l ⟨rfl,rfl⟩;go_wp2_with fail;go_ret;exact⟨K2 h.out.symm,rfl⟩
 ·have G:((b.length:Int)==0)=false:=beq_eq_false_iff_ne.2 (by have:=List.length_pos_iff.2 k;omega);have h:i (zme a b=0):=(by unfold i zme;rw[<-f.out,if_neg (by simp[q.out]),<-j.out,if_neg (by simp[s.out]),if_neg k]);clear k;go_in;go_wp2_with fail;refine(ztg p.out).mono ?_;rw[<-f.out];rintro g l ⟨rfl,rfl⟩;go_wp2_with fail;refine(ztg r.out).mono ?_;rw[<-j.out];rintro g l ⟨rfl,rfl⟩;go_wp2_with fail;go_ret;exact⟨K2 h.out.symm,rfl⟩
theorem ygg {w:t} {a b:List Nat} (ea:a=A8 (val a)) (eb:b=A8 (val b)) (ha:IsN w 0 w.heap.size va (val a)) (i:IsN w 0 w.heap.size e (val b)) (h:Bru w) (f:(A8 (val a)).length<=1024) (g:(A8 (val b)).length<=1024):
 D E 137 #[va,e] w fun d w'=>(∃c:Bool,d= .returned (.bool c)/\(c=true↔Nat.gcd (val a) (val b)=1))/\Below w.heap.size w w':=
 yqz ha i h (H f og) (H g og)
theorem zxm {w:t} (h:IsR w (C5 w) v r) (V:Bru w):D E 75 #[v] w fun a w'=>a= .returned (.int .i64 (zkl r))/\Below w.heap.size w w':=by
 obtain⟨A,H,B,I,rfl,T,U⟩:=yuu h;obtain⟨g,ab,u,J,ae⟩:=J9 w #[.bool r.neg,.slice A r.num.length H,.slice B r.den.length I] 30;obtain⟨l,q,M⟩:=F0 (IsK.isL (IsK.stb.next T u) (lo:=0) (hi:=g.heap.size) fun b d=>⟨G _,d⟩) (IsK.isL (IsK.stb.next U u) (lo:=0) (hi:=g.heap.size) fun b d=>⟨G _,d⟩) (Bru.next V u);clear V;obtain⟨Y,af,ag⟩:=C0 J;obtain⟨ac,C⟩:=C7 J u;have ah:r.num.length<=9223372036854775807:=(by have:=l.out.length_le;unfold maxLen at this;omega);clear h T U J u;obtain⟨x,X⟩:=nm (zme r.num r.den);have e:=o X;clear X;by_cases m:x=0;(case neg=>have Z:(x !=0)=true:=bne_iff_ne.2 m;have c:i (zkl r=x):=(by rw[i,e.out];exact yqk (by rw[<-e.out];exact m));go_in;go_wp2_with fail;refine(zzd l.out q.out).mono ?_;rw[<-e.out];rintro a z ⟨rfl,rfl⟩;go_wp2_with fail;go_ret;exact⟨K2 c.out.symm,C.out⟩);have Z:(x !=0)=false:=(by rw[m];rfl);have f:=yqj (num:=r.num) (den:=r.den) (by rw[<-e.out];exact m);obtain⟨F,ad,O,N⟩:=V7 (yql (r:=r) (by rw[<-e.out];exact m)) f (l.out.isN f.1) (q.out.isN f.2.1);have S:=(zuh f.1).2.2;have R:=(zuh f.2.1).2.2;obtain⟨Q,P⟩:=C7 (yfv f.1) (yfv f.2.1);clear f m;obtain⟨L,K⟩:=C7 S R;clear S R;obtain⟨s,W⟩:=nm (r.neg);rw[<-W] at Y ab F⊢;clear W;by_cases k:r.num=[]
 ·have aa:((r.num.length:Int)==0)=true:=(by rw[k];rfl);cases s with
  |true=>have c:i (zkl r=3):=(by rw[i,F.out,if_pos (.inl ⟨k,rfl⟩)]);clear k;go_in;go_wp2_with fail;refine(zzd l.out q.out).mono ?_;rw[<-e.out];rintro a z ⟨rfl,rfl⟩;go_wp2_with fail;go_ret;exact⟨K2 c.out.symm,C.out⟩
  |false=>
   have c:i (zkl r=if Nat.gcd (val r.num) (val r.den)≠1 then 3 else 0):=(by rw[i,F.out];simp);clear k;go_in;go_wp2_with fail;refine(zzd l.out q.out).mono ?_;rw[<-e.out];rintro a z ⟨rfl,rfl⟩;go_wp2_with fail;refine(show D E 137 #[.slice A r.num.length H,.slice B r.den.length I] g (fun a w'=>(∃b:Bool,a= .returned (.bool b)/\(b=true↔Nat.gcd (val r.num) (val r.den)=1))/\Below g.heap.size g w') from ygg L.out K.out O.out N.out M.out Q.out P.out).mono ?_;rintro a z ⟨⟨b,rfl,d⟩,y⟩;have p:=nB C y;have n:=o d;clear d y;cases b with
   |true=>have j:i (zkl r=0):=(by rw[i,c.out,if_neg (by simp[n.out.1 rfl])]);go_wp2_with fail;go_ret;exact⟨K2 j.out.symm,p.out⟩
   |false=>have j:i (zkl r=3):=(by rw[i,c.out,if_pos (fun h=>Bool.noConfusion (n.out.2 h))]);go_wp2_with fail;go_ret;exact⟨K2 j.out.symm,p.out⟩
 ·have aa:((r.num.length:Int)==0)=false:=beq_eq_false_iff_ne.2 (by have:=List.length_pos_iff.2 k;omega);have c:i (zkl r=if Nat.gcd (val r.num) (val r.den)≠1 then 3 else 0):=(by rw[i,F.out];simp[k]);clear k;go_in;go_wp2_with fail;refine(zzd l.out q.out).mono ?_;rw[<-e.out];rintro a z ⟨rfl,rfl⟩;go_wp2_with fail;refine(show D E 137 #[.slice A r.num.length H,.slice B r.den.length I] g (fun a w'=>(∃b:Bool,a= .returned (.bool b)/\(b=true↔Nat.gcd (val r.num) (val r.den)=1))/\Below g.heap.size g w') from ygg L.out K.out O.out N.out M.out Q.out P.out).mono ?_;rintro a z ⟨⟨b,rfl,d⟩,y⟩;have p:=nB C y;have n:=o d;clear d y;cases b with
  |true=>have j:i (zkl r=0):=(by rw[i,c.out,if_neg (by simp[n.out.1 rfl])]);go_wp2_with fail;go_ret;exact⟨K2 j.out.symm,p.out⟩
  |false=>have j:i (zkl r=3):=(by rw[i,c.out,if_pos (fun h=>Bool.noConfusion (n.out.2 h))]);go_wp2_with fail;go_ret;exact⟨K2 j.out.symm,p.out⟩
theorem ytt (h:l[j]? =some r):(l.map zkl).getD j 0=zkl r:=by rw[A,C,h];rfl
theorem znt {a:Type} {l:List a} (h:j<l.length):∃x,l[j]? =some x:=⟨_,I h⟩
theorem zsx {w:t} (h:IsV w (C5 w) v l) (L:Bru w):
 D E 74 #[v] w fun y w'=>y= .returned (.int .i64 (U9 l))/\Below w.heap.size w w':=by
 obtain⟨O,I⟩:=C7 h L;clear L;obtain⟨A,c,rfl,ae⟩:=J6 h;clear h;by_cases z:40<l.length
 ·have g:i (U9 l=4):=(by unfold i U9;rw[if_pos z]);go_in;go_wp2_with fail;go_ret;exact⟨K2 g.out.symm,d _ _⟩
 ·have g:i (U9 l=zxn l):=(by unfold i U9;rw[if_neg z]);have aa:l.length<=40:=og;clear z;go_in;go_wp2_with fail;go_loopw [11] (fun H wr=>∃k:Nat,k<=l.length/\H= .int .i64 (k:Int)/\Below w.heap.size w wr/\i (∀j,j<k->(l.map zkl).getD j 0=0)) (fun H _=>l.length-(intOf H).toNat);case atStart=>exact⟨0,G _,rfl,d _ _,fun j R=>by omega⟩
  case round=>
   obtain⟨k,ad,rfl,n,hrel⟩:=hrel;have e:=o n;have u:=o hrel.out;clear hrel;rcases B k l.length with S|ac
   ·obtain⟨r,hr⟩:=znt S;obtain⟨b,off,U,af,V,ag,rfl,ab,M,W,X,Y⟩:=zmt (IsV.stb.next O.out n) hr;obtain⟨J,K⟩:=C7 M hr;have Z:=N9;obtain⟨x,N⟩:=nm (zkl r);have m:=o N;clear M hr n N;by_cases a:x=0
    ·have Q:(x !=0)=false:=(by rw[a];rfl);have P:=o a;clear a;go_wp2_with fail;refine(zxm (IsR.stb.next J.out ((d _ _).alloc (p _) _)) (Bru.next (Bru.next I.out e.out) ((d _ _).alloc (p _) _))).mono ?_;rw[<-m.out];rintro y T ⟨rfl,f⟩;have q:=o (C8 e.out ((d _ _).alloc (p _) _|>fun h=>C8 h f));clear f;go_wp2_with fail;go_roundw
     case rel=>
      refine⟨k+1,by omega,by go_num,q.out,fun j R=> ?_⟩;rcases B j k with h|h
      ·exact u.out j h
      ·obtain rfl:j=k:=og;rw[ytt K.out,<-m.out,P.out]
     case measure=>simp[intOf];omega
    ·have Q:(x !=0)=true:=bne_iff_ne.2 a;have s:i (U9 l=x):=(by rw[i,g.out];exact zul u.out (by rw[C,K.out,m.out];rfl) a);clear a;go_wp2_with fail;refine(zxm (IsR.stb.next J.out ((d _ _).alloc (p _) _)) (Bru.next (Bru.next I.out e.out) ((d _ _).alloc (p _) _))).mono ?_;rw[<-m.out];rintro y T ⟨rfl,f⟩;have q:=o (C8 e.out ((d _ _).alloc (p _) _|>fun h=>C8 h f));clear f;go_wp2_with fail;go_ret;exact⟨K2 s.out.symm,q.out⟩
   ·obtain rfl:k=l.length:=og;have s:i (U9 l=0):=(by rw[i,g.out];exact zwf (by rw[F];exact u.out));clear n;go_wp2_with fail;go_ret;exact⟨K2 s.out.symm,e.out⟩
def zrf (n:Nat) (row:List Raw):Int:=if row.length≠n then 3 else U9 row
theorem yqi (m:List (List Raw)):znf m=if 40<m.length then 4 else zka (m.map (zrf (m.headD []).length)):=rfl
theorem ytu {r:List Raw} (h:m[j]? =some r):(m.map (zrf n)).getD j 0=zrf n r:=by rw[A,C,h];rfl
theorem ytk {w:t} (h:IsM w (C5 w) v m) (V:Bru w):
 D E 73 #[v] w fun I w'=>I= .returned (.int .i64 (znf m))/\Below w.heap.size w w':=by
 obtain⟨P,Q⟩:=C7 h V;clear V;obtain⟨A,c,rfl,au⟩:=zpw h;clear h;by_cases J:40<m.length
 ·have p:i (znf m=4):=(by unfold i znf;rw[if_pos J]);go_in;go_wp2_with fail;go_ret;exact⟨K2 p.out.symm,d _ _⟩
 ·have al:m.length<=40:=og;obtain⟨n,K⟩:=nm ((m.headD []).length);have p:i (znf m=zka (m.map (zrf n))):=(by rw[i,yqi,if_neg J,K]);have Z:=o K;clear J K;go_in;go_wp2_with fail;go_loopw [11] (fun O wr=>∃k:Nat,k<=m.length/\O= .int .i64 (k:Int)/\Below w.heap.size w wr/\i (∀j,j<k->(m.map (zrf n)).getD j 0=0)) (fun O _=>m.length-(intOf O).toNat);case atStart=>exact⟨0,G _,rfl,d _ _,fun j af=>by omega⟩
  case round=>
   obtain⟨k,ar,rfl,r,hrel⟩:=hrel;have e:=o r;have s:=o hrel.out;clear hrel;rcases B k m.length with X|aq
   ·obtain⟨row,M⟩:=znt X;obtain⟨y,u⟩:=znt (show 0<m.length by omega);obtain⟨b,off,ah,ay,rfl,an,W,ak⟩:=zoa (IsM.stb.next P.out r) M;obtain⟨aj,aA,ai,az,U,ao,ae,ab⟩:=zoa (IsM.stb.next P.out r) u;simp only[Option.some.injEq,Addr.mk.injEq,and_true] at U;obtain⟨rfl,rfl⟩:=U;rw[Nat.add_zero] at ab
    have L:i (y.length=n):=by
     rw[i,Z.out];cases m with
     |nil=>simp at X
     |cons a aB=>simp at u;rw[<-u];rfl
    obtain⟨R,H⟩:=C7 W M;have av:0<m.length:=og;clear W M r ae u;by_cases f:row.length=y.length
    case neg=>
     have ad:((row.length:Int) !=(y.length:Int))=true:=bne_iff_ne.2 og
     have l:i (znf m=3):=by
      rw[i,p.out];refine zul s.out (by rw[C,H.out];rfl) ?_|>.trans ?_
      ·unfold zrf;rw[if_pos (by rw[<-L.out];exact f)];decide
      ·unfold zrf;rw[if_pos (by rw[<-L.out];exact f)]
     clear f;go_wp2_with fail;go_ret;exact⟨K2 l.out.symm,e.out⟩
    have ad:((row.length:Int) !=(y.length:Int))=false:=(by rw[f];simp);have Y:=o f;clear f;obtain⟨x,N⟩:=nm (U9 row);have S:=o N;have T:i (zrf n row=x):=(by rw[i,N];unfold zrf;rw[if_neg (by rw[<-L.out];simp[Y.out])]);clear N;by_cases g:x=0
    ·have ac:(x !=0)=false:=(by rw[g];rfl);have aa:=o g;clear g;go_wp2_with fail;refine(zsx R.out (Bru.next Q.out e.out)).mono ?_;rw[<-S.out];rintro I ag ⟨rfl,q⟩;have z:=nB e q;clear q;go_wp2_with fail;go_roundw
     case rel=>
      refine⟨k+1,by omega,by go_num,z.out,fun j af=> ?_⟩;rcases B j k with h|h
      ·exact s.out j h
      ·obtain rfl:j=k:=og;rw[ytu H.out,T.out,aa.out]
     case measure=>simp[intOf];omega
    ·have ac:(x !=0)=true:=bne_iff_ne.2 g;have l:i (znf m=x):=(by rw[i,p.out];exact zul s.out (by rw[C,H.out,<-T.out];rfl) g);clear g;go_wp2_with fail;refine(zsx R.out (Bru.next Q.out e.out)).mono ?_;rw[<-S.out];rintro I ag ⟨rfl,q⟩;have z:=nB e q;clear q;go_wp2_with fail;go_ret;exact⟨K2 l.out.symm,z.out⟩
   ·obtain rfl:k=m.length:=og;have l:i (znf m=0):=(by rw[i,p.out];exact zwf (by rw[F];exact s.out));clear r;go_wp2_with fail;go_ret;exact⟨K2 l.out.symm,e.out⟩
theorem yti {w:t} {x y z:Int} (r:w.cell? ⟨g,0,none⟩=some (.int .i64 x)) (s:w.cell? ⟨g,1,none⟩=some (.int .i64 y)) (u:w.cell? ⟨g,2,none⟩=some (.int .i64 z)):
 D E 72 #[.slice (some ⟨g,0,none⟩) 3 3] w fun b w'=>b= .returned (.int .i64 (zka [x,y,z]))/\w=w':=by
 have hc:i (∀j b,[x,y,z][j]? =some b->w.cell? ⟨g,j,none⟩=some (.int .i64 b)):=by
  intro j b a;match j,a with
  |0,a=>simp at a;rw[<-a];exact r
  |1,a=>simp at a;rw[<-a];exact s
  |2,a=>simp at a;rw[<-a];exact u
 obtain⟨l,m⟩:=nm ([x,y,z]);rw[<-m] at hc⊢;have v:i (l.length=3):=(by rw[m];rfl);clear r s u m;go_in;go_wp2_with fail;go_loop [7] (fun n=>∃k:Nat,k<=3/\n= .int .i64 (k:Int)/\i (∀j,j<k->l.getD j 0=0)) (fun n=>3-(intOf n).toNat);case atStart=>exact⟨0,by omega,rfl,fun j a=>by omega⟩
 case round=>
  obtain⟨k,O,rfl,hrel⟩:=hrel;rcases B k 3 with L|N
  ·obtain⟨b,f⟩:=znt (l:=l) (j:=k) (by rw[v.out];exact L);have M:=hc.out k b f;have q:=o f;clear f;by_cases c:b=0
   ·have K:(b !=0)=false:=(by rw[c];rfl);have J:=o c;clear c;go_wp2_with fail;go_round
    case rel=>
     refine⟨k+1,by omega,by go_num,fun j a=> ?_⟩;rcases B j k with h|h
     ·exact hrel.out j h
     ·obtain rfl:j=k:=og;rw[A,q.out,J.out];rfl
    case measure=>simp[intOf];omega
   ·have K:(b !=0)=true:=bne_iff_ne.2 c;have e:i (zka l=b):=zul hrel.out q.out c;clear c;go_wp2_with fail;go_ret;exact⟨K2 e.out.symm,rfl⟩
  ·obtain rfl:k=3:=og;have e:i (zka l=0):=zwf (by rw[v.out];exact hrel.out);go_wp2_with fail;go_ret;exact⟨K2 e.out.symm,rfl⟩
theorem yth (w:t) (x y z b:Int) (g:b=zka [x,y,z]):D E 72 #[.slice (some ⟨w.heap.size,0,none⟩) 3 3] (w.alloc (.cells #[.int .i64 x,.int .i64 y,.int .i64 z] 38)) fun a w'=>a= .returned (.int .i64 b)/\Below w.heap.size w w':=by have h:Row (w.alloc (.cells #[.int .i64 x,.int .i64 y,.int .i64 z] 38)) w.heap.size 38 [.int .i64 x,.int .i64 y,.int .i64 z]:=heap_alloc_new w _;obtain⟨c,d,e⟩:=C0 h;rw[g];refine(yti c d e).mono ?_;rintro a w' ⟨f,rfl⟩;exact⟨f,L7 _ _⟩
theorem ytj {w:t} (h:IsM w (C5 w) v m) (F:b<=9223372036854775807) (hc:c<=9223372036854775807):
 D E 76 #[v,.int .i64 (b:Int),.int .i64 (c:Int)] w fun x w'=>x= .returned (.int .i64 (ztk m b c))/\w=w':=by
 have r:=o h;obtain⟨A,C,rfl,G⟩:=zpw h;clear h;by_cases e:m.length=b;(case neg=>have y:((m.length:Int) !=(b:Int))=true:=bne_iff_ne.2 og;have d:i (ztk m b c=10):=if_pos (.inl e);clear e;go_in;go_wp2_with fail;go_ret;exact⟨K2 d.out.symm,rfl⟩);have y:((m.length:Int) !=(b:Int))=false:=(by rw[e];simp);rcases Nat.eq_zero_or_pos b with g|g
 ·have d:i (ztk m b c=0):=if_neg (by rintro(h|⟨h,_⟩)<;>omega);have z:decide (0<b)=false:=decide_eq_false og;have n:b<1:=og;clear e g;go_in;go_wp2_with fail;go_ret;exact⟨K2 d.out.symm,rfl⟩
 ·have z:decide (0<b)=true:=decide_eq_true g;have q:0<m.length:=og;obtain⟨k,j⟩:=znt q;obtain⟨bb,off,B,H,rfl,_,_,u⟩:=zoa r.out j;rw[Nat.add_zero] at u
  have p:(m.headD []).length=k.length:=by
   cases m with
   |nil=>simp at q
   |cons a I=>simp at j;rw[<-j];rfl
  obtain⟨s,l⟩:=C7 e p;clear e j p;by_cases f:k.length=c
  ·have n:((k.length:Int) !=(c:Int))=false:=(by rw[f];simp);have d:i (ztk m b c=0):=if_neg (by rw[l.out,s.out];rintro(h|⟨_,h⟩);exact h rfl;exact h f);clear f;go_in;go_wp2_with fail;go_ret;exact⟨K2 d.out.symm,rfl⟩
  ·have n:((k.length:Int) !=(c:Int))=true:=bne_iff_ne.2 og;have d:i (ztk m b c=10):=if_pos (.inr ⟨g,by rw[l.out];exact f⟩);clear f;go_in;go_wp2_with fail;go_ret;exact⟨K2 d.out.symm,rfl⟩
theorem ykn {w:t} {p:Prog} (h:IsP w (C5 w) v p) (ae:Bru w):D E 38 #[v] w fun d w'=>d= .returned (.int .i64 (zok p))/\Below w.heap.size w w':=by
 obtain⟨A,a,B,b,C,c,rfl,r,s,u⟩:=h;have lA:=(zpw r).choose_spec.choose_spec.2;have lB:=(J6 s).choose_spec.choose_spec.2;have au:=(J6 u).choose_spec.choose_spec.2;obtain⟨n,ar,f,af,av⟩:=J9 w #[.slice A p.A.length a,.slice B p.B.length b,.slice C p.C.length c] 54;obtain⟨M,ah,ai,m,O,q⟩:=zpu (IsM.stb.next r f) (IsV.stb.next s f) (IsV.stb.next u f) (af) (f) (Bru.next ae f);clear r s u af f ae;obtain⟨P,U,Z⟩:=C0 m.out;obtain⟨x,I⟩:=nm (znf p.A);obtain⟨y,J⟩:=nm (U9 p.B);obtain⟨z,K⟩:=nm (U9 p.C);obtain⟨e,G⟩:=nm (zka [x,y,z]);obtain⟨L,H⟩:=nm (ybi p);have N:i (zok p=if e≠0 then e else L):=(by rw[i,G,I,J,K,H];rfl);obtain⟨al,an,ao,aj,ak⟩:=hd5 I J K G H;clear I J K G H;go_in;go_wp2_with fail;clear ar
 go_region_held3 (fun w'=>w'.cell? ⟨w.heap.size,0,none⟩=some (.slice A p.A.length a)/\w'.cell? ⟨w.heap.size,1,none⟩=some (.slice B p.B.length b)/\w'.cell? ⟨w.heap.size,2,none⟩=some (.slice C p.C.length c))
  (first
    |exact⟨P,U,Z⟩
    |exact⟨Q,V,aa⟩
    |exact⟨R,W,ab⟩
    |exact⟨S,X,ac⟩
    |exact⟨T,Y,ad⟩
    |exact⟨A9 (L7 _ _) P,A9 (L7 _ _) U,A9 (L7 _ _) Z⟩
    |exact⟨A9 (L7 _ _) Q,A9 (L7 _ _) V,A9 (L7 _ _) aa⟩
    |exact⟨A9 (L7 _ _) R,A9 (L7 _ _) W,A9 (L7 _ _) ab⟩
    |exact⟨A9 (L7 _ _) S,A9 (L7 _ _) X,A9 (L7 _ _) ac⟩
    |exact⟨A9 (L7 _ _) T,A9 (L7 _ _) Y,A9 (L7 _ _) ad⟩)
  (first
    |(go_at_call 73;have hc:=(show D E 73 #[.slice A p.A.length a] (World.drew n) (fun d w'=>d= .returned (.int .i64 x)/\Below (World.heap (World.drew n)).size (World.drew n) w') from by rw[al.out];exact ytk (uM n.drew M) (uU n.drew q));(with_reducible refine hc.mono ?_);clear hc;rintro d j ⟨rfl,F⟩;obtain⟨Q,V,aa⟩:=C0 (uR j m))
    |(go_at_call 74;have hc:=(show D E 74 #[.slice B p.B.length b] j (fun d w'=>d= .returned (.int .i64 y)/\Below (World.heap j).size j w') from by rw[an.out];exact zsx (uV j ah) (uU j q));(with_reducible refine hc.mono ?_);clear hc;rintro d k ⟨rfl,F⟩;obtain⟨R,W,ab⟩:=C0 (uR k m))
    |(go_at_call 74;have hc:=(show D E 74 #[.slice C p.C.length c] k (fun d w'=>d= .returned (.int .i64 z)/\Below (World.heap k).size k w') from by rw[ao.out];exact zsx (uV k ai) (uU k q));(with_reducible refine hc.mono ?_);clear hc;rintro d ag ⟨rfl,F⟩;obtain⟨S,X,ac⟩:=C0 (uR ag m))
    |(go_at_call 72;have hc:=yth ag x y z e aj.out;(with_reducible refine hc.mono ?_);clear hc;rintro d l ⟨rfl,F⟩;obtain⟨T,Y,ad⟩:=C0 (uR l m)))
 by_cases g:e=0;(case neg=>have aq:(e !=0)=true:=bne_iff_ne.2 g;have o:i (zok p=e):=(by rw[i,N.out,if_pos g]);clear g;go_wp2_with fail;go_ret;exact⟨K2 o.out.symm,(uB l O)⟩);have aq:(e !=0)=false:=(by rw[g];rfl);have o:i (zok p=L):=(by rw[i,N.out,if_neg (by simp[g])]);clear g;go_wp2_with fail;refine(show D E 76 #[.slice A p.A.length a,.int .i64 (p.B.length:Int),.int .i64 (p.C.length:Int)] l (fun d w'=>d= .returned (.int .i64 L)/\l=w') from by rw[ak.out];exact ytj (uM l M) lB au).mono ?_;rintro d ay ⟨rfl,rfl⟩;go_wp2_with fail;go_ret;exact⟨K2 o.out.symm,(uB l O)⟩
end Go.Proofs.YtlhhbccgfkhflaaGreatDoor
