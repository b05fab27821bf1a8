/-
 Contracts of the verifier's kit:Gcd,a,b.
-/
import Derived.Test.YtpbilanpeioonaaGreatDoorDpv06
namespace Go.Proofs.YtpbilanpeioonaaGreatDoor
open Go.RowKit
set_option linter.unusedVariables false
set_option maxRecDepth 100000
set_option maxHeartbeats 8000000
open _root_.Go.Lib renaming hid → i
open _root_.Nat renaming le_refl → p, le_trans → x, lt_or_ge → q, zero_le → C
open _root_.List renaming getD_eq_getElem?_getD → A, getElem?_eq_getElem → w, length_map → y, getElem?_map → s
open _root_.Go.RowKit.Below renaming refl → d
open _root_.Go renaming World → o, Calls → t
open _root_.Go.RowKit renaming Hid → e
open _root_.Go.Proofs.Tryz renaming prog → u
variable {S : Nat → Prop} {b c g j k n : Nat} {f : Nat → Rat} {l : List Raw} {m : List (List Raw)} {qs : List Rat} {r : Raw} {v h z : Value}
theorem zz1491 (m n:Nat):Int.tmod (m:Int) (n:Int)=((m%n:Nat):Int):=rfl
theorem yjm {w:o} {a:Nat} (ha:a<=4611686018427387904) (j:b<=4611686018427387904):
 t u 77 #[.int .i64 (a:Int),.int .i64 (b:Int)] w fun i w'=>i= .returned (.int .i64 ((Nat.gcd a b:Nat):Int))/\Dr w w':=by
 go_in;go_wp2_with fail;go_loopw [0,1] (fun x y wr=>∃m n:Nat,x= .int .i64 (m:Int)/\y= .int .i64 (n:Int)/\e (Nat.gcd m n=Nat.gcd a b)/\m<=4611686018427387904/\n<=4611686018427387904/\Dr w wr) (fun _ y _=>(intOf y).toNat);case atStart=>exact⟨a,b,rfl,rfl,rfl,ha,j,Dr.refl _⟩
 case round=>
  obtain⟨m,n,rfl,rfl,f,q,l,⟨k,rfl⟩⟩:=hrel;rcases Nat.eq_zero_or_pos n with c|c
  ·have g:e (m=Nat.gcd a b):=(by rw[e,<-f.out,c,Nat.gcd_zero_right]);have h:((n:Int) !=0)=false:=(by rw[c];rfl);have r:max (m:Int) (-(m:Int))=(m:Int):=og;subst c;go_wp2_with fail;go_ret;exact⟨by show Ending.returned (.int .i64 _)=_;rw[<-g.out],⟨k,rfl⟩⟩
  ·have h:((n:Int) !=0)=true:=bne_iff_ne.2 og;have b2:(n:Int)≠0:=og;have s:=zz1491 m n;have p:m%n<n:=Nat.mod_lt _ c;go_wp2_with fail;go_quiet (fail);go_wp2_with fail;have d:(m:Int)%(n:Int)=((m%n:Nat):Int):=rfl;go_roundw;(case rel=>exact⟨n,m%n,rfl,by rw[d],by rw[e,Nat.gcd_comm,<-Nat.gcd_rec,Nat.gcd_comm];exact f.out,l,by omega,⟨k+nq,by simp[World.drewN,Nat.add_assoc]⟩⟩);case measure=>rw[d];simp[intOf];omega
theorem yxw (h:n≠0):A9 n=(n%1000000000)::A9 (n/1000000000):=zpq h
theorem zzx {w:o} (z:n<=4611686018427387904):
 t u 78 #[.int .i64 (n:Int)] w fun q w'=>(∃v,q= .returned v/\IsN w' w.heap.size w'.heap.size v n)/\Below w.heap.size w w':=by
 have k:e ((A9 n).length<=3):=lim_len_le.2 (by have:pw 3=1000000000000000000000000000:=rfl;omega);go_in;go_wp2_with fail;go_loopw [0,3] (fun x v wr=>∃(m:Nat) (l:List Nat),x= .int .i64 (m:Int)/\m<=4611686018427387904/\Own wr w.heap.size 118 v (E7 .u32 l)/\Below w.heap.size w wr/\e (A9 n=l++A9 m)) (fun x _ _=>(intOf x).toNat);case atStart=>exact⟨n,[],rfl,z,Own.nil _ _ _,d _ _,rfl⟩
 case round=>
  obtain⟨m,l,rfl,E,h,a,c⟩:=hrel;rcases Nat.eq_zero_or_pos m with b|b
  ·have j:e (A9 n=l):=(by rw[e,c.out,b,O7,List.append_nil]);have p:¬((m:Int)>0):=og;subst b;have C:=a;go_wp2_with fail;go_ret;refine⟨⟨_,rfl,?_⟩,a⟩;have g:=h.isL;rw[<-j.out] at g;exact g
  ·have p:(m:Int)>0:=og;have B:Int.tmod (m:Int) 1000000000=((m%1000000000:Nat):Int):=rfl;have A:Int.tdiv (m:Int) 1000000000=((m/1000000000:Nat):Int):=rfl;have D:m%1000000000<1000000000:=Nat.mod_lt _ og;have y:e ((E7 .u32 l).length<=100):=(by rw[e,zmp];have:=congrArg List.length c.out;rw[List.length_append] at this;have:=k.out;omega);have r:w.heap.size<=wr.heap.size:=a.size;go_wp2_with (at_builtin;refine zly W5 rfl _ _ rfl rfl h rfl rfl (oh y) r ?_;intro G H i s F);have f:(m:Int)/1000000000=((m/1000000000:Nat):Int):=rfl;rw[zln .u32 l (m%1000000000) _ og] at i;go_roundw;(case rel=>exact⟨m/1000000000,l++[m%1000000000],by rw[f],by omega,i,a.trans s,by rw[e,c.out,yxw og];simp⟩);case measure=>rw[f];simp[intOf];omega
def Y8 (a:Int) (b:Nat):Rat:=mkRat a b
theorem zvz {a:Int} (ha:a.natAbs<=4611686018427387904) (e:b<=4611686018427387904) (c:b≠0):Sz (Y8 a b) 3:=by have d:pw 3=1000000000000000000000000000:=rfl;exact yfn c (lim_len_le.2 og) (lim_len_le.2 og)
theorem ymv {neg:Bool} {d:Nat} (hd:d≠0) (a:g=Nat.gcd n d) (b:n=0->neg=false):E9 (Y8 (sg neg n) d)=⟨neg,A9 (n/g),A9 (d/g)⟩:=by
 unfold Y8;subst a;rcases Nat.eq_zero_or_pos n with h|h
 ·subst h;rw[zyb,Rat.zero_mkRat,yaq,Nat.zero_div,Nat.gcd_zero_left,Nat.div_self og,O7,zkv,b rfl]
 ·exact zxr og hd
theorem zxq {w:o} {a:Int} (ha:a.natAbs<=4611686018427387904) (P:b<=4611686018427387904) (y:b≠0):
 t u 22 #[.int .i64 a,.int .i64 (b:Int)] w (L5 w (Y8 a b)):=by
 obtain⟨n,T⟩:=nm (a.natAbs);obtain⟨g,l⟩:=nm (Nat.gcd n b);have ae:0<g:=(by rw[l];exact Nat.gcd_pos_of_pos_right _ og);have aB:n/g<=n:=Nat.div_le_self _ _;have S:b/g<=b:=Nat.div_le_self _ _;obtain⟨M,av⟩:=C7 l y;obtain⟨W,U,Q,V,N⟩:=J7 w #[.bool false,.slice none 0 0,.slice none 0 0] 37;obtain⟨O,L⟩:=C7 V Q;clear V Q;rcases(by omega:a<0\/0<=a) with aj|aC
 ·have ea:a= -(n:Int):=og;have ai:0<n:=og;have R:g∣n:=(by rw[l];exact Nat.gcd_dvd_left _ _);have ak:0<n/g:=Nat.div_pos (Nat.le_of_dvd ai R) ae;have A:e (E9 (Y8 a b)=⟨true,A9 (n/g),A9 (b/g)⟩):=(by rw[e,ea];exact ymv (neg:=true) y l (fun h=>by omega));rw[ea] at A⊢;have ah:max (-(n:Int)) (n:Int)=(n:Int):=og;have az:Int.tdiv (-(n:Int)) (g:Int)= -((n/g:Nat):Int):=(by rw[Int.neg_tdiv];rfl);have aA: -((n/g:Nat):Int)<0:=(by have:(0:Int)<((n/g:Nat):Int):=Int.natCast_pos.2 ak;exact Int.neg_neg_of_pos this);have b2:(g:Int)≠0:=og;have I:wrap64 ((b:Int)/(g:Int))=((b/g:Nat):Int):=(by rw[show(b:Int)/(g:Int)=((b/g:Nat):Int) from rfl];(generalize b/g=q at S⊢;unfold wrap64;omega));have K:n<=4611686018427387904:=og;clear l y T ha ea aj R;go_in;go_wp2_with fail;clear U;refine(yjm (a:=n) (b:=b) K P).mono ?_;rw[<-M.out];rintro x f ⟨rfl,hd⟩;have c:=hd.below W.heap.size;have s:=nB L c;have D:=i c.size;have E:=i (O.out.next c);clear hd c;go_wp2_with fail;go_quiet (fail);go_wp2_with fail;rw[show(n:Int)/(g:Int)=((n/g:Nat):Int) from rfl];refine(zzx (n:=n/g) og).mono ?_;rintro x ar ⟨⟨ao,rfl,m⟩,z⟩;have k:=C8 (Dr.below (⟨nq,rfl⟩:Dr f (f.drewN nq)) f.heap.size) z;have B:=nB s k;obtain⟨v,F⟩:=C7 (E.out.next k) (IsK.stb.le (zqi m) (m:=w.heap.size+1) (by have J:=N.out;have af:=s.out.size;have ag:=D.out;show _<=f.heap.size;omega));obtain⟨X,al,rfl,_,_,_⟩:=id m;clear m z k;go_wp2_with fail;(try rw[I])
  refine(zzx (n:=b/g) og).mono ?_;rintro x au ⟨⟨aq,rfl,r⟩,d⟩;have C:=nB B d;obtain⟨j,H,G⟩:=H7 (v.out.next d) (IsK.stb.le (zqi r) (m:=w.heap.size+1) (by have J:=v.out.lt;omega)) (IsK.stb.fresh F.out d);obtain⟨Y,an,rfl,_,_,_⟩:=id r;obtain⟨d0,Z,aa⟩:=C4 j.out;obtain⟨ab,ac,ad⟩:=F6 j.out;clear r d;go_wp2_with fail;exact T6 Tryz.results22 rfl rfl (Row.put3 j.out _ _ _) (zmv A.out C.out (p _) G.out H.out og og)
 ·have ea:a=(n:Int):=og;have A:e (E9 (Y8 a b)=⟨false,A9 (n/g),A9 (b/g)⟩):=(by rw[e,ea];exact ymv (neg:=false) y l (fun _=>rfl));subst ea;have ah:max (n:Int) (-(n:Int))=(n:Int):=og;have ay:¬((n/g:Nat):Int)<0:=Int.not_lt.2 (Int.natCast_nonneg _);have b2:(g:Int)≠0:=og;have I:wrap64 ((b:Int)/(g:Int))=((b/g:Nat):Int):=(by rw[show(b:Int)/(g:Int)=((b/g:Nat):Int) from rfl];(generalize b/g=q at S⊢;unfold wrap64;omega));have K:n<=4611686018427387904:=og;clear l y T ha;go_in;go_wp2_with fail;clear U;refine(yjm (a:=n) (b:=b) K P).mono ?_;rw[<-M.out];rintro x f ⟨rfl,hd⟩;have c:=hd.below W.heap.size;have s:=nB L c;have D:=i c.size;have E:=i (O.out.next c);clear hd c;go_wp2_with fail;go_quiet (fail);go_wp2_with fail;rw[show(n:Int)/(g:Int)=((n/g:Nat):Int) from rfl];refine(zzx (n:=n/g) og).mono ?_;rintro x ar ⟨⟨ao,rfl,m⟩,z⟩;have k:=C8 (Dr.below (⟨nq,rfl⟩:Dr f (f.drewN nq)) f.heap.size) z;have B:=nB s k;obtain⟨v,F⟩:=C7 (E.out.next k) (IsK.stb.le (zqi m) (m:=w.heap.size+1) (by have J:=N.out;have af:=s.out.size;have ag:=D.out;show _<=f.heap.size;omega));obtain⟨X,al,rfl,_,_,_⟩:=id m;clear m z k;go_wp2_with fail;(try rw[I])
  refine(zzx (n:=b/g) og).mono ?_;rintro x au ⟨⟨aq,rfl,r⟩,d⟩;have C:=nB B d;obtain⟨j,H,G⟩:=H7 (v.out.next d) (IsK.stb.le (zqi r) (m:=w.heap.size+1) (by have J:=v.out.lt;omega)) (IsK.stb.fresh F.out d);obtain⟨Y,an,rfl,_,_,_⟩:=id r;obtain⟨d0,Z,aa⟩:=C4 j.out;obtain⟨ab,ac,ad⟩:=F6 j.out;clear r d;go_wp2_with fail;exact T6 Tryz.results22 rfl rfl (Row.put3 j.out _ _ _) (zmv A.out C.out (p _) G.out H.out og og)
abbrev RV:=Nat->Rat
def Z5 (a:List RV->Rat) (c:Nat):List RV->List RV->Rat
 |_,[]=>0
 |pre,v::post=>v c*a (pre++post)-Z5 a c (pre++[v]) post
def Y4:List Nat->List RV->Rat
 |[],[]=>1
 |[],_::_=>0
 |c::cs,rows=>Z5 (Y4 cs) c [] rows
def ybq (c:List RV->Rat):Prop:=∀(d e:List RV) (f v:RV) (a b:Rat),c (d++(fun x=>a*f x+b*v x)::e)=a*c (d++f::e)+b*c (d++v::e)
def ybo (b:List RV->Rat):Prop:=∀(c d:List RV) (a:RV),b (c++a::a::d)=0
theorem yqt {f:List RV->Rat} (h:ybq f) (c:Nat) (g v:RV) (a b:Rat) (e:List RV):∀X d:List RV,Z5 f c (X++(fun x=>a*g x+b*v x)::d) e=a*Z5 f c (X++g::d) e+b*Z5 f c (X++v::d) e:=by
 induction e with
 |nil=>intro X d;simp only[Z5];grind
 |cons q e ih=>intro X d;have i:=h X (d++e) g v a b;have j:=ih X (d++[q]);simp only[Z5,List.append_assoc,List.cons_append] at i j⊢;rw[i,j];grind
theorem yqs {g:List RV->Rat} (h:ybq g) (c:Nat) (d e:List RV) (i v:RV) (a b:Rat):∀pre:List RV,Z5 g c pre (d++(fun x=>a*i x+b*v x)::e)=a*Z5 g c pre (d++i::e)+b*Z5 g c pre (d++v::e):=by
 induction d with
 |nil=>intro pre;have f:=yqt h c i v a b e pre [];simp only[Z5,List.nil_append] at f⊢;rw[f];grind
 |cons k d ih=>intro pre;have f:=h (pre++d) e i v a b;have j:=ih (pre++[k]);simp only[Z5,List.append_assoc,List.cons_append] at f j⊢;rw[f,j];grind
theorem zvd (f:List Nat):ybq (Y4 f):=by
 induction f with
 |nil=>intro d e h v a b;have g:∀w:RV,Y4 [] (d++w::e)=0:=fun w=>(by cases d<;>rfl);rw[g,g,g];grind
 |cons c f ih=>intro d e h v a b;exact yqs ih c d e h v a b []
theorem yqo {e:List RV->Rat} (h:ybo e) (c:Nat) (d:RV) (b:List RV):∀X a:List RV,Z5 e c (X++d::d::a) b=0:=by
 induction b with
 |nil=>intro X a;rfl
 |cons q b ih=>intro X a;have f:=h X (a++b) d;have g:=ih X (a++[q]);simp only[Z5,List.append_assoc,List.cons_append] at f g⊢;rw[f,g];grind
theorem yqn {f:List RV->Rat} (h:ybo f) (c:Nat) (b e:List RV) (d:RV):∀pre:List RV,Z5 f c pre (b++d::d::e)=0:=by
 induction b with
 |nil=>intro pre;have a:=yqo h c d e pre [];simp only[Z5,List.nil_append,List.append_assoc,List.cons_append] at a⊢;rw[a];grind
 |cons i b ih=>intro pre;have a:=h (pre++b) e d;have g:=ih (pre++[i]);simp only[Z5,List.append_assoc,List.cons_append] at a g⊢;rw[a,g];grind
theorem zyy (b:List Nat):ybo (Y4 b):=by
 induction b with
 |nil=>intro a d e;cases a<;>rfl
 |cons c b ih=>intro a d e;exact yqn ih c a d e []
theorem yth (d:List Nat) (b c:List RV) (a v:RV):Y4 d (b++a::v::c)= -Y4 d (b++v::a::c):=by have g:=zyy d b c (fun x=>1*a x+1*v x);have h:=zvd d b ((fun x=>1*a x+1*v x)::c) a v 1 1;have e:=zvd d (b++[a]) c a v 1 1;have f:=zvd d (b++[v]) c a v 1 1;have i:=zyy d b c a;have j:=zyy d b c v;simp only[List.append_assoc,List.cons_append,List.nil_append] at e f;rw[g,e,f,i,j] at h;grind
theorem yte (d:List Nat) (b:RV) (c R:List RV):∀a:List RV,Y4 d (a++b::(R++b::c))=0:=by
 induction R with
 |nil=>intro a;exact zyy d a c b
 |cons r R ih=>intro a;have e:=yth d a (R++b::c) b r;have f:=ih (a++[r]);simp only[List.append_assoc,List.cons_append,List.nil_append] at e f⊢;rw[e,f];grind
theorem yqp {b d:List RV->Rat} {k:Rat} {w:RV} (hF:∀r:List RV,r.length=n->b (r++[w])=d r*k) (g:w c=0) (a:List RV):∀pre:List RV,pre.length+a.length=n+1->Z5 b c pre (a++[w])=Z5 d c pre a*k:=by
 induction a with
 |nil=>intro pre _;simp only[Z5,List.nil_append,g];grind
 |cons m a ih=>intro pre h;have e:=hF (pre++a) (by simp at h⊢;omega);have f:=ih (pre++[m]) (by simp at h⊢;omega);simp only[Z5,List.append_assoc,List.cons_append] at e f⊢;rw[e,f];grind
theorem ytd {w:RV} (x:Nat) (d:List Nat) (e:∀c∈d,w c=0):∀b:List RV,b.length=d.length->Y4 (d++[x]) (b++[w])=Y4 d b*w x:=by
 induction d with
 |nil=>
  intro b h;cases b with
  |nil=>simp only[List.nil_append,Y4,Z5];grind
  |cons m b=>simp at h
 |cons c d ih=>intro b h;exact yqp (n:=d.length) (fun r hr=>ih (fun a ha=>e a (by simp[ha])) r hr) (e c (by simp)) b [] (by simpa using h)
inductive Spn (Ms:List RV):RV->Prop
 |row (v:RV):v∈Ms->Spn Ms v
 |lin (a b:Rat) (u v:RV):Spn Ms u->Spn Ms v->Spn Ms (fun x=>a*u x+b*v x)
theorem Spn.mono {c d:List RV} (h:∀v∈c,v∈d) {v:RV} (hv:Spn c v):Spn d v:=by
 induction hv with
 |row v hv=>exact .row v (h v hv)
 |lin a b g v _ _ e f=>exact .lin a b g v e f
def C9 (n:Nat) (f:Nat->Rat):Rat:=match n with
 |0=>0
 |n+1=>C9 n f+f n
theorem U3 {g:Nat->Rat} (h:∀a,a<n->f a=g a):C9 n f=C9 n g:=by
 induction n with
 |zero=>rfl
 |succ n ih=>rw[C9,C9,ih fun a b=>h a og,h n og]
theorem zmf (h:∀a,a<n->f a=0):C9 n f=0:=by
 induction n with
 |zero=>rfl
 |succ n ih=>rw[C9,ih fun a b=>h a og,h n og];grind
theorem znl {a:Nat} (e:a<n) (h:∀j,j<n->j≠a->f j=0):C9 n f=f a:=by
 induction n with
 |zero=>omega
 |succ n ih=>
  rw[C9];rcases q a n with b|b
  ·rw[ih b fun j c d=>h j og d,h n og og];grind
  ·obtain rfl:a=n:=og;rw[zmf fun j c=>h j og og];grind
theorem zpa (n:Nat) (a:Rat) (f:Nat->Rat):C9 n (fun b=>a*f b)=a*C9 n f:=by
 induction n with
 |zero=>simp only[C9];grind
 |succ n ih=>rw[C9,C9,ih];grind
theorem zuw (n:Nat) (f g:Nat->Rat):C9 n (fun a=>f a+g a)=C9 n f+C9 n g:=by
 induction n with
 |zero=>simp only[C9];grind
 |succ n ih=>rw[C9,C9,C9,ih];grind
def zrb (v:RV):Prop:=∀x,∃z:Int,v x=(z:Rat)
theorem yqq {g:List RV->Rat} (hF:∀r:List RV,(∀v∈r,zrb v)->∃z:Int,g r=(z:Rat)) (c:Nat) (post:List RV):∀pre:List RV,(∀v∈pre,zrb v)->(∀v∈post,zrb v)->∃z:Int,Z5 g c pre post=(z:Rat):=by
 induction post with
 |nil=>intro pre _ _;exact⟨0,rfl⟩
 |cons v post ih=>intro pre i f;obtain⟨a,ha⟩:=f v (by simp) c;obtain⟨b,k⟩:=hF (pre++post) (fun d e=>by rcases List.mem_append.1 e with h|h;exact i d h;exact f d (by simp[h]));obtain⟨j,l⟩:=ih (pre++[v]) (fun d e=>by rcases List.mem_append.1 e with h|h;exact i d h;exact f d (by simp at h;simp[h])) (fun d e=>f d (by simp[e]));refine⟨a*b-j,?_⟩;rw[Z5,ha,k,l,Rat.intCast_sub,Rat.intCast_mul]
theorem ytf (b:List Nat):∀rows:List RV,(∀v∈rows,zrb v)->∃z:Int,Y4 b rows=(z:Rat):=by
 induction b with
 |nil=>
  intro rows _;cases rows with
  |nil=>exact⟨1,rfl⟩
  |cons a l=>exact⟨0,rfl⟩
 |cons c b ih=>intro rows h;exact yqq ih c rows [] (fun v hv=>by cases hv) h
def zky (l:List (Rat×Rat)):Rat:=l.foldl (fun s a=>s+a.1*a.2) 0
def K9 (a b:List Rat):Rat:=zky (a.zip b)
theorem zz1476 (l:List (Rat×Rat)) (x:Rat×Rat):zky (l++[x])=zky l+x.1*x.2:=by simp[zky]
theorem yos:∀(l:List (Rat×Rat)) (s:Rat) (m:Nat),Sz s m->(∀a∈l,Sz a.1 n/\Sz a.2 n)->Sz (l.foldl (fun s a=>s+a.1*a.2) s) (m+l.length*(2*n+1))
 |[],_,_,h,_=>by simpa using h
 |a::l,s,m,h,b=>by
  have:=yos l (s+a.1*a.2) (m+(n+n)+1) (h.add ((b a (List.mem_cons_self ..)).1.mul (b a (List.mem_cons_self ..)).2)|>.le og) fun q c=>b q (List.mem_cons_of_mem _ c)
  exact this.le (by rw[List.length_cons,Nat.add_mul];omega)
theorem yor {l:List (Rat×Rat)} (h:∀a∈l,Sz a.1 n/\Sz a.2 n):Sz (zky l) (1+l.length*(2*n+1)):=yos l 0 1 Sz.zero h
theorem zz1474 (l:List (Rat×Rat)):∀s:Rat,l.foldl (fun s a=>s+a.1*a.2) s=s+zky l:=by
 induction l with
 |nil=>intro s;simp only[List.foldl_nil,zky];grind
 |cons a l ih=>intro s;have b:=ih (s+a.1*a.2);have c:=ih (0+a.1*a.2);simp only[zky,List.foldl_cons] at b c⊢;rw[b,c];grind
theorem yty (x y:Rat) (a b:List Rat):K9 (x::a) (y::b)=x*y+K9 a b:=by have h:=zz1474 (a.zip b) (0+x*y);unfold K9;rw[List.zip_cons_cons];simp only[zky,List.foldl_cons] at h⊢;rw[h];grind
theorem zz1470 (n:Nat) (f:Nat->Rat):C9 (n+1) f=f 0+C9 n fun a=>f (a+1):=by
 induction n with
 |zero=>simp only[C9];grind
 |succ n ih=>rw[C9,ih,C9];grind
theorem zub (a:List Rat):∀b:List Rat,a.length=b.length->K9 a b=C9 a.length fun j=>a.getD j 0*b.getD j 0:=by
 induction a with
 |nil=>intro b _;rfl
 |cons x a ih=>
  intro b h;cases b with
  |nil=>simp at h
  |cons y b=>rw[yty,ih b (by simpa using h),List.length_cons,zz1470];rfl
theorem zz1472 (n a:Nat) (f:Nat->Nat->Rat):C9 n (fun j=>C9 a fun l=>f j l)=C9 a fun l=>C9 n fun j=>f j l:=by
 induction n with
 |zero=>exact(zmf fun c _=>rfl).symm
 |succ n ih=>rw[C9,ih];have b:(C9 a fun l=>C9 (n+1) fun j=>f j l)=C9 a fun l=>(C9 n fun j=>f j l)+f n l:=U3 fun l _=>rfl;rw[b,zuw]
theorem yrt {d:Nat} (hd:0<d):((d:Int):Rat)≠0:=by intro a;have:(d:Int)=0:=Rat.intCast_inj.1 (by rw[a];rfl);omega
theorem ykh {w:o} (h:IsR w S v r):∃A c B d,v= .agg #[.bool r.neg,.slice A r.num.length c,.slice B r.den.length d]/\IsK .u32 w S (.slice A r.num.length c) r.num/\IsK .u32 w S (.slice B r.den.length d) r.den:=h
theorem znt {w:o} {A:Option Addr} {m:Nat} (h:IsV w S (.slice A m c) l) (p:l[j]? =some r):
 ∃b off a k e d,A=some ⟨b,off,none⟩/\S b/\IsR w S (.agg #[.bool r.neg,.slice a r.num.length k,.slice e r.den.length d]) r/\
  w.cell? ⟨b,off+j*3,none⟩=some (.bool r.neg)/\w.cell? ⟨b,off+j*3+1,none⟩=some (.slice a r.num.length k)/\w.cell? ⟨b,off+j*3+2,none⟩=some (.slice e r.den.length d):=by
 obtain⟨b,off,q,i,n,hr,_,hc⟩:=IsS.get h og p;obtain⟨a,k,e,d,rfl,f,g⟩:=hr;refine⟨b,off,a,k,e,d,i,n,⟨a,k,e,d,rfl,f,g⟩,?_,?_,?_⟩
 ·exact hc 0 _ rfl
 ·exact hc 1 _ rfl
 ·exact hc 2 _ rfl
theorem K3 {w:o} (h:IsV w S v l):∃A c,v= .slice A l.length c/\l.length<=9223372036854775807:=by obtain⟨A,c,b,rfl,d,a,_⟩:=h;exact⟨A,c,rfl,by unfold maxLen at a;omega⟩
theorem zrf {w:o} {A:Option Addr} (h:IsM w S (.slice A n c) m) (i:m[j]? =some l):
 ∃b off a k,A=some ⟨b,off,none⟩/\S b/\IsV w S (.slice a l.length k) l/\w.cell? ⟨b,off+j,none⟩=some (.slice a l.length k):=by obtain⟨b,off,p,f,g,hr,_,hc⟩:=IsS.get h og i;obtain⟨a,k,d,rfl,e⟩:=hr;refine⟨b,off,a,k,f,g,⟨a,k,d,rfl,e⟩,?_⟩;have:=hc 0 _ rfl;rw[Nat.mul_one,Nat.add_zero] at this;exact this
theorem zqh {w:o} (h:IsM w S v m):∃A c,v= .slice A m.length c/\m.length<=9223372036854775807:=by obtain⟨A,c,b,rfl,d,a,_⟩:=h;exact⟨A,c,rfl,by unfold maxLen at a;omega⟩
theorem U0:Tryz.prog.cellsOf 37=3:=by kernel_rfl
def O0 (r:Raw):Int:=ztz N2 r
def Z9 (num den:List Nat):Int:=if N2 num≠0 then N2 num else if N2 den≠0 then N2 den else if den=[] then 6 else 0
theorem yht (h:Z9 r.num r.den≠0):O0 r=Z9 r.num r.den:=by
 unfold Z9 at*;unfold O0 ztz;split
 ·rfl
 ·rename_i a;rw[if_neg a] at h;split
  ·rfl
  ·rename_i b;rw[if_neg b] at h;split
   ·rfl
   ·rename_i c;rw[if_neg c] at h;exact absurd rfl h
theorem yhu (h:Z9 r.num r.den=0):O0 r=if(r.num=[]/\r.neg=true)\/Nat.gcd (val r.num) (val r.den)≠1 then 3 else 0:=by
 unfold Z9 at h;unfold O0 ztz;split at h
 ·rename_i a;exact absurd h a
 rename_i a;split at h
 ·rename_i b;exact absurd h b
 rename_i b;split at h
 ·cases h
 rename_i c;rw[if_neg a,if_neg b,if_neg c]
theorem yhs {num den:List Nat} (h:Z9 num den=0):N2 num=0/\N2 den=0/\den≠[]/\val den≠0:=by
 unfold Z9 at h;split at h
 ·rename_i b;exact absurd h b
 rename_i b;split at h
 ·rename_i a;exact absurd h a
 rename_i a;split at h
 ·cases h
 rename_i c;have b:=Decidable.not_not.1 b;have a:=Decidable.not_not.1 a;refine⟨b,a,c,fun d=>c ?_⟩;rw[(zrt a).2.2,d,O7]
theorem ysi (h:O0 r=0):∃q:Rat,r=E9 q:=ysj (fun l a=>(zrt a).2.2) h
theorem zwr {q:Rat} (h:Sz q 1024):O0 (E9 q)=0:=ysk (yhw h.1) (yhw h.2)
def zko:List Int->Int
 |[]=>0
 |e::l=>if e≠0 then e else zko l
theorem yjk {l:List Int} (h:∀j,j<k->l.getD j 0=0):zko l=zko (l.drop k):=by
 induction l generalizing k with
 |nil=>simp
 |cons b l ih=>
  cases k with
  |zero=>rfl
  |succ k=>have a:=h 0 og;simp at a;rw[List.drop_succ_cons,<-ih (k:=k) (fun j c=>by have:=h (j+1) og;simpa using this)];simp[zko,a]
theorem zue {l:List Int} {a:Int} (h:∀j,j<k->l.getD j 0=0) (b:l[k]? =some a) (c:a≠0):zko l=a:=by rw[yjk h];have d:k<l.length:=(List.getElem?_eq_some_iff.1 b).1;rw[List.drop_eq_getElem_cons d];have:l[k]=a:=(List.getElem?_eq_some_iff.1 b).2;rw[this];simp[zko,c]
theorem zvi {l:List Int} (h:∀j,j<l.length->l.getD j 0=0):zko l=0:=by rw[yjk h,List.drop_length];rfl
def zrr (l:List Raw):Int:=zko (l.map O0)
def Y3 (l:List Raw):Int:=if 40<l.length then 4 else zrr l
def znp (m:List (List Raw)):Int:=if 40<m.length then 4 else zko (m.map fun row=>if row.length≠(m.headD []).length then 3 else Y3 row)
theorem ycm (h:∀q∈qs,Sz q 1024):zrr (qs.map E9)=0:=by
 unfold zrr;induction qs with
 |nil=>rfl
 |cons q qs ih=>rw[List.map_cons,List.map_cons,zko,if_neg (by simp[zwr (h q (by simp))])];exact ih fun b a=>h b (by simp[a])
theorem zws (a:qs.length<=40) (h:∀q∈qs,Sz q 1024):Y3 (qs.map E9)=0:=by unfold Y3;rw[if_neg (by simp;omega)];exact ycm h
structure Prog where
 A:List (List Raw)
 B:List Raw
 C:List Raw
def IsP (w:o) (S:Nat->Prop) (v:Value) (d:Prog):Prop:=
 ∃A a B b C c,v= .agg #[.slice A d.A.length a,.slice B d.B.length b,.slice C d.C.length c]/\IsM w S (.slice A d.A.length a) d.A/\IsV w S (.slice B d.B.length b) d.B/\IsV w S (.slice C d.C.length c) d.C
theorem IsP.stb:Stb IsP:=by rintro w w' S T v h ⟨A,a,B,b,C,c,hv,e,f,g⟩ d;exact⟨A,a,B,b,C,c,hv,IsM.stb.to e d,IsV.stb.to f d,IsV.stb.to g d⟩
theorem zwz {w:o} {a b c:Value} {p:Prog} (d:IsM w S a p.A) (e:IsV w S b p.B) (f:IsV w S c p.C):IsP w S (.agg #[a,b,c]) p:=by obtain⟨A,g,rfl,_⟩:=zqh d;obtain⟨B,h,rfl,_⟩:=K3 e;obtain⟨C,i,rfl,_⟩:=K3 f;exact⟨A,g,B,h,C,i,rfl,d,e,f⟩
def zud (m:List (List Raw)) (b c:Nat):Int:=if m.length≠b\/(0<b/\(m.headD []).length≠c) then 10 else 0
def ycl (a:Prog):Int:=zud a.A a.B.length a.C.length
def znq (a:Prog):Int:=if zko [znp a.A,Y3 a.B,Y3 a.C]≠0 then zko [znp a.A,Y3 a.B,Y3 a.C] else ycl a
structure ProgQ where
 A:List (List Rat)
 B:List Rat
 C:List Rat
def C5 (l:List Rat):List Raw:=l.map E9
def J4 (m:List (List Rat)):List (List Raw):=m.map C5
def J6 (a:ProgQ):Prog:=⟨J4 a.A,C5 a.B,C5 a.C⟩
structure Good (p:ProgQ) (k:Nat):Prop where
 rows:p.A.length=p.B.length
 cols:∀row∈p.A,row.length=p.C.length
 szA:∀row∈p.A,∀q∈row,Sz q k
 szB:∀q∈p.B,Sz q k
 szC:∀q∈p.C,Sz q k
 nB:p.B.length<=40
 nC:p.C.length<=40
theorem zty {q:ProgQ} (h:Good q 1024):znq (J6 q)=0:=by
 have k:Y3 (C5 q.B)=0:=zws h.nB h.szB;have l:Y3 (C5 q.C)=0:=zws h.nC h.szC
 have n:∀row∈J4 q.A,row.length=((J4 q.A).headD []).length:=by
  intro row hr;obtain⟨r,b,rfl⟩:=List.mem_map.1 hr;cases d:q.A with
  |nil=>rw[d] at b;cases b
  |cons a o=>simp only[J4,List.map_cons,List.headD_cons,C5,y];rw[h.cols r b,h.cols a (by rw[d];simp)]
 have m:znp (J4 q.A)=0:=(by unfold znp;rw[if_neg (by simp[J4];have:=h.rows;have:=h.nB;omega)];refine zvi fun j f=> ?_;rw[y] at f;rw[A,s,w f];have g:=List.getElem_mem f;simp only[Option.map_some,Option.getD_some];rw[if_neg (by rw[n _ g];simp)];obtain⟨r,b,e⟩:=List.mem_map.1 g;rw[<-e];exact zws (by rw[h.cols r b];exact h.nC) (h.szA r b));unfold znq;(have e:zko [znp (J6 q).A,Y3 (J6 q).B,Y3 (J6 q).C]=0:=by show zko [znp (J4 q.A),Y3 (C5 q.B),Y3 (C5 q.C)]=0;rw[m,k,l];rfl);rw[if_neg (by rw[e];simp)];unfold ycl zud;rw[if_neg];rintro(c|⟨c,i⟩)
 ·exact c (by show(J4 q.A).length=(C5 q.B).length;simp[J4,C5,h.rows])
 ·apply i;show((J4 q.A).headD []).length=(C5 q.C).length;cases d:q.A with
  |nil=>have:=h.rows;rw[d] at this;simp at this;have c:0<(C5 q.B).length:=c;simp[C5] at c;omega
  |cons a o=>simp only[J4,List.map_cons,List.headD_cons,C5,y];exact h.cols a (by rw[d];simp)
theorem yae {w:o} {a b:List Nat} (ha:IsL .u32 w 0 w.heap.size h a) (C:IsL .u32 w 0 w.heap.size z b):t u 163 #[h,z] w fun g w'=>g= .returned (.int .i64 (Z9 a b))/\w=w':=by
 obtain⟨q,s⟩:=C7 ha C;obtain⟨A,c,rfl,_,_,_⟩:=ha;obtain⟨B,d,rfl,_,_,_⟩:=C;obtain⟨x,D⟩:=nm (N2 a);obtain⟨y,E⟩:=nm (N2 b);obtain⟨f,k⟩:=C7 D E;clear D E;by_cases n:x=0;(case neg=>have F:(x !=0)=true:=bne_iff_ne.2 n;have j:e (Z9 a b=x):=(by unfold e Z9;rw[<-f.out,if_pos n]);go_in;go_wp2_with fail;refine(ztx q.out).mono ?_;rw[<-f.out];rintro g m ⟨rfl,rfl⟩;go_wp2_with fail;go_ret;exact⟨I9 j.out.symm,rfl⟩);have F:(x !=0)=false:=(by rw[n];rfl);have r:=i n;clear n;by_cases p:y=0;(case neg=>have G:(y !=0)=true:=bne_iff_ne.2 p;have j:e (Z9 a b=y):=(by unfold e Z9;rw[<-f.out,if_neg (by simp[r.out]),<-k.out,if_pos p]);go_in;go_wp2_with fail;refine(ztx q.out).mono ?_;rw[<-f.out];rintro g m ⟨rfl,rfl⟩;go_wp2_with fail;refine(ztx s.out).mono ?_;rw[<-k.out];rintro g m ⟨rfl,rfl⟩;go_wp2_with fail;go_ret;exact⟨I9 j.out.symm,rfl⟩);have G:(y !=0)=false:=(by rw[p];rfl);have v:=i p;clear p;by_cases l:b=[]
 ·have H:((b.length:Int)==0)=true:=(by rw[l];rfl);have j:e (Z9 a b=6):=(by unfold e Z9;rw[<-f.out,if_neg (by simp[r.out]),<-k.out,if_neg (by simp[v.out]),if_pos l]);clear l;go_in;go_wp2_with fail;refine(ztx q.out).mono ?_;rw[<-f.out];rintro g m ⟨rfl,rfl⟩;go_wp2_with fail;refine(ztx s.out).mono ?_;rw[<-k.out];rintro g m ⟨rfl,rfl⟩;go_wp2_with fail;go_ret;exact⟨I9 j.out.symm,rfl⟩
 ·have H:((b.length:Int)==0)=false:=beq_eq_false_iff_ne.2 (by have:=List.length_pos_iff.2 l;omega);have j:e (Z9 a b=0):=(by unfold e Z9;rw[<-f.out,if_neg (by simp[r.out]),<-k.out,if_neg (by simp[v.out]),if_neg l]);clear l;go_in;go_wp2_with fail;refine(ztx q.out).mono ?_;rw[<-f.out];rintro g m ⟨rfl,rfl⟩;go_wp2_with fail;refine(ztx s.out).mono ?_;rw[<-k.out];rintro g m ⟨rfl,rfl⟩;go_wp2_with fail;go_ret;exact⟨I9 j.out.symm,rfl⟩
theorem yig {w:o} {a b:List Nat} (ea:a=A9 (val a)) (eb:b=A9 (val b)) (ha:IsN w 0 w.heap.size h (val a)) (i:IsN w 0 w.heap.size z (val b)) (g:Bru w) (e:(A9 (val a)).length<=1024) (f:(A9 (val b)).length<=1024):
 t u 164 #[h,z] w fun d w'=>(∃c:Bool,d= .returned (.bool c)/\(c=true↔Nat.gcd (val a) (val b)=1))/\Below w.heap.size w w':=
 ysy ha i g (x e og) (x f og)
theorem zvc {w:o} (h:IsR w (C6 w) v r) (V:Bru w):t u 105 #[v] w fun a w'=>a= .returned (.int .i64 (O0 r))/\Below w.heap.size w w':=by
 obtain⟨A,H,B,I,rfl,T,U⟩:=ykh h;obtain⟨j,ab,z,J,ae⟩:=J7 w #[.bool r.neg,.slice A r.num.length H,.slice B r.den.length I] 37;obtain⟨m,y,M⟩:=H7 (IsK.isL (IsK.stb.next T z) (lo:=0) (hi:=j.heap.size) fun b d=>⟨C _,d⟩) (IsK.isL (IsK.stb.next U z) (lo:=0) (hi:=j.heap.size) fun b d=>⟨C _,d⟩) (Bru.next V z);clear V;obtain⟨Y,af,ag⟩:=C4 J;obtain⟨ac,F⟩:=C7 J z;have ah:r.num.length<=9223372036854775807:=(by have:=m.out.length_le;unfold maxLen at this;omega);clear h T U J z;obtain⟨x,X⟩:=nm (Z9 r.num r.den);have f:=i X;clear X;by_cases n:x=0;(case neg=>have Z:(x !=0)=true:=bne_iff_ne.2 n;have c:e (O0 r=x):=(by rw[e,f.out];exact yht (by rw[<-f.out];exact n));go_in;go_wp2_with fail;refine(yae m.out y.out).mono ?_;rw[<-f.out];rintro a E ⟨rfl,rfl⟩;go_wp2_with fail;go_ret;exact⟨I9 c.out.symm,F.out⟩);have Z:(x !=0)=false:=(by rw[n];rfl);have g:=yhs (num:=r.num) (den:=r.den) (by rw[<-f.out];exact n);obtain⟨G,ad,O,N⟩:=U2 (yhu (r:=r) (by rw[<-f.out];exact n)) g (m.out.isN g.1) (y.out.isN g.2.1);have S:=(zrt g.1).2.2;have R:=(zrt g.2.1).2.2;obtain⟨Q,P⟩:=C7 (zyq g.1) (zyq g.2.1);clear g n;obtain⟨L,K⟩:=C7 S R;clear S R;obtain⟨s,W⟩:=nm (r.neg);rw[<-W] at Y ab G⊢;clear W;by_cases l:r.num=[]
 ·have aa:((r.num.length:Int)==0)=true:=(by rw[l];rfl);cases s with
  |true=>have c:e (O0 r=3):=(by rw[e,G.out,if_pos (.inl ⟨l,rfl⟩)]);clear l;go_in;go_wp2_with fail;refine(yae m.out y.out).mono ?_;rw[<-f.out];rintro a E ⟨rfl,rfl⟩;go_wp2_with fail;go_ret;exact⟨I9 c.out.symm,F.out⟩
  |false=>
   have c:e (O0 r=if Nat.gcd (val r.num) (val r.den)≠1 then 3 else 0):=(by rw[e,G.out];simp);clear l;go_in;go_wp2_with fail;refine(yae m.out y.out).mono ?_;rw[<-f.out];rintro a E ⟨rfl,rfl⟩;go_wp2_with fail;refine(show t u 164 #[.slice A r.num.length H,.slice B r.den.length I] j (fun a w'=>(∃b:Bool,a= .returned (.bool b)/\(b=true↔Nat.gcd (val r.num) (val r.den)=1))/\Below j.heap.size j w') from yig L.out K.out O.out N.out M.out Q.out P.out).mono ?_;rintro a E ⟨⟨b,rfl,d⟩,D⟩;have q:=nB F D;have p:=i d;clear d D;cases b with
   |true=>have k:e (O0 r=0):=(by rw[e,c.out,if_neg (by simp[p.out.1 rfl])]);go_wp2_with fail;go_ret;exact⟨I9 k.out.symm,q.out⟩
   |false=>have k:e (O0 r=3):=(by rw[e,c.out,if_pos (fun h=>Bool.noConfusion (p.out.2 h))]);go_wp2_with fail;go_ret;exact⟨I9 k.out.symm,q.out⟩
 ·have aa:((r.num.length:Int)==0)=false:=beq_eq_false_iff_ne.2 (by have:=List.length_pos_iff.2 l;omega);have c:e (O0 r=if Nat.gcd (val r.num) (val r.den)≠1 then 3 else 0):=(by rw[e,G.out];simp[l]);clear l;go_in;go_wp2_with fail;refine(yae m.out y.out).mono ?_;rw[<-f.out];rintro a E ⟨rfl,rfl⟩;go_wp2_with fail;refine(show t u 164 #[.slice A r.num.length H,.slice B r.den.length I] j (fun a w'=>(∃b:Bool,a= .returned (.bool b)/\(b=true↔Nat.gcd (val r.num) (val r.den)=1))/\Below j.heap.size j w') from yig L.out K.out O.out N.out M.out Q.out P.out).mono ?_;rintro a E ⟨⟨b,rfl,d⟩,D⟩;have q:=nB F D;have p:=i d;clear d D;cases b with
  |true=>have k:e (O0 r=0):=(by rw[e,c.out,if_neg (by simp[p.out.1 rfl])]);go_wp2_with fail;go_ret;exact⟨I9 k.out.symm,q.out⟩
  |false=>have k:e (O0 r=3):=(by rw[e,c.out,if_pos (fun h=>Bool.noConfusion (p.out.2 h))]);go_wp2_with fail;go_ret;exact⟨I9 k.out.symm,q.out⟩
theorem yvm (h:l[j]? =some r):(l.map O0).getD j 0=O0 r:=by rw[A,s,h];rfl
theorem zob {a:Type} {l:List a} (h:j<l.length):∃x,l[j]? =some x:=⟨_,w h⟩
theorem zto {w:o} (h:IsV w (C6 w) v l) (L:Bru w):
 t u 104 #[v] w fun F w'=>F= .returned (.int .i64 (Y3 l))/\Below w.heap.size w w':=by
 obtain⟨O,I⟩:=C7 h L;clear L;obtain⟨A,c,rfl,ae⟩:=K3 h;clear h;by_cases G:40<l.length
 ·have m:e (Y3 l=4):=(by unfold e Y3;rw[if_pos G]);go_in;go_wp2_with fail;go_ret;exact⟨I9 m.out.symm,d _ _⟩
 ·have m:e (Y3 l=zrr l):=(by unfold e Y3;rw[if_neg G]);have aa:l.length<=40:=og;clear G;go_in;go_wp2_with fail;go_loopw [11] (fun H wr=>∃k:Nat,k<=l.length/\H= .int .i64 (k:Int)/\Below w.heap.size w wr/\e (∀j,j<k->(l.map O0).getD j 0=0)) (fun H _=>l.length-(intOf H).toNat);case atStart=>exact⟨0,C _,rfl,d _ _,fun j R=>by omega⟩
  case round=>
   obtain⟨k,ad,rfl,z,hrel⟩:=hrel;have f:=i z;have E:=i hrel.out;clear hrel;rcases q k l.length with S|ac
   ·obtain⟨r,hr⟩:=zob S;obtain⟨b,off,U,af,V,ag,rfl,ab,M,W,X,Y⟩:=znt (IsV.stb.next O.out z) hr;obtain⟨J,K⟩:=C7 M hr;have Z:=U0;obtain⟨x,N⟩:=nm (O0 r);have n:=i N;clear M hr z N;by_cases a:x=0
    ·have Q:(x !=0)=false:=(by rw[a];rfl);have P:=i a;clear a;go_wp2_with fail;refine(zvc (IsR.stb.next J.out ((d _ _).alloc (p _) _)) (Bru.next (Bru.next I.out f.out) ((d _ _).alloc (p _) _))).mono ?_;rw[<-n.out];rintro F T ⟨rfl,g⟩;have B:=i (C8 f.out ((d _ _).alloc (p _) _|>fun h=>C8 h g));clear g;go_wp2_with fail;go_roundw
     case rel=>
      refine⟨k+1,by omega,by go_num,B.out,fun j R=> ?_⟩;rcases q j k with h|h
      ·exact E.out j h
      ·obtain rfl:j=k:=og;rw[yvm K.out,<-n.out,P.out]
     case measure=>simp[intOf];omega
    ·have Q:(x !=0)=true:=bne_iff_ne.2 a;have D:e (Y3 l=x):=(by rw[e,m.out];exact zue E.out (by rw[s,K.out,n.out];rfl) a);clear a;go_wp2_with fail;refine(zvc (IsR.stb.next J.out ((d _ _).alloc (p _) _)) (Bru.next (Bru.next I.out f.out) ((d _ _).alloc (p _) _))).mono ?_;rw[<-n.out];rintro F T ⟨rfl,g⟩;have B:=i (C8 f.out ((d _ _).alloc (p _) _|>fun h=>C8 h g));clear g;go_wp2_with fail;go_ret;exact⟨I9 D.out.symm,B.out⟩
   ·obtain rfl:k=l.length:=og;have D:e (Y3 l=0):=(by rw[e,m.out];exact zvi (by rw[y];exact E.out));clear z;go_wp2_with fail;go_ret;exact⟨I9 D.out.symm,f.out⟩
def zrs (n:Nat) (row:List Raw):Int:=if row.length≠n then 3 else Y3 row
theorem ysh (m:List (List Raw)):znp m=if 40<m.length then 4 else zko (m.map (zrs (m.headD []).length)):=rfl
theorem yvn {r:List Raw} (h:m[j]? =some r):(m.map (zrs n)).getD j 0=zrs n r:=by rw[A,s,h];rfl
theorem yvh {w:o} (h:IsM w (C6 w) v m) (V:Bru w):
 t u 103 #[v] w fun I w'=>I= .returned (.int .i64 (znp m))/\Below w.heap.size w w':=by
 obtain⟨P,Q⟩:=C7 h V;clear V;obtain⟨A,c,rfl,au⟩:=zqh h;clear h;by_cases J:40<m.length
 ·have r:e (znp m=4):=(by unfold e znp;rw[if_pos J]);go_in;go_wp2_with fail;go_ret;exact⟨I9 r.out.symm,d _ _⟩
 ·have al:m.length<=40:=og;obtain⟨n,K⟩:=nm ((m.headD []).length);have r:e (znp m=zko (m.map (zrs n))):=(by rw[e,ysh,if_neg J,K]);have Z:=i K;clear J K;go_in;go_wp2_with fail;go_loopw [11] (fun O wr=>∃k:Nat,k<=m.length/\O= .int .i64 (k:Int)/\Below w.heap.size w wr/\e (∀j,j<k->(m.map (zrs n)).getD j 0=0)) (fun O _=>m.length-(intOf O).toNat);case atStart=>exact⟨0,C _,rfl,d _ _,fun j af=>by omega⟩
  case round=>
   obtain⟨k,ar,rfl,B,hrel⟩:=hrel;have f:=i B;have D:=i hrel.out;clear hrel;rcases q k m.length with X|aq
   ·obtain⟨row,M⟩:=zob X;obtain⟨F,E⟩:=zob (show 0<m.length by omega);obtain⟨b,off,ah,ay,rfl,an,W,ak⟩:=zrf (IsM.stb.next P.out B) M;obtain⟨aj,aA,ai,az,U,ao,ae,ab⟩:=zrf (IsM.stb.next P.out B) E;simp only[Option.some.injEq,Addr.mk.injEq,and_true] at U;obtain⟨rfl,rfl⟩:=U;rw[Nat.add_zero] at ab
    have L:e (F.length=n):=by
     rw[e,Z.out];cases m with
     |nil=>simp at X
     |cons a aB=>simp at E;rw[<-E];rfl
    obtain⟨R,H⟩:=C7 W M;have av:0<m.length:=og;clear W M B ae E;by_cases g:row.length=F.length
    case neg=>
     have ad:((row.length:Int) !=(F.length:Int))=true:=bne_iff_ne.2 og
     have p:e (znp m=3):=by
      rw[e,r.out];refine zue D.out (by rw[s,H.out];rfl) ?_|>.trans ?_
      ·unfold zrs;rw[if_pos (by rw[<-L.out];exact g)];decide
      ·unfold zrs;rw[if_pos (by rw[<-L.out];exact g)]
     clear g;go_wp2_with fail;go_ret;exact⟨I9 p.out.symm,f.out⟩
    have ad:((row.length:Int) !=(F.length:Int))=false:=(by rw[g];simp);have Y:=i g;clear g;obtain⟨x,N⟩:=nm (Y3 row);have S:=i N;have T:e (zrs n row=x):=(by rw[e,N];unfold zrs;rw[if_neg (by rw[<-L.out];simp[Y.out])]);clear N;by_cases l:x=0
    ·have ac:(x !=0)=false:=(by rw[l];rfl);have aa:=i l;clear l;go_wp2_with fail;refine(zto R.out (Bru.next Q.out f.out)).mono ?_;rw[<-S.out];rintro I ag ⟨rfl,z⟩;have G:=nB f z;clear z;go_wp2_with fail;go_roundw
     case rel=>
      refine⟨k+1,by omega,by go_num,G.out,fun j af=> ?_⟩;rcases q j k with h|h
      ·exact D.out j h
      ·obtain rfl:j=k:=og;rw[yvn H.out,T.out,aa.out]
     case measure=>simp[intOf];omega
    ·have ac:(x !=0)=true:=bne_iff_ne.2 l;have p:e (znp m=x):=(by rw[e,r.out];exact zue D.out (by rw[s,H.out,<-T.out];rfl) l);clear l;go_wp2_with fail;refine(zto R.out (Bru.next Q.out f.out)).mono ?_;rw[<-S.out];rintro I ag ⟨rfl,z⟩;have G:=nB f z;clear z;go_wp2_with fail;go_ret;exact⟨I9 p.out.symm,G.out⟩
   ·obtain rfl:k=m.length:=og;have p:e (znp m=0):=(by rw[e,r.out];exact zvi (by rw[y];exact D.out));clear B;go_wp2_with fail;go_ret;exact⟨I9 p.out.symm,f.out⟩
theorem yvf {w:o} {x y z:Int} (r:w.cell? ⟨g,0,none⟩=some (.int .i64 x)) (s:w.cell? ⟨g,1,none⟩=some (.int .i64 y)) (v:w.cell? ⟨g,2,none⟩=some (.int .i64 z)):
 t u 102 #[.slice (some ⟨g,0,none⟩) 3 3] w fun b w'=>b= .returned (.int .i64 (zko [x,y,z]))/\w=w':=by
 have hc:e (∀j b,[x,y,z][j]? =some b->w.cell? ⟨g,j,none⟩=some (.int .i64 b)):=by
  intro j b a;match j,a with
  |0,a=>simp at a;rw[<-a];exact r
  |1,a=>simp at a;rw[<-a];exact s
  |2,a=>simp at a;rw[<-a];exact v
 obtain⟨l,m⟩:=nm ([x,y,z]);rw[<-m] at hc⊢;have B:e (l.length=3):=(by rw[m];rfl);clear r s v m;go_in;go_wp2_with fail;go_loop [7] (fun n=>∃k:Nat,k<=3/\n= .int .i64 (k:Int)/\e (∀j,j<k->l.getD j 0=0)) (fun n=>3-(intOf n).toNat);case atStart=>exact⟨0,by omega,rfl,fun j a=>by omega⟩
 case round=>
  obtain⟨k,H,rfl,hrel⟩:=hrel;rcases q k 3 with E|G
  ·obtain⟨b,f⟩:=zob (l:=l) (j:=k) (by rw[B.out];exact E);have F:=hc.out k b f;have p:=i f;clear f;by_cases c:b=0
   ·have D:(b !=0)=false:=(by rw[c];rfl);have C:=i c;clear c;go_wp2_with fail;go_round
    case rel=>
     refine⟨k+1,by omega,by go_num,fun j a=> ?_⟩;rcases q j k with h|h
     ·exact hrel.out j h
     ·obtain rfl:j=k:=og;rw[A,p.out,C.out];rfl
    case measure=>simp[intOf];omega
   ·have D:(b !=0)=true:=bne_iff_ne.2 c;have d:e (zko l=b):=zue hrel.out p.out c;clear c;go_wp2_with fail;go_ret;exact⟨I9 d.out.symm,rfl⟩
  ·obtain rfl:k=3:=og;have d:e (zko l=0):=zvi (by rw[B.out];exact hrel.out);go_wp2_with fail;go_ret;exact⟨I9 d.out.symm,rfl⟩
theorem yve (w:o) (x y z b:Int) (g:b=zko [x,y,z]):t u 102 #[.slice (some ⟨w.heap.size,0,none⟩) 3 3] (w.alloc (.cells #[.int .i64 x,.int .i64 y,.int .i64 z] 40)) fun a w'=>a= .returned (.int .i64 b)/\Below w.heap.size w w':=by have h:Row (w.alloc (.cells #[.int .i64 x,.int .i64 y,.int .i64 z] 40)) w.heap.size 40 [.int .i64 x,.int .i64 y,.int .i64 z]:=heap_alloc_new w _;obtain⟨c,d,e⟩:=C4 h;rw[g];refine(yvf c d e).mono ?_;rintro a w' ⟨f,rfl⟩;exact⟨f,N6 _ _⟩
theorem yvg {w:o} (h:IsM w (C6 w) v m) (F:b<=9223372036854775807) (hc:c<=9223372036854775807):
 t u 106 #[v,.int .i64 (b:Int),.int .i64 (c:Int)] w fun z w'=>z= .returned (.int .i64 (zud m b c))/\w=w':=by
 have s:=i h;obtain⟨A,E,rfl,G⟩:=zqh h;clear h;by_cases f:m.length=b;(case neg=>have B:((m.length:Int) !=(b:Int))=true:=bne_iff_ne.2 og;have d:e (zud m b c=10):=if_pos (.inl f);clear f;go_in;go_wp2_with fail;go_ret;exact⟨I9 d.out.symm,rfl⟩);have B:((m.length:Int) !=(b:Int))=false:=(by rw[f];simp);rcases Nat.eq_zero_or_pos b with j|j
 ·have d:e (zud m b c=0):=if_neg (by rintro(h|⟨h,_⟩)<;>omega);have C:decide (0<b)=false:=decide_eq_false og;have p:b<1:=og;clear f j;go_in;go_wp2_with fail;go_ret;exact⟨I9 d.out.symm,rfl⟩
 ·have C:decide (0<b)=true:=decide_eq_true j;have r:0<m.length:=og;obtain⟨l,k⟩:=zob r;obtain⟨bb,off,D,H,rfl,_,_,y⟩:=zrf s.out k;rw[Nat.add_zero] at y
  have q:(m.headD []).length=l.length:=by
   cases m with
   |nil=>simp at r
   |cons a I=>simp at k;rw[<-k];rfl
  obtain⟨x,n⟩:=C7 f q;clear f k q;by_cases g:l.length=c
  ·have p:((l.length:Int) !=(c:Int))=false:=(by rw[g];simp);have d:e (zud m b c=0):=if_neg (by rw[n.out,x.out];rintro(h|⟨_,h⟩);exact h rfl;exact h g);clear g;go_in;go_wp2_with fail;go_ret;exact⟨I9 d.out.symm,rfl⟩
  ·have p:((l.length:Int) !=(c:Int))=true:=bne_iff_ne.2 og;have d:e (zud m b c=10):=if_pos (.inr ⟨j,by rw[n.out];exact g⟩);clear g;go_in;go_wp2_with fail;go_ret;exact⟨I9 d.out.symm,rfl⟩
theorem ymj {w:o} {p:Prog} (h:IsP w (C6 w) v p) (ae:Bru w):t u 54 #[v] w fun d w'=>d= .returned (.int .i64 (znq p))/\Below w.heap.size w w':=by
 obtain⟨A,a,B,b,C,c,rfl,s,D,E⟩:=h;have lA:=(zqh s).choose_spec.choose_spec.2;have lB:=(K3 D).choose_spec.choose_spec.2;have au:=(K3 E).choose_spec.choose_spec.2;obtain⟨n,ar,g,af,av⟩:=J7 w #[.slice A p.A.length a,.slice B p.B.length b,.slice C p.C.length c] 32;obtain⟨M,ah,ai,m,O,r⟩:=hd6 (IsM.stb.next s g) (IsV.stb.next D g) (IsV.stb.next E g) (af) (g) (Bru.next ae g);clear s D E af g ae;obtain⟨P,U,Z⟩:=C4 m.out;obtain⟨x,I⟩:=nm (znp p.A);obtain⟨y,J⟩:=nm (Y3 p.B);obtain⟨z,K⟩:=nm (Y3 p.C);obtain⟨f,G⟩:=nm (zko [x,y,z]);obtain⟨L,H⟩:=nm (ycl p);have N:e (znq p=if f≠0 then f else L):=(by rw[e,G,I,J,K,H];rfl);obtain⟨al,an,ao,aj,ak⟩:=hd5 I J K G H;clear I J K G H;go_in;go_wp2_with fail;clear ar
 go_region_held3 (fun w'=>w'.cell? ⟨w.heap.size,0,none⟩=some (.slice A p.A.length a)/\w'.cell? ⟨w.heap.size,1,none⟩=some (.slice B p.B.length b)/\w'.cell? ⟨w.heap.size,2,none⟩=some (.slice C p.C.length c))
  (first
    |exact⟨P,U,Z⟩
    |exact⟨Q,V,aa⟩
    |exact⟨R,W,ab⟩
    |exact⟨S,X,ac⟩
    |exact⟨T,Y,ad⟩
    |exact⟨C0 (N6 _ _) P,C0 (N6 _ _) U,C0 (N6 _ _) Z⟩
    |exact⟨C0 (N6 _ _) Q,C0 (N6 _ _) V,C0 (N6 _ _) aa⟩
    |exact⟨C0 (N6 _ _) R,C0 (N6 _ _) W,C0 (N6 _ _) ab⟩
    |exact⟨C0 (N6 _ _) S,C0 (N6 _ _) X,C0 (N6 _ _) ac⟩
    |exact⟨C0 (N6 _ _) T,C0 (N6 _ _) Y,C0 (N6 _ _) ad⟩)
  (first
    |(go_at_call 103;have hc:=(show t u 103 #[.slice A p.A.length a] (World.drew n) (fun d w'=>d= .returned (.int .i64 x)/\Below (World.heap (World.drew n)).size (World.drew n) w') from by rw[al.out];exact yvh (uM n.drew M) (uU n.drew r));(with_reducible refine hc.mono ?_);clear hc;rintro d j ⟨rfl,F⟩;obtain⟨Q,V,aa⟩:=C4 (uR j m))
    |(go_at_call 104;have hc:=(show t u 104 #[.slice B p.B.length b] j (fun d w'=>d= .returned (.int .i64 y)/\Below (World.heap j).size j w') from by rw[an.out];exact zto (uV j ah) (uU j r));(with_reducible refine hc.mono ?_);clear hc;rintro d k ⟨rfl,F⟩;obtain⟨R,W,ab⟩:=C4 (uR k m))
    |(go_at_call 104;have hc:=(show t u 104 #[.slice C p.C.length c] k (fun d w'=>d= .returned (.int .i64 z)/\Below (World.heap k).size k w') from by rw[ao.out];exact zto (uV k ai) (uU k r));(with_reducible refine hc.mono ?_);clear hc;rintro d ag ⟨rfl,F⟩;obtain⟨S,X,ac⟩:=C4 (uR ag m))
    |(go_at_call 102;have hc:=yve ag x y z f aj.out;(with_reducible refine hc.mono ?_);clear hc;rintro d l ⟨rfl,F⟩;obtain⟨T,Y,ad⟩:=C4 (uR l m)))
 by_cases i:f=0;(case neg=>have aq:(f !=0)=true:=bne_iff_ne.2 i;have q:e (znq p=f):=(by rw[e,N.out,if_pos i]);clear i;go_wp2_with fail;go_ret;exact⟨I9 q.out.symm,(uB l O)⟩);have aq:(f !=0)=false:=(by rw[i];rfl);have q:e (znq p=L):=(by rw[e,N.out,if_neg (by simp[i])]);clear i;go_wp2_with fail;refine(show t u 106 #[.slice A p.A.length a,.int .i64 (p.B.length:Int),.int .i64 (p.C.length:Int)] l (fun d w'=>d= .returned (.int .i64 L)/\l=w') from by rw[ak.out];exact yvg (uM l M) lB au).mono ?_;rintro d ay ⟨rfl,rfl⟩;go_wp2_with fail;go_ret;exact⟨I9 q.out.symm,(uB l O)⟩
end Go.Proofs.YtpbilanpeioonaaGreatDoor
