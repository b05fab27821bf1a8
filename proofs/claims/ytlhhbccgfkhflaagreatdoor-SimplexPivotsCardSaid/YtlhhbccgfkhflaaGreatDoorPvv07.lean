/-
 Contracts of the verifier's kit:Gcd,a,b.
-/
import Derived.Test.YtlhhbccgfkhflaaGreatDoorPvv06
namespace Go.Proofs.YtlhhbccgfkhflaaGreatDoor
open Go.RowKit
set_option linter.unusedVariables false
set_option maxRecDepth 100000
set_option maxHeartbeats 8000000
open _root_.Go.Lib renaming hid → o
open _root_.Nat renaming le_refl → p, le_trans → H, lt_or_ge → B, zero_le → G
open _root_.List renaming getD_eq_getElem?_getD → A, getElem?_eq_getElem → I, length_map → F, getElem?_map → C
open _root_.Go.RowKit.Below renaming refl → d
open _root_.Go renaming World → t, Calls → D
open _root_.Go.RowKit renaming Hid → i
open _root_.Go.Proofs.Tryz renaming prog → E
variable {S : Nat → Prop} {b c g j k n : Nat} {f : Nat → Rat} {l : List Raw} {m : List (List Raw)} {qs : List Rat} {r : Raw} {v e h : Value}
theorem zz1446 (m n:Nat):Int.tmod (m:Int) (n:Int)=((m%n:Nat):Int):=rfl
theorem yhm {w:t} {a:Nat} (ha:a<=4611686018427387904) (h:b<=4611686018427387904):
 D E 111 #[.int .i64 (a:Int),.int .i64 (b:Int)] w fun g w'=>g= .returned (.int .i64 ((Nat.gcd a b:Nat):Int))/\Dr w w':=by
 go_in;go_wp2_with fail;go_loopw [0,1] (fun x y wr=>∃m n:Nat,x= .int .i64 (m:Int)/\y= .int .i64 (n:Int)/\i (Nat.gcd m n=Nat.gcd a b)/\m<=4611686018427387904/\n<=4611686018427387904/\Dr w wr) (fun _ y _=>(intOf y).toNat);case atStart=>exact⟨a,b,rfl,rfl,rfl,ha,h,Dr.refl _⟩
 case round=>
  obtain⟨m,n,rfl,rfl,hg,o,j,⟨k,rfl⟩⟩:=hrel;rcases Nat.eq_zero_or_pos n with c|c
  ·have e:i (m=Nat.gcd a b):=(by rw[i,<-hg.out,c,Nat.gcd_zero_right]);have f:((n:Int) !=0)=false:=(by rw[c];rfl);have p:max (m:Int) (-(m:Int))=(m:Int):=og;subst c;go_wp2_with fail;go_ret;exact⟨by show Ending.returned (.int .i64 _)=_;rw[<-e.out],⟨k,rfl⟩⟩
  ·have f:((n:Int) !=0)=true:=bne_iff_ne.2 og;have b2:(n:Int)≠0:=og;have q:=zz1446 m n;have l:m%n<n:=Nat.mod_lt _ c;go_wp2_with fail;go_quiet (fail);go_wp2_with fail;have d:(m:Int)%(n:Int)=((m%n:Nat):Int):=rfl;go_roundw;(case rel=>exact⟨n,m%n,rfl,by rw[d],by rw[i,Nat.gcd_comm,<-Nat.gcd_rec,Nat.gcd_comm];exact hg.out,j,by omega,⟨k+nq,by simp[World.drewN,Nat.add_assoc]⟩⟩);case measure=>rw[d];simp[intOf];omega
theorem ywl (h:n≠0):A9 n=(n%1000000000)::A9 (n/1000000000):=zpb h
theorem zyt {w:t} (u:n<=4611686018427387904):
 D E 112 #[.int .i64 (n:Int)] w fun p w'=>(∃v,p= .returned v/\IsN w' w.heap.size w'.heap.size v n)/\Below w.heap.size w w':=by
 have k:i ((A9 n).length<=3):=lim_len_le.2 (by have:pw 3=1000000000000000000000000000:=rfl;omega);go_in;go_wp2_with fail;go_loopw [0,3] (fun x v wr=>∃(m:Nat) (l:List Nat),x= .int .i64 (m:Int)/\m<=4611686018427387904/\Own wr w.heap.size 140 v (C8 .u32 l)/\Below w.heap.size w wr/\i (A9 n=l++A9 m)) (fun x _ _=>(intOf x).toNat);case atStart=>exact⟨n,[],rfl,u,Own.nil _ _ _,d _ _,rfl⟩
 case round=>
  obtain⟨m,l,rfl,C,g,a,c⟩:=hrel;rcases Nat.eq_zero_or_pos m with b|b
  ·have j:i (A9 n=l):=(by rw[i,c.out,b,N6,List.append_nil]);have o:¬((m:Int)>0):=og;subst b;have A:=a;go_wp2_with fail;go_ret;refine⟨⟨_,rfl,?_⟩,a⟩;have f:=g.isL;rw[<-j.out] at f;exact f
  ·have o:(m:Int)>0:=og;have z:Int.tmod (m:Int) 1000000000=((m%1000000000:Nat):Int):=rfl;have y:Int.tdiv (m:Int) 1000000000=((m/1000000000:Nat):Int):=rfl;have B:m%1000000000<1000000000:=Nat.mod_lt _ og;have s:i ((C8 .u32 l).length<=100):=(by rw[i,zmh];have:=congrArg List.length c.out;rw[List.length_append] at this;have:=k.out;omega);have q:w.heap.size<=wr.heap.size:=a.size;go_wp2_with (at_builtin;refine zlk U9 rfl _ _ rfl rfl g rfl rfl (oh s) q ?_;intro G H h r F);have e:(m:Int)/1000000000=((m/1000000000:Nat):Int):=rfl;rw[zlc .u32 l (m%1000000000) _ og] at h;go_roundw;(case rel=>exact⟨m/1000000000,l++[m%1000000000],by rw[e],by omega,h,a.trans r,by rw[i,c.out,ywl og];simp⟩);case measure=>rw[e];simp[intOf];omega
def zlo (a:Int) (b:Nat):Rat:=mkRat a b
theorem ydk {a:Int} (ha:a.natAbs<=4611686018427387904) (e:b<=4611686018427387904) (c:b≠0):Sz (zlo a b) 3:=by have d:pw 3=1000000000000000000000000000:=rfl;exact zzu c (lim_len_le.2 og) (lim_len_le.2 og)
theorem ylc {neg:Bool} {d:Nat} (hd:d≠0) (hg:g=Nat.gcd n d) (a:n=0->neg=false):C7 (zlo (sg neg n) d)=⟨neg,A9 (n/g),A9 (d/g)⟩:=by
 unfold zlo;subst hg;rcases Nat.eq_zero_or_pos n with h|h
 ·subst h;rw[zuw,Rat.zero_mkRat,zzi,Nat.zero_div,Nat.gcd_zero_left,Nat.div_self og,N6,zkf,a rfl]
 ·exact zwj og hd
theorem zze {w:t} {a:Int} (ha:a.natAbs<=4611686018427387904) (O:b<=4611686018427387904) (u:b≠0):
 D E 48 #[.int .i64 a,.int .i64 (b:Int)] w (N8 w (zlo a b)):=by
 obtain⟨n,S⟩:=nm (a.natAbs);obtain⟨g,hg⟩:=nm (Nat.gcd n b);have ad:0<g:=(by rw[hg];exact Nat.gcd_pos_of_pos_right _ og);have aA:n/g<=n:=Nat.div_le_self _ _;have R:b/g<=b:=Nat.div_le_self _ _;obtain⟨L,au⟩:=C5 hg u;obtain⟨V,T,P,U,M⟩:=J5 w #[.bool false,.slice none 0 0,.slice none 0 0] 30;obtain⟨N,K⟩:=C5 U P;clear U P;rcases(by omega:a<0\/0<=a) with ai|aB
 ·have ea:a= -(n:Int):=og;have ah:0<n:=og;have Q:g∣n:=(by rw[hg];exact Nat.gcd_dvd_left _ _);have aj:0<n/g:=Nat.div_pos (Nat.le_of_dvd ah Q) ad;have x:i (C7 (zlo a b)=⟨true,A9 (n/g),A9 (b/g)⟩):=(by rw[i,ea];exact ylc (neg:=true) u hg (fun h=>by omega));rw[ea] at x⊢;have ag:max (-(n:Int)) (n:Int)=(n:Int):=og;have ay:Int.tdiv (-(n:Int)) (g:Int)= -((n/g:Nat):Int):=(by rw[Int.neg_tdiv];rfl);have az: -((n/g:Nat):Int)<0:=(by have:(0:Int)<((n/g:Nat):Int):=Int.natCast_pos.2 aj;exact Int.neg_neg_of_pos this);have b2:(g:Int)≠0:=og;have H:wrap64 ((b:Int)/(g:Int))=((b/g:Nat):Int):=(by rw[show(b:Int)/(g:Int)=((b/g:Nat):Int) from rfl];(generalize b/g=q at R⊢;unfold wrap64;omega));have J:n<=4611686018427387904:=og;clear hg u S ha ea ai Q;go_in;go_wp2_with fail;clear T;refine(yhm (a:=n) (b:=b) J O).mono ?_;rw[<-L.out];rintro s e ⟨rfl,hd⟩;have c:=hd.below V.heap.size;have m:=nB K c;have A:=o c.size;have B:=o (N.out.next c);clear hd c;go_wp2_with fail;go_quiet (fail);go_wp2_with fail;rw[show(n:Int)/(g:Int)=((n/g:Nat):Int) from rfl];refine(zyt (n:=n/g) og).mono ?_;rintro s aq ⟨⟨an,rfl,k⟩,v⟩;have j:=C6 (Dr.below (⟨nq,rfl⟩:Dr e (e.drewN nq)) e.heap.size) v;have y:=nB m j;obtain⟨r,C⟩:=C5 (B.out.next j) (IsK.stb.le (zpp k) (m:=w.heap.size+1) (by have I:=M.out;have ae:=m.out.size;have af:=A.out;show _<=e.heap.size;omega));obtain⟨W,ak,rfl,_,_,_⟩:=id k;clear k v j;go_wp2_with fail;(try rw[H])
  refine(zyt (n:=b/g) og).mono ?_;rintro s ar ⟨⟨ao,rfl,l⟩,d⟩;have z:=nB y d;obtain⟨f,G,F⟩:=G0 (r.out.next d) (IsK.stb.le (zpp l) (m:=w.heap.size+1) (by have I:=r.out.lt;omega)) (IsK.stb.fresh C.out d);obtain⟨X,al,rfl,_,_,_⟩:=id l;obtain⟨d0,Y,Z⟩:=B9 f.out;obtain⟨aa,ab,ac⟩:=E0 f.out;clear l d;go_wp2_with fail;exact M7 Tryz.results48 rfl rfl (Row.put3 f.out _ _ _) (zme x.out z.out (p _) F.out G.out og og)
 ·have ea:a=(n:Int):=og;have x:i (C7 (zlo a b)=⟨false,A9 (n/g),A9 (b/g)⟩):=(by rw[i,ea];exact ylc (neg:=false) u hg (fun _=>rfl));subst ea;have ag:max (n:Int) (-(n:Int))=(n:Int):=og;have av:¬((n/g:Nat):Int)<0:=Int.not_lt.2 (Int.natCast_nonneg _);have b2:(g:Int)≠0:=og;have H:wrap64 ((b:Int)/(g:Int))=((b/g:Nat):Int):=(by rw[show(b:Int)/(g:Int)=((b/g:Nat):Int) from rfl];(generalize b/g=q at R⊢;unfold wrap64;omega));have J:n<=4611686018427387904:=og;clear hg u S ha;go_in;go_wp2_with fail;clear T;refine(yhm (a:=n) (b:=b) J O).mono ?_;rw[<-L.out];rintro s e ⟨rfl,hd⟩;have c:=hd.below V.heap.size;have m:=nB K c;have A:=o c.size;have B:=o (N.out.next c);clear hd c;go_wp2_with fail;go_quiet (fail);go_wp2_with fail;rw[show(n:Int)/(g:Int)=((n/g:Nat):Int) from rfl];refine(zyt (n:=n/g) og).mono ?_;rintro s aq ⟨⟨an,rfl,k⟩,v⟩;have j:=C6 (Dr.below (⟨nq,rfl⟩:Dr e (e.drewN nq)) e.heap.size) v;have y:=nB m j;obtain⟨r,C⟩:=C5 (B.out.next j) (IsK.stb.le (zpp k) (m:=w.heap.size+1) (by have I:=M.out;have ae:=m.out.size;have af:=A.out;show _<=e.heap.size;omega));obtain⟨W,ak,rfl,_,_,_⟩:=id k;clear k v j;go_wp2_with fail;(try rw[H])
  refine(zyt (n:=b/g) og).mono ?_;rintro s ar ⟨⟨ao,rfl,l⟩,d⟩;have z:=nB y d;obtain⟨f,G,F⟩:=G0 (r.out.next d) (IsK.stb.le (zpp l) (m:=w.heap.size+1) (by have I:=r.out.lt;omega)) (IsK.stb.fresh C.out d);obtain⟨X,al,rfl,_,_,_⟩:=id l;obtain⟨d0,Y,Z⟩:=B9 f.out;obtain⟨aa,ab,ac⟩:=E0 f.out;clear l d;go_wp2_with fail;exact M7 Tryz.results48 rfl rfl (Row.put3 f.out _ _ _) (zme x.out z.out (p _) F.out G.out og og)
abbrev RV:=Nat->Rat
def Y5 (a:List RV->Rat) (c:Nat):List RV->List RV->Rat
 |_,[]=>0
 |pre,v::post=>v c*a (pre++post)-Y5 a c (pre++[v]) post
def W7:List Nat->List RV->Rat
 |[],[]=>1
 |[],_::_=>0
 |c::cs,rows=>Y5 (W7 cs) c [] rows
def yae (c:List RV->Rat):Prop:=∀(d e:List RV) (f v:RV) (a b:Rat),c (d++(fun x=>a*f x+b*v x)::e)=a*c (d++f::e)+b*c (d++v::e)
def yac (b:List RV->Rat):Prop:=∀(c d:List RV) (a:RV),b (c++a::a::d)=0
theorem ypk {g:List RV->Rat} (h:yae g) (c:Nat) (j v:RV) (a b:Rat) (f:List RV):∀X e:List RV,Y5 g c (X++(fun x=>a*j x+b*v x)::e) f=a*Y5 g c (X++j::e) f+b*Y5 g c (X++v::e) f:=by
 induction f with
 |nil=>intro X e;simp only[Y5];grind
 |cons q f ih=>intro X e;have k:=h X (e++f) j v a b;have l:=ih X (e++[q]);simp only[Y5,List.append_assoc,List.cons_append] at k l⊢;rw[k,l];grind
theorem ypj {j:List RV->Rat} (h:yae j) (c:Nat) (e f:List RV) (k v:RV) (a b:Rat):∀pre:List RV,Y5 j c pre (e++(fun x=>a*k x+b*v x)::f)=a*Y5 j c pre (e++k::f)+b*Y5 j c pre (e++v::f):=by
 induction e with
 |nil=>intro pre;have g:=ypk h c k v a b f pre [];simp only[Y5,List.nil_append] at g⊢;rw[g];grind
 |cons m e ih=>intro pre;have g:=h (pre++e) f k v a b;have l:=ih (pre++[m]);simp only[Y5,List.append_assoc,List.cons_append] at g l⊢;rw[g,l];grind
theorem ztw (g:List Nat):yae (W7 g):=by
 induction g with
 |nil=>intro e f j v a b;have h:∀w:RV,W7 [] (e++w::f)=0:=fun w=>(by cases e<;>rfl);rw[h,h,h];grind
 |cons c g ih=>intro e f j v a b;exact ypj ih c e f j v a b []
theorem ypf {f:List RV->Rat} (h:yac f) (c:Nat) (e:RV) (b:List RV):∀X a:List RV,Y5 f c (X++e::e::a) b=0:=by
 induction b with
 |nil=>intro X a;rfl
 |cons q b ih=>intro X a;have g:=h X (a++b) e;have j:=ih X (a++[q]);simp only[Y5,List.append_assoc,List.cons_append] at g j⊢;rw[g,j];grind
theorem ype {g:List RV->Rat} (h:yac g) (c:Nat) (b f:List RV) (e:RV):∀pre:List RV,Y5 g c pre (b++e::e::f)=0:=by
 induction b with
 |nil=>intro pre;have a:=ypf h c e f pre [];simp only[Y5,List.nil_append,List.append_assoc,List.cons_append] at a⊢;rw[a];grind
 |cons k b ih=>intro pre;have a:=h (pre++b) f e;have j:=ih (pre++[k]);simp only[Y5,List.append_assoc,List.cons_append] at a j⊢;rw[a,j];grind
theorem zxu (b:List Nat):yac (W7 b):=by
 induction b with
 |nil=>intro a e f;cases a<;>rfl
 |cons c b ih=>intro a e f;exact ype ih c a e f []
theorem yrw (d:List Nat) (b c:List RV) (a v:RV):W7 d (b++a::v::c)= -W7 d (b++v::a::c):=by have g:=zxu d b c (fun x=>1*a x+1*v x);have h:=ztw d b ((fun x=>1*a x+1*v x)::c) a v 1 1;have e:=ztw d (b++[a]) c a v 1 1;have f:=ztw d (b++[v]) c a v 1 1;have i:=zxu d b c a;have j:=zxu d b c v;simp only[List.append_assoc,List.cons_append,List.nil_append] at e f;rw[g,e,f,i,j] at h;grind
theorem yrt (e:List Nat) (b:RV) (c R:List RV):∀a:List RV,W7 e (a++b::(R++b::c))=0:=by
 induction R with
 |nil=>intro a;exact zxu e a c b
 |cons r R ih=>intro a;have f:=yrw e a (R++b::c) b r;have g:=ih (a++[r]);simp only[List.append_assoc,List.cons_append,List.nil_append] at f g⊢;rw[f,g];grind
theorem ypg {b e:List RV->Rat} {k:Rat} {w:RV} (hF:∀r:List RV,r.length=n->b (r++[w])=e r*k) (j:w c=0) (a:List RV):∀pre:List RV,pre.length+a.length=n+1->Y5 b c pre (a++[w])=Y5 e c pre a*k:=by
 induction a with
 |nil=>intro pre _;simp only[Y5,List.nil_append,j];grind
 |cons m a ih=>intro pre h;have f:=hF (pre++a) (by simp at h⊢;omega);have g:=ih (pre++[m]) (by simp at h⊢;omega);simp only[Y5,List.append_assoc,List.cons_append] at f g⊢;rw[f,g];grind
theorem yrs {w:RV} (x:Nat) (e:List Nat) (f:∀c∈e,w c=0):∀b:List RV,b.length=e.length->W7 (e++[x]) (b++[w])=W7 e b*w x:=by
 induction e with
 |nil=>
  intro b h;cases b with
  |nil=>simp only[List.nil_append,W7,Y5];grind
  |cons m b=>simp at h
 |cons c e ih=>intro b h;exact ypg (n:=e.length) (fun r hr=>ih (fun a ha=>f a (by simp[ha])) r hr) (f c (by simp)) b [] (by simpa using h)
inductive Spn (Ms:List RV):RV->Prop
 |row (v:RV):v∈Ms->Spn Ms v
 |lin (a b:Rat) (u v:RV):Spn Ms u->Spn Ms v->Spn Ms (fun x=>a*u x+b*v x)
theorem Spn.mono {c e:List RV} (h:∀v∈c,v∈e) {v:RV} (hv:Spn c v):Spn e v:=by
 induction hv with
 |row v hv=>exact .row v (h v hv)
 |lin a b j v _ _ f g=>exact .lin a b j v f g
def C4 (n:Nat) (f:Nat->Rat):Rat:=match n with
 |0=>0
 |n+1=>C4 n f+f n
theorem R4 {g:Nat->Rat} (h:∀a,a<n->f a=g a):C4 n f=C4 n g:=by
 induction n with
 |zero=>rfl
 |succ n ih=>rw[C4,C4,ih fun a b=>h a og,h n og]
theorem zlp (h:∀a,a<n->f a=0):C4 n f=0:=by
 induction n with
 |zero=>rfl
 |succ n ih=>rw[C4,ih fun a b=>h a og,h n og];grind
theorem znb {a:Nat} (g:a<n) (h:∀j,j<n->j≠a->f j=0):C4 n f=f a:=by
 induction n with
 |zero=>omega
 |succ n ih=>
  rw[C4];rcases B a n with b|b
  ·rw[ih b fun j c e=>h j og e,h n og og];grind
  ·obtain rfl:a=n:=og;rw[zlp fun j c=>h j og og];grind
theorem zor (n:Nat) (a:Rat) (f:Nat->Rat):C4 n (fun b=>a*f b)=a*C4 n f:=by
 induction n with
 |zero=>simp only[C4];grind
 |succ n ih=>rw[C4,C4,ih];grind
theorem zto (n:Nat) (f g:Nat->Rat):C4 n (fun a=>f a+g a)=C4 n f+C4 n g:=by
 induction n with
 |zero=>simp only[C4];grind
 |succ n ih=>rw[C4,C4,C4,ih];grind
def zqb (v:RV):Prop:=∀x,∃z:Int,v x=(z:Rat)
theorem yph {j:List RV->Rat} (hF:∀r:List RV,(∀v∈r,zqb v)->∃z:Int,j r=(z:Rat)) (c:Nat) (post:List RV):∀pre:List RV,(∀v∈pre,zqb v)->(∀v∈post,zqb v)->∃z:Int,Y5 j c pre post=(z:Rat):=by
 induction post with
 |nil=>intro pre _ _;exact⟨0,rfl⟩
 |cons v post ih=>intro pre k g;obtain⟨a,ha⟩:=g v (by simp) c;obtain⟨b,m⟩:=hF (pre++post) (fun e f=>by rcases List.mem_append.1 f with h|h;exact k e h;exact g e (by simp[h]));obtain⟨l,n⟩:=ih (pre++[v]) (fun e f=>by rcases List.mem_append.1 f with h|h;exact k e h;exact g e (by simp at h;simp[h])) (fun e f=>g e (by simp[f]));refine⟨a*b-l,?_⟩;rw[Y5,ha,m,n,Rat.intCast_sub,Rat.intCast_mul]
theorem yru (b:List Nat):∀rows:List RV,(∀v∈rows,zqb v)->∃z:Int,W7 b rows=(z:Rat):=by
 induction b with
 |nil=>
  intro rows _;cases rows with
  |nil=>exact⟨1,rfl⟩
  |cons a l=>exact⟨0,rfl⟩
 |cons c b ih=>intro rows h;exact yph ih c rows [] (fun v hv=>by cases hv) h
def zmv (l:List (Rat×Rat)):Rat:=l.foldl (fun s a=>s+a.1*a.2) 0
def K7 (a b:List Rat):Rat:=zmv (a.zip b)
theorem zz1429 (l:List (Rat×Rat)) (x:Rat×Rat):zmv (l++[x])=zmv l+x.1*x.2:=by simp[zmv]
theorem ync:∀(l:List (Rat×Rat)) (s:Rat) (m:Nat),Sz s m->(∀a∈l,Sz a.1 n/\Sz a.2 n)->Sz (l.foldl (fun s a=>s+a.1*a.2) s) (m+l.length*(2*n+1))
 |[],_,_,h,_=>by simpa using h
 |a::l,s,m,h,b=>by
  have:=ync l (s+a.1*a.2) (m+(n+n)+1) (h.add ((b a (List.mem_cons_self ..)).1.mul (b a (List.mem_cons_self ..)).2)|>.le og) fun q c=>b q (List.mem_cons_of_mem _ c)
  exact this.le (by rw[List.length_cons,Nat.add_mul];omega)
theorem ynb {l:List (Rat×Rat)} (h:∀a∈l,Sz a.1 n/\Sz a.2 n):Sz (zmv l) (1+l.length*(2*n+1)):=ync l 0 1 Sz.zero h
theorem zz1428 (l:List (Rat×Rat)):∀s:Rat,l.foldl (fun s a=>s+a.1*a.2) s=s+zmv l:=by
 induction l with
 |nil=>intro s;simp only[List.foldl_nil,zmv];grind
 |cons a l ih=>intro s;have b:=ih (s+a.1*a.2);have c:=ih (0+a.1*a.2);simp only[zmv,List.foldl_cons] at b c⊢;rw[b,c];grind
theorem ysl (x y:Rat) (a b:List Rat):K7 (x::a) (y::b)=x*y+K7 a b:=by have h:=zz1428 (a.zip b) (0+x*y);unfold K7;rw[List.zip_cons_cons];simp only[zmv,List.foldl_cons] at h⊢;rw[h];grind
theorem zz1425 (n:Nat) (f:Nat->Rat):C4 (n+1) f=f 0+C4 n fun a=>f (a+1):=by
 induction n with
 |zero=>simp only[C4];grind
 |succ n ih=>rw[C4,ih,C4];grind
theorem zrk (a:List Rat):∀b:List Rat,a.length=b.length->K7 a b=C4 a.length fun j=>a.getD j 0*b.getD j 0:=by
 induction a with
 |nil=>intro b _;rfl
 |cons x a ih=>
  intro b h;cases b with
  |nil=>simp at h
  |cons y b=>rw[ysl,ih b (by simpa using h),List.length_cons,zz1425];rfl
theorem zz1427 (n a:Nat) (f:Nat->Nat->Rat):C4 n (fun j=>C4 a fun l=>f j l)=C4 a fun l=>C4 n fun j=>f j l:=by
 induction n with
 |zero=>exact(zlp fun c _=>rfl).symm
 |succ n ih=>rw[C4,ih];have b:(C4 a fun l=>C4 (n+1) fun j=>f j l)=C4 a fun l=>(C4 n fun j=>f j l)+f n l:=R4 fun l _=>rfl;rw[b,zto]
theorem yqg {d:Nat} (hd:0<d):((d:Int):Rat)≠0:=by intro a;have:(d:Int)=0:=Rat.intCast_inj.1 (by rw[a];rfl);omega
theorem yif {w:t} (h:IsR w S v r):∃A c B d,v= .agg #[.bool r.neg,.slice A r.num.length c,.slice B r.den.length d]/\IsK .u32 w S (.slice A r.num.length c) r.num/\IsK .u32 w S (.slice B r.den.length d) r.den:=h
theorem zml {w:t} {A:Option Addr} {m:Nat} (h:IsV w S (.slice A m c) l) (o:l[j]? =some r):
 ∃b off a k e d,A=some ⟨b,off,none⟩/\S b/\IsR w S (.agg #[.bool r.neg,.slice a r.num.length k,.slice e r.den.length d]) r/\
  w.cell? ⟨b,off+j*3,none⟩=some (.bool r.neg)/\w.cell? ⟨b,off+j*3+1,none⟩=some (.slice a r.num.length k)/\w.cell? ⟨b,off+j*3+2,none⟩=some (.slice e r.den.length d):=by
 obtain⟨b,off,p,i,n,hr,_,hc⟩:=IsS.get h og o;obtain⟨a,k,e,d,rfl,f,g⟩:=hr;refine⟨b,off,a,k,e,d,i,n,⟨a,k,e,d,rfl,f,g⟩,?_,?_,?_⟩
 ·exact hc 0 _ rfl
 ·exact hc 1 _ rfl
 ·exact hc 2 _ rfl
theorem X8 {w:t} (h:IsV w S v l):∃A c,v= .slice A l.length c/\l.length<=9223372036854775807:=by obtain⟨A,c,b,rfl,d,a,_⟩:=h;exact⟨A,c,rfl,by unfold maxLen at a;omega⟩
theorem zpo {w:t} {A:Option Addr} (h:IsM w S (.slice A n c) m) (i:m[j]? =some l):
 ∃b off a k,A=some ⟨b,off,none⟩/\S b/\IsV w S (.slice a l.length k) l/\w.cell? ⟨b,off+j,none⟩=some (.slice a l.length k):=by obtain⟨b,off,o,f,g,hr,_,hc⟩:=IsS.get h og i;obtain⟨a,k,d,rfl,e⟩:=hr;refine⟨b,off,a,k,f,g,⟨a,k,d,rfl,e⟩,?_⟩;have:=hc 0 _ rfl;rw[Nat.mul_one,Nat.add_zero] at this;exact this
theorem zqg {w:t} (h:IsM w S v m):∃A c,v= .slice A m.length c/\m.length<=9223372036854775807:=by obtain⟨A,c,b,rfl,d,a,_⟩:=h;exact⟨A,c,rfl,by unfold maxLen at a;omega⟩
theorem T3:Tryz.prog.cellsOf 30=3:=by kernel_rfl
def Y0 (r:Raw):Int:=zvj N0 r
def Z0 (num den:List Nat):Int:=if N0 num≠0 then N0 num else if N0 den≠0 then N0 den else if den=[] then 6 else 0
theorem yfs (h:Z0 r.num r.den≠0):Y0 r=Z0 r.num r.den:=by
 unfold Z0 at*;unfold Y0 zvj;split
 ·rfl
 ·rename_i a;rw[if_neg a] at h;split
  ·rfl
  ·rename_i b;rw[if_neg b] at h;split
   ·rfl
   ·rename_i c;rw[if_neg c] at h;exact absurd rfl h
theorem yft (h:Z0 r.num r.den=0):Y0 r=if(r.num=[]/\r.neg=true)\/Nat.gcd (val r.num) (val r.den)≠1 then 3 else 0:=by
 unfold Z0 at h;unfold Y0 zvj;split at h
 ·rename_i a;exact absurd h a
 rename_i a;split at h
 ·rename_i b;exact absurd h b
 rename_i b;split at h
 ·cases h
 rename_i c;rw[if_neg a,if_neg b,if_neg c]
theorem yfq {num den:List Nat} (h:Z0 num den=0):N0 num=0/\N0 den=0/\den≠[]/\val den≠0:=by
 unfold Z0 at h;split at h
 ·rename_i b;exact absurd h b
 rename_i b;split at h
 ·rename_i a;exact absurd h a
 rename_i a;split at h
 ·cases h
 rename_i c;have b:=Decidable.not_not.1 b;have a:=Decidable.not_not.1 a;refine⟨b,a,c,fun d=>c ?_⟩;rw[(zri a).2.2,d,N6]
theorem yas {q:Rat} (h:Sz q 1024):Y0 (C7 q)=0:=yqw (yfv h.1) (yfv h.2)
def zke:List Int->Int
 |[]=>0
 |e::l=>if e≠0 then e else zke l
theorem yhk {l:List Int} (h:∀j,j<k->l.getD j 0=0):zke l=zke (l.drop k):=by
 induction l generalizing k with
 |nil=>simp
 |cons b l ih=>
  cases k with
  |zero=>rfl
  |succ k=>have a:=h 0 og;simp at a;rw[List.drop_succ_cons,<-ih (k:=k) (fun j c=>by have:=h (j+1) og;simpa using this)];simp[zke,a]
theorem zvp {l:List Int} {a:Int} (h:∀j,j<k->l.getD j 0=0) (b:l[k]? =some a) (c:a≠0):zke l=a:=by rw[yhk h];have d:k<l.length:=(List.getElem?_eq_some_iff.1 b).1;rw[List.drop_eq_getElem_cons d];have:l[k]=a:=(List.getElem?_eq_some_iff.1 b).2;rw[this];simp[zke,c]
theorem zty {l:List Int} (h:∀j,j<l.length->l.getD j 0=0):zke l=0:=by rw[yhk h,List.drop_length];rfl
def zxm (l:List Raw):Int:=zke (l.map Y0)
def Z9 (l:List Raw):Int:=if 40<l.length then 4 else zxm l
def zlt (m:List (List Raw)):Int:=if 40<m.length then 4 else zke (m.map fun row=>if row.length≠(m.headD []).length then 3 else Z9 row)
theorem yqt (h:∀q∈qs,Sz q 1024):zxm (qs.map C7)=0:=by
 unfold zxm;induction qs with
 |nil=>rfl
 |cons q qs ih=>rw[List.map_cons,List.map_cons,zke,if_neg (by simp[yas (h q (by simp))])];exact ih fun b a=>h b (by simp[a])
theorem ztv (a:qs.length<=40) (h:∀q∈qs,Sz q 1024):Z9 (qs.map C7)=0:=by unfold Z9;rw[if_neg (by simp;omega)];exact yqt h
structure Prog where
 A:List (List Raw)
 B:List Raw
 C:List Raw
def IsP (w:t) (S:Nat->Prop) (v:Value) (d:Prog):Prop:=
 ∃A a B b C c,v= .agg #[.slice A d.A.length a,.slice B d.B.length b,.slice C d.C.length c]/\IsM w S (.slice A d.A.length a) d.A/\IsV w S (.slice B d.B.length b) d.B/\IsV w S (.slice C d.C.length c) d.C
theorem IsP.stb:Stb IsP:=by rintro w w' S T v h ⟨A,a,B,b,C,c,hv,e,f,g⟩ d;exact⟨A,a,B,b,C,c,hv,IsM.stb.to e d,IsV.stb.to f d,IsV.stb.to g d⟩
theorem zyg {w:t} {a b c:Value} {p:Prog} (d:IsM w S a p.A) (e:IsV w S b p.B) (f:IsV w S c p.C):IsP w S (.agg #[a,b,c]) p:=by obtain⟨A,g,rfl,_⟩:=zqg d;obtain⟨B,h,rfl,_⟩:=X8 e;obtain⟨C,i,rfl,_⟩:=X8 f;exact⟨A,g,B,h,C,i,rfl,d,e,f⟩
def zqf (m:List (List Raw)) (b c:Nat):Int:=if m.length≠b\/(0<b/\(m.headD []).length≠c) then 10 else 0
def yar (a:Prog):Int:=zqf a.A a.B.length a.C.length
def ztu (a:Prog):Int:=if zke [zlt a.A,Z9 a.B,Z9 a.C]≠0 then zke [zlt a.A,Z9 a.B,Z9 a.C] else yar a
structure ProgQ where
 A:List (List Rat)
 B:List Rat
 C:List Rat
def C2 (l:List Rat):List Raw:=l.map C7
def G6 (m:List (List Rat)):List (List Raw):=m.map C2
def X9 (a:ProgQ):Prog:=⟨G6 a.A,C2 a.B,C2 a.C⟩
structure Good (p:ProgQ) (k:Nat):Prop where
 rows:p.A.length=p.B.length
 cols:∀row∈p.A,row.length=p.C.length
 szA:∀row∈p.A,∀q∈row,Sz q k
 szB:∀q∈p.B,Sz q k
 szC:∀q∈p.C,Sz q k
 nB:p.B.length<=40
 nC:p.C.length<=40
theorem yfr {q:ProgQ} (h:Good q 1024):ztu (X9 q)=0:=by
 have k:Z9 (C2 q.B)=0:=ztv h.nB h.szB;have l:Z9 (C2 q.C)=0:=ztv h.nC h.szC
 have n:∀row∈G6 q.A,row.length=((G6 q.A).headD []).length:=by
  intro row hr;obtain⟨r,b,rfl⟩:=List.mem_map.1 hr;cases d:q.A with
  |nil=>rw[d] at b;cases b
  |cons a o=>simp only[G6,List.map_cons,List.headD_cons,C2,F];rw[h.cols r b,h.cols a (by rw[d];simp)]
 have m:zlt (G6 q.A)=0:=(by unfold zlt;rw[if_neg (by simp[G6];have:=h.rows;have:=h.nB;omega)];refine zty fun j f=> ?_;rw[F] at f;rw[A,C,I f];have g:=List.getElem_mem f;simp only[Option.map_some,Option.getD_some];rw[if_neg (by rw[n _ g];simp)];obtain⟨r,b,e⟩:=List.mem_map.1 g;rw[<-e];exact ztv (by rw[h.cols r b];exact h.nC) (h.szA r b));unfold ztu;(have e:zke [zlt (X9 q).A,Z9 (X9 q).B,Z9 (X9 q).C]=0:=by show zke [zlt (G6 q.A),Z9 (C2 q.B),Z9 (C2 q.C)]=0;rw[m,k,l];rfl);rw[if_neg (by rw[e];simp)];unfold yar zqf;rw[if_neg];rintro(c|⟨c,i⟩)
 ·exact c (by show(G6 q.A).length=(C2 q.B).length;simp[G6,C2,h.rows])
 ·apply i;show((G6 q.A).headD []).length=(C2 q.C).length;cases d:q.A with
  |nil=>have:=h.rows;rw[d] at this;simp at this;have c:0<(C2 q.B).length:=c;simp[C2] at c;omega
  |cons a o=>simp only[G6,List.map_cons,List.headD_cons,C2,F];exact h.cols a (by rw[d];simp)
theorem zyy {w:t} {a b:List Nat} (ha:IsL .u32 w 0 w.heap.size e a) (v:IsL .u32 w 0 w.heap.size h b):D E 136 #[e,h] w fun g w'=>g= .returned (.int .i64 (Z0 a b))/\w=w':=by
 obtain⟨q,s⟩:=C5 ha v;obtain⟨A,c,rfl,_,_,_⟩:=ha;obtain⟨B,d,rfl,_,_,_⟩:=v;obtain⟨x,z⟩:=nm (N0 a);obtain⟨y,C⟩:=nm (N0 b);obtain⟨f,k⟩:=C5 z C;clear z C;by_cases n:x=0;(case neg=>have F:(x !=0)=true:=bne_iff_ne.2 n;have j:i (Z0 a b=x):=(by unfold i Z0;rw[<-f.out,if_pos n]);go_in;go_wp2_with fail;refine(zst q.out).mono ?_;rw[<-f.out];rintro g m ⟨rfl,rfl⟩;go_wp2_with fail;go_ret;exact⟨J0 j.out.symm,rfl⟩);have F:(x !=0)=false:=(by rw[n];rfl);have r:=o n;clear n;by_cases p:y=0;(case neg=>have G:(y !=0)=true:=bne_iff_ne.2 p;have j:i (Z0 a b=y):=(by unfold i Z0;rw[<-f.out,if_neg (by simp[r.out]),<-k.out,if_pos p]);go_in;go_wp2_with fail;refine(zst q.out).mono ?_;rw[<-f.out];rintro g m ⟨rfl,rfl⟩;go_wp2_with fail;refine(zst s.out).mono ?_;rw[<-k.out];rintro g m ⟨rfl,rfl⟩;go_wp2_with fail;go_ret;exact⟨J0 j.out.symm,rfl⟩);have G:(y !=0)=false:=(by rw[p];rfl);have u:=o p;clear p;by_cases l:b=[]
 ·have H:((b.length:Int)==0)=true:=(by rw[l];rfl);have j:i (Z0 a b=6):=(by unfold i Z0;rw[<-f.out,if_neg (by simp[r.out]),<-k.out,if_neg (by simp[u.out]),if_pos l]);clear l;go_in;go_wp2_with fail;refine(zst q.out).mono ?_;rw[<-f.out];rintro g m ⟨rfl,rfl⟩;go_wp2_with fail;refine(zst s.out).mono ?_;rw[<-k.out];rintro g m ⟨rfl,rfl⟩;go_wp2_with fail;go_ret;exact⟨J0 j.out.symm,rfl⟩
 ·have H:((b.length:Int)==0)=false:=beq_eq_false_iff_ne.2 (by have:=List.length_pos_iff.2 l;omega);have j:i (Z0 a b=0):=(by unfold i Z0;rw[<-f.out,if_neg (by simp[r.out]),<-k.out,if_neg (by simp[u.out]),if_neg l]);clear l;go_in;go_wp2_with fail;refine(zst q.out).mono ?_;rw[<-f.out];rintro g m ⟨rfl,rfl⟩;go_wp2_with fail;refine(zst s.out).mono ?_;rw[<-k.out];rintro g m ⟨rfl,rfl⟩;go_wp2_with fail;go_ret;exact⟨J0 j.out.symm,rfl⟩
theorem ygc {w:t} {a b:List Nat} (ea:a=A9 (val a)) (eb:b=A9 (val b)) (ha:IsN w 0 w.heap.size e (val a)) (j:IsN w 0 w.heap.size h (val b)) (i:Bru w) (f:(A9 (val a)).length<=1024) (g:(A9 (val b)).length<=1024):
 D E 137 #[e,h] w fun d w'=>(∃c:Bool,d= .returned (.bool c)/\(c=true↔Nat.gcd (val a) (val b)=1))/\Below w.heap.size w w':=
 yri ha j i (H f og) (H g og)
theorem yaq {w:t} (h:IsR w (C3 w) v r) (V:Bru w):D E 75 #[v] w fun a w'=>a= .returned (.int .i64 (Y0 r))/\Below w.heap.size w w':=by
 obtain⟨A,H,B,I,rfl,T,U⟩:=yif h;obtain⟨g,ab,u,J,ae⟩:=J5 w #[.bool r.neg,.slice A r.num.length H,.slice B r.den.length I] 30;obtain⟨l,q,M⟩:=G0 (IsK.isL (IsK.stb.next T u) (lo:=0) (hi:=g.heap.size) fun b d=>⟨G _,d⟩) (IsK.isL (IsK.stb.next U u) (lo:=0) (hi:=g.heap.size) fun b d=>⟨G _,d⟩) (Bru.next V u);clear V;obtain⟨Y,af,ag⟩:=B9 J;obtain⟨ac,C⟩:=C5 J u;have ah:r.num.length<=9223372036854775807:=(by have:=l.out.length_le;unfold maxLen at this;omega);clear h T U J u;obtain⟨x,X⟩:=nm (Z0 r.num r.den);have e:=o X;clear X;by_cases m:x=0;(case neg=>have Z:(x !=0)=true:=bne_iff_ne.2 m;have c:i (Y0 r=x):=(by rw[i,e.out];exact yfs (by rw[<-e.out];exact m));go_in;go_wp2_with fail;refine(zyy l.out q.out).mono ?_;rw[<-e.out];rintro a z ⟨rfl,rfl⟩;go_wp2_with fail;go_ret;exact⟨J0 c.out.symm,C.out⟩);have Z:(x !=0)=false:=(by rw[m];rfl);have f:=yfq (num:=r.num) (den:=r.den) (by rw[<-e.out];exact m);obtain⟨F,ad,O,N⟩:=X7 (yft (r:=r) (by rw[<-e.out];exact m)) f (l.out.isN f.1) (q.out.isN f.2.1);have S:=(zri f.1).2.2;have R:=(zri f.2.1).2.2;obtain⟨Q,P⟩:=C5 (zxn f.1) (zxn f.2.1);clear f m;obtain⟨L,K⟩:=C5 S R;clear S R;obtain⟨s,W⟩:=nm (r.neg);rw[<-W] at Y ab F⊢;clear W;by_cases k:r.num=[]
 ·have aa:((r.num.length:Int)==0)=true:=(by rw[k];rfl);cases s with
  |true=>have c:i (Y0 r=3):=(by rw[i,F.out,if_pos (.inl ⟨k,rfl⟩)]);clear k;go_in;go_wp2_with fail;refine(zyy l.out q.out).mono ?_;rw[<-e.out];rintro a z ⟨rfl,rfl⟩;go_wp2_with fail;go_ret;exact⟨J0 c.out.symm,C.out⟩
  |false=>
   have c:i (Y0 r=if Nat.gcd (val r.num) (val r.den)≠1 then 3 else 0):=(by rw[i,F.out];simp);clear k;go_in;go_wp2_with fail;refine(zyy l.out q.out).mono ?_;rw[<-e.out];rintro a z ⟨rfl,rfl⟩;go_wp2_with fail;refine(show D E 137 #[.slice A r.num.length H,.slice B r.den.length I] g (fun a w'=>(∃b:Bool,a= .returned (.bool b)/\(b=true↔Nat.gcd (val r.num) (val r.den)=1))/\Below g.heap.size g w') from ygc L.out K.out O.out N.out M.out Q.out P.out).mono ?_;rintro a z ⟨⟨b,rfl,d⟩,y⟩;have p:=nB C y;have n:=o d;clear d y;cases b with
   |true=>have j:i (Y0 r=0):=(by rw[i,c.out,if_neg (by simp[n.out.1 rfl])]);go_wp2_with fail;go_ret;exact⟨J0 j.out.symm,p.out⟩
   |false=>have j:i (Y0 r=3):=(by rw[i,c.out,if_pos (fun h=>Bool.noConfusion (n.out.2 h))]);go_wp2_with fail;go_ret;exact⟨J0 j.out.symm,p.out⟩
 ·have aa:((r.num.length:Int)==0)=false:=beq_eq_false_iff_ne.2 (by have:=List.length_pos_iff.2 k;omega);have c:i (Y0 r=if Nat.gcd (val r.num) (val r.den)≠1 then 3 else 0):=(by rw[i,F.out];simp[k]);clear k;go_in;go_wp2_with fail;refine(zyy l.out q.out).mono ?_;rw[<-e.out];rintro a z ⟨rfl,rfl⟩;go_wp2_with fail;refine(show D E 137 #[.slice A r.num.length H,.slice B r.den.length I] g (fun a w'=>(∃b:Bool,a= .returned (.bool b)/\(b=true↔Nat.gcd (val r.num) (val r.den)=1))/\Below g.heap.size g w') from ygc L.out K.out O.out N.out M.out Q.out P.out).mono ?_;rintro a z ⟨⟨b,rfl,d⟩,y⟩;have p:=nB C y;have n:=o d;clear d y;cases b with
  |true=>have j:i (Y0 r=0):=(by rw[i,c.out,if_neg (by simp[n.out.1 rfl])]);go_wp2_with fail;go_ret;exact⟨J0 j.out.symm,p.out⟩
  |false=>have j:i (Y0 r=3):=(by rw[i,c.out,if_pos (fun h=>Bool.noConfusion (n.out.2 h))]);go_wp2_with fail;go_ret;exact⟨J0 j.out.symm,p.out⟩
theorem yuj (h:l[j]? =some r):(l.map Y0).getD j 0=Y0 r:=by rw[A,C,h];rfl
theorem zlj {a:Type} {l:List a} (h:j<l.length):∃x,l[j]? =some x:=⟨_,I h⟩
theorem zuz {w:t} (h:IsV w (C3 w) v l) (L:Bru w):
 D E 74 #[v] w fun y w'=>y= .returned (.int .i64 (Z9 l))/\Below w.heap.size w w':=by
 obtain⟨O,I⟩:=C5 h L;clear L;obtain⟨A,c,rfl,ae⟩:=X8 h;clear h;by_cases z:40<l.length
 ·have g:i (Z9 l=4):=(by unfold i Z9;rw[if_pos z]);go_in;go_wp2_with fail;go_ret;exact⟨J0 g.out.symm,d _ _⟩
 ·have g:i (Z9 l=zxm l):=(by unfold i Z9;rw[if_neg z]);have aa:l.length<=40:=og;clear z;go_in;go_wp2_with fail;go_loopw [11] (fun H wr=>∃k:Nat,k<=l.length/\H= .int .i64 (k:Int)/\Below w.heap.size w wr/\i (∀j,j<k->(l.map Y0).getD j 0=0)) (fun H _=>l.length-(intOf H).toNat);case atStart=>exact⟨0,G _,rfl,d _ _,fun j R=>by omega⟩
  case round=>
   obtain⟨k,ad,rfl,n,hrel⟩:=hrel;have e:=o n;have u:=o hrel.out;clear hrel;rcases B k l.length with S|ac
   ·obtain⟨r,hr⟩:=zlj S;obtain⟨b,off,U,af,V,ag,rfl,ab,M,W,X,Y⟩:=zml (IsV.stb.next O.out n) hr;obtain⟨J,K⟩:=C5 M hr;have Z:=T3;obtain⟨x,N⟩:=nm (Y0 r);have m:=o N;clear M hr n N;by_cases a:x=0
    ·have Q:(x !=0)=false:=(by rw[a];rfl);have P:=o a;clear a;go_wp2_with fail;refine(yaq (IsR.stb.next J.out ((d _ _).alloc (p _) _)) (Bru.next (Bru.next I.out e.out) ((d _ _).alloc (p _) _))).mono ?_;rw[<-m.out];rintro y T ⟨rfl,f⟩;have q:=o (C6 e.out ((d _ _).alloc (p _) _|>fun h=>C6 h f));clear f;go_wp2_with fail;go_roundw
     case rel=>
      refine⟨k+1,by omega,by go_num,q.out,fun j R=> ?_⟩;rcases B j k with h|h
      ·exact u.out j h
      ·obtain rfl:j=k:=og;rw[yuj K.out,<-m.out,P.out]
     case measure=>simp[intOf];omega
    ·have Q:(x !=0)=true:=bne_iff_ne.2 a;have s:i (Z9 l=x):=(by rw[i,g.out];exact zvp u.out (by rw[C,K.out,m.out];rfl) a);clear a;go_wp2_with fail;refine(yaq (IsR.stb.next J.out ((d _ _).alloc (p _) _)) (Bru.next (Bru.next I.out e.out) ((d _ _).alloc (p _) _))).mono ?_;rw[<-m.out];rintro y T ⟨rfl,f⟩;have q:=o (C6 e.out ((d _ _).alloc (p _) _|>fun h=>C6 h f));clear f;go_wp2_with fail;go_ret;exact⟨J0 s.out.symm,q.out⟩
   ·obtain rfl:k=l.length:=og;have s:i (Z9 l=0):=(by rw[i,g.out];exact zty (by rw[F];exact u.out));clear n;go_wp2_with fail;go_ret;exact⟨J0 s.out.symm,e.out⟩
def zqo (n:Nat) (row:List Raw):Int:=if row.length≠n then 3 else Z9 row
theorem yqu (m:List (List Raw)):zlt m=if 40<m.length then 4 else zke (m.map (zqo (m.headD []).length)):=rfl
theorem yuk {r:List Raw} (h:m[j]? =some r):(m.map (zqo n)).getD j 0=zqo n r:=by rw[A,C,h];rfl
theorem yhg {w:t} (h:IsM w (C3 w) v m) (V:Bru w):
 D E 73 #[v] w fun I w'=>I= .returned (.int .i64 (zlt m))/\Below w.heap.size w w':=by
 obtain⟨P,Q⟩:=C5 h V;clear V;obtain⟨A,c,rfl,au⟩:=zqg h;clear h;by_cases J:40<m.length
 ·have p:i (zlt m=4):=(by unfold i zlt;rw[if_pos J]);go_in;go_wp2_with fail;go_ret;exact⟨J0 p.out.symm,d _ _⟩
 ·have al:m.length<=40:=og;obtain⟨n,K⟩:=nm ((m.headD []).length);have p:i (zlt m=zke (m.map (zqo n))):=(by rw[i,yqu,if_neg J,K]);have Z:=o K;clear J K;go_in;go_wp2_with fail;go_loopw [11] (fun O wr=>∃k:Nat,k<=m.length/\O= .int .i64 (k:Int)/\Below w.heap.size w wr/\i (∀j,j<k->(m.map (zqo n)).getD j 0=0)) (fun O _=>m.length-(intOf O).toNat);case atStart=>exact⟨0,G _,rfl,d _ _,fun j af=>by omega⟩
  case round=>
   obtain⟨k,ar,rfl,r,hrel⟩:=hrel;have e:=o r;have s:=o hrel.out;clear hrel;rcases B k m.length with X|aq
   ·obtain⟨row,M⟩:=zlj X;obtain⟨y,u⟩:=zlj (show 0<m.length by omega);obtain⟨b,off,ah,ay,rfl,an,W,ak⟩:=zpo (IsM.stb.next P.out r) M;obtain⟨aj,aA,ai,az,U,ao,ae,ab⟩:=zpo (IsM.stb.next P.out r) u;simp only[Option.some.injEq,Addr.mk.injEq,and_true] at U;obtain⟨rfl,rfl⟩:=U;rw[Nat.add_zero] at ab
    have L:i (y.length=n):=by
     rw[i,Z.out];cases m with
     |nil=>simp at X
     |cons a aB=>simp at u;rw[<-u];rfl
    obtain⟨R,H⟩:=C5 W M;have av:0<m.length:=og;clear W M r ae u;by_cases f:row.length=y.length
    case neg=>
     have ad:((row.length:Int) !=(y.length:Int))=true:=bne_iff_ne.2 og
     have l:i (zlt m=3):=by
      rw[i,p.out];refine zvp s.out (by rw[C,H.out];rfl) ?_|>.trans ?_
      ·unfold zqo;rw[if_pos (by rw[<-L.out];exact f)];decide
      ·unfold zqo;rw[if_pos (by rw[<-L.out];exact f)]
     clear f;go_wp2_with fail;go_ret;exact⟨J0 l.out.symm,e.out⟩
    have ad:((row.length:Int) !=(y.length:Int))=false:=(by rw[f];simp);have Y:=o f;clear f;obtain⟨x,N⟩:=nm (Z9 row);have S:=o N;have T:i (zqo n row=x):=(by rw[i,N];unfold zqo;rw[if_neg (by rw[<-L.out];simp[Y.out])]);clear N;by_cases g:x=0
    ·have ac:(x !=0)=false:=(by rw[g];rfl);have aa:=o g;clear g;go_wp2_with fail;refine(zuz R.out (Bru.next Q.out e.out)).mono ?_;rw[<-S.out];rintro I ag ⟨rfl,q⟩;have z:=nB e q;clear q;go_wp2_with fail;go_roundw
     case rel=>
      refine⟨k+1,by omega,by go_num,z.out,fun j af=> ?_⟩;rcases B j k with h|h
      ·exact s.out j h
      ·obtain rfl:j=k:=og;rw[yuk H.out,T.out,aa.out]
     case measure=>simp[intOf];omega
    ·have ac:(x !=0)=true:=bne_iff_ne.2 g;have l:i (zlt m=x):=(by rw[i,p.out];exact zvp s.out (by rw[C,H.out,<-T.out];rfl) g);clear g;go_wp2_with fail;refine(zuz R.out (Bru.next Q.out e.out)).mono ?_;rw[<-S.out];rintro I ag ⟨rfl,q⟩;have z:=nB e q;clear q;go_wp2_with fail;go_ret;exact⟨J0 l.out.symm,z.out⟩
   ·obtain rfl:k=m.length:=og;have l:i (zlt m=0):=(by rw[i,p.out];exact zty (by rw[F];exact s.out));clear r;go_wp2_with fail;go_ret;exact⟨J0 l.out.symm,e.out⟩
theorem ytx {w:t} {x y z:Int} (r:w.cell? ⟨g,0,none⟩=some (.int .i64 x)) (s:w.cell? ⟨g,1,none⟩=some (.int .i64 y)) (u:w.cell? ⟨g,2,none⟩=some (.int .i64 z)):
 D E 72 #[.slice (some ⟨g,0,none⟩) 3 3] w fun b w'=>b= .returned (.int .i64 (zke [x,y,z]))/\w=w':=by
 have hc:i (∀j b,[x,y,z][j]? =some b->w.cell? ⟨g,j,none⟩=some (.int .i64 b)):=by
  intro j b a;match j,a with
  |0,a=>simp at a;rw[<-a];exact r
  |1,a=>simp at a;rw[<-a];exact s
  |2,a=>simp at a;rw[<-a];exact u
 obtain⟨l,m⟩:=nm ([x,y,z]);rw[<-m] at hc⊢;have v:i (l.length=3):=(by rw[m];rfl);clear r s u m;go_in;go_wp2_with fail;go_loop [7] (fun n=>∃k:Nat,k<=3/\n= .int .i64 (k:Int)/\i (∀j,j<k->l.getD j 0=0)) (fun n=>3-(intOf n).toNat);case atStart=>exact⟨0,by omega,rfl,fun j a=>by omega⟩
 case round=>
  obtain⟨k,O,rfl,hrel⟩:=hrel;rcases B k 3 with L|N
  ·obtain⟨b,f⟩:=zlj (l:=l) (j:=k) (by rw[v.out];exact L);have M:=hc.out k b f;have q:=o f;clear f;by_cases c:b=0
   ·have K:(b !=0)=false:=(by rw[c];rfl);have J:=o c;clear c;go_wp2_with fail;go_round
    case rel=>
     refine⟨k+1,by omega,by go_num,fun j a=> ?_⟩;rcases B j k with h|h
     ·exact hrel.out j h
     ·obtain rfl:j=k:=og;rw[A,q.out,J.out];rfl
    case measure=>simp[intOf];omega
   ·have K:(b !=0)=true:=bne_iff_ne.2 c;have e:i (zke l=b):=zvp hrel.out q.out c;clear c;go_wp2_with fail;go_ret;exact⟨J0 e.out.symm,rfl⟩
  ·obtain rfl:k=3:=og;have e:i (zke l=0):=zty (by rw[v.out];exact hrel.out);go_wp2_with fail;go_ret;exact⟨J0 e.out.symm,rfl⟩
theorem ytv (w:t) (x y z b:Int) (g:b=zke [x,y,z]):D E 72 #[.slice (some ⟨w.heap.size,0,none⟩) 3 3] (w.alloc (.cells #[.int .i64 x,.int .i64 y,.int .i64 z] 38)) fun a w'=>a= .returned (.int .i64 b)/\Below w.heap.size w w':=by have h:Row (w.alloc (.cells #[.int .i64 x,.int .i64 y,.int .i64 z] 38)) w.heap.size 38 [.int .i64 x,.int .i64 y,.int .i64 z]:=heap_alloc_new w _;obtain⟨c,d,e⟩:=B9 h;rw[g];refine(ytx c d e).mono ?_;rintro a w' ⟨f,rfl⟩;exact⟨f,L8 _ _⟩
theorem yhd {w:t} (h:IsM w (C3 w) v m) (F:b<=9223372036854775807) (hc:c<=9223372036854775807):
 D E 76 #[v,.int .i64 (b:Int),.int .i64 (c:Int)] w fun x w'=>x= .returned (.int .i64 (zqf m b c))/\w=w':=by
 have r:=o h;obtain⟨A,C,rfl,G⟩:=zqg h;clear h;by_cases e:m.length=b;(case neg=>have y:((m.length:Int) !=(b:Int))=true:=bne_iff_ne.2 og;have d:i (zqf m b c=10):=if_pos (.inl e);clear e;go_in;go_wp2_with fail;go_ret;exact⟨J0 d.out.symm,rfl⟩);have y:((m.length:Int) !=(b:Int))=false:=(by rw[e];simp);rcases Nat.eq_zero_or_pos b with g|g
 ·have d:i (zqf m b c=0):=if_neg (by rintro(h|⟨h,_⟩)<;>omega);have z:decide (0<b)=false:=decide_eq_false og;have n:b<1:=og;clear e g;go_in;go_wp2_with fail;go_ret;exact⟨J0 d.out.symm,rfl⟩
 ·have z:decide (0<b)=true:=decide_eq_true g;have q:0<m.length:=og;obtain⟨k,j⟩:=zlj q;obtain⟨bb,off,B,H,rfl,_,_,u⟩:=zpo r.out j;rw[Nat.add_zero] at u
  have p:(m.headD []).length=k.length:=by
   cases m with
   |nil=>simp at q
   |cons a I=>simp at j;rw[<-j];rfl
  obtain⟨s,l⟩:=C5 e p;clear e j p;by_cases f:k.length=c
  ·have n:((k.length:Int) !=(c:Int))=false:=(by rw[f];simp);have d:i (zqf m b c=0):=if_neg (by rw[l.out,s.out];rintro(h|⟨_,h⟩);exact h rfl;exact h f);clear f;go_in;go_wp2_with fail;go_ret;exact⟨J0 d.out.symm,rfl⟩
  ·have n:((k.length:Int) !=(c:Int))=true:=bne_iff_ne.2 og;have d:i (zqf m b c=10):=if_pos (.inr ⟨g,by rw[l.out];exact f⟩);clear f;go_in;go_wp2_with fail;go_ret;exact⟨J0 d.out.symm,rfl⟩
theorem ykk {w:t} {p:Prog} (h:IsP w (C3 w) v p) (ae:Bru w):D E 38 #[v] w fun d w'=>d= .returned (.int .i64 (ztu p))/\Below w.heap.size w w':=by
 obtain⟨A,a,B,b,C,c,rfl,r,s,u⟩:=h;have lA:=(zqg r).choose_spec.choose_spec.2;have lB:=(X8 s).choose_spec.choose_spec.2;have au:=(X8 u).choose_spec.choose_spec.2;obtain⟨n,ar,f,af,av⟩:=J5 w #[.slice A p.A.length a,.slice B p.B.length b,.slice C p.C.length c] 54;obtain⟨M,ah,ai,m,O,q⟩:=hd6 (IsM.stb.next r f) (IsV.stb.next s f) (IsV.stb.next u f) (af) (f) (Bru.next ae f);clear r s u af f ae;obtain⟨P,U,Z⟩:=B9 m.out;obtain⟨x,I⟩:=nm (zlt p.A);obtain⟨y,J⟩:=nm (Z9 p.B);obtain⟨z,K⟩:=nm (Z9 p.C);obtain⟨e,G⟩:=nm (zke [x,y,z]);obtain⟨L,H⟩:=nm (yar p);have N:i (ztu p=if e≠0 then e else L):=(by rw[i,G,I,J,K,H];rfl);obtain⟨al,an,ao,aj,ak⟩:=hd5 I J K G H;clear I J K G H;go_in;go_wp2_with fail;clear ar
 go_region_held3 (fun w'=>w'.cell? ⟨w.heap.size,0,none⟩=some (.slice A p.A.length a)/\w'.cell? ⟨w.heap.size,1,none⟩=some (.slice B p.B.length b)/\w'.cell? ⟨w.heap.size,2,none⟩=some (.slice C p.C.length c))
  (first
    |exact⟨P,U,Z⟩
    |exact⟨Q,V,aa⟩
    |exact⟨R,W,ab⟩
    |exact⟨S,X,ac⟩
    |exact⟨T,Y,ad⟩
    |exact⟨C0 (L8 _ _) P,C0 (L8 _ _) U,C0 (L8 _ _) Z⟩
    |exact⟨C0 (L8 _ _) Q,C0 (L8 _ _) V,C0 (L8 _ _) aa⟩
    |exact⟨C0 (L8 _ _) R,C0 (L8 _ _) W,C0 (L8 _ _) ab⟩
    |exact⟨C0 (L8 _ _) S,C0 (L8 _ _) X,C0 (L8 _ _) ac⟩
    |exact⟨C0 (L8 _ _) T,C0 (L8 _ _) Y,C0 (L8 _ _) ad⟩)
  (first
    |(go_at_call 73;have hc:=(show D E 73 #[.slice A p.A.length a] (World.drew n) (fun d w'=>d= .returned (.int .i64 x)/\Below (World.heap (World.drew n)).size (World.drew n) w') from by rw[al.out];exact yhg (uM n.drew M) (uU n.drew q));(with_reducible refine hc.mono ?_);clear hc;rintro d j ⟨rfl,F⟩;obtain⟨Q,V,aa⟩:=B9 (uR j m))
    |(go_at_call 74;have hc:=(show D E 74 #[.slice B p.B.length b] j (fun d w'=>d= .returned (.int .i64 y)/\Below (World.heap j).size j w') from by rw[an.out];exact zuz (uV j ah) (uU j q));(with_reducible refine hc.mono ?_);clear hc;rintro d k ⟨rfl,F⟩;obtain⟨R,W,ab⟩:=B9 (uR k m))
    |(go_at_call 74;have hc:=(show D E 74 #[.slice C p.C.length c] k (fun d w'=>d= .returned (.int .i64 z)/\Below (World.heap k).size k w') from by rw[ao.out];exact zuz (uV k ai) (uU k q));(with_reducible refine hc.mono ?_);clear hc;rintro d ag ⟨rfl,F⟩;obtain⟨S,X,ac⟩:=B9 (uR ag m))
    |(go_at_call 72;have hc:=ytv ag x y z e aj.out;(with_reducible refine hc.mono ?_);clear hc;rintro d l ⟨rfl,F⟩;obtain⟨T,Y,ad⟩:=B9 (uR l m)))
 by_cases g:e=0;(case neg=>have aq:(e !=0)=true:=bne_iff_ne.2 g;have o:i (ztu p=e):=(by rw[i,N.out,if_pos g]);clear g;go_wp2_with fail;go_ret;exact⟨J0 o.out.symm,(uB l O)⟩);have aq:(e !=0)=false:=(by rw[g];rfl);have o:i (ztu p=L):=(by rw[i,N.out,if_neg (by simp[g])]);clear g;go_wp2_with fail;refine(show D E 76 #[.slice A p.A.length a,.int .i64 (p.B.length:Int),.int .i64 (p.C.length:Int)] l (fun d w'=>d= .returned (.int .i64 L)/\l=w') from by rw[ak.out];exact yhd (uM l M) lB au).mono ?_;rintro d ay ⟨rfl,rfl⟩;go_wp2_with fail;go_ret;exact⟨J0 o.out.symm,(uB l O)⟩
end Go.Proofs.YtlhhbccgfkhflaaGreatDoor
