/-
 Plain facts on a program of rational numbers,e c,and h two ways of g i f b d.
-/
import Derived.Test.YtpbilanpeioonaaGreatDoorDpv10
namespace Go.Proofs.YtpbilanpeioonaaGreatDoor
set_option linter.unusedVariables false
open Go.RowKit
set_option maxRecDepth 100000
set_option maxHeartbeats 8000000
open _root_.Go.Lib renaming hid → m
open _root_.Nat renaming lt_or_ge → Q, zero_le → U
open _root_.Go.World renaming cell?_setCell_other → D, size_alloc → P
open _root_.Go.RowKit.Below renaming refl → J
open _root_.Bool renaming and_eq_true → R
open _root_.Go renaming World → i, Value → k, Calls → C, undef → K, Addr → h
open _root_.Go.RowKit renaming Below → j, Hid → d
open _root_.Go.Proofs.Tryz renaming prog → p
variable {b c e f u v F G : k} {base g n o : Nat} {l : List Raw} {t : TypeId} {A : i}
def zps (l:List Rat):List Rat:=l.map fun q=> -q
def zlb (a:ProgQ):ProgQ:=⟨(List.range a.C.length).map fun b=>zps (zkh a.A b),zps a.C,zps a.B⟩
theorem yra (l:List Rat):zlz (C5 l)=l.any fun q=>decide (q<0):=by unfold zlz C5;rw[List.any_map];congr 1;funext q;exact yna
structure Sol where
 st:Int
 val:Raw
 X:List Raw
 D:List Raw
 R:List Raw
def IsSol (w:i) (S:Nat->Prop) (v:k) (s:Sol):Prop:=
 ∃d f e l A a B b C c,v= .agg #[.int .i64 s.st,.bool s.val.neg,.slice d s.val.num.length f,.slice e s.val.den.length l,.slice A s.X.length a,.slice B s.D.length b,.slice C s.R.length c]/\
  IsR w S (.agg #[.bool s.val.neg,.slice d s.val.num.length f,.slice e s.val.den.length l]) s.val/\IsV w S (.slice A s.X.length a) s.X/\IsV w S (.slice B s.D.length b) s.D/\IsV w S (.slice C s.R.length c) s.R
theorem IsSol.stb:Stb IsSol:=by rintro w w' S T v s ⟨e,k,f,l,A,a,B,b,C,c,hv,g,h,i,j⟩ d;exact⟨e,k,f,l,A,a,B,b,C,c,hv,IsR.stb.to g d,IsV.stb.to h d,IsV.stb.to i d,IsV.stb.to j d⟩
def M8 (v:List Raw) (n:Nat):Bool:=decide (v.length=n)&&decide (Y3 v=0)
theorem yeu {q:List Rat} (a:q.length=n) (c:n<=40) (b:∀x∈q,Sz x 1024):M8 (C5 q) n=true:=by unfold M8;rw[R,decide_eq_true_eq,decide_eq_true_eq];exact⟨by rw[zkr,a],zws (by rw[a];exact c) b⟩
theorem zkw {w:i} (h:IsV w (C6 w) v l) (q:Bru w) (z:n<=9223372036854775807):
 C p 229 #[v,.int .i64 (n:Int)] w fun e w'=>e= .returned (.bool (M8 l n))/\j w.heap.size w w':=by
 obtain⟨k,s⟩:=C7 h q;obtain⟨A,c,rfl,y⟩:=K3 h;obtain⟨g,a⟩:=nm (l.length);rw[<-a] at k y⊢;clear h q;by_cases b:g=n
 ·have f:d (M8 l n=decide (Y3 l=0)):=(by rw[d,M8,<-a,decide_eq_true b,Bool.true_and]);have t:((g:Int)==(n:Int))=true:=(by rw[b];simp);obtain⟨x,r⟩:=nm (Y3 l);have o:=m r;clear a b r;go_in;go_wp2_with fail;refine(zto k.out s.out).mono ?_;rw[<-o.out];rintro e B ⟨rfl,u⟩;go_wp2_with fail;go_ret;refine⟨?_,u⟩;show Ending.returned (.bool _)=_;rw[f.out,<-o.out];rfl
 ·have f:d (M8 l n=false):=(by rw[d,M8,<-a,decide_eq_false b,Bool.false_and]);have t:((g:Int)==(n:Int))=false:=beq_eq_false_iff_ne.2 og;clear a b;go_in;go_wp2_with fail;go_ret;refine⟨?_,J _ _⟩;show Ending.returned (.bool _)=_;rw[f.out]
def zlr (a:Raw):Bool:=decide (a=E9 0)
theorem yaa {w:i} {a:Raw} (h:IsR w (C6 w) v a) (D:Bru w):
 C p 234 #[v] w fun e w'=>e= .returned (.bool (zlr a))/\j w.heap.size w w':=by
 obtain⟨k,s⟩:=C7 h D;obtain⟨H,K,I,l,rfl,_,_⟩:=h;obtain⟨A,F,E,r,M⟩:=J7 w #[.bool a.neg,.slice H a.num.length K,.slice I a.den.length l] 37;obtain⟨c,J⟩:=C7 E r;obtain⟨y,z,B⟩:=C4 r;obtain⟨x,g⟩:=nm (O0 a);have u:=m g;clear E r D;by_cases f:x=0
 ·obtain⟨q,o⟩:=ysi (by rw[<-g];exact f:O0 a=0);subst f
  have n:d ((U6 q==0)=zlr a):=by
   unfold d zlr;rw[o];rcases Decidable.em (q=0) with h|h
   ·rw[h,decide_eq_true rfl,sgnQ_zero.2 rfl];rfl
   ·rw[decide_eq_false (fun e=>h (zti e)),beq_eq_false_iff_ne];exact fun e=>h (sgnQ_zero.1 e)
  have G:=m o;clear g o;go_in;go_wp2_with fail;clear F;refine(zvc (IsR.stb.to k.out (E0 c.out)) (Bru.next s.out c.out)).mono ?_;rw[<-u.out];rintro e L ⟨rfl,b⟩;have t:=nB c b;clear y z B;obtain⟨y,z,B⟩:=C4 (J.out.next b);clear b;go_wp2_with fail;refine(zpy (q:=q) (by have h:=IsR.stb.to k.out (E0 t.out);rw[G.out] at h⊢;exact h)).mono ?_;rintro e O ⟨rfl,b⟩;go_wp2_with fail;go_ret;refine⟨?_,C8 t.out b⟩;show Ending.returned (.bool _)=_;rw[<-n.out]
 ·have n:d (zlr a=false):=(by rw[d,zlr,decide_eq_false];intro e;exact f (by rw[g,e];exact zwr (Sz.zero.le og)));have N:(x==0)=false:=beq_eq_false_iff_ne.2 f;clear g f;go_in;go_wp2_with fail;clear F;refine(zvc (IsR.stb.to k.out (E0 c.out)) (Bru.next s.out c.out)).mono ?_;rw[<-u.out];rintro e L ⟨rfl,b⟩;go_wp2_with fail;go_ret;refine⟨?_,C8 c.out b⟩;show Ending.returned (.bool _)=_;rw[n.out]
abbrev zpi (w:i) (f:FuncId) (v:k) (b:Bool):Prop:=∀a,j w.heap.size w a->C p f #[v] a fun e w'=>e= .returned (.bool b)/\j a.heap.size a w'
theorem ycd {w:i} {o q r:FuncId} {l b2 b3:Bool} (hr:Row w g t [.func (.func o) #[v] #[],.func (.func q) #[v] #[],.func (.func r) #[v] #[]])
 (M:∀w,(callFunc o #[v]).run p w= .ok (.enter o #[v]) w) (N:∀w,(callFunc q #[v]).run p w= .ok (.enter q #[v]) w) (O:∀w,(callFunc r #[v]).run p w= .ok (.enter r #[v]) w)
 (y:zpi w o v l) (z:l=true->zpi w q v b2) (A:l=true->b2=true->zpi w r v b3):
 C p 228 #[.slice (some ⟨g,0,none⟩) 3 3] w fun e w'=>e= .returned (.bool (l&&b2&&b3))/\j w.heap.size w w':=by
 obtain⟨G,D,E,F⟩:=U2 hr y z A;clear hr y z A;go_in;go_wp2_with fail;go_loopw [7] (fun x wr=>∃a:Nat,a<=3/\x= .int .i64 (a:Int)/\j w.heap.size w wr/\d ((0<a->l=true)/\(1<a->b2=true)/\(2<a->b3=true))) (fun x _=>3-(intOf x).toNat);case atStart=>exact⟨0,by omega,rfl,J _ _,fun h=>by omega,fun h=>by omega,fun h=>by omega⟩
 case round=>
  obtain⟨a,P,rfl,u,hrel⟩:=hrel;have f:=m u;have k:=m hrel.out;obtain⟨I,K,L⟩:=C4 (G.out.next u);clear hrel u;rcases(by omega:a=0\/a=1\/a=2\/a=3) with rfl|rfl|rfl|rfl
  ·cases l
   all_goals
    go_wp2_with fail
    refine(D.out _ f.out).mono ?_
    rintro e B ⟨rfl,c⟩
    have b:=nB f c
    clear c
    go_wp2_with fail
   ·go_ret;exact⟨rfl,b.out⟩
   ·go_roundw;(case rel=>exact⟨1,by omega,by go_num,b.out,fun _=>by trivial,fun h=>by omega,fun h=>by omega⟩);case measure=>simp[intOf]
  ·have n:=k.out.1 og;subst n;cases b2
   all_goals
    go_wp2_with fail
    refine(E.out (by trivial) _ f.out).mono ?_
    rintro e B ⟨rfl,c⟩
    have b:=nB f c
    clear c
    go_wp2_with fail
   ·go_ret;exact⟨rfl,b.out⟩
   ·go_roundw;(case rel=>exact⟨2,by omega,by go_num,b.out,fun _=>by trivial,fun _=>by trivial,fun h=>by omega⟩);case measure=>simp[intOf]
  ·have n:=k.out.1 og;have s:=k.out.2.1 og;subst n s;cases b3
   all_goals
    go_wp2_with fail
    refine(F.out (by trivial) (by trivial) _ f.out).mono ?_
    rintro e B ⟨rfl,c⟩
    have b:=nB f c
    clear c
    go_wp2_with fail
   ·go_ret;exact⟨rfl,b.out⟩
   ·go_roundw;(case rel=>exact⟨3,by omega,by go_num,b.out,fun _=>by trivial,fun _=>by trivial,fun _=>by trivial⟩);case measure=>simp[intOf]
  ·have n:=k.out.1 og;have s:=k.out.2.1 og;have H:=k.out.2.2 og;subst n s H;go_wp2_with fail;go_ret;exact⟨rfl,f.out⟩
theorem ynp {w w':i} {S:Nat->Prop} (d:w.grownBy w' (some g)) (c:∀b,S b->b<w.heap.size/\b≠g):L8 S S w w':=fun b a=>⟨a,fun o=>World.cell?_of_block (d.block b (c b a).1 (fun e=>(c b a).2 (by cases e;rfl)))⟩
theorem K7 {w w':i} {row:Option Nat} (a:j w.heap.size w w'):w.grownBy w' row:=⟨a.os,a.tape,a.output,a.size,fun c b _=>a.block c b⟩
theorem I0 (w:i) (g o:Nat) (u:k):w.grownBy (w.setCell ⟨g,o,none⟩ u) (some g):=
 ⟨rfl,rfl,rfl,by simp[World.setCell],fun b _ a=>Below.heap_setCell w ⟨g,o,none⟩ u b (fun e=>a (by rw[e]))⟩
theorem yjt {a b c:i} {row:Option Nat} (h:a.grownBy b row) (d:j a.heap.size b c):a.grownBy c row:=⟨d.os.trans h.os,d.tape.trans h.tape,d.output.trans h.output,Nat.le_trans h.size d.size,fun f e hr=>(d.block f e).trans (h.block f e hr)⟩
theorem OwnS.slice {b:Type} {R:i->(Nat->Prop)->k->b->Prop} {w:i} {S:Nat->Prop} {l:List b} (h:OwnS n t R w base S v l):∃A c,v= .slice A l.length c:=by
 obtain⟨j,d,_⟩:=h;rcases d.2 with⟨a,e⟩|⟨g,cap,f,a,_⟩
 ·exact⟨none,0,by rw[a,e]⟩
 ·exact⟨_,_,a⟩
theorem OwnS.stepG {j:Type} {R:i->(Nat->Prop)->k->j->Prop} (q:Stb R) {w w':i} {S:Nat->Prop} {l:List j} (h:OwnS n t R w base S v l)
 (d:w.grownBy w' (some g)) (s:g<base) (r:∀b,S b->b≠g):OwnS n t R w' base S v l:=by obtain⟨m,f,o,p,c⟩:=h;refine⟨m,f.kept d (.inr fun e=>by have:=(f.lt g e).1;omega),o,p.imp fun x y h=>q.to h (ynp d fun b a=>⟨(c b a).1,r b a⟩),fun b a=>⟨Nat.lt_of_lt_of_le (c b a).1 d.size,(c b a).2⟩⟩
theorem zz1509:(Tryz.prog.info? 30).map (fun a=>(a.zero,a.size,a.bytes))=some (some (.slice none 0 0),1,24):=by kernel_rfl
theorem elV:ElN p 28 30 1 24:=
 ⟨Tryz.underlying28,by obtain⟨e,a,b,c,d⟩:=info_parts zz1509;exact⟨e,_,a,b,c,d,rfl⟩,by omega⟩
def SP (w A:i) (g:Nat) (a:i) (b:Nat):Prop:=(b<w.heap.size\/A.heap.size<=b)/\b<a.heap.size/\b≠g
theorem yfc {w a:i} {x y z:k} (l:w.heap.size+2<=A.heap.size):L8 (SP w A g a) (C6 (put3 ((a.setCell ⟨g,1,none⟩ b).setCell ⟨g,2,none⟩ c) (w.heap.size+1) x y z)) a (put3 ((a.setCell ⟨g,1,none⟩ b).setCell ⟨g,2,none⟩ c) (w.heap.size+1) x y z):=fun j f=>by
 have d:j≠w.heap.size+1:=by have:=f.1;omega
 have h:=f.2.2
 refine⟨by show j<_;rw[zqv];simpa[World.setCell] using f.2.1,fun o=> ?_⟩
 rw[D _ _ _ _ (fun e=>d (by cases e;rfl)),D _ _ _ _ (fun e=>d (by cases e;rfl)),D _ _ _ _ (fun e=>d (by cases e;rfl)),
  D _ _ _ _ (fun e=>h (by cases e;rfl)),D _ _ _ _ (fun e=>h (by cases e;rfl))]
theorem yng {b:Func} {slot:Tmp} {R:Ending->i->Prop} {a:Act} {w:i} {x y z:k} (hr:b.results= #[.cell slot 32]) (ha:a.tmps.getD slot K= .pointer (some ⟨g,0,none⟩)) (hd:a.defers=[])
 (h:Row w g 32 [x,y,z]) (f:R (.returned (.agg #[x,y,z])) w):bodyPost p b R .ret a w:=by refine bodyPost_ret (v:= .agg #[x,y,z]) ?_ hd f;obtain⟨c,d,e⟩:=C4 h;have j:a.tmps[slot]?.getD K= .pointer (some ⟨g,0,none⟩):=(by simpa using ha);simp[results,hr,j,asAddr,go_sem,c,d,e]
theorem zz1420 {a:Func} {slot t:Tmp} {tmps:Array k} {w:i} {x y z:k} (hr:a.results= #[.cell slot 32,.tmp t]) (ha:tmps.getD slot K= .pointer (some ⟨g,0,none⟩))
 (h:Row w g 32 [x,y,z]):(results a tmps).run p w= .ok (.tuple #[.agg #[x,y,z],tmps.getD t K]) w:=by obtain⟨b,c,d⟩:=C4 h;have e:tmps[slot]?.getD K= .pointer (some ⟨g,0,none⟩):=(by simpa using ha);simp[results,hr,e,asAddr,go_sem,b,c,d]
theorem ydm {a:Type} {R:i->(Nat->Prop)->k->a->Prop} {w:i} {S:Nat->Prop} {es:List k} {l:List a} (h:Row w g t (cellsOf es)) (b:S g) (d:Wid n es) (ha:All2 (R w S) es l) (f:l.length<=9223372036854775807):
 IsS n R w S (.slice (some ⟨g,0,none⟩) l.length l.length) l:=by refine⟨_,_,es,rfl,Nat.le_refl _,by unfold maxLen;omega,fun _=>⟨g,0,rfl,b,fun e u c=> ?_⟩,d,ha⟩;rw[Nat.zero_add];exact h.cell e|>.trans (by simpa using c)
theorem ygv {a b:Type} {R:a->b->Prop} {x:a} {y:b} (h:R x y):All2 R [x] [y]:=All2.snoc All2.nil h
theorem ygw {a b:Type} {R:a->b->Prop} {x u:a} {y v:b} (h:R x y) (c:R u v):All2 R [x,u] [y,v]:=All2.snoc (a:=[x]) (b:=[y]) (ygv h) c
theorem yke {w:i} {b:List Raw} (h:Row w g t [v,u]) (hv:IsV w (C6 w) v l) (a:IsV w (C6 w) u b):IsM w (C6 w) (.slice (some ⟨g,0,none⟩) 2 2) [l,b]:=by obtain⟨A,c,rfl,_⟩:=K3 hv;obtain⟨B,d,rfl,_⟩:=K3 a;exact ydm (es:=[.slice A l.length c,.slice B b.length d]) (l:=[l,b]) h h.lt (by intro u a;simp at a;rcases a with rfl|rfl<;>rfl) (ygw hv a) (by simp)
def K0 (l:List Int):List Rat:=l.map fun x=>Y8 x 1
theorem yfv (l:List Int):(K0 l).length=l.length:=List.length_map _
theorem zz1510 {l:List Int} {a:Nat} {x:Int} (h:l[a]? =some x):(K0 l).take (a+1)=(K0 l).take a++[Y8 x 1]:=by refine zpc ?_;unfold K0;rw[List.getElem?_map,h];rfl
def ykb (l:List Int):List k:=l.map fun x=> .int .i64 x
theorem zqa {w:i} {c:Nat} {l:List Int} (hr:Row w g t (ykb l)) (aa:l.length<=40) (M:∀x∈l,x.natAbs<=1000000):
 C p 112 #[.slice (some ⟨g,0,none⟩) l.length c] w fun e w'=>(∃v,e= .returned v/\IsV w' (I8 w.heap.size w') v (C5 (K0 l)))/\j w.heap.size w w':=by
 obtain⟨N,R⟩:=C7 hr M;obtain⟨n,A⟩:=nm (l.length);have H:=m A;rw[<-A] at aa⊢;have ah:g<w.heap.size:=hr.lt;clear hr M A;go_in;go_wp2_with fail;go_loopw [3,4] (fun v D wr=>∃(k:Nat) (S:Nat->Prop),k<=n/\D= .int .i64 (k:Int)/\j w.heap.size w wr/\OwnS 3 37 IsR wr w.heap.size S v (C5 ((K0 l).take k))/\d (∀b,S b->w.heap.size<=b)) (fun _ D _=>n-(intOf D).toNat);case atStart=>exact⟨0,fun _=>False,U _,rfl,J _ _,by simpa[C5] using(OwnS.nil (fun b h=>False.elim h):OwnS 3 37 IsR w w.heap.size (fun _=>False) _ _),fun _ h=>False.elim h⟩
 case round=>
  obtain⟨k,S,ai,rfl,q,K,I⟩:=hrel;have G:=m q;have E:=m I.out;have z:=m K;have aj:=q.size;clear K I;rcases Q k n with ab|ag
  ·obtain⟨x,r⟩:=zob (l:=l) (j:=k) (by rw[<-H.out];exact ab);have hc:wr.cell? ⟨g,k,none⟩=some (.int .i64 x):=((N.out.next q).cell k).trans (by unfold ykb;rw[List.getElem?_map,r];rfl);have T:=m r;have ak:=R.out x (List.mem_of_getElem? r);clear r q;go_wp2_with fail;refine(zxq (a:=x) (b:=1) og og og).mono ?_;rintro e y ⟨⟨a,rfl,B⟩,f⟩;obtain⟨O,P⟩:=C7 f B;have F:=nB G f;have Y:w.heap.size<=y.heap.size:=F.out.size;obtain⟨aq,af,an,ae,ao,rfl,_,_,_⟩:=G4 B;have ac:=OwnS.step IsR.stb (T:=fun b=>S b\/(wr.heap.size<=b/\b<y.heap.size)) z.out O.out (fun b h=> .inl h) (fun b h=>h);have Z:=IsQ.stb.to P.out (G6 (T:=fun b=>S b\/(wr.heap.size<=b/\b<y.heap.size)) fun b h=> .inr h);clear f B hc;go_wp2_with (at_builtin;refine zqb zlf rfl _ _ rfl IsR.stb rfl rfl rfl ac Z rfl (by intro u L;simp[Value.cells] at L;rcases L with rfl|rfl|rfl<;>rfl) (by have o:=List.length_take_le k (K0 l);rw[zkr];omega) Y ?_;intro s ar ad X al);go_roundw;(case rel=>refine⟨k+1,fun b=>S b\/(wr.heap.size<=b/\b<y.heap.size),by omega,by go_num,F.out.trans X,?_,fun b f=>by rcases f with f|f;exact E.out b f;omega⟩;rw[zz1510 T.out,C5,List.map_append];exact ad);case measure=>simp[intOf];omega
  ·obtain rfl:k=n:=og;clear q;go_wp2_with fail;go_ret;refine⟨⟨_,rfl,?_⟩,G.out⟩;have o:=OwnS.isS IsR.stb (T:=I8 w.heap.size wr) z.out (fun b f=>⟨E.out b f,by obtain⟨_,_,_,_,W⟩:=z.out;exact(W b f).1⟩) (fun b o V=>⟨o,V⟩);rw[List.take_of_length_le (by rw[yfv,<-H.out];exact Nat.le_refl _)] at o;exact o
def exQ:ProgQ:=⟨[K0 [1,1],K0 [1,3]],K0 [4,6],K0 [3,2]⟩
theorem ycx (w:i):C p 111 #[] w fun e w'=>(∃v,e= .returned v/\IsP w' (C6 w') v (J6 exQ))/\j w.heap.size w w':=by obtain⟨A,Y,Q,U,t⟩:=J7 w #[.slice none 0 0,.slice none 0 0,.slice none 0 0] 32;obtain⟨f,c⟩:=C7 U Q;clear U Q;go_in;go_wp2_with fail;clear Y;refine(zqa (w:=A.alloc (.cells #[.int .i64 1,.int .i64 1] 3)) (l:=[1,1]) (heap_alloc_new A _) (by decide) (by decide)).mono ?_;rintro e L ⟨⟨F,rfl,hv⟩,g⟩;have a:=C8 (N6 A _) g;have n:=m c.out.size;have c:=nB c a;obtain⟨f,l⟩:=C7 (f.out.next a) (IsV.stb.le hv (m:=w.heap.size+1) (by have E:=c.out.size;have H:=t.out;have I:=a.size;rw[P];have J:=n.out;omega));obtain⟨N,S,rfl,_⟩:=K3 hv;clear hv g a;go_wp2_with fail;refine(zqa (w:=L.alloc (.cells #[.int .i64 1,.int .i64 3] 3)) (l:=[1,3]) (heap_alloc_new L _) (by decide) (by decide)).mono ?_;rintro e V ⟨⟨G,rfl,hv⟩,g⟩;have a:=C8 (N6 L _) g;have l:=m (IsV.stb.fresh l.out a);have n:=m c.out.size;have c:=nB c a;obtain⟨f,o⟩:=C7 (f.out.next a) (IsV.stb.le hv (m:=w.heap.size+1) (by have E:=c.out.size;have H:=t.out;have I:=a.size;rw[P];have J:=n.out;omega));obtain⟨O,T,rfl,_⟩:=K3 hv;clear hv g a;have X:=m f.out.lt;obtain⟨s,Z,r,K,aa⟩:=J7 V #[.slice N (C5 (K0 [1,1])).length S,.slice O (C5 (K0 [1,3])).length T] 30;obtain⟨l,o⟩:=C7 (IsV.stb.fresh l.out r) (IsV.stb.fresh o.out r);have n:=m c.out.size;have c:=nB c r;have f:=m (f.out.next r);have q:d (IsM s (I8 (w.heap.size+1) s) (.slice (some ⟨V.heap.size,0,none⟩) 2 2) (J4 [K0 [1,1],K0 [1,3]])):=ydm (es:=[.slice N (C5 (K0 [1,1])).length S,.slice O (C5 (K0 [1,3])).length T]) (l:=[C5 (K0 [1,1]),C5 (K0 [1,3])]) K ⟨X.out,K.lt⟩ (by intro u R;simp at R;rcases R with rfl|rfl<;>rfl) (ygw l.out o.out) (by simp);clear r K;go_wp2_with fail;clear Z;refine(zqa (w:=s.alloc (.cells #[.int .i64 4,.int .i64 6] 3)) (l:=[4,6]) (heap_alloc_new s _) (by decide) (by decide)).mono ?_;rintro e M ⟨⟨ai,rfl,hv⟩,g⟩;have a:=C8 (N6 s _) g;obtain⟨l,o,q⟩:=H7 (IsV.stb.fresh l.out a) (IsV.stb.fresh o.out a) (IsM.stb.fresh q.out a);have n:=m c.out.size;have c:=nB c a;obtain⟨f,D⟩:=C7 (f.out.next a) (IsV.stb.le hv (m:=w.heap.size+1) (by have E:=c.out.size;have H:=t.out;have I:=a.size;rw[P];have J:=n.out;omega));obtain⟨ab,ag,rfl,_⟩:=K3 hv;clear hv g a;go_wp2_with fail;refine(zqa (w:=M.alloc (.cells #[.int .i64 3,.int .i64 2] 3)) (l:=[3,2]) (heap_alloc_new M _) (by decide) (by decide)).mono ?_;rintro e B ⟨⟨aj,rfl,hv⟩,g⟩;have a:=C8 (N6 M _) g;obtain⟨l,o,q,D⟩:=U2 (IsV.stb.fresh l.out a) (IsV.stb.fresh o.out a) (IsM.stb.fresh q.out a) (IsV.stb.fresh D.out a);have n:=m c.out.size;have c:=nB c a;obtain⟨f,W⟩:=C7 (f.out.next a) (IsV.stb.le hv (m:=w.heap.size+1) (by have E:=c.out.size;have H:=t.out;have I:=a.size;rw[P];have J:=n.out;omega));obtain⟨ac,ah,rfl,_⟩:=K3 hv;clear hv g a;obtain⟨ak,al,an⟩:=C4 f.out;obtain⟨ad,ae,af⟩:=F6 f.out;go_wp2_with fail;refine yng Tryz.results111 rfl rfl (Row.put3 f.out _ _ _) ?_;have same:∀x y z:k,L8 (I8 (w.heap.size+1) B) (C6 (put3 B w.heap.size x y z)) B (put3 B w.heap.size x y z):=fun x y z=>zqt fun b h=>⟨by have:=h.1;omega,by show b<_;rw[zqv];exact h.2⟩;exact⟨⟨_,rfl,zwz (p:=J6 exQ) (IsM.stb.to q.out (same _ _ _)) (IsV.stb.to D.out (same _ _ _)) (IsV.stb.to W.out (same _ _ _))⟩,zqe c.out (Nat.le_refl _) _ _ _⟩
def bestS:Sol:=⟨1,E9 (Y8 12 1),C5 (K0 [4,0]),C5 (K0 [3,0]),[]⟩
abbrev put7 (w:i) (g:Nat) (a b c d e f h:k):i:=((((((w.setCell ⟨g,0,none⟩ a).setCell ⟨g,1,none⟩ b).setCell ⟨g,2,none⟩ c).setCell ⟨g,3,none⟩ d).setCell ⟨g,4,none⟩ e).setCell ⟨g,5,none⟩ f).setCell ⟨g,6,none⟩ h
theorem Row.put7 {w:i} {a d h:k} (r:Row w g t [a,b,c,d,e,f,h]) (j l m n o p q:k):Row (Go.Proofs.YtpbilanpeioonaaGreatDoor.put7 w g j l m n o p q) g t [j,l,m,n,o,p,q]:=((((((r.set_ 0 j).set_ 1 l).set_ 2 m).set_ 3 n).set_ 4 o).set_ 5 p).set_ 6 q
theorem zz1458 (w:i) (g:Nat) (a b c d e f h:k):(put7 w g a b c d e f h).heap.size=w.heap.size:=by simp[put7,World.setCell]
theorem zz1446 {w:i} {S j:Nat->Prop} {a d m:k} (h:∀x,S x->x≠g/\j x):L8 S j w (put7 w g a b c d e f m):=fun x l=>by
 have:=h x l
 refine⟨this.2,fun o=> ?_⟩
 rw[D _ _ _ _ (fun e=>this.1 (by cases e;rfl)),D _ _ _ _ (fun e=>this.1 (by cases e;rfl)),D _ _ _ _ (fun e=>this.1 (by cases e;rfl)),D _ _ _ _ (fun e=>this.1 (by cases e;rfl)),
  D _ _ _ _ (fun e=>this.1 (by cases e;rfl)),D _ _ _ _ (fun e=>this.1 (by cases e;rfl)),D _ _ _ _ (fun e=>this.1 (by cases e;rfl))]
theorem yrf {w o:i} (h:j n w o) (l:n<=g) (a b c d e f m:k):j n w (put7 o g a b c d e f m):=
 ((((((h.setCell (p:=⟨g,0,none⟩) l a).setCell (p:=⟨g,1,none⟩) l b).setCell (p:=⟨g,2,none⟩) l c).setCell (p:=⟨g,3,none⟩) l d).setCell (p:=⟨g,4,none⟩) l e).setCell (p:=⟨g,5,none⟩) l f).setCell (p:=⟨g,6,none⟩) l m
theorem zz1424 {b:Func} {slot:Tmp} {R:Ending->i->Prop} {a:Act} {w:i} {x y z s t:k} (hr:b.results= #[.cell slot 39]) (ha:a.tmps.getD slot K= .pointer (some ⟨g,0,none⟩)) (hd:a.defers=[])
 (h:Row w g 39 [x,y,z,u,v,s,t]) (n:R (.returned (.agg #[x,y,z,u,v,s,t])) w):bodyPost p b R .ret a w:=by refine bodyPost_ret (v:= .agg #[x,y,z,u,v,s,t]) ?_ hd n;have c:=h.cell 0;have d:=h.cell 1;have e:=h.cell 2;have f:=h.cell 3;have j:=h.cell 4;have l:=h.cell 5;have m:=h.cell 6;simp at c d e f j l m;have o:a.tmps[slot]?.getD K= .pointer (some ⟨g,0,none⟩):=(by simpa using ha);simp[results,hr,o,asAddr,go_sem,c,d,e,f,j,l,m]
theorem yri (w:i):C p 113 #[] w fun e w'=>(∃v,e= .returned v/\IsSol w' (C6 w') v bestS)/\j w.heap.size w w':=by obtain⟨A,Y,K,R,o⟩:=J7 w #[.int .i64 0,.bool false,.slice none 0 0,.slice none 0 0,.slice none 0 0,.slice none 0 0,.slice none 0 0] 39;obtain⟨a,c⟩:=C7 R K;clear R K;go_in;go_wp2_with fail;clear Y;refine(zxq (a:=12) (b:=1) og og og).mono ?_;rintro e r ⟨⟨ao,rfl,hv⟩,f⟩;have l:=m c.out.size;have c:=nB c f;obtain⟨a,g⟩:=C7 (a.out.next f) (IsQ.stb.le hv (m:=w.heap.size+1) (by have J:=o.out;omega));obtain⟨S,I,O,D,Q,rfl,X,_,_⟩:=G4 hv;clear hv f;go_wp2_with fail;refine(zqa (w:=r.alloc (.cells #[.int .i64 4,.int .i64 0] 3)) (l:=[4,0]) (heap_alloc_new r _) (by decide) (by decide)).mono ?_;rintro e B ⟨⟨F,rfl,hv⟩,f⟩;have d:=C8 (N6 r _) f;have g:=m (IsQ.stb.fresh g.out d);have l:=m c.out.size;have c:=nB c d;obtain⟨a,q⟩:=C7 (a.out.next d) (IsV.stb.le hv (m:=w.heap.size+1) (by have U:=c.out.size;have J:=o.out;have V:=d.size;rw[P];have W:=l.out;omega));obtain⟨E,M,rfl,_⟩:=K3 hv;clear hv f d;go_wp2_with fail;refine(zqa (w:=B.alloc (.cells #[.int .i64 3,.int .i64 0] 3)) (l:=[3,0]) (heap_alloc_new B _) (by decide) (by decide)).mono ?_;rintro e n ⟨⟨G,rfl,hv⟩,f⟩;have d:=C8 (N6 B _) f;obtain⟨g,q⟩:=C7 (IsQ.stb.fresh g.out d) (IsV.stb.fresh q.out d);have l:=m c.out.size;have c:=nB c d;obtain⟨a,T⟩:=C7 (a.out.next d) (IsV.stb.le hv (m:=w.heap.size+1) (by have U:=c.out.size;have J:=o.out;have V:=d.size;rw[P];have W:=l.out;omega));obtain⟨H,N,rfl,_⟩:=K3 hv;clear hv f d;have Z:=a.out.cell 0;have ag:=a.out.frozen 0;have aa:=a.out.cell 1;have ah:=a.out.frozen 1;have ab:=a.out.cell 2;have ai:=a.out.frozen 2;have ac:=a.out.cell 3;have aj:=a.out.frozen 3;have ad:=a.out.cell 4;have ak:=a.out.frozen 4;have ae:=a.out.cell 5;have al:=a.out.frozen 5;have af:=a.out.cell 6;have an:=a.out.frozen 6;simp at Z aa ab ac ad ae af;go_wp2_with fail;refine zz1424 Tryz.results113 rfl rfl (Row.put7 a.out _ _ _ _ _ _ _) ?_;have same:∀x y z u v s t:k,L8 (I8 (w.heap.size+1) n) (C6 (put7 n w.heap.size x y z u v s t)) n (put7 n w.heap.size x y z u v s t):=fun x y z u v s t=>zz1446 fun b h=>⟨by have:=h.1;omega,by show b<_;rw[zz1458];exact h.2⟩;have L:S=(E9 (Y8 12 1)).neg:=X.out;exact⟨⟨_,rfl,⟨I,O,D,Q,E,M,H,N,none,0,by rw[L];rfl,by have h:=IsQ.stb.to g.out (same (.int .i64 1) (.bool S) (.slice I (A9 (Y8 12 1).num.natAbs).length O) (.slice D (A9 (Y8 12 1).den).length Q) (.slice E (C5 (K0 [4,0])).length M) (.slice H (C5 (K0 [3,0])).length N) (.slice none 0 0));rw[L] at h⊢;exact h,IsV.stb.to q.out (same _ _ _ _ _ _ _),IsV.stb.to T.out (same _ _ _ _ _ _ _),IsS.nil⟩⟩,yrf c.out (Nat.le_refl _) _ _ _ _ _ _ _⟩
section
variable {w : i} {q : h} {v1 : k} {r : h} {a : k} {x : h} {s : k} {y : h} {v4 : k} {z : h} {B : k} {E : h} {v6 : k} {H : h} {I : k} {L : h} {N : k} {M : h} {O : k} {T : h} {v10 : k} {W : h} {v11 : k} {X : h} {Y : k} {Z : h} {ab : k} {aa : h} {ac : k}
theorem hs1 (b:w.cell? q=some v1):d (∀a:i,j w.heap.size w a->a.cell? q=some v1):=fun a h=>C0 h b
theorem zpp (c:w.cell? q=some v1) (e:w.cell? r=some a):d (∀b:i,j w.heap.size w b->b.cell? q=some v1/\b.cell? r=some a):=fun b h=>⟨C0 h c,C0 h e⟩
theorem zmk (c:w.cell? q=some v1) (e:w.cell? r=some a) (f:w.cell? x=some s):d (∀b:i,j w.heap.size w b->b.cell? q=some v1/\b.cell? r=some a/\b.cell? x=some s):=fun b h=>⟨C0 h c,C0 h e,C0 h f⟩
theorem hs4 (c:w.cell? q=some v1) (e:w.cell? r=some a) (f:w.cell? x=some s) (g:w.cell? y=some v4):d (∀b:i,j w.heap.size w b->b.cell? q=some v1/\b.cell? r=some a/\b.cell? x=some s/\b.cell? y=some v4):=fun b h=>⟨C0 h c,C0 h e,C0 h f,C0 h g⟩
theorem hs5 (c:w.cell? q=some v1) (e:w.cell? r=some a) (f:w.cell? x=some s) (g:w.cell? y=some v4) (k:w.cell? z=some B):d (∀b:i,j w.heap.size w b->b.cell? q=some v1/\b.cell? r=some a/\b.cell? x=some s/\b.cell? y=some v4/\b.cell? z=some B):=fun b h=>⟨C0 h c,C0 h e,C0 h f,C0 h g,C0 h k⟩
theorem zoj (c:w.cell? q=some v1) (e:w.cell? r=some a) (f:w.cell? x=some s) (g:w.cell? y=some v4) (k:w.cell? z=some B) (l:w.cell? E=some v6):d (∀b:i,j w.heap.size w b->b.cell? q=some v1/\b.cell? r=some a/\b.cell? x=some s/\b.cell? y=some v4/\b.cell? z=some B/\b.cell? E=some v6):=fun b h=>⟨C0 h c,C0 h e,C0 h f,C0 h g,C0 h k,C0 h l⟩
theorem hs7 (c:w.cell? q=some v1) (e:w.cell? r=some a) (f:w.cell? x=some s) (g:w.cell? y=some v4) (k:w.cell? z=some B) (l:w.cell? E=some v6) (m:w.cell? H=some I):d (∀b:i,j w.heap.size w b->b.cell? q=some v1/\b.cell? r=some a/\b.cell? x=some s/\b.cell? y=some v4/\b.cell? z=some B/\b.cell? E=some v6/\b.cell? H=some I):=fun b h=>⟨C0 h c,C0 h e,C0 h f,C0 h g,C0 h k,C0 h l,C0 h m⟩
theorem hs9 (c:w.cell? q=some v1) (e:w.cell? r=some a) (f:w.cell? x=some s) (g:w.cell? y=some v4) (k:w.cell? z=some B) (l:w.cell? E=some v6) (m:w.cell? H=some I) (n:w.cell? L=some N) (o:w.cell? M=some O):d (∀b:i,j w.heap.size w b->b.cell? q=some v1/\b.cell? r=some a/\b.cell? x=some s/\b.cell? y=some v4/\b.cell? z=some B/\b.cell? E=some v6/\b.cell? H=some I/\b.cell? L=some N/\b.cell? M=some O):=fun b h=>⟨C0 h c,C0 h e,C0 h f,C0 h g,C0 h k,C0 h l,C0 h m,C0 h n,C0 h o⟩
theorem zzk (c:w.cell? q=some v1) (f:w.cell? r=some a) (g:w.cell? x=some s) (k:w.cell? y=some v4) (l:w.cell? z=some B) (m:w.cell? E=some v6) (n:w.cell? H=some I) (o:w.cell? L=some N) (p:w.cell? M=some O) (e:w.cell? T=some v10):d (∀b:i,j w.heap.size w b->b.cell? q=some v1/\b.cell? r=some a/\b.cell? x=some s/\b.cell? y=some v4/\b.cell? z=some B/\b.cell? E=some v6/\b.cell? H=some I/\b.cell? L=some N/\b.cell? M=some O/\b.cell? T=some v10):=fun b h=>⟨C0 h c,C0 h f,C0 h g,C0 h k,C0 h l,C0 h m,C0 h n,C0 h o,C0 h p,C0 h e⟩
theorem yjx (c:w.cell? q=some v1) (k:w.cell? r=some a) (l:w.cell? x=some s) (m:w.cell? y=some v4) (n:w.cell? z=some B) (o:w.cell? E=some v6) (p:w.cell? H=some I) (t:w.cell? L=some N) (u:w.cell? M=some O) (e:w.cell? T=some v10) (f:w.cell? W=some v11) (g:w.cell? X=some Y):d (∀b:i,j w.heap.size w b->b.cell? q=some v1/\b.cell? r=some a/\b.cell? x=some s/\b.cell? y=some v4/\b.cell? z=some B/\b.cell? E=some v6/\b.cell? H=some I/\b.cell? L=some N/\b.cell? M=some O/\b.cell? T=some v10/\b.cell? W=some v11/\b.cell? X=some Y):=fun b h=>⟨C0 h c,C0 h k,C0 h l,C0 h m,C0 h n,C0 h o,C0 h p,C0 h t,C0 h u,C0 h e,C0 h f,C0 h g⟩
end
structure SH (w:i) where
 s:i->Prop
 h:d (∀W:i,j w.heap.size w W->s W)
theorem zmd {b:Program} {ops:Array Oper} {c:Exit->Act->i->Prop} {S:i->Prop} {id:Nat} {a:Act} {w:i} (h:d (∀e:i,j A.heap.size A e->S e)) (k:S w.drew->wpAnyH b .any ops c S ops.size (Array.replicate ops.size false) a w.drew) (g:b.follows .mixedOrders=true:=by kernel_rfl) (f:j A.heap.size A w.drew:=by exact bel):(Code.region id ops true).wp b c a w:=wp_region_held_drew g (h.out _ f) k
def NeL (V:Nat) (S:i->Prop):Prop:=∀(f:i->i),(∀b o v a,b≠V->a.cell? ⟨b,o,none⟩=some v->(f a).cell? ⟨b,o,none⟩=some v)->∀a,S a->S (f a)
theorem nA {V b:Nat} {S:i->Prop} (n:b≠V) (c:NeL V S):NeL V (fun a=>a.cell? ⟨b,o,none⟩=some v/\S a):=fun f hf a h=>⟨hf _ _ _ _ n h.1,c f hf a h.2⟩
theorem nZ {V b:Nat} (n:b≠V):NeL V (fun a=>a.cell? ⟨b,o,none⟩=some v):=fun f hf a h=>hf _ _ _ _ n h
section
variable {w : i} {V : Nat} {S : i → Prop}
theorem hp3 (h:d (∀a:i,j w.heap.size w a->S a)) (e:NeL V S):d (∀a:i,j w.heap.size w a->∀x y z,S (put3 a V x y z)):=fun a c x y z=>e (fun a=>Go.Proofs.YtpbilanpeioonaaGreatDoor.put3 a V x y z) (fun b o v a n h=>W6 h n) a (h.out a c)
end
def yat (a b:Raw):Bool:=decide (a.neg=b.neg)&&decide (a.num=b.num)&&decide (a.den=b.den)
theorem zz1443 {a b:Raw}:yat a b=true↔a=b:=by unfold yat;rw[R,R,decide_eq_true_eq,decide_eq_true_eq,decide_eq_true_eq];obtain⟨x,y,z⟩:=a;obtain⟨u,v,t⟩:=b;simp[and_assoc]
theorem zz1442 {a b:Raw}:yat a b=decide (a=b):=by rw[Bool.eq_iff_iff,zz1443,decide_eq_true_eq]
theorem zvn {a:IntKind} {w:i} {l:List Nat} (h:IsK a w (C6 w) v l):IsL a w 0 w.heap.size v l:=h.isL fun b c=>⟨U _,c⟩
theorem yfd {w:i} {a b:Raw} (ha:IsR w (C6 w) F a) (c:IsR w (C6 w) G b):
 C p 27 #[F,G] w fun e w'=>e= .returned (.bool (decide (a=b)))/\j w.heap.size w w':=by
 rw[<-zz1442];obtain⟨I,R,J,S,rfl,s,t⟩:=ha;obtain⟨K,T,L,U,rfl,u,v⟩:=c;obtain⟨l,M,n,N⟩:=U2 s t u v;unfold yat;obtain⟨r,g⟩:=nm (decide (a.neg=b.neg));obtain⟨b2,h⟩:=nm (decide (a.num=b.num));obtain⟨Q,k⟩:=nm (decide (a.den=b.den));have q:(a.neg==b.neg)=r:=(by rw[g];cases a.neg<;>cases b.neg<;>rfl);rw[<-g,<-h,<-k];obtain⟨o,P⟩:=C7 h k;clear g h k s t u v;obtain⟨A,y,x,z,B,V⟩:=zkn w #[.bool a.neg,.slice I a.num.length R,.slice J a.den.length S] #[.bool b.neg,.slice K b.num.length T,.slice L b.den.length U] 37 37;have d:=m x;obtain⟨X,Y,E⟩:=C4 z;obtain⟨Z,aa,H⟩:=C4 B;clear x z B;cases r with
 |false=>go_in;go_wp2_with fail;go_ret;exact⟨rfl,d.out⟩
 |true=>
  cases b2 with
  |false=>go_in;go_wp2_with fail;clear y;refine(ycc (zvn (IsK.stb.to l.out (E0 d.out))) (zvn (IsK.stb.to n.out (E0 d.out)))).mono ?_;rw[<-o.out];rintro e D ⟨rfl,hd⟩;have c:=hd.below A.heap.size;have f:=nB d c;go_wp2_with fail;go_ret;exact⟨rfl,f.out⟩
  |true=>
   cases Q
   all_goals
    go_in
    go_wp2_with fail
    clear y
    refine(ycc (zvn (IsK.stb.to l.out (E0 d.out))) (zvn (IsK.stb.to n.out (E0 d.out)))).mono ?_
    rw[<-o.out]
    rintro e D ⟨rfl,hd⟩
    have c:=hd.below A.heap.size
    have f:=nB d c
    replace E:=C0 c E
    replace H:=C0 c H
    clear c hd
    go_wp2_with fail
    refine(ycc (zvn (IsK.stb.to M.out (E0 f.out))) (zvn (IsK.stb.to N.out (E0 f.out)))).mono ?_
    rw[<-P.out]
    rintro e W ⟨rfl,hd⟩
    have c:=hd.below D.heap.size
    have O:=nB f c
    clear c hd
    go_wp2_with fail
    go_ret
    exact⟨rfl,O.out⟩
theorem yle {e:Type} {a b:List e} (f:a.length=b.length) (h:∀c,c<a.length->a[c]? =b[c]?):a=b:=by
 apply List.ext_getElem?;intro c;rcases Q c a.length with d|d
 ·exact h c d
 ·rw[List.getElem?_eq_none d,List.getElem?_eq_none og]
theorem zuu {w:i} {a b:List (Raw)} (ha:IsV w (C6 w) F a) (E:IsV w (C6 w) G b):
 C p 53 #[F,G] w fun e w'=>e= .returned (.bool (decide (a=b)))/\j w.heap.size w w':=by
 obtain⟨S,T⟩:=C7 ha E;obtain⟨A,aG,rfl,aB⟩:=K3 ha;obtain⟨B,aH,rfl,aC⟩:=K3 E;clear ha E;obtain⟨k,L⟩:=nm (a.length);obtain⟨ay,M⟩:=nm (b.length);rw[<-L] at S aB⊢;rw[<-M] at T aC⊢;obtain⟨t,D⟩:=C7 L M;clear L M;by_cases K:k=ay;(case neg=>have az:((k:Int) !=(ay:Int))=true:=bne_iff_ne.2 og;have o:d (decide (a=b)=false):=decide_eq_false (fun e=>K (by rw[t.out,D.out,e]));clear K;go_in;go_wp2_with fail;go_ret;exact⟨by show Ending.returned (.bool _)=_;rw[o.out],J _ _⟩);subst K;have az:((k:Int) !=(k:Int))=false:=(by simp);go_in;go_wp2_with fail;go_loopw [5] (fun P wr=>∃c:Nat,c<=k/\P= .int .i64 (c:Int)/\j w.heap.size w wr/\d (∀g,g<c->a[g]? =b[g]?)) (fun P _=>k-(intOf P).toNat);case atStart=>exact⟨0,U _,rfl,J _ _,fun g I=>by omega⟩
 case round=>
  obtain⟨c,aM,rfl,s,hrel⟩:=hrel;have z:=m s;have V:=m hrel.out;clear hrel;rcases Q c k with an|aL
  ·obtain⟨x,N⟩:=zob (l:=a) (j:=c) (by rw[<-t.out];exact an);obtain⟨y,O⟩:=zob (l:=b) (j:=c) (by rw[<-D.out];exact an);obtain⟨aD,aP,Y,aq,aa,au,rfl,aJ,ak,ae,af,ag⟩:=znt (IsV.stb.to S.out (E0 s)) N;obtain⟨aE,aQ,Z,ar,ab,av,rfl,aK,al,d0,ah,ai⟩:=znt (IsV.stb.to T.out (E0 s)) O;obtain⟨W,X,ac,ad⟩:=U2 N O ak al;have aI:=U0;have aN:(0:Int)<=(c:Int):=og;have aO:(c:Int)<(k:Int):=og;obtain⟨q,ao⟩:=nm (decide (x=y));have u:=m ao;clear N O ak al s ao;cases q with
   |false=>
    go_wp2_with fail;have l:=zoj ae af ag d0 ah ai;have n:d (∀f:i,j wr.heap.size wr f->C p 27 #[.agg #[.bool x.neg,.slice Y x.num.length aq,.slice aa x.den.length au],.agg #[.bool y.neg,.slice Z y.num.length ar,.slice ab y.den.length av]] f (fun e w'=>e= .returned (.bool false)/\j f.heap.size f w')):=fun f r=>by rw[u.out];exact yfd (IsR.stb.next ac.out r) (IsR.stb.next ad.out r)
    go_region_held3 (SH.mk _ l).s
     (exact l.out _ bel)
     (first
       |(go_at_call 27;(with_reducible refine Calls.mono (n.out _ bel) ?_);rintro e R ⟨rfl,H⟩))
    have v:=nB z (show j wr.heap.size wr R from bel);clear H l n;go_wp2_with fail;have o:d (decide (a=b)=false):=decide_eq_false (fun e=>by have aj:=W.out;rw[e,X.out] at aj;cases aj;have aA:=u.out;simp at aA);go_ret;exact⟨by show Ending.returned (.bool _)=_;rw[o.out],v.out⟩
   |true=>
    go_wp2_with fail;have l:=zoj ae af ag d0 ah ai;have n:d (∀f:i,j wr.heap.size wr f->C p 27 #[.agg #[.bool x.neg,.slice Y x.num.length aq,.slice aa x.den.length au],.agg #[.bool y.neg,.slice Z y.num.length ar,.slice ab y.den.length av]] f (fun e w'=>e= .returned (.bool true)/\j f.heap.size f w')):=fun f r=>by rw[u.out];exact yfd (IsR.stb.next ac.out r) (IsR.stb.next ad.out r)
    go_region_held3 (SH.mk _ l).s
     (exact l.out _ bel)
     (first
       |(go_at_call 27;(with_reducible refine Calls.mono (n.out _ bel) ?_);rintro e R ⟨rfl,H⟩))
    have v:=nB z (show j wr.heap.size wr R from bel);clear H l n;go_wp2_with fail;go_roundw
    case rel=>
     refine⟨c+1,by omega,by go_num,v.out,fun g I=> ?_⟩;rcases Q g c with h|h
     ·exact V.out g h
     ·obtain rfl:g=c:=og;rw[W.out,X.out,of_decide_eq_true u.out.symm]
    case measure=>simp[intOf];omega
  ·obtain rfl:c=k:=og;have o:d (decide (a=b)=true):=decide_eq_true (yle (by rw[<-t.out,<-D.out]) (fun g I=>V.out g (by rw[t.out];exact I)));clear s;go_wp2_with fail;go_ret;exact⟨by show Ending.returned (.bool _)=_;rw[o.out],z.out⟩
theorem yau {w:i} {a b:List (List Raw)} (ha:IsM w (C6 w) F a) (E:IsM w (C6 w) G b):
 C p 93 #[F,G] w fun e w'=>e= .returned (.bool (decide (a=b)))/\j w.heap.size w w':=by
 obtain⟨S,T⟩:=C7 ha E;obtain⟨A,av,rfl,ao⟩:=zqh ha;obtain⟨B,ay,rfl,aq⟩:=zqh E;clear ha E;obtain⟨k,L⟩:=nm (a.length);obtain⟨ak,M⟩:=nm (b.length);rw[<-L] at S ao⊢;rw[<-M] at T aq⊢;obtain⟨t,D⟩:=C7 L M;clear L M;by_cases K:k=ak;(case neg=>have al:((k:Int) !=(ak:Int))=true:=bne_iff_ne.2 og;have o:d (decide (a=b)=false):=decide_eq_false (fun e=>K (by rw[t.out,D.out,e]));clear K;go_in;go_wp2_with fail;go_ret;exact⟨by show Ending.returned (.bool _)=_;rw[o.out],J _ _⟩);subst K;have al:((k:Int) !=(k:Int))=false:=(by simp);go_in;go_wp2_with fail;go_loopw [5] (fun P wr=>∃c:Nat,c<=k/\P= .int .i64 (c:Int)/\j w.heap.size w wr/\d (∀g,g<c->a[g]? =b[g]?)) (fun P _=>k-(intOf P).toNat);case atStart=>exact⟨0,U _,rfl,J _ _,fun g I=>by omega⟩
 case round=>
  obtain⟨c,aD,rfl,s,hrel⟩:=hrel;have z:=m s;have V:=m hrel.out;clear hrel;rcases Q c k with ag|aC
  ·obtain⟨x,N⟩:=zob (l:=a) (j:=c) (by rw[<-t.out];exact ag);obtain⟨y,O⟩:=zob (l:=b) (j:=c) (by rw[<-D.out];exact ag);obtain⟨ar,aH,Y,ai,rfl,aA,ae,ac⟩:=zrf (IsM.stb.to S.out (E0 s)) N;obtain⟨au,aI,Z,aj,rfl,aB,af,d0⟩:=zrf (IsM.stb.to T.out (E0 s)) O;obtain⟨W,X,aa,ab⟩:=U2 N O ae af;have az:=U0;have aE:(0:Int)<=(c:Int):=og;have aG:(c:Int)<(k:Int):=og;obtain⟨q,ah⟩:=nm (decide (x=y));have u:=m ah;clear N O ae af s ah;cases q with
   |false=>
    go_wp2_with fail;have l:=zpp ac d0;have n:d (∀f:i,j wr.heap.size wr f->C p 53 #[.slice Y x.length ai,.slice Z y.length aj] f (fun e w'=>e= .returned (.bool false)/\j f.heap.size f w')):=fun f r=>by rw[u.out];exact zuu (IsV.stb.next aa.out r) (IsV.stb.next ab.out r)
    go_region_held3 (SH.mk _ l).s
     (exact l.out _ bel)
     (first
       |(go_at_call 53;(with_reducible refine Calls.mono (n.out _ bel) ?_);rintro e R ⟨rfl,H⟩))
    have v:=nB z (show j wr.heap.size wr R from bel);clear H l n;go_wp2_with fail;have o:d (decide (a=b)=false):=decide_eq_false (fun e=>by have ad:=W.out;rw[e,X.out] at ad;cases ad;have an:=u.out;simp at an);go_ret;exact⟨by show Ending.returned (.bool _)=_;rw[o.out],v.out⟩
   |true=>
    go_wp2_with fail;have l:=zpp ac d0;have n:d (∀f:i,j wr.heap.size wr f->C p 53 #[.slice Y x.length ai,.slice Z y.length aj] f (fun e w'=>e= .returned (.bool true)/\j f.heap.size f w')):=fun f r=>by rw[u.out];exact zuu (IsV.stb.next aa.out r) (IsV.stb.next ab.out r)
    go_region_held3 (SH.mk _ l).s
     (exact l.out _ bel)
     (first
       |(go_at_call 53;(with_reducible refine Calls.mono (n.out _ bel) ?_);rintro e R ⟨rfl,H⟩))
    have v:=nB z (show j wr.heap.size wr R from bel);clear H l n;go_wp2_with fail;go_roundw
    case rel=>
     refine⟨c+1,by omega,by go_num,v.out,fun g I=> ?_⟩;rcases Q g c with h|h
     ·exact V.out g h
     ·obtain rfl:g=c:=og;rw[W.out,X.out,of_decide_eq_true u.out.symm]
    case measure=>simp[intOf];omega
  ·obtain rfl:c=k:=og;have o:d (decide (a=b)=true):=decide_eq_true (yle (by rw[<-t.out,<-D.out]) (fun g I=>V.out g (by rw[t.out];exact I)));clear s;go_wp2_with fail;go_ret;exact⟨by show Ending.returned (.bool _)=_;rw[o.out],z.out⟩
instance:DecidableEq Prog:=fun a b=>if h:a.A=b.A/\a.B=b.B/\a.C=b.C then isTrue (by cases a;cases b;simp only at h;obtain⟨rfl,rfl,rfl⟩:=h;rfl) else isFalse (fun e=>h (by rw[e];exact⟨rfl,rfl,rfl⟩))
theorem zz1441 (a b:Prog):(decide (a.A=b.A)&&decide (a.B=b.B)&&decide (a.C=b.C))=decide (a=b):=by rw[Bool.eq_iff_iff,R,R,decide_eq_true_eq,decide_eq_true_eq,decide_eq_true_eq,decide_eq_true_eq];cases a;cases b;simp[and_assoc]
theorem zz1445 {w:i} {a b:Prog} (ha:IsP w (C6 w) F a) (c:IsP w (C6 w) G b):
 C p 114 #[F,G] w fun e w'=>e= .returned (.bool (decide (a=b)))/\j w.heap.size w w':=by
 rw[<-zz1441];obtain⟨V,ab,W,ac,X,ad,rfl,L,M,N⟩:=ha;obtain⟨Y,ae,Z,b2,aa,af,rfl,O,P,Q⟩:=c;obtain⟨r,v,I,s,x,J⟩:=hd6 L M N O P Q;obtain⟨ag,B⟩:=nm (decide (a.A=b.A));obtain⟨ah,D⟩:=nm (decide (a.B=b.B));obtain⟨q3,E⟩:=nm (decide (a.C=b.C));rw[<-B,<-D,<-E];obtain⟨t,z,K⟩:=H7 B D E;clear B D E L M N O P Q;obtain⟨A,u,R,S,T,aj⟩:=zkn w #[.slice V a.A.length ab,.slice W a.B.length ac,.slice X a.C.length ad] #[.slice Y b.A.length ae,.slice Z b.B.length b2,.slice aa b.C.length af] 32 32;have o:=m R;obtain⟨d,f,g⟩:=C4 S;obtain⟨h,k,l⟩:=C4 T;clear R S T;cases ag with
 |false=>go_in;go_wp2_with fail;clear u;refine(yau (IsM.stb.to r.out (E0 o.out)) (IsM.stb.to s.out (E0 o.out))).mono ?_;rw[<-t.out];rintro e H ⟨rfl,c⟩;have n:=nB o c;replace d:=C0 c d;replace f:=C0 c f;replace g:=C0 c g;replace h:=C0 c h;replace k:=C0 c k;replace l:=C0 c l;clear c;go_wp2_with fail;go_ret;exact⟨rfl,n.out⟩
 |true=>
  cases ah with
  |false=>go_in;go_wp2_with fail;clear u;refine(yau (IsM.stb.to r.out (E0 o.out)) (IsM.stb.to s.out (E0 o.out))).mono ?_;rw[<-t.out];rintro e H ⟨rfl,c⟩;have n:=nB o c;replace d:=C0 c d;replace f:=C0 c f;replace g:=C0 c g;replace h:=C0 c h;replace k:=C0 c k;replace l:=C0 c l;clear c;go_wp2_with fail;refine(zuu (IsV.stb.to v.out (E0 n.out)) (IsV.stb.to x.out (E0 n.out))).mono ?_;rw[<-z.out];rintro e U ⟨rfl,c⟩;have q:=nB n c;replace d:=C0 c d;replace f:=C0 c f;replace g:=C0 c g;replace h:=C0 c h;replace k:=C0 c k;replace l:=C0 c l;clear c;go_wp2_with fail;go_ret;exact⟨rfl,q.out⟩
  |true=>
   cases q3 with
   |false=>go_in;go_wp2_with fail;clear u;refine(yau (IsM.stb.to r.out (E0 o.out)) (IsM.stb.to s.out (E0 o.out))).mono ?_;rw[<-t.out];rintro e H ⟨rfl,c⟩;have n:=nB o c;replace d:=C0 c d;replace f:=C0 c f;replace g:=C0 c g;replace h:=C0 c h;replace k:=C0 c k;replace l:=C0 c l;clear c;go_wp2_with fail;refine(zuu (IsV.stb.to v.out (E0 n.out)) (IsV.stb.to x.out (E0 n.out))).mono ?_;rw[<-z.out];rintro e U ⟨rfl,c⟩;have q:=nB n c;replace d:=C0 c d;replace f:=C0 c f;replace g:=C0 c g;replace h:=C0 c h;replace k:=C0 c k;replace l:=C0 c l;clear c;go_wp2_with fail;refine(zuu (IsV.stb.to I.out (E0 q.out)) (IsV.stb.to J.out (E0 q.out))).mono ?_;rw[<-K.out];rintro e ai ⟨rfl,c⟩;have y:=nB q c;replace d:=C0 c d;replace f:=C0 c f;replace g:=C0 c g;replace h:=C0 c h;replace k:=C0 c k;replace l:=C0 c l;clear c;go_wp2_with fail;go_ret;exact⟨rfl,y.out⟩
   |true=>go_in;go_wp2_with fail;clear u;refine(yau (IsM.stb.to r.out (E0 o.out)) (IsM.stb.to s.out (E0 o.out))).mono ?_;rw[<-t.out];rintro e H ⟨rfl,c⟩;have n:=nB o c;replace d:=C0 c d;replace f:=C0 c f;replace g:=C0 c g;replace h:=C0 c h;replace k:=C0 c k;replace l:=C0 c l;clear c;go_wp2_with fail;refine(zuu (IsV.stb.to v.out (E0 n.out)) (IsV.stb.to x.out (E0 n.out))).mono ?_;rw[<-z.out];rintro e U ⟨rfl,c⟩;have q:=nB n c;replace d:=C0 c d;replace f:=C0 c f;replace g:=C0 c g;replace h:=C0 c h;replace k:=C0 c k;replace l:=C0 c l;clear c;go_wp2_with fail;refine(zuu (IsV.stb.to I.out (E0 q.out)) (IsV.stb.to J.out (E0 q.out))).mono ?_;rw[<-K.out];rintro e ai ⟨rfl,c⟩;have y:=nB q c;replace d:=C0 c d;replace f:=C0 c f;replace g:=C0 c g;replace h:=C0 c h;replace k:=C0 c k;replace l:=C0 c l;clear c;go_wp2_with fail;go_ret;exact⟨rfl,y.out⟩
end Go.Proofs.YtpbilanpeioonaaGreatDoor
