/-
 Plain facts on a program of rational numbers,e c,and h two ways of g i f b d.
-/
import Derived.Test.YtlhhbccgfkhflaaGreatDoorDwv10
namespace Go.Proofs.YtlhhbccgfkhflaaGreatDoor
set_option linter.unusedVariables false
open Go.RowKit
set_option maxRecDepth 100000
set_option maxHeartbeats 8000000
open _root_.Go.Lib renaming hid → q
open _root_.List renaming getElem?_eq_getElem → R, mem_of_getElem? → T, length_map → Y, getElem?_map → P
open _root_.Go.World renaming cell?_setCell_other → E, size_alloc → O
open _root_.Bool renaming and_eq_true → J
open _root_.Go renaming World → i, Value → k, Calls → K, undef → L, Addr → h
open _root_.Go.RowKit renaming Below → m, Hid → p
open _root_.Go.Proofs.Tryz renaming prog → C
variable {b c e f u v : k} {base g j n o : Nat} {l : List Raw} {t : TypeId} {A : i}
def zsn (l:List Rat):Bool:= !zlv (C4 l)
def zks (l:List Rat):List Rat:=l.map fun q=> -q
def zvc (A:List (List Rat)) (B x:List Rat):List Rat:=List.zipWith (fun row b=>b-H7 row x) A B
def N6 (a:ProgQ):ProgQ:=⟨(List.range a.C.length).map fun b=>zks (U1 a.A b),zks a.C,zks a.B⟩
theorem yfe (l:List Rat):zlv (C4 l)=l.any fun q=>decide (q<0):=by unfold zlv C4;rw[List.any_map];congr 1;funext q;exact ydq
theorem yvs {l:List Rat}:zsn l=true↔∀q∈l,0<=q:=by
 unfold zsn;rw[yfe,Bool.not_eq_true',List.any_eq_false];refine⟨fun h q a=> ?_,fun h q a=> ?_⟩
 ·have:=h q a;simp only[decide_eq_true_eq] at this;exact Rat.not_lt.1 this
 ·simp only[decide_eq_true_eq];exact Rat.not_lt.2 (h q a)
theorem sub_nonneg {a b:Rat}:0<=b-a↔a<=b:=(Rat.le_iff_sub_nonneg a b).symm
theorem zz1375 {A:List (List Rat)} {B x row:List Rat} {b:Rat} (a:A[j]? =some row) (c:B[j]? =some b):(zvc A B x)[j]? =some (b-H7 row x):=by unfold zvc;rw[List.getElem?_zipWith,a,c]
theorem ylh {A:List (List Rat)} {B x:List Rat}:zsn (zvc A B x)=true↔∀e∈A.zip B,H7 e.1 x<=e.2:=by
 rw[yvs];refine⟨fun h e f=> ?_,fun h q g=> ?_⟩
 ·obtain⟨j,a⟩:=List.getElem?_of_mem f;rw[List.getElem?_zip_eq_some] at a;exact sub_nonneg.1 (h _ (T (zz1375 a.1 a.2)))
 ·obtain⟨j,a⟩:=List.getElem?_of_mem g;unfold zvc at a;rw[List.getElem?_zipWith] at a;cases c:A[j]? with
  |none=>rw[c] at a;cases a
  |some row=>
   cases d:B[j]? with
   |none=>rw[c,d] at a;cases a
   |some b=>rw[c,d] at a;cases a;exact sub_nonneg.2 (h (row,b) (T (List.getElem?_zip_eq_some.2 ⟨c,d⟩)))
theorem yte (A:List (List Rat)) (B x:List Rat):W6 A B x=(zsn x&&zsn (zvc A B x)):=by rw[Bool.eq_iff_iff,J,ylh];unfold W6;rw[J,List.all_eq_true];simp only[decide_eq_true_eq];exact⟨fun h=>⟨h.2,h.1⟩,fun h=>⟨h.2,h.1⟩⟩
theorem yrz (z:List (Rat×Rat)) (s:Rat):(z.map fun a=>(-a.1,a.2)).foldl (fun s a=>s+a.1*a.2) (-s)= -(z.foldl (fun s a=>s+a.1*a.2) s):=by
 induction z generalizing s with
 |nil=>rfl
 |cons a z ih=>rw[List.map_cons,List.foldl_cons,List.foldl_cons,<-ih];congr 1;rw[Rat.neg_mul,Rat.neg_add]
theorem zz1486 (a y:List Rat):(zks a).zip y=(a.zip y).map fun b=>(-b.1,b.2):=by unfold zks;rw[List.zip_map_left];rfl
theorem ygt (a y:List Rat):H7 (zks a) y= -H7 a y:=by unfold H7 zkp;rw[zz1486];have:=yrz (a.zip y) 0;rwa[Rat.neg_zero] at this
theorem yjp {l:List Rat} {q:Rat} (h:l[j]? =some q):(zks l)[j]? =some (-q):=by unfold zks;rw[P,h];rfl
theorem zyv (l:List Rat):(zks l).length=l.length:=Y _
theorem zz1425 (a:ProgQ) (y:List Rat):Y4 a.A a.C y=(zsn y&&zsn (zvc (N6 a).A (N6 a).B y)):=by
 rw[Bool.eq_iff_iff,J,ylh];unfold Y4;rw[J,List.all_eq_true]
 have key:(∀e∈List.range a.C.length,decide (a.C.getD e 0<=H7 (U1 a.A e) y)=true)↔∀f∈(N6 a).A.zip (N6 a).B,H7 f.1 y<=f.2:=by
  refine⟨fun h f hr=> ?_,fun h e l=> ?_⟩
  ·obtain⟨j,g⟩:=List.getElem?_of_mem hr;rw[List.getElem?_zip_eq_some] at g;obtain⟨c,d⟩:=g;unfold N6 at c d;simp only at c d;rw[P] at c;have b:j<a.C.length:=(by have:=(List.getElem?_eq_some_iff.1 d).1;rw[zyv] at this;exact this);rw[List.getElem?_range b] at c;rw[yjp (R b)] at d;have i:f.1=zks (U1 a.A j):=(Option.some.inj c).symm;have k:f.2= -a.C[j]:=(Option.some.inj d).symm;have:=h j (List.mem_range.2 b);rw[decide_eq_true_eq,List.getD_eq_getElem?_getD,R b] at this;rw[i,k,ygt];exact Rat.neg_le_neg this
  ·have b:=List.mem_range.1 l;rw[decide_eq_true_eq,List.getD_eq_getElem?_getD,R b];have:=h (zks (U1 a.A e),-a.C[e]) (T (List.getElem?_zip_eq_some.2 ⟨by unfold N6;simp only;rw[P,List.getElem?_range b];rfl,yjp (R b)⟩));simp only[ygt] at this;have:=Rat.neg_le_neg this;rwa[Rat.neg_neg,Rat.neg_neg] at this
 unfold zsn;exact⟨fun h=>⟨h.2,key.1 h.1⟩,fun h=>⟨key.2 h.2,h.1⟩⟩
theorem yua {c:ProgQ} (h:Good c 1024):Good (N6 c) 1024:=by
 refine⟨by simp[N6,zks],?_,?_,?_,?_,by simp only[N6,zyv];exact h.nC,by simp only[N6,zyv];exact h.nB⟩
 ·intro row hr;obtain⟨d,_,rfl⟩:=List.mem_map.1 hr;simp[N6,zks,U1,h.rows]
 ·intro row hr q a;obtain⟨d,_,rfl⟩:=List.mem_map.1 hr;obtain⟨x,b,rfl⟩:=List.mem_map.1 a;exact(zsi h.szA og x b).neg
 ·intro q a;obtain⟨x,b,rfl⟩:=List.mem_map.1 a;exact(h.szC x b).neg
 ·intro q a;obtain⟨x,b,rfl⟩:=List.mem_map.1 a;exact(h.szB x b).neg
def zqy (A:List (List Rat)) (B C x y:List Rat):Bool:=
 (List.range B.length).all (fun a=>decide (y.getD a 0=0)||decide (H7 (A.getD a []) x=B.getD a 0))&&(List.range C.length).all (fun b=>decide (x.getD b 0=0)||decide (H7 (U1 A b) y=C.getD b 0))
structure Sol where
 st:Int
 val:Raw
 X:List Raw
 D:List Raw
 R:List Raw
def IsSol (w:i) (S:Nat->Prop) (v:k) (s:Sol):Prop:=
 ∃d f e l A a B b C c,v= .agg #[.int .i64 s.st,.bool s.val.neg,.slice d s.val.num.length f,.slice e s.val.den.length l,.slice A s.X.length a,.slice B s.D.length b,.slice C s.R.length c]/\
  IsR w S (.agg #[.bool s.val.neg,.slice d s.val.num.length f,.slice e s.val.den.length l]) s.val/\IsV w S (.slice A s.X.length a) s.X/\IsV w S (.slice B s.D.length b) s.D/\IsV w S (.slice C s.R.length c) s.R
theorem IsSol.stb:Stb IsSol:=by rintro w w' S T v s ⟨e,k,f,l,A,a,B,b,C,c,hv,g,h,i,j⟩ d;exact⟨e,k,f,l,A,a,B,b,C,c,hv,IsR.stb.to g d,IsV.stb.to h d,IsV.stb.to i d,IsV.stb.to j d⟩
def zkt (v:List Raw) (n:Nat):Bool:=decide (v.length=n)&&decide (U9 v=0)
theorem ykx {q:List Rat} (a:q.length=n) (c:n<=40) (b:∀x∈q,Sz x 1024):zkt (C4 q) n=true:=by unfold zkt;rw[J,decide_eq_true_eq,decide_eq_true_eq];exact⟨by rw[zku,a],zug (by rw[a];exact c) b⟩
theorem zrt {w:i} (h:IsV w (C5 w) v l) (k:Bru w) (y:n<=9223372036854775807):
 K C 221 #[v,.int .i64 (n:Int)] w fun e w'=>e= .returned (.bool (zkt l n))/\m w.heap.size w w':=by
 obtain⟨g,r⟩:=C7 h k;obtain⟨A,c,rfl,u⟩:=J6 h;obtain⟨f,a⟩:=nm (l.length);rw[<-a] at g u⊢;clear h k;by_cases b:f=n
 ·have d:p (zkt l n=decide (U9 l=0)):=(by rw[p,zkt,<-a,decide_eq_true b,Bool.true_and]);have s:((f:Int)==(n:Int))=true:=(by rw[b];simp);obtain⟨x,o⟩:=nm (U9 l);have j:=q o;clear a b o;go_in;go_wp2_with fail;refine(zsx g.out r.out).mono ?_;rw[<-j.out];rintro e z ⟨rfl,t⟩;go_wp2_with fail;go_ret;refine⟨?_,t⟩;show Ending.returned (.bool _)=_;rw[d.out,<-j.out];rfl
 ·have d:p (zkt l n=false):=(by rw[p,zkt,<-a,decide_eq_false b,Bool.false_and]);have s:((f:Int)==(n:Int))=false:=beq_eq_false_iff_ne.2 og;clear a b;go_in;go_wp2_with fail;go_ret;refine⟨?_,Below.refl _ _⟩;show Ending.returned (.bool _)=_;rw[d.out]
abbrev Chk (w:i) (f:FuncId) (v:k) (b:Bool):Prop:=∀a,m w.heap.size w a->K C f #[v] a fun e w'=>e= .returned (.bool b)/\m a.heap.size a w'
theorem yon {w:i} {l n o:FuncId} {j b2 b3:Bool} (hr:Row w g t [.func (.func l) #[v] #[],.func (.func n) #[v] #[],.func (.func o) #[v] #[]])
 (L:∀w,(callFunc l #[v]).run C w= .ok (.enter l #[v]) w) (M:∀w,(callFunc n #[v]).run C w= .ok (.enter n #[v]) w) (N:∀w,(callFunc o #[v]).run C w= .ok (.enter o #[v]) w)
 (x:Chk w l v j) (y:j=true->Chk w n v b2) (z:j=true->b2=true->Chk w o v b3):
 K C 220 #[.slice (some ⟨g,0,none⟩) 3 3] w fun e w'=>e= .returned (.bool (j&&b2&&b3))/\m w.heap.size w w':=by
 obtain⟨F,B,D,E⟩:=V7 hr x y z;clear hr x y z;go_in;go_wp2_with fail;go_loopw [7] (fun u wr=>∃a:Nat,a<=3/\u= .int .i64 (a:Int)/\m w.heap.size w wr/\p ((0<a->j=true)/\(1<a->b2=true)/\(2<a->b3=true))) (fun u _=>3-(intOf u).toNat);case atStart=>exact⟨0,by omega,rfl,Below.refl _ _,fun h=>by omega,fun h=>by omega,fun h=>by omega⟩
 case round=>
  obtain⟨a,O,rfl,s,hrel⟩:=hrel;have d:=q s;have f:=q hrel.out;obtain⟨H,I,J⟩:=C0 (F.out.next s);clear hrel s;rcases(by omega:a=0\/a=1\/a=2\/a=3) with rfl|rfl|rfl|rfl
  ·cases j
   all_goals
    go_wp2_with fail
    refine(B.out _ d.out).mono ?_
    rintro e A ⟨rfl,c⟩
    have b:=nB d c
    clear c
    go_wp2_with fail
   ·go_ret;exact⟨rfl,b.out⟩
   ·go_roundw;(case rel=>exact⟨1,by omega,by go_num,b.out,fun _=>by trivial,fun h=>by omega,fun h=>by omega⟩);case measure=>simp[intOf]
  ·have k:=f.out.1 og;subst k;cases b2
   all_goals
    go_wp2_with fail
    refine(D.out (by trivial) _ d.out).mono ?_
    rintro e A ⟨rfl,c⟩
    have b:=nB d c
    clear c
    go_wp2_with fail
   ·go_ret;exact⟨rfl,b.out⟩
   ·go_roundw;(case rel=>exact⟨2,by omega,by go_num,b.out,fun _=>by trivial,fun _=>by trivial,fun h=>by omega⟩);case measure=>simp[intOf]
  ·have k:=f.out.1 og;have r:=f.out.2.1 og;subst k r;cases b3
   all_goals
    go_wp2_with fail
    refine(E.out (by trivial) (by trivial) _ d.out).mono ?_
    rintro e A ⟨rfl,c⟩
    have b:=nB d c
    clear c
    go_wp2_with fail
   ·go_ret;exact⟨rfl,b.out⟩
   ·go_roundw;(case rel=>exact⟨3,by omega,by go_num,b.out,fun _=>by trivial,fun _=>by trivial,fun _=>by trivial⟩);case measure=>simp[intOf]
  ·have k:=f.out.1 og;have r:=f.out.2.1 og;have G:=f.out.2.2 og;subst k r G;go_wp2_with fail;go_ret;exact⟨rfl,d.out⟩
theorem ylo {w w':i} {S:Nat->Prop} (d:w.grownBy w' (some g)) (c:∀b,S b->b<w.heap.size/\b≠g):L6 S S w w':=fun b a=>⟨a,fun o=>World.cell?_of_block (d.block b (c b a).1 (fun e=>(c b a).2 (by cases e;rfl)))⟩
theorem K9 {w w':i} {row:Option Nat} (a:m w.heap.size w w'):w.grownBy w' row:=⟨a.os,a.tape,a.output,a.size,fun c b _=>a.block c b⟩
theorem K0 (w:i) (g o:Nat) (u:k):w.grownBy (w.setCell ⟨g,o,none⟩ u) (some g):=
 ⟨rfl,rfl,rfl,by simp[World.setCell],fun b _ a=>Below.heap_setCell w ⟨g,o,none⟩ u b (fun e=>a (by rw[e]))⟩
theorem yhv {a b c:i} {row:Option Nat} (h:a.grownBy b row) (d:m a.heap.size b c):a.grownBy c row:=⟨d.os.trans h.os,d.tape.trans h.tape,d.output.trans h.output,Nat.le_trans h.size d.size,fun f e hr=>(d.block f e).trans (h.block f e hr)⟩
theorem OwnS.slice {b:Type} {R:i->(Nat->Prop)->k->b->Prop} {w:i} {S:Nat->Prop} {l:List b} (h:OwnS n t R w base S v l):∃A c,v= .slice A l.length c:=by
 obtain⟨j,d,_⟩:=h;rcases d.2 with⟨a,e⟩|⟨g,cap,f,a,_⟩
 ·exact⟨none,0,by rw[a,e]⟩
 ·exact⟨_,_,a⟩
theorem OwnS.stepG {j:Type} {R:i->(Nat->Prop)->k->j->Prop} (q:Stb R) {w w':i} {S:Nat->Prop} {l:List j} (h:OwnS n t R w base S v l)
 (d:w.grownBy w' (some g)) (s:g<base) (r:∀b,S b->b≠g):OwnS n t R w' base S v l:=by obtain⟨m,f,o,p,c⟩:=h;refine⟨m,f.kept d (.inr fun e=>by have:=(f.lt g e).1;omega),o,p.imp fun x y h=>q.to h (ylo d fun b a=>⟨(c b a).1,r b a⟩),fun b a=>⟨Nat.lt_of_lt_of_le (c b a).1 d.size,(c b a).2⟩⟩
theorem ynn:(Tryz.prog.info? 26).map (fun a=>(a.zero,a.size,a.bytes))=some (some (.slice none 0 0),1,24):=by kernel_rfl
theorem elV:ElN C 24 26 1 24:=
 ⟨Tryz.underlying24,by obtain⟨e,a,b,c,d⟩:=info_parts ynn;exact⟨e,_,a,b,c,d,rfl⟩,by omega⟩
def SP (w A:i) (g:Nat) (a:i) (b:Nat):Prop:=(b<w.heap.size\/A.heap.size<=b)/\b<a.heap.size/\b≠g
theorem ydu {w a:i} {x y z:k} (l:w.heap.size+2<=A.heap.size):L6 (SP w A g a) (C5 (put3 ((a.setCell ⟨g,1,none⟩ b).setCell ⟨g,2,none⟩ c) (w.heap.size+1) x y z)) a (put3 ((a.setCell ⟨g,1,none⟩ b).setCell ⟨g,2,none⟩ c) (w.heap.size+1) x y z):=fun j f=>by
 have d:j≠w.heap.size+1:=by have:=f.1;omega
 have h:=f.2.2
 refine⟨by show j<_;rw[zqi];simpa[World.setCell] using f.2.1,fun o=> ?_⟩
 rw[E _ _ _ _ (fun e=>d (by cases e;rfl)),E _ _ _ _ (fun e=>d (by cases e;rfl)),E _ _ _ _ (fun e=>d (by cases e;rfl)),
  E _ _ _ _ (fun e=>h (by cases e;rfl)),E _ _ _ _ (fun e=>h (by cases e;rfl))]
theorem yll {fn:Func} {slot:Tmp} {R:Ending->i->Prop} {a:Act} {w:i} {x y z:k} (hr:fn.results= #[.cell slot 54]) (ha:a.tmps.getD slot L= .pointer (some ⟨g,0,none⟩)) (hd:a.defers=[])
 (h:Row w g 54 [x,y,z]) (e:R (.returned (.agg #[x,y,z])) w):bodyPost C fn R .ret a w:=by refine bodyPost_ret (v:= .agg #[x,y,z]) ?_ hd e;obtain⟨b,c,d⟩:=C0 h;have f:a.tmps[slot]?.getD L= .pointer (some ⟨g,0,none⟩):=(by simpa using ha);simp[results,hr,f,asAddr,go_sem,b,c,d]
theorem zz1376 {fn:Func} {slot t:Tmp} {tmps:Array k} {w:i} {x y z:k} (hr:fn.results= #[.cell slot 54,.tmp t]) (ha:tmps.getD slot L= .pointer (some ⟨g,0,none⟩))
 (h:Row w g 54 [x,y,z]):(results fn tmps).run C w= .ok (.tuple #[.agg #[x,y,z],tmps.getD t L]) w:=by obtain⟨a,b,c⟩:=C0 h;have d:tmps[slot]?.getD L= .pointer (some ⟨g,0,none⟩):=(by simpa using ha);simp[results,hr,d,asAddr,go_sem,a,b,c]
theorem zyj {a:Type} {R:i->(Nat->Prop)->k->a->Prop} {w:i} {S:Nat->Prop} {es:List k} {l:List a} (h:Row w g t (cellsOf es)) (b:S g) (d:Wid n es) (ha:All2 (R w S) es l) (f:l.length<=9223372036854775807):
 IsS n R w S (.slice (some ⟨g,0,none⟩) l.length l.length) l:=by refine⟨_,_,es,rfl,Nat.le_refl _,by unfold maxLen;omega,fun _=>⟨g,0,rfl,b,fun e u c=> ?_⟩,d,ha⟩;rw[Nat.zero_add];exact h.cell e|>.trans (by simpa using c)
theorem ybb {a b:Type} {R:a->b->Prop} {x:a} {y:b} (h:R x y):All2 R [x] [y]:=All2.snoc All2.nil h
theorem yfb {a b:Type} {R:a->b->Prop} {x u:a} {y v:b} (h:R x y) (c:R u v):All2 R [x,u] [y,v]:=All2.snoc (a:=[x]) (b:=[y]) (ybb h) c
theorem yur {w:i} (h:Row w g t [v]) (hv:IsV w (C5 w) v l):IsM w (C5 w) (.slice (some ⟨g,0,none⟩) 1 1) [l]:=by obtain⟨A,c,rfl,_⟩:=J6 hv;exact zyj (es:=[.slice A l.length c]) (l:=[l]) h h.lt (by intro u a;simp at a;subst a;rfl) (ybb hv) (by simp)
theorem yih {w:i} {b:List Raw} (h:Row w g t [v,u]) (hv:IsV w (C5 w) v l) (a:IsV w (C5 w) u b):IsM w (C5 w) (.slice (some ⟨g,0,none⟩) 2 2) [l,b]:=by obtain⟨A,c,rfl,_⟩:=J6 hv;obtain⟨B,d,rfl,_⟩:=J6 a;exact zyj (es:=[.slice A l.length c,.slice B b.length d]) (l:=[l,b]) h h.lt (by intro u a;simp at a;rcases a with rfl|rfl<;>rfl) (yfb hv a) (by simp)
def J7 (l:List Int):List Rat:=l.map fun x=>W9 x 1
theorem yel (l:List Int):(J7 l).length=l.length:=Y _
theorem zz1467 {l:List Int} {a:Nat} {x:Int} (h:l[a]? =some x):(J7 l).take (a+1)=(J7 l).take a++[W9 x 1]:=by refine zql ?_;unfold J7;rw[P,h];rfl
def yie (l:List Int):List k:=l.map fun x=> .int .i64 x
theorem zpl {w:i} {c:Nat} {l:List Int} (hr:Row w g t (yie l)) (Z:l.length<=40) (L:∀x∈l,x.natAbs<=1000000):
 K C 105 #[.slice (some ⟨g,0,none⟩) l.length c] w fun e w'=>(∃v,e= .returned v/\IsV w' (I7 w.heap.size w') v (C4 (J7 l)))/\m w.heap.size w w':=by
 obtain⟨M,Q⟩:=C7 hr L;obtain⟨n,z⟩:=nm (l.length);have G:=q z;rw[<-z] at Z⊢;have ag:g<w.heap.size:=hr.lt;clear hr L z;go_in;go_wp2_with fail;go_loopw [3,4] (fun v B wr=>∃(f:Nat) (S:Nat->Prop),f<=n/\B= .int .i64 (f:Int)/\m w.heap.size w wr/\OwnS 3 30 IsR wr w.heap.size S v (C4 ((J7 l).take f))/\p (∀b,S b->w.heap.size<=b)) (fun _ B _=>n-(intOf B).toNat);case atStart=>exact⟨0,fun _=>False,Nat.zero_le _,rfl,Below.refl _ _,by simpa[C4] using(OwnS.nil (fun b h=>False.elim h):OwnS 3 30 IsR w w.heap.size (fun _=>False) _ _),fun _ h=>False.elim h⟩
 case round=>
  obtain⟨f,S,ah,rfl,k,I,H⟩:=hrel;have F:=q k;have D:=q H.out;have y:=q I;have ai:=k.size;clear I H;rcases Nat.lt_or_ge f n with aa|af
  ·obtain⟨x,o⟩:=znt (l:=l) (j:=f) (by rw[<-G.out];exact aa);have hc:wr.cell? ⟨g,f,none⟩=some (.int .i64 x):=((M.out.next k).cell f).trans (by unfold yie;rw[P,o];rfl);have R:=q o;have aj:=Q.out x (T o);clear o k;go_wp2_with fail;refine(zws (a:=x) (b:=1) og og og).mono ?_;rintro e r ⟨⟨a,rfl,A⟩,d⟩;obtain⟨N,O⟩:=C7 d A;have E:=nB F d;have X:w.heap.size<=r.heap.size:=E.out.size;obtain⟨ao,ae,al,ad,an,rfl,_,_,_⟩:=F9 A;have ab:=OwnS.step IsR.stb (T:=fun b=>S b\/(wr.heap.size<=b/\b<r.heap.size)) y.out N.out (fun b h=> .inl h) (fun b h=>h);have Y:=IsQ.stb.to O.out (G4 (T:=fun b=>S b\/(wr.heap.size<=b/\b<r.heap.size)) fun b h=> .inr h);clear d A hc;go_wp2_with (at_builtin;refine zpn zlp rfl _ _ rfl IsR.stb rfl rfl rfl ab Y rfl (by intro u J;simp[Value.cells] at J;rcases J with rfl|rfl|rfl<;>rfl) (by have j:=List.length_take_le f (J7 l);rw[zku];omega) X ?_;intro s aq ac W ak);go_roundw;(case rel=>refine⟨f+1,fun b=>S b\/(wr.heap.size<=b/\b<r.heap.size),by omega,by go_num,E.out.trans W,?_,fun b d=>by rcases d with d|d;exact D.out b d;omega⟩;rw[zz1467 R.out,C4,List.map_append];exact ac);case measure=>simp[intOf];omega
  ·obtain rfl:f=n:=og;clear k;go_wp2_with fail;go_ret;refine⟨⟨_,rfl,?_⟩,F.out⟩;have j:=OwnS.isS IsR.stb (T:=I7 w.heap.size wr) y.out (fun b d=>⟨D.out b d,by obtain⟨_,_,_,_,V⟩:=y.out;exact(V b d).1⟩) (fun b j U=>⟨j,U⟩);rw[List.take_of_length_le (by rw[yel,<-G.out];exact Nat.le_refl _)] at j;exact j
def exQ:ProgQ:=⟨[J7 [1,1],J7 [1,3]],J7 [4,6],J7 [3,2]⟩
theorem ybs (w:i):K C 104 #[] w fun e w'=>(∃v,e= .returned v/\IsP w' (C5 w') v (I8 exQ))/\m w.heap.size w w':=by obtain⟨A,W,N,S,s⟩:=J9 w #[.slice none 0 0,.slice none 0 0,.slice none 0 0] 54;obtain⟨d,c⟩:=C7 S N;clear S N;go_in;go_wp2_with fail;clear W;refine(zpl (w:=A.alloc (.cells #[.int .i64 1,.int .i64 1] 3)) (l:=[1,1]) (heap_alloc_new A _) (by decide) (by decide)).mono ?_;rintro e I ⟨⟨ag,rfl,hv⟩,f⟩;have a:=C8 (L7 A _) f;have j:=q c.out.size;have c:=nB c a;obtain⟨d,g⟩:=C7 (d.out.next a) (IsV.stb.le hv (m:=w.heap.size+1) (by have D:=c.out.size;have E:=s.out;have F:=a.size;rw[O];have G:=j.out;omega));obtain⟨L,Q,rfl,_⟩:=J6 hv;clear hv f a;go_wp2_with fail;refine(zpl (w:=I.alloc (.cells #[.int .i64 1,.int .i64 3] 3)) (l:=[1,3]) (heap_alloc_new I _) (by decide) (by decide)).mono ?_;rintro e T ⟨⟨ah,rfl,hv⟩,f⟩;have a:=C8 (L7 I _) f;have g:=q (IsV.stb.fresh g.out a);have j:=q c.out.size;have c:=nB c a;obtain⟨d,l⟩:=C7 (d.out.next a) (IsV.stb.le hv (m:=w.heap.size+1) (by have D:=c.out.size;have E:=s.out;have F:=a.size;rw[O];have G:=j.out;omega));obtain⟨M,R,rfl,_⟩:=J6 hv;clear hv f a;have V:=q d.out.lt;obtain⟨r,X,o,H,Y⟩:=J9 T #[.slice L (C4 (J7 [1,1])).length Q,.slice M (C4 (J7 [1,3])).length R] 26;obtain⟨g,l⟩:=C7 (IsV.stb.fresh g.out o) (IsV.stb.fresh l.out o);have j:=q c.out.size;have c:=nB c o;have d:=q (d.out.next o);have n:p (IsM r (I7 (w.heap.size+1) r) (.slice (some ⟨T.heap.size,0,none⟩) 2 2) (I0 [J7 [1,1],J7 [1,3]])):=zyj (es:=[.slice L (C4 (J7 [1,1])).length Q,.slice M (C4 (J7 [1,3])).length R]) (l:=[C4 (J7 [1,1]),C4 (J7 [1,3])]) H ⟨V.out,H.lt⟩ (by intro u P;simp at P;rcases P with rfl|rfl<;>rfl) (yfb g.out l.out) (by simp);clear o H;go_wp2_with fail;clear X;refine(zpl (w:=r.alloc (.cells #[.int .i64 4,.int .i64 6] 3)) (l:=[4,6]) (heap_alloc_new r _) (by decide) (by decide)).mono ?_;rintro e J ⟨⟨ai,rfl,hv⟩,f⟩;have a:=C8 (L7 r _) f;obtain⟨g,l,n⟩:=F0 (IsV.stb.fresh g.out a) (IsV.stb.fresh l.out a) (IsM.stb.fresh n.out a);have j:=q c.out.size;have c:=nB c a;obtain⟨d,B⟩:=C7 (d.out.next a) (IsV.stb.le hv (m:=w.heap.size+1) (by have D:=c.out.size;have E:=s.out;have F:=a.size;rw[O];have G:=j.out;omega));obtain⟨Z,ae,rfl,_⟩:=J6 hv;clear hv f a;go_wp2_with fail;refine(zpl (w:=J.alloc (.cells #[.int .i64 3,.int .i64 2] 3)) (l:=[3,2]) (heap_alloc_new J _) (by decide) (by decide)).mono ?_;rintro e t ⟨⟨aj,rfl,hv⟩,f⟩;have a:=C8 (L7 J _) f;obtain⟨g,l,n,B⟩:=V7 (IsV.stb.fresh g.out a) (IsV.stb.fresh l.out a) (IsM.stb.fresh n.out a) (IsV.stb.fresh B.out a);have j:=q c.out.size;have c:=nB c a;obtain⟨d,U⟩:=C7 (d.out.next a) (IsV.stb.le hv (m:=w.heap.size+1) (by have D:=c.out.size;have E:=s.out;have F:=a.size;rw[O];have G:=j.out;omega));obtain⟨aa,af,rfl,_⟩:=J6 hv;clear hv f a;obtain⟨ak,al,an⟩:=C0 d.out;obtain⟨ab,ac,ad⟩:=E9 d.out;go_wp2_with fail;refine yll Tryz.results104 rfl rfl (Row.put3 d.out _ _ _) ?_;have same:∀x y z:k,L6 (I7 (w.heap.size+1) t) (C5 (put3 t w.heap.size x y z)) t (put3 t w.heap.size x y z):=fun x y z=>zqh fun b h=>⟨by have:=h.1;omega,by show b<_;rw[zqi];exact h.2⟩;exact⟨⟨_,rfl,zwi (p:=I8 exQ) (IsM.stb.to n.out (same _ _ _)) (IsV.stb.to B.out (same _ _ _)) (IsV.stb.to U.out (same _ _ _))⟩,zoy c.out (Nat.le_refl _) _ _ _⟩
def bestS:Sol:=⟨1,E0 (W9 12 1),C4 (J7 [4,0]),C4 (J7 [3,0]),[]⟩
abbrev put7 (w:i) (g:Nat) (a b c d e f h:k):i:=((((((w.setCell ⟨g,0,none⟩ a).setCell ⟨g,1,none⟩ b).setCell ⟨g,2,none⟩ c).setCell ⟨g,3,none⟩ d).setCell ⟨g,4,none⟩ e).setCell ⟨g,5,none⟩ f).setCell ⟨g,6,none⟩ h
theorem Row.put7 {w:i} {a d h:k} (r:Row w g t [a,b,c,d,e,f,h]) (j l m n o p q:k):Row (Go.Proofs.YtlhhbccgfkhflaaGreatDoor.put7 w g j l m n o p q) g t [j,l,m,n,o,p,q]:=((((((r.set_ 0 j).set_ 1 l).set_ 2 m).set_ 3 n).set_ 4 o).set_ 5 p).set_ 6 q
theorem zz1409 (w:i) (g:Nat) (a b c d e f h:k):(put7 w g a b c d e f h).heap.size=w.heap.size:=by simp[put7,World.setCell]
theorem zz1394 {w:i} {S j:Nat->Prop} {a d m:k} (h:∀x,S x->x≠g/\j x):L6 S j w (put7 w g a b c d e f m):=fun x l=>by
 have:=h x l
 refine⟨this.2,fun o=> ?_⟩
 rw[E _ _ _ _ (fun e=>this.1 (by cases e;rfl)),E _ _ _ _ (fun e=>this.1 (by cases e;rfl)),E _ _ _ _ (fun e=>this.1 (by cases e;rfl)),E _ _ _ _ (fun e=>this.1 (by cases e;rfl)),
  E _ _ _ _ (fun e=>this.1 (by cases e;rfl)),E _ _ _ _ (fun e=>this.1 (by cases e;rfl)),E _ _ _ _ (fun e=>this.1 (by cases e;rfl))]
theorem ypg {w o:i} (h:m n w o) (j:n<=g) (a b c d e f l:k):m n w (put7 o g a b c d e f l):=
 ((((((h.setCell (p:=⟨g,0,none⟩) j a).setCell (p:=⟨g,1,none⟩) j b).setCell (p:=⟨g,2,none⟩) j c).setCell (p:=⟨g,3,none⟩) j d).setCell (p:=⟨g,4,none⟩) j e).setCell (p:=⟨g,5,none⟩) j f).setCell (p:=⟨g,6,none⟩) j l
theorem zz1380 {fn:Func} {slot:Tmp} {R:Ending->i->Prop} {a:Act} {w:i} {x y z s t:k} (hr:fn.results= #[.cell slot 69]) (ha:a.tmps.getD slot L= .pointer (some ⟨g,0,none⟩)) (hd:a.defers=[])
 (h:Row w g 69 [x,y,z,u,v,s,t]) (m:R (.returned (.agg #[x,y,z,u,v,s,t])) w):bodyPost C fn R .ret a w:=by refine bodyPost_ret (v:= .agg #[x,y,z,u,v,s,t]) ?_ hd m;have b:=h.cell 0;have c:=h.cell 1;have d:=h.cell 2;have e:=h.cell 3;have f:=h.cell 4;have j:=h.cell 5;have l:=h.cell 6;simp at b c d e f j l;have n:a.tmps[slot]?.getD L= .pointer (some ⟨g,0,none⟩):=(by simpa using ha);simp[results,hr,n,asAddr,go_sem,b,c,d,e,f,j,l]
theorem ypi (w:i):K C 107 #[] w fun e w'=>(∃v,e= .returned v/\IsSol w' (C5 w') v bestS)/\m w.heap.size w w':=by obtain⟨A,W,H,P,n⟩:=J9 w #[.int .i64 0,.bool false,.slice none 0 0,.slice none 0 0,.slice none 0 0,.slice none 0 0,.slice none 0 0] 69;obtain⟨a,c⟩:=C7 P H;clear P H;go_in;go_wp2_with fail;clear W;refine(zws (a:=12) (b:=1) og og og).mono ?_;rintro e p ⟨⟨ao,rfl,hv⟩,f⟩;have j:=q c.out.size;have c:=nB c f;obtain⟨a,g⟩:=C7 (a.out.next f) (IsQ.stb.le hv (m:=w.heap.size+1) (by have G:=n.out;omega));obtain⟨Q,F,M,B,N,rfl,V,_,_⟩:=F9 hv;clear hv f;go_wp2_with fail;refine(zpl (w:=p.alloc (.cells #[.int .i64 4,.int .i64 0] 3)) (l:=[4,0]) (heap_alloc_new p _) (by decide) (by decide)).mono ?_;rintro e r ⟨⟨al,rfl,hv⟩,f⟩;have d:=C8 (L7 p _) f;have g:=q (IsQ.stb.fresh g.out d);have j:=q c.out.size;have c:=nB c d;obtain⟨a,o⟩:=C7 (a.out.next d) (IsV.stb.le hv (m:=w.heap.size+1) (by have S:=c.out.size;have G:=n.out;have T:=d.size;rw[O];have U:=j.out;omega));obtain⟨D,J,rfl,_⟩:=J6 hv;clear hv f d;go_wp2_with fail;refine(zpl (w:=r.alloc (.cells #[.int .i64 3,.int .i64 0] 3)) (l:=[3,0]) (heap_alloc_new r _) (by decide) (by decide)).mono ?_;rintro e l ⟨⟨an,rfl,hv⟩,f⟩;have d:=C8 (L7 r _) f;obtain⟨g,o⟩:=C7 (IsQ.stb.fresh g.out d) (IsV.stb.fresh o.out d);have j:=q c.out.size;have c:=nB c d;obtain⟨a,R⟩:=C7 (a.out.next d) (IsV.stb.le hv (m:=w.heap.size+1) (by have S:=c.out.size;have G:=n.out;have T:=d.size;rw[O];have U:=j.out;omega));obtain⟨E,L,rfl,_⟩:=J6 hv;clear hv f d;have X:=a.out.cell 0;have ae:=a.out.frozen 0;have Y:=a.out.cell 1;have af:=a.out.frozen 1;have Z:=a.out.cell 2;have ag:=a.out.frozen 2;have aa:=a.out.cell 3;have ah:=a.out.frozen 3;have ab:=a.out.cell 4;have ai:=a.out.frozen 4;have ac:=a.out.cell 5;have aj:=a.out.frozen 5;have ad:=a.out.cell 6;have ak:=a.out.frozen 6;simp at X Y Z aa ab ac ad;go_wp2_with fail;refine zz1380 Tryz.results107 rfl rfl (Row.put7 a.out _ _ _ _ _ _ _) ?_;have same:∀x y z u v s t:k,L6 (I7 (w.heap.size+1) l) (C5 (put7 l w.heap.size x y z u v s t)) l (put7 l w.heap.size x y z u v s t):=fun x y z u v s t=>zz1394 fun b h=>⟨by have:=h.1;omega,by show b<_;rw[zz1409];exact h.2⟩;have I:Q=(E0 (W9 12 1)).neg:=V.out;exact⟨⟨_,rfl,⟨F,M,B,N,D,J,E,L,none,0,by rw[I];rfl,by have h:=IsQ.stb.to g.out (same (.int .i64 1) (.bool Q) (.slice F (A8 (W9 12 1).num.natAbs).length M) (.slice B (A8 (W9 12 1).den).length N) (.slice D (C4 (J7 [4,0])).length J) (.slice E (C4 (J7 [3,0])).length L) (.slice none 0 0));rw[I] at h⊢;exact h,IsV.stb.to o.out (same _ _ _ _ _ _ _),IsV.stb.to R.out (same _ _ _ _ _ _ _),IsS.nil⟩⟩,ypg c.out (Nat.le_refl _) _ _ _ _ _ _ _⟩
section
variable {w : i} {d : h} {v1 : k} {r : h} {a : k} {x : h} {s : k} {y : h} {v4 : k} {z : h} {B : k} {D : h} {v6 : k} {F : h} {G : k} {H : h} {I : k} {M : h} {N : k} {Q : h} {v10 : k} {U : h} {v11 : k} {W : h} {X : k} {Z : h} {ab : k} {aa : h} {ac : k}
theorem hs1 (b:w.cell? d=some v1):p (∀a:i,m w.heap.size w a->a.cell? d=some v1):=fun a h=>A9 h b
theorem zpv (c:w.cell? d=some v1) (e:w.cell? r=some a):p (∀b:i,m w.heap.size w b->b.cell? d=some v1/\b.cell? r=some a):=fun b h=>⟨A9 h c,A9 h e⟩
theorem zlz (c:w.cell? d=some v1) (e:w.cell? r=some a) (f:w.cell? x=some s):p (∀b:i,m w.heap.size w b->b.cell? d=some v1/\b.cell? r=some a/\b.cell? x=some s):=fun b h=>⟨A9 h c,A9 h e,A9 h f⟩
theorem hs4 (c:w.cell? d=some v1) (e:w.cell? r=some a) (f:w.cell? x=some s) (g:w.cell? y=some v4):p (∀b:i,m w.heap.size w b->b.cell? d=some v1/\b.cell? r=some a/\b.cell? x=some s/\b.cell? y=some v4):=fun b h=>⟨A9 h c,A9 h e,A9 h f,A9 h g⟩
theorem hs5 (c:w.cell? d=some v1) (e:w.cell? r=some a) (f:w.cell? x=some s) (g:w.cell? y=some v4) (j:w.cell? z=some B):p (∀b:i,m w.heap.size w b->b.cell? d=some v1/\b.cell? r=some a/\b.cell? x=some s/\b.cell? y=some v4/\b.cell? z=some B):=fun b h=>⟨A9 h c,A9 h e,A9 h f,A9 h g,A9 h j⟩
theorem znz (c:w.cell? d=some v1) (e:w.cell? r=some a) (f:w.cell? x=some s) (g:w.cell? y=some v4) (j:w.cell? z=some B) (k:w.cell? D=some v6):p (∀b:i,m w.heap.size w b->b.cell? d=some v1/\b.cell? r=some a/\b.cell? x=some s/\b.cell? y=some v4/\b.cell? z=some B/\b.cell? D=some v6):=fun b h=>⟨A9 h c,A9 h e,A9 h f,A9 h g,A9 h j,A9 h k⟩
theorem hs7 (c:w.cell? d=some v1) (e:w.cell? r=some a) (f:w.cell? x=some s) (g:w.cell? y=some v4) (j:w.cell? z=some B) (k:w.cell? D=some v6) (l:w.cell? F=some G):p (∀b:i,m w.heap.size w b->b.cell? d=some v1/\b.cell? r=some a/\b.cell? x=some s/\b.cell? y=some v4/\b.cell? z=some B/\b.cell? D=some v6/\b.cell? F=some G):=fun b h=>⟨A9 h c,A9 h e,A9 h f,A9 h g,A9 h j,A9 h k,A9 h l⟩
theorem hs8 (c:w.cell? d=some v1) (e:w.cell? r=some a) (f:w.cell? x=some s) (g:w.cell? y=some v4) (j:w.cell? z=some B) (k:w.cell? D=some v6) (l:w.cell? F=some G) (n:w.cell? H=some I):p (∀b:i,m w.heap.size w b->b.cell? d=some v1/\b.cell? r=some a/\b.cell? x=some s/\b.cell? y=some v4/\b.cell? z=some B/\b.cell? D=some v6/\b.cell? F=some G/\b.cell? H=some I):=fun b h=>⟨A9 h c,A9 h e,A9 h f,A9 h g,A9 h j,A9 h k,A9 h l,A9 h n⟩
theorem hs9 (c:w.cell? d=some v1) (e:w.cell? r=some a) (f:w.cell? x=some s) (g:w.cell? y=some v4) (j:w.cell? z=some B) (k:w.cell? D=some v6) (l:w.cell? F=some G) (n:w.cell? H=some I) (o:w.cell? M=some N):p (∀b:i,m w.heap.size w b->b.cell? d=some v1/\b.cell? r=some a/\b.cell? x=some s/\b.cell? y=some v4/\b.cell? z=some B/\b.cell? D=some v6/\b.cell? F=some G/\b.cell? H=some I/\b.cell? M=some N):=fun b h=>⟨A9 h c,A9 h e,A9 h f,A9 h g,A9 h j,A9 h k,A9 h l,A9 h n,A9 h o⟩
theorem zyi (c:w.cell? d=some v1) (f:w.cell? r=some a) (g:w.cell? x=some s) (j:w.cell? y=some v4) (k:w.cell? z=some B) (l:w.cell? D=some v6) (n:w.cell? F=some G) (o:w.cell? H=some I) (q:w.cell? M=some N) (e:w.cell? Q=some v10):p (∀b:i,m w.heap.size w b->b.cell? d=some v1/\b.cell? r=some a/\b.cell? x=some s/\b.cell? y=some v4/\b.cell? z=some B/\b.cell? D=some v6/\b.cell? F=some G/\b.cell? H=some I/\b.cell? M=some N/\b.cell? Q=some v10):=fun b h=>⟨A9 h c,A9 h f,A9 h g,A9 h j,A9 h k,A9 h l,A9 h n,A9 h o,A9 h q,A9 h e⟩
theorem yia (c:w.cell? d=some v1) (j:w.cell? r=some a) (k:w.cell? x=some s) (l:w.cell? y=some v4) (n:w.cell? z=some B) (o:w.cell? D=some v6) (q:w.cell? F=some G) (t:w.cell? H=some I) (u:w.cell? M=some N) (e:w.cell? Q=some v10) (f:w.cell? U=some v11) (g:w.cell? W=some X):p (∀b:i,m w.heap.size w b->b.cell? d=some v1/\b.cell? r=some a/\b.cell? x=some s/\b.cell? y=some v4/\b.cell? z=some B/\b.cell? D=some v6/\b.cell? F=some G/\b.cell? H=some I/\b.cell? M=some N/\b.cell? Q=some v10/\b.cell? U=some v11/\b.cell? W=some X):=fun b h=>⟨A9 h c,A9 h j,A9 h k,A9 h l,A9 h n,A9 h o,A9 h q,A9 h t,A9 h u,A9 h e,A9 h f,A9 h g⟩
end
structure SH (w:i) where
 s:i->Prop
 h:p (∀W:i,m w.heap.size w W->s W)
theorem zld {b:Program} {ops:Array Oper} {c:Exit->Act->i->Prop} {S:i->Prop} {id:Nat} {a:Act} {w:i} (h:p (∀d:i,m A.heap.size A d->S d)) (g:S w.drew->wpAnyH b .any ops c S ops.size (Array.replicate ops.size false) a w.drew) (f:b.follows .mixedOrders=true:=by kernel_rfl) (e:m A.heap.size A w.drew:=by exact bel):(Code.region id ops true).wp b c a w:=wp_region_held_drew f (h.out _ e) g
def NeL (V:Nat) (S:i->Prop):Prop:=∀(f:i->i),(∀b o v a,b≠V->a.cell? ⟨b,o,none⟩=some v->(f a).cell? ⟨b,o,none⟩=some v)->∀a,S a->S (f a)
theorem nA {V b:Nat} {S:i->Prop} (n:b≠V) (c:NeL V S):NeL V (fun a=>a.cell? ⟨b,o,none⟩=some v/\S a):=fun f hf a h=>⟨hf _ _ _ _ n h.1,c f hf a h.2⟩
theorem nZ {V b:Nat} (n:b≠V):NeL V (fun a=>a.cell? ⟨b,o,none⟩=some v):=fun f hf a h=>hf _ _ _ _ n h
section
variable {w : i} {V : Nat} {S : i → Prop}
theorem hp3 (h:p (∀a:i,m w.heap.size w a->S a)) (d:NeL V S):p (∀a:i,m w.heap.size w a->∀x y z,S (put3 a V x y z)):=fun a c x y z=>d (fun a=>Go.Proofs.YtlhhbccgfkhflaaGreatDoor.put3 a V x y z) (fun b o v a n h=>zkj h n) a (h.out a c)
end
def zzo (a b:Raw):Bool:=decide (a.neg=b.neg)&&decide (a.num=b.num)&&decide (a.den=b.den)
theorem zz1391 {a b:Raw}:zzo a b=true↔a=b:=by unfold zzo;rw[J,J,decide_eq_true_eq,decide_eq_true_eq,decide_eq_true_eq];obtain⟨x,y,z⟩:=a;obtain⟨u,v,t⟩:=b;simp[and_assoc]
theorem zz1390 {a b:Raw}:zzo a b=decide (a=b):=by rw[Bool.eq_iff_iff,zz1391,decide_eq_true_eq]
theorem zuq {a:IntKind} {w:i} {l:List Nat} (h:IsK a w (C5 w) v l):IsL a w 0 w.heap.size v l:=h.isL fun b c=>⟨Nat.zero_le _,c⟩
theorem ydv {w:i} {G H:k} {a b:Raw} (ha:IsR w (C5 w) G a) (c:IsR w (C5 w) H b):
 K C 47 #[G,H] w fun e w'=>e= .returned (.bool (decide (a=b)))/\m w.heap.size w w':=by
 rw[<-zz1390];obtain⟨Q,ac,S,ad,rfl,u,v⟩:=ha;obtain⟨U,ae,V,af,rfl,x,y⟩:=c;obtain⟨o,W,r,X⟩:=V7 u v x y;unfold zzo;obtain⟨t,j⟩:=nm (decide (a.neg=b.neg));obtain⟨b2,l⟩:=nm (decide (a.num=b.num));obtain⟨ab,n⟩:=nm (decide (a.den=b.den));have d:(a.neg==b.neg)=t:=(by rw[j];cases a.neg<;>cases b.neg<;>rfl);rw[<-j,<-l,<-n];obtain⟨s,aa⟩:=C7 l n;clear j l n u v x y;obtain⟨A,B,z,D,F,ag⟩:=zkd w #[.bool a.neg,.slice Q a.num.length ac,.slice S a.den.length ad] #[.bool b.neg,.slice U b.num.length ae,.slice V b.den.length af] 30 30;have f:=q z;obtain⟨ai,aj,M⟩:=C0 D;obtain⟨ak,al,N⟩:=C0 F;clear z D F;cases t with
 |false=>go_in;go_wp2_with fail;go_ret;exact⟨rfl,f.out⟩
 |true=>
  cases b2 with
  |false=>go_in;go_wp2_with fail;clear B;refine(yba (zuq (IsK.stb.to o.out (C9 f.out))) (zuq (IsK.stb.to r.out (C9 f.out)))).mono ?_;rw[<-s.out];rintro e I ⟨rfl,hd⟩;have c:=hd.below A.heap.size;have g:=nB f c;go_wp2_with fail;go_ret;exact⟨rfl,g.out⟩
  |true=>
   cases ab
   all_goals
    go_in
    go_wp2_with fail
    clear B
    refine(yba (zuq (IsK.stb.to o.out (C9 f.out))) (zuq (IsK.stb.to r.out (C9 f.out)))).mono ?_
    rw[<-s.out]
    rintro e I ⟨rfl,hd⟩
    have c:=hd.below A.heap.size
    have g:=nB f c
    replace M:=A9 c M
    replace N:=A9 c N
    clear c hd
    go_wp2_with fail
    refine(yba (zuq (IsK.stb.to W.out (C9 g.out))) (zuq (IsK.stb.to X.out (C9 g.out)))).mono ?_
    rw[<-aa.out]
    rintro e ah ⟨rfl,hd⟩
    have c:=hd.below I.heap.size
    have Z:=nB g c
    clear c hd
    go_wp2_with fail
    go_ret
    exact⟨rfl,Z.out⟩
end Go.Proofs.YtlhhbccgfkhflaaGreatDoor
