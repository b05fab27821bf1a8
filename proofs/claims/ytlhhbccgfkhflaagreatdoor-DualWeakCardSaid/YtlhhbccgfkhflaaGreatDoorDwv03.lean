/-
 What lay below a world's end lies as it lay,along steps:two laws more,and rows in new blocks.
-/
import Derived.Test.YtlhhbccgfkhflaaGreatDoorDwv02
import Derived.Test.YtlhhbccgfkhflaaGreatDoorProg
namespace Go.Proofs.YtlhhbccgfkhflaaGreatDoor
open Go.RowKit
set_option linter.unusedVariables false
set_option maxRecDepth 100000
set_option maxHeartbeats 8000000
open _root_.Go.Lib renaming hid → q
open _root_.Nat renaming le_refl → t, lt_or_ge → H, zero_le → I, mul_le_mul_right → O
open _root_.List renaming getD_eq_getElem?_getD → N
open _root_.Go renaming World → f, Value → z, Calls → D, Program → J, undef → B
open _root_.Go.RowKit renaming Below → e, Hid → k
open _root_.Go.Proofs.Tryz renaming prog → C
variable {K : Act → f → Prop} {L M M' l : List Nat} {U A s c c' g y r top u u2 v1 d : Int} {V hi E i j lo lo' m n : Nat} {b va G : z} {o : Oper} {F h wB : f}
theorem T4 {w X:f} (h:e w.heap.size w X) (o:Obj):e w.heap.size w (X.alloc o):=h.alloc h.size o
theorem W4 {w X:f} (h:e w.heap.size w X):e w.heap.size w X.drew:=C8 h (L8 X)
theorem U7 {w X:f} (h:e w.heap.size w F) (d:e w.heap.size w X) (a b c:z):e w.heap.size w (put3 F X.heap.size a b c):=zoy h d.size a b c
theorem yph {w:f} {g o:Nat} {u:z} (h:e w.heap.size w F) (a:w.heap.size<=g):e w.heap.size w (F.setCell ⟨g,o,none⟩ u):=h.setCell (p:=⟨g,o,none⟩) a u
theorem zwl {X a:f} {o:Obj} (h:e (X.alloc o).heap.size (X.alloc o) a):X.heap.size<a.heap.size:=by have:=h.size;rw[World.size_alloc] at this;omega
theorem zz1481 {P:J} {a:Act} {w:f} {Q Q':Exit->Act->f->Prop} (c:∀g a w,Q' g a w->g= .normal/\K a w) (b:o.wp P a w (fun a w=>Q' .normal a w) Q'):o.wp P a w K Q:=by
 unfold Oper.wp at*;generalize (execOp a.eval o).run P w=r at*;have i:¬LetsOut Q':=fun⟨_,_,h⟩=>(by have:=(c _ _ _ h).1;cases this);cases r with
 |ok n w'=>
  cases n<;>simp only[Oper.upon] at b⊢<;>
   first
    |exact(c _ _ _ b).2
    |exact Calls.mono b (fun g j d=>by cases g<;>first|exact(c _ _ _ d).2|(have:=(c _ _ _ d).1;cases this)|exact(i d).elim)
    |exact Rows.mono b (fun _ _ d=>(c _ _ _ d).2)
 |halt x w'=>cases x<;>simp only[Oper.upon] at b⊢<;>first|(have:=(c _ _ _ b).1;cases this)|exact b.elim
theorem zz1418 {P:J} {w:f} {ops:Array Oper} {a:Act} {K:Act->f->Prop} {Q:Exit->Act->f->Prop} {r:Prop} {i b:TypeId} {bytes:Nat} (t:ElN P i b n bytes) (m:o.guard=none) (s x:Operand) (H:o.op= .call {callee:= .builtin .append,args:= #[s,x],argTypes:= #[i,i]})
 {j:Type} {R:f->(Nat->Prop)->z->j->Prop} (B:Stb R) {base:Nat} {S:Nat->Prop} {v d:z} {l:List j} {y:j} {q:TypeId} {k:Array z}
 (L:a.eval s=v) (M:a.eval x= .slice (some ⟨w.heap.size,0,none⟩) 1 1) (E:k=d.cells) (I:OwnS n b R w base S v l) (F:R w S d y) (G:d.cells.size=n)
 (A:∀u∈d.cells,u.oneCell'=true) (C:(l.length+1)*(bytes+1)<=140737488355328) (D:base<=w.heap.size)
 (h:∀g w',OwnS n b R w' base S g (l++[y])->e base w w'->w.heap.size<=w'.heap.size->K (a.put o.dst g) w'):if Region.wanted o (yielded ops a.tmps)=true then Oper.wp P o a (w.alloc (.cells k q)) K Q else r:=by
 have p:Region.wanted o (yielded ops a.tmps)=true:=by simp[Region.wanted,m]
 rw[if_pos p]
 have c:=zpn (P:=P) (ops:=ops) (rest:=[]) (te:=q) (Q:=fun b a w=>b= .normal/\K a w) t m s x H B L M E I F G A C D (fun g w' N O T=>by unfold wpList;exact⟨rfl,h g w' N O T⟩)
 unfold wpList at c
 rw[if_pos p] at c
 rcases c with c|c
 ·refine zz1481 (Q':=fun b a w=>b= .normal/\K a w) (fun b a w h=>h) ?_
  refine Oper.wp_mono (fun a w h=> ?_) c
  unfold wpList at h
  exact h
 ·obtain⟨_,_,h,_⟩:=c.2
  cases h
abbrev zow:Obj:= .cells #[.bool false,.slice none 0 0,.slice none 0 0] 30
theorem zwd {X:f} {g:Nat} {a c:z} {q:Rat} (hv:IsQ h (I7 lo h) (.agg #[a,b,c]) q) (l:e wB.heap.size wB h) (i:e wB.heap.size wB X) (hr:e (X.alloc zow).heap.size (X.alloc zow) h)
 (hlo:X.heap.size<lo) (p:wB.heap.size<=lo) (m:X.heap.size=g):
 ∃d,put3 h g a b c=d/\e wB.heap.size wB d/\Row d g 30 [a,b,c]/\IsQ d (fun b=>I7 wB.heap.size d b/\b≠g) (.agg #[a,b,c]) q/\k (wB.heap.size<=g):=by subst m;refine⟨_,rfl,U7 l i a b c,Row.put3 (Row.next (heap_alloc_new X zow) hr) a b c,?_,i.size⟩;refine IsQ.stb.to hv (zqh fun x j=> ?_);have n:=j.1;have o:=j.2;refine⟨by omega,⟨by omega,by rw[zqi];omega⟩,by omega⟩
theorem yhb {a c:z} {q:Rat} (hv:IsQ h (I7 lo h) (.agg #[a,b,c]) q) (g:e wB.heap.size wB h) (i:wB.heap.size<=lo):
 ∃d,h.alloc (.cells #[a,b,c] 30)=d/\e wB.heap.size wB d/\Row d h.heap.size 30 [a,b,c]/\IsQ d (fun b=>I7 wB.heap.size d b/\b≠h.heap.size) (.agg #[a,b,c]) q/\k (wB.heap.size<=h.heap.size):=by refine⟨_,rfl,T4 g _,heap_alloc_new h _,?_,g.size⟩;refine IsQ.stb.to hv fun x f=>⟨⟨⟨by have:=f.1;omega,by have:=f.2;rw[World.size_alloc];omega⟩,by have:=f.2;omega⟩,fun o=> ?_⟩;exact(L7 h _).cell (p:=⟨x,o,none⟩) f.2
section
variable {P : J} {ops : Array Oper} {Q : Exit → Act → f → Prop} {md : Region.Mode} {S : f → Prop}
theorem ymx {p:Oper} {v:z} (d:Option Tmp) {x:Nat} {listed:Array Bool} {a:Act} {w:f} (hi:ops[i]? =some p) (hd:p.dst=d) (g:Region.noSelect ops=true) (hf:Region.free md ops listed i=true) (hr:(Region.ready md ops listed).contains i=true)
 (j:Region.wanted p (yielded ops a.tmps)=true) (b:∀c a w,Q (.panic c) (a.put d v) w->Q (.panic c) a w) (k:∀w,S w->(execOp a.eval p).run P w= .ok (.value v) w) (e:S w)
 (h:wpAnyH P md ops Q S x (listed.setIfInBounds i true) (a.put d v) w):wpAnyH P md ops Q S (x+1) listed a w:=by subst hd;exact wpAnyH_take hi g hf hr b (Or.inl ⟨j,k⟩) e h
theorem ymy {p:Oper} (d:Option Tmp) {x:Nat} {listed:Array Bool} {a:Act} {w:f} (hi:ops[i]? =some p) (hd:p.dst=d) (g:Region.noSelect ops=true) (hf:Region.free md ops listed i=true) (hr:(Region.ready md ops listed).contains i=true)
 (j:Region.wanted p (yielded ops a.tmps)=false) (b:∀c a w,Q (.panic c) (a.put d B) w->Q (.panic c) a w) (e:S w)
 (h:wpAnyH P md ops Q S x (listed.setIfInBounds i true) (a.put d B) w):wpAnyH P md ops Q S (x+1) listed a w:=by subst hd;exact wpAnyH_take hi g hf hr b (Or.inr ⟨j,rfl⟩) e h
end
theorem bel {a:Prop} (h:a:=by(repeat(first|exact _root_.Go.RowKit.Below.refl _ _|assumption|refine T4 ?_ _|refine W4 ?_|refine U7 ?_ ?_ _ _ _|refine yph ?_ (by omega)|refine C8 ?_ (by assumption)));(first|done|fail)):a:=h
theorem bW (w w':f) (h:e w.heap.size w w':=by exact bel):k (e w.heap.size w w'):=h
section
variable {P : J} {ops : Array Oper} {Q : Exit → Act → f → Prop} {md : Region.Mode} {S : f → Prop} {p : Oper} {v : z} {x : Nat} {listed : Array Bool} {a : Act} {w : f}
theorem tT (i:Nat) (s:Tmp) (h:wpAnyH P md ops Q S x (listed.setIfInBounds i true) (a.put (some s) v) w) (hi:ops[i]? =some p:=by rfl) (hd:p.dst=some s:=by rfl) (f:Region.noSelect ops=true:=by kernel_rfl) (hf:Region.free md ops listed i=true:=by kernel_rfl)
 (hr:(Region.ready md ops listed).contains i=true:=by kernel_rfl) (g:Region.wanted p (yielded ops a.tmps)=true:=by rfl) (b:∀c a w,Q (.panic c) (a.put (some s) v) w->Q (.panic c) a w:=by exact fun _ _ _ h=>h)
 (j:∀w,S w->(execOp a.eval p).run P w= .ok (.value v) w:=by(intro w e;(try dsimp only at e);go_simp;(try(with_reducible rfl)))) (d:S w:=by assumption):wpAnyH P md ops Q S (x+1) listed a w:=ymx (some s) hi hd f hf hr g b j d h
theorem tU (i:Nat) (s:Tmp) (h:wpAnyH P md ops Q S x (listed.setIfInBounds i true) (a.put (some s) B) w) (hi:ops[i]? =some p:=by rfl) (hd:p.dst=some s:=by rfl) (e:Region.noSelect ops=true:=by kernel_rfl) (hf:Region.free md ops listed i=true:=by kernel_rfl)
 (hr:(Region.ready md ops listed).contains i=true:=by kernel_rfl) (f:Region.wanted p (yielded ops a.tmps)=false:=by rfl) (b:∀c a w,Q (.panic c) (a.put (some s) B) w->Q (.panic c) a w:=by exact fun _ _ _ h=>h) (d:S w:=by assumption):wpAnyH P md ops Q S (x+1) listed a w:=ymy (some s) hi hd e hf hr f b d h
theorem sT (i:Nat) (s:Tmp) {q:Prop} (l:q) (hi:ops[i]? =some p:=by rfl) (hd:p.dst=some s:=by rfl) (g:Region.noSelect ops=true:=by kernel_rfl) (hf:Region.free md ops listed i=true:=by kernel_rfl)
 (hr:(Region.ready md ops listed).contains i=true:=by kernel_rfl) (j:Region.wanted p (yielded ops a.tmps)=true:=by rfl) (b:∀c a w,Q (.panic c) (a.put (some s) v) w->Q (.panic c) a w:=by exact fun _ _ _ h=>h)
 (k:∀w,S w->(execOp a.eval p).run P w= .ok (.value v) w:=by(intro w e;(try dsimp only at e);go_simp;(try(with_reducible rfl)))) (d:S w:=by assumption)
 (h:q->wpAnyH P md ops Q S x (listed.setIfInBounds i true) (a.put (some s) v) w:=by(intro f;simp only[Act.put,_root_.List.setIfInBounds_toArray,_root_.List.set_cons_zero,_root_.List.set_cons_succ];exact f)):wpAnyH P md ops Q S (x+1) listed a w:=ymx (some s) hi hd g hf hr j b k d (h l)
theorem sU (i:Nat) (s:Tmp) {q:Prop} (j:q) (hi:ops[i]? =some p:=by rfl) (hd:p.dst=some s:=by rfl) (f:Region.noSelect ops=true:=by kernel_rfl) (hf:Region.free md ops listed i=true:=by kernel_rfl)
 (hr:(Region.ready md ops listed).contains i=true:=by kernel_rfl) (g:Region.wanted p (yielded ops a.tmps)=false:=by rfl) (b:∀c a w,Q (.panic c) (a.put (some s) B) w->Q (.panic c) a w:=by exact fun _ _ _ h=>h) (d:S w:=by assumption)
 (h:q->wpAnyH P md ops Q S x (listed.setIfInBounds i true) (a.put (some s) B) w:=by(intro e;simp only[Act.put,_root_.List.setIfInBounds_toArray,_root_.List.set_cons_zero,_root_.List.set_cons_succ];exact e)):wpAnyH P md ops Q S (x+1) listed a w:=ymy (some s) hi hd f hf hr g b d (h j)
end
theorem zz1457:(Tryz.prog.info? 140).map (fun i=>(i.zero,i.size,i.bytes))=some (some (.int .u32 0),1,4):=by kernel_rfl
theorem zky:ElT C 28 140 (.int .u32 0) 4:=⟨Tryz.underlying28,info_parts zz1457,rfl⟩
theorem yqt (A B:Option Addr) (c d:Nat) (a b:List Nat) (w:f) (lo hi lo' E:Nat) (ha:Lo a) (z:Lo b) (N:a.length<=maxLen) (O:b.length<=maxLen) (L:SV w lo hi A (F6 .u32 a)) (M:SV w lo' E B (F6 .u32 b))
 (r:Int) (l:a.length<b.length->r= -1) (m:b.length<a.length->r=1) (I:a.length=b.length->r=zkf (val a) (val b)):
 D C 159 #[.slice A a.length c,.slice B b.length d] w fun J w'=>J= .returned (.int .i64 r)/\Dr w w':=by
 unfold maxLen at N O;have s:=q ha;clear ha;have u:=q z;clear z;have v:=q I;clear I;rcases Nat.lt_trichotomy a.length b.length with h|h|h
 ·have g:=q (l h);clear l m;go_in;go_wp2;go_ret;exact⟨K2 g.out.symm,Dr.refl w⟩
 ·have g:=q (v.out h);clear l m v;have T:(((a.length:Int)) !=(b.length:Int))=false:=(by simp[h]);have j:=q h;have K:a.length<=b.length:=og;have S:b.length<=a.length:=og;clear h;go_in;go_wp2;go_loopw [5] (fun i wr=>∃e:Nat,e<=a.length/\i= .int .i64 ((e:Int)-1)/\Dr w wr/\k (a.drop e=b.drop e)) (fun i _=>(intOf i+1).toNat);case atStart=>exact⟨a.length,t _,rfl,Dr.refl w,by rw[List.drop_length,j.out,List.drop_length];rfl⟩
  case round=>
   obtain⟨e,H,rfl,⟨n,rfl⟩,hd⟩:=hrel;rcases e with _|e
   ·go_wp2;go_ret;refine⟨K2 ?_,(Dr.refl w).drewN n⟩;have:=hd.out;simp only[List.drop_zero] at this;rw[g.out,zzt (by rw[this])]
   ·obtain⟨ba,oa,rfl,_,_,F⟩:=L (Y5 H);obtain⟨bb,ob,rfl,_,_,G⟩:=M (Y5 (Nat.le_trans H K));obtain⟨x,o,U,V⟩:=zre (j:=e) F og;obtain⟨y,p,W,X⟩:=zre (j:=e) G og;clear F G;rw[show(((e+1:Nat):Int)-1)=(e:Int) from by omega];go_wp2;go_quiet (fail);go_wp2
    ·go_ret;refine⟨K2 ?_,((Dr.refl w).drewN n).drewN _⟩;have P:x<y:=(by assumption);rw[g.out,zub (ynl s.out u.out j.out og hd.out (zmb o p))]
    ·go_quiet (fail);go_wp2
     ·go_ret;refine⟨K2 ?_,(((Dr.refl w).drewN n).drewN _).drewN _⟩;have P:y<x:=(by assumption);rw[g.out,zxb (ynl u.out s.out j.out.symm og hd.out.symm (zmb o p))]
     ·go_roundw;(case rel=>have Q:y<=x:=(by assumption);have R:x<=y:=(by assumption);exact⟨e,by omega,rfl,⟨_,rfl⟩,q (ysc j.out og hd.out (zmb o p))⟩);case measure=>simp[intOf]
 ·have g:=q (m h);clear l m;go_in;go_wp2;go_ret;exact⟨K2 g.out.symm,Dr.refl w⟩
theorem zsh {w:f} {x y:Nat} (ha:IsN w lo hi va x) (a:IsN w lo' E G y):
 D C 159 #[va,G] w fun b w'=>b= .returned (.int .i64 (zkf x y))/\Dr w w':=by
 have e:=ha.length_le;have g:=a.length_le;obtain⟨A,c,rfl,_,_,i⟩:=ha;obtain⟨B,d,rfl,_,_,j⟩:=a;refine yqt A B c d (A8 x) (A8 y) w _ _ _ _ (Y8 x) (Y8 y) e g i j _ ?_ ?_ ?_
 ·intro h;exact zub (yjf h)
 ·intro h;exact zxb (yjf h)
 ·intro _;rw[Z6,Z6]
theorem ynf {w:f} {c:Nat} {A:Option Addr} (d:Lo l) (k:l.length<=c) (g:c<=maxLen) (a:m<=l.length) (i:∀j,m<=j->j<l.length->l.getD j 0=0)
 (e:m=0\/l.getD (m-1) 0≠0) (b:SV w lo hi A (F6 .u32 l)):IsN w lo hi (.slice A m c) (val l):=by
 have h:=zz1452 d a i e;refine⟨A,c,?_,?_,g,?_⟩
 ·rw[h,List.length_take,Nat.min_eq_left a]
 ·rw[h,List.length_take];omega
 ·rw[h,ybh];exact b.take m
theorem zxd (A:Option Addr) (c:Nat) (l:List Nat) (w:f) (lo hi:Nat) (r:Lo l) (y:l.length<=c) (u:c<=maxLen) (b:SV w lo hi A (F6 .u32 l)):
 D C 184 #[.slice A l.length c] w fun G w'=>(∃v,G= .returned v/\IsN w lo hi v (val l))/\w=w':=by
 have h:=q u;unfold maxLen at u;have g:=q r;clear r;go_in;go_wp2;go_loop [0] (fun s=>∃m:Nat,m<=l.length/\s= .slice A m c/\k (∀j,m<=j->j<l.length->l.getD j 0=0)) (fun s=>match s with| .slice _ m _=>m|_=>0);case atStart=>exact⟨l.length,t _,rfl,q (by intro j n o;omega)⟩
 case round=>
  obtain⟨m,E,rfl,d⟩:=hrel;rcases m with _|m
  ·go_wp2;go_ret;exact⟨⟨_,rfl,ynf g.out y h.out (I _) d.out (.inl rfl) b⟩,rfl⟩
  ·obtain⟨ba,oa,rfl,_,_,p⟩:=b (Y5 E);obtain⟨x,F,L,M⟩:=zre (j:=m) p og;clear p;by_cases i:x=0
   ·subst i;go_wp2;go_round
    case rel=>exact⟨m,by omega,rfl,q (by
     intro j n o;rcases Nat.eq_or_lt_of_le n with a|a
     ·subst a;have:=F.out;omega
     ·exact d.out j a o)⟩
    case measure=>simp
   ·have K:(x==0)=false:=(by simpa using i);go_wp2;go_ret;exact⟨⟨_,rfl,ynf g.out y h.out E d.out (.inr (by have:=F.out;simp only[Nat.add_sub_cancel];omega)) b⟩,rfl⟩
theorem yng {w:f} (ha:IsL .u32 w lo hi va l) (e:Lo l):
 D C 184 #[va] w fun a w'=>(∃v,a= .returned v/\IsN w lo hi v (val l))/\w=w':=by obtain⟨A,c,rfl,hc,d,b⟩:=ha;exact zxd A c l w lo hi e hc d b
theorem znn (w:f):
 D C 130 #[] w fun a w'=>(∃v,a= .returned v/\IsN w' w.heap.size w'.heap.size v 1)/\e w.heap.size w w':=by go_in;go_wp2;go_ret;refine⟨⟨_,rfl,?_⟩,(Below.refl _ _).alloc (t _) _⟩;have h:=yup .u32 w 140 [1] (by simp[maxLen]);unfold IsN;rw[zlg,World.size_alloc];exact h
theorem zrg {w:f} {x:Nat} (ha:IsN w lo hi va x) (i:(A8 x).length<=4294967296):
 D C 128 #[va] w fun a w'=>(∃v,a= .returned v/\IsN w' w.heap.size w'.heap.size v x)/\e w.heap.size w w':=by obtain⟨A,c,rfl,hc,h,b⟩:=ha;go_in;go_wp2_with (at_builtin;refine ynw zky rfl _ _ rfl rfl (Own.nil _ _ _) rfl (zsg _ _) b (ypv _ _) (by simp only[List.length_nil];omega) (t _) ?_;intro v1 F g d j);go_ret;exact⟨⟨_,rfl,Own.isL (by simpa using g)⟩,d⟩
theorem zpa (a:IntKind) (l:List Nat) (x:Nat) (y:Int) (h:y=(x:Int)):F6 a l++[.int a y]=F6 a (l++[x]):=by subst h;simp[F6]
theorem ydd (w:f) (n:Nat) (y:n<=18446744073709551615):
 D C 190 #[.int .u64 (n:Int)] w fun p w'=>(∃v,p= .returned v/\IsN w' w.heap.size w'.heap.size v n)/\e w.heap.size w w':=by
 generalize d:w.heap.size=B;have o:=q d;clear d;go_in;go_wp2;go_loopw [0,3] (fun x v wr=>∃m:Nat,∃l:List Nat,x= .int .u64 (m:Int)/\m<=n/\Own wr B 140 v (F6 .u32 l)/\e B w wr/\l.length+(A8 m).length<=5/\k (l++A8 m=A8 n)) (fun x _ _=>(intOf x).toNat);case atStart=>refine⟨n,[],rfl,t _,Own.nil _ _ _,Below.refl _ _,?_,rfl⟩;rw[List.length_nil,Nat.zero_add,lim_len_le];simp[pw];omega
 case round=>
  obtain⟨m,l,rfl,u,i,a,h,g⟩:=hrel;have r:B<=wr.heap.size:=(by have:=a.size;have:=o.out;omega);by_cases b:m=0
  ·subst b;go_wp2;go_ret;have:=g.out;rw[T6,List.append_nil] at this;subst this;exact⟨⟨_,rfl,Own.isL i⟩,a⟩
  ·go_wp2_with (at_builtin;refine zpm zky rfl _ _ rfl rfl i rfl rfl (by rw[zsg];omega) r ?_;intro v1 F j s z);go_roundw
   case rel=>
    rw[zpa .u32 l (m%1000000000) _ og] at j;have c:=zpf b;refine⟨m/1000000000,l++[m%1000000000],by go_num,by omega,j,a.trans s,?_,?_⟩
    ·rw[c] at h;simp only[List.length_append,List.length_cons,List.length_nil] at h⊢;omega
    ·have:=g.out;rw[c] at this;rw[<-this,List.append_assoc];rfl
   case measure=>simp[intOf];omega
theorem ydc (w:f) (n:Int) (b:0<=n) (c:n<=18446744073709551615):
 D C 190 #[.int .u64 n] w fun a w'=>(∃v,a= .returned v/\IsN w' w.heap.size w'.heap.size v n.toNat)/\e w.heap.size w w':=by obtain⟨m,rfl⟩:=Int.eq_ofNat_of_zero_le b;exact ydd w m og
theorem zut (n:Nat):Lo (List.replicate n 0):=by intro x a;rw[List.mem_replicate] at a;omega
theorem zz1424 (A B:Option Addr) (c d:Nat) (a b:List Nat) (w:f) (lo hi lo' E:Nat) (ab:hi<=w.heap.size) (ac:E<=w.heap.size) (ha:Lo a) (K:Lo b) (ai:a.length<=4294967296) (aa:b.length<=a.length) (Q:val b<=val a)
 (X:SV w lo hi A (F6 .u32 a)) (Y:SV w lo' E B (F6 .u32 b)):
 D C 188 #[.slice A a.length c,.slice B b.length d] w fun G w'=>(∃v,G= .returned v/\IsN w' w.heap.size w'.heap.size v (val a-val b))/\e w.heap.size w w':=by
 have T:=q ha;clear ha;have U:=q K;clear K;have V:=q Q;clear Q;go_in;go_wp2_with (at_make;refine zvo zky rfl _ _ rfl a.length rfl rfl rfl rfl og ?_;intro j F J af Z ag)
 go_loopw [6,15] (fun W i wr=>∃g:Nat,∃L:List Nat,∃h:Int,g<=a.length/\i= .int .i64 (g:Int)/\W= .int .i64 h/\0<=h/\h<=1/\Row wr j 140 (F6 .u32 L)/\e j w wr/\k (wr.heap.size=j+1)/\
  k (L.length=a.length/\Lo L/\(val (L.take g):Int)=val (a.take g)-val (b.take g)+h*pw g)) (fun _ i _=>a.length-(intOf i).toNat)
 case atStart=>exact⟨0,_,0,I _,rfl,rfl,by omega,by omega,af,Z,ag,by simp,zut _,by simp[val]⟩
 case round=>
  obtain⟨g,L,h,an,rfl,rfl,aj,ak,hr,l,m,hrel⟩:=hrel;have u:e w.heap.size w wr:=(by have:=J.out;subst this;exact l);rcases H g a.length with p|al
  ·obtain⟨ba,oa,rfl,_,_,M⟩:=(X.below u ab) (Y5 (j:=g) p);obtain⟨x,r,ao,aq,ar⟩:=zkw (j:=g) T.out M p;clear M;obtain⟨z,az,aA,aB⟩:=hr.num (i:=g) (by rw[hrel.out.1];exact p);have aC:=hr.frozen g;have o:k (g<L.length):=(by rw[hrel.out.1];exact p);rcases H g b.length with P|O
   ·obtain⟨bb,ob,rfl,_,_,N⟩:=(Y.below u ac) (Y5 (j:=g) P);obtain⟨y,R,au,av,ay⟩:=zkw (j:=g) U.out N P;clear N;rcases Int.lt_or_le (x-h-y) 0 with ad|ae
    ·go_wp2;go_roundw
     case rel=>
      exact⟨g+1,L.set g (x-h-y+1000000000).toNat,1,by omega,by go_num,rfl,by omega,by omega,hr.setNum g _ _ og,l.setCell (t _) _,by have:=m.out;simpa[k,World.setCell] using this,
       by rw[List.length_set];exact hrel.out.1,Y3 hrel.out.2.1 og,yaa o.out r.out R.out og og hrel.out.2.2⟩
     case measure=>simp[intOf];omega
    ·go_wp2;go_roundw
     case rel=>
      exact⟨g+1,L.set g (x-h-y).toNat,0,by omega,by go_num,rfl,by omega,by omega,hr.setNum g _ _ og,l.setCell (t _) _,by have:=m.out;simpa[k,World.setCell] using this,
       by rw[List.length_set];exact hrel.out.1,Y3 hrel.out.2.1 og,yaa o.out r.out R.out og og hrel.out.2.2⟩
     case measure=>simp[intOf];omega
   ·rcases Int.lt_or_le (x-h) 0 with ad|ae
    ·go_wp2;go_roundw
     case rel=>
      exact⟨g+1,L.set g (x-h+1000000000).toNat,1,by omega,by go_num,rfl,by omega,by omega,hr.setNum g _ _ og,l.setCell (t _) _,by have:=m.out;simpa[k,World.setCell] using this,
       by rw[List.length_set];exact hrel.out.1,Y3 hrel.out.2.1 og,yaa (y:=0) o.out r.out (by rw[zpr O];rfl) og og hrel.out.2.2⟩
     case measure=>simp[intOf];omega
    ·go_wp2;go_roundw
     case rel=>
      exact⟨g+1,L.set g (x-h).toNat,0,by omega,by go_num,rfl,by omega,by omega,hr.setNum g _ _ og,l.setCell (t _) _,by have:=m.out;simpa[k,World.setCell] using this,
       by rw[List.length_set];exact hrel.out.1,Y3 hrel.out.2.1 og,yaa (y:=0) o.out r.out (by rw[zpr O];rfl) og og hrel.out.2.2⟩
     case measure=>simp[intOf];omega
  ·obtain rfl:g=a.length:=og;have s:=hrel.out.1;have hv:=zz1423 s rfl aa hrel.out.2.1 og V.out hrel.out.2.2;have hlo:=hrel.out.2.1;have ah:=hrel;clear hrel;have n:k (Row wr j 140 (F6 .u32 L)/\val L=val a-val b/\L.length=a.length):=⟨hr,hv,s⟩;have S:=q hlo;clear hv hlo hr s;go_wp2_with fail;rw[<-n.out.2.2];refine(zxd _ _ L wr j (j+1) S.out (t _) (by have:=n.out.2.2;unfold maxLen;omega) n.out.1.sv).mono ?_;rintro G aD ⟨⟨v,rfl,hv⟩,rfl⟩;go_wp2_with fail;go_ret;refine⟨⟨_,rfl,?_⟩,u⟩;rw[<-n.out.2.1];exact hv.wide (oh J) (oh m)
theorem ymo {w:f} {x y:Nat} (ha:IsN w lo hi va x) (j:IsN w lo' E G y) (k:hi<=w.heap.size) (l:E<=w.heap.size) (a:y<=x) (m:(A8 x).length<=4294967296):
 D C 188 #[va,G] w fun b w'=>(∃v,b= .returned v/\IsN w' w.heap.size w'.heap.size v (x-y))/\e w.heap.size w w':=by obtain⟨A,c,rfl,_,_,g⟩:=ha;obtain⟨B,d,rfl,_,_,i⟩:=j;have h:=zz1424 A B c d (A8 x) (A8 y) w _ _ _ _ k l (Y8 x) (Y8 y) m (zkn a) (by rw[Z6,Z6];exact a) g i;rw[Z6,Z6] at h;exact h
theorem yww (A B:Option Addr) (c d:Nat) (a b:List Nat) (w:f) (lo hi lo' E:Nat) (af:hi<=w.heap.size) (ag:E<=w.heap.size) (ha:Lo a) (Q:Lo b) (av:a.length<=4294967296) (az:b.length<=4294967296)
 (ab:SV w lo hi A (F6 .u32 a)) (ac:SV w lo' E B (F6 .u32 b)):
 D C 160 #[.slice A a.length c,.slice B b.length d] w fun n w'=>(∃v,n= .returned v/\IsN w' w.heap.size w'.heap.size v (val a*val b))/\e w.heap.size w w':=by
 have Y:=q ha;clear ha;have Z:=q Q;clear Q;rcases Nat.eq_zero_or_pos a.length with P|P
 ·have n:a=[]:=List.eq_nil_of_length_eq_zero P;subst n;go_in;go_wp2;go_ret;exact⟨⟨_,rfl,by rw[val,Nat.zero_mul,IsN,T6];exact IsL.nil⟩,Below.refl _ _⟩
 have ay:((a.length:Int)==0)=false:=beq_eq_false_iff_ne.2 og;rcases Nat.eq_zero_or_pos b.length with R|R
 ·have n:b=[]:=List.eq_nil_of_length_eq_zero R;subst n;go_in;go_wp2;go_ret;exact⟨⟨_,rfl,by rw[show val ([]:List Nat)=0 from rfl,Nat.mul_zero,IsN,T6];exact IsL.nil⟩,Below.refl _ _⟩
 have aA:((b.length:Int)==0)=false:=beq_eq_false_iff_ne.2 og;go_in;go_wp2_with (at_make;refine zvo zky rfl _ _ rfl (a.length+b.length) rfl rfl rfl rfl og ?_;intro h F G ah ad X)
 go_loopw [29] (fun i wr=>∃g:Nat,∃L:List Nat,g<=a.length/\i= .int .i64 (g:Int)/\Row wr h 140 (F6 .u32 L)/\e h w wr/\k (wr.heap.size=h+1)/\
  k (L.length=a.length+b.length/\Lo L/\(∀j,g+b.length<=j->L.getD j 0=0)/\val L=val (a.take g)*val b)) (fun i _=>a.length-(intOf i).toNat)
 case atStart=>exact⟨0,_,I _,rfl,ah,ad,X,by simp,zut _,fun j _=>by rw[N,List.getElem?_replicate];split<;>rfl,by rw[zz1462,Nat.zero_mul];exact yei (fun x J=>(List.mem_replicate.1 J).2)⟩
 case round=>
  obtain⟨g,L,aG,rfl,hr,m,o,hrel⟩:=hrel;have r:e w.heap.size w wr:=(by have:=G.out;subst this;exact m);rcases H g a.length with V|aC
  ·obtain⟨ba,oa,rfl,_,_,S⟩:=(ab.below r af) (Y5 (j:=g) V);obtain⟨x,J,ai,aj,ak⟩:=zkw (j:=g) Y.out S V;clear S;have s:=hrel;clear hrel;obtain⟨aL,rfl⟩:=nm (wr:f);go_wp2
   go_loopw [9,39] (fun aa i O=>∃j:Nat,∃M:List Nat,∃l:Int,j<=b.length/\i= .int .i64 (j:Int)/\aa= .int .u64 l/\0<=l/\l<=999999999/\Row O h 140 (F6 .u32 M)/\e h w O/\k (O.heap.size=h+1)/\
    k (M.length=a.length+b.length/\Lo M/\(∀j,g+b.length<=j->M.getD j 0=0)/\(val M:Int)+l*pw (g+j)=val L+x*pw g*val (b.take j))) (fun _ i _=>b.length-(intOf i).toNat)
   case atStart=>exact⟨0,L,0,I _,rfl,rfl,by omega,by omega,hr,m,o,s.out.1,s.out.2.1,s.out.2.2.1,by simp[val]⟩
   case round=>
    clear hr m r o ak;obtain⟨j,M,l,aD,rfl,rfl,ae,aB,hr,m,o,hrel⟩:=hrel;have r:e w.heap.size w wr:=(by have:=G.out;subst this;exact m);have u:k (g+b.length<M.length):=(by rw[hrel.out.1];unfold k;omega);rcases H j b.length with U|aE
    ·obtain⟨bb,ob,rfl,_,_,T⟩:=(ac.below r ag) (Y5 (j:=j) U);obtain⟨y,al,an,ao,aJ⟩:=zkw (j:=j) Z.out T U;clear T;obtain⟨z,W,aq,X,ar⟩:=hr.lo hrel.out.2.1 (i:=g+j) (oh u);have au:=hr.frozen (g+j);have K:=zqu ai aj an ao;have aH:=K.1;have aI:=K.2;clear K;go_wp2;go_roundw
     case rel=>
      exact⟨j+1,M.set (g+j) (x*y+z+l-(x*y+z+l)/1000000000*1000000000).toNat,(x*y+z+l)/1000000000,by omega,by go_num,rfl,by omega,by omega,hr.setNum (g+j) _ _ og,m.setCell (t _) _,
       by have:=o.out;simpa[k,World.setCell] using this,by rw[List.length_set];exact hrel.out.1,Y3 hrel.out.2.1 og,fun i hi=>by rw[zps og];exact hrel.out.2.2.1 i hi,
       ywz (oh u) al.out W.out rfl rfl og hrel.out.2.2.2⟩
     case measure=>simp[intOf];omega
    ·obtain rfl:j=b.length:=og;obtain⟨z,W,aq,ar⟩:=hr.num (i:=g+b.length) u.out;have au:=hr.frozen (g+b.length);go_wp2;go_roundw
     case rel=>
      exact⟨g+1,M.set (g+b.length) l.toNat,by omega,by go_num,hr.setNum (g+b.length) _ _ og,m.setCell (t _) _,
       by have:=o.out;simpa[k,World.setCell] using this,by rw[List.length_set];exact hrel.out.1,Y3 hrel.out.2.1 og,fun i hi=>by rw[zps og];exact hrel.out.2.2.1 i og,
       ywy rfl u.out J.out (hrel.out.2.2.1 _ (t _)) ae s.out.2.2.2 hrel.out.2.2.2⟩
     case measure=>simp[intOf];omega
  ·obtain rfl:g=a.length:=og;have p:k (Row wr h 140 (F6 .u32 L)/\val L=val a*val b/\L.length=a.length+b.length/\Lo L):=⟨hr,by have:=hrel.out.2.2.2;rw[zln (t _)] at this;exact this,hrel.out.1,hrel.out.2.1⟩;clear hr hrel;go_wp2_with fail;rw[<-p.out.2.2.1];refine(zxd _ _ L wr h (h+1) p.out.2.2.2 (t _) (by have:=p.out.2.2.1;unfold maxLen;omega) p.out.1.sv).mono ?_;rintro n aK ⟨⟨v,rfl,hv⟩,rfl⟩;go_wp2_with fail;go_ret;refine⟨⟨_,rfl,?_⟩,r⟩;rw[<-p.out.2.1];exact hv.wide (oh G) (oh o)
theorem zmv {w:f} {x y:Nat} (ha:IsN w lo hi va x) (i:IsN w lo' E G y) (j:hi<=w.heap.size) (k:E<=w.heap.size) (l:(A8 x).length<=4294967296) (m:(A8 y).length<=4294967296):
 D C 160 #[va,G] w fun a w'=>(∃v,a= .returned v/\IsN w' w.heap.size w'.heap.size v (x*y))/\e w.heap.size w w':=by obtain⟨A,c,rfl,_,_,b⟩:=ha;obtain⟨B,d,rfl,_,_,g⟩:=i;have h:=yww A B c d (A8 x) (A8 y) w _ _ _ _ j k (Y8 x) (Y8 y) l m b g;rw[Z6,Z6] at h;exact h
theorem zz1406 (A:Option Addr) (c:Nat) (a:List Nat) (b:Int) (w:f) (lo hi:Nat) (K:hi<=w.heap.size) (ha:Lo a) (U:a.length<=4294967296) (V:1<=b) (s:b<=999999999)
 (J:SV w lo hi A (F6 .u32 a)):
 D C 195 #[.slice A a.length c,.int .u32 b] w fun o w'=>(∃v,o= .returned (.tuple #[v,.int .u32 ((val a%b.toNat:Nat):Int)])/\IsN w' w.heap.size w'.heap.size v (val a/b.toNat))/\e w.heap.size w w':=by
 have I:=q ha;clear ha;go_in;go_wp2_with (at_make;refine zvo zky rfl _ _ rfl a.length rfl rfl rfl rfl og ?_;intro g F p P s T)
 go_loopw [7,8] (fun rs i wr=>∃d:Nat,∃L:List Nat,∃r:Int,d<=a.length/\i= .int .i64 ((d:Int)-1)/\rs= .int .u64 r/\0<=r/\r<=b-1/\Row wr g 140 (F6 .u32 L)/\e g w wr/\k (wr.heap.size=g+1)/\
  k (L.length=a.length/\Lo L/\(val (a.drop d):Int)=val (L.drop d)*b+r)) (fun _ i _=>(intOf i+1).toNat)
 case atStart=>exact⟨a.length,_,0,t _,rfl,rfl,by omega,by omega,P,s,T,by simp,zut _,by simp[val]⟩
 case round=>
  obtain⟨d,L,r,l,rfl,rfl,m,G,hr,u,H,hrel⟩:=hrel;have y:e w.heap.size w wr:=(by have:=p.out;subst this;exact u);rcases d with _|d
  ·have E:=zz1405 og m G hrel.out.2.2;have j:k (Row wr g 140 (F6 .u32 L)/\L.length=a.length/\Lo L):=⟨hr,hrel.out.1,hrel.out.2.1⟩;have n:=q E;clear hr hrel E;go_wp2_with fail;rw[<-j.out.2.1];refine(zxd _ _ L wr g (g+1) j.out.2.2 (t _) (by have:=j.out.2.1;unfold maxLen;omega) j.out.1.sv).mono ?_;rintro o ac ⟨⟨v,rfl,hv⟩,rfl⟩;go_wp2_with fail;go_ret2;refine⟨⟨v,?_,?_⟩,y⟩
   ·rw[<-n.out.2,Int.toNat_of_nonneg m];rfl
   ·rw[<-n.out.1];exact hv.wide (oh p) (oh H)
  ·obtain⟨ba,oa,rfl,_,_,B⟩:=(J.below y K) (Y5 (j:=d) l);obtain⟨x,Q,R,S,X⟩:=zkw (j:=d) I.out B l;clear B;obtain⟨z,Y,Z,aa⟩:=hr.num (i:=d) (by rw[hrel.out.1];exact l);have ab:=hr.frozen d;have h:=zz1404 m G R S;have M:=h.1;have W:=h.2.1;have N:=h.2.2.1;have O:=h.2.2.2;clear h;rw[show(((d+1:Nat):Int)-1)=(d:Int) from by omega];go_wp2;go_roundw
   case rel=>
    exact⟨d,L.set d ((r*1000000000+x)/b).toNat,(r*1000000000+x)%b,by omega,rfl,rfl,N,O,hr.setNum d _ _ og,u.setCell (t _) _,by have:=H.out;simpa[k,World.setCell] using this,
     by rw[List.length_set];exact hrel.out.1,Y3 hrel.out.2.1 og,zz1407 l hrel.out.1 Q.out M hrel.out.2.2⟩
   case measure=>simp[intOf]
theorem yme {w:f} {x:Nat} {b:Int} (ha:IsN w lo hi va x) (l:hi<=w.heap.size) (m:(A8 x).length<=4294967296) (i:1<=b) (j:b<=999999999):
 D C 195 #[va,.int .u32 b] w fun a w'=>(∃v r,a= .returned (.tuple #[v,.int .u32 r])/\0<=r/\r<=999999999/\k (r.toNat=x%b.toNat)/\IsN w' w.heap.size w'.heap.size v (x/b.toNat))/\e w.heap.size w w':=by obtain⟨A,c,rfl,_,_,d⟩:=ha;have h:=zz1406 A c (A8 x) b w _ _ l (Y8 x) m i j d;rw[Z6] at h;refine h.mono ?_;rintro a w' ⟨⟨v,rfl,hv⟩,g⟩;exact⟨⟨v,_,rfl,by omega,by have:=Nat.mod_lt x (show 0<b.toNat by omega);omega,rfl,hv⟩,g⟩
theorem zz1443 (A:Option Addr) (c:Nat) (a:List Nat) (x:Int) (n:Nat) (w:f) (lo hi:Nat) (V:hi<=w.heap.size) (ha:Lo a) (R:a.length<=n) (af:n<=8589934592) (J:0<=x) (X:x<=999999999) (v:val a*x.toNat<pw n)
 (Q:SV w lo hi A (F6 .u32 a)):
 D C 196 #[.slice A a.length c,.int .u64 x,.int .i64 (n:Int)] w fun P w'=>(∃g L,P= .returned (.slice (some ⟨g,0,none⟩) n n)/\w.heap.size<=g/\Row w' g 140 (F6 .u32 L)/\L.length=n/\Lo L/\val L=val a*x.toNat)/\e w.heap.size w w':=by
 have K:=q ha;clear ha;have M:=q v;clear v;go_in;go_wp2_with (at_make;refine zvo zky rfl _ _ rfl n rfl rfl rfl rfl og ?_;intro j F r W S al)
 go_loopw [8,14] (fun N i wr=>∃b:Nat,∃L:List Nat,∃d:Int,b<=n/\i= .int .i64 (b:Int)/\N= .int .u64 d/\0<=d/\d<=999999999/\Row wr j 140 (F6 .u32 L)/\e j w wr/\
  k (L.length=n/\Lo L/\(val (L.take b):Int)+d*pw b=val (a.take b)*x)) (fun _ i _=>n-(intOf i).toNat)
 case atStart=>exact⟨0,_,0,I _,rfl,rfl,by omega,by omega,W,S,by simp,zut _,by simp[val]⟩
 case round=>
  obtain⟨b,L,d,ae,rfl,rfl,T,ac,hr,o,hrel⟩:=hrel;have s:e w.heap.size w wr:=(by have:=r.out;subst this;exact o);rcases H b n with G|ad
  ·obtain⟨z,aj,ak,an⟩:=hr.num (i:=b) (by rw[hrel.out.1];exact G);have ao:=hr.frozen b;have B:k (b<L.length):=(by rw[hrel.out.1];exact G);rcases H b a.length with E|U
   ·obtain⟨ba,oa,rfl,_,_,u⟩:=(Q.below s V) (Y5 (j:=b) E);obtain⟨y,Y,Z,aa,ai⟩:=zkw (j:=b) K.out u E;clear u;have p:=zqu Z aa J X;have ag:=p.1;have ah:=p.2;clear p;go_wp2;go_roundw
    case rel=>
     exact⟨b+1,L.set b ((d+y*x)%1000000000).toNat,(d+y*x)/1000000000,by omega,by go_num,rfl,by omega,by omega,hr.setNum b _ _ og,o.setCell (t _) _,
      by rw[List.length_set];exact hrel.out.1,Y3 hrel.out.2.1 og,ync B.out Y.out og og hrel.out.2.2⟩
    case measure=>simp[intOf];omega
   ·go_wp2;go_roundw
    case rel=>
     exact⟨b+1,L.set b (d%1000000000).toNat,d/1000000000,by omega,by go_num,rfl,by omega,by omega,hr.setNum b _ _ og,o.setCell (t _) _,
      by rw[List.length_set];exact hrel.out.1,Y3 hrel.out.2.1 og,ync (y:=0) B.out (by rw[zpr U];rfl) og og hrel.out.2.2⟩
    case measure=>simp[intOf];omega
  ·obtain rfl:b=n:=og;go_wp2;go_ret;refine⟨⟨j,L,rfl,by have:=r.out;omega,hr,hrel.out.1,hrel.out.2.1,?_⟩,s⟩;have h:=hrel.out.2.2;rw[zln (Nat.le_of_eq hrel.out.1),zln R] at h;obtain⟨m,rfl⟩:=Int.eq_ofNat_of_zero_le J;obtain⟨y,rfl⟩:=Int.eq_ofNat_of_zero_le T;have hf:=M.out;simp only[Int.toNat_natCast] at hf⊢;have ab:val L+y*pw b=val a*m:=(by apply Int.ofNat_inj.1;simpa using h);rcases Nat.eq_zero_or_pos y with l|l
   ·subst l;omega
   ·have:=O (pw b) l;omega
theorem ynb {w:f} {x:Nat} {a sz:Int} (ha:IsN w lo hi va x) (l:hi<=w.heap.size) (n:Nat) (o:sz=(n:Int)) (p:(A8 x).length<=n) (m:n<=8589934592) (i:0<=a) (j:a<=999999999) (k:x*a.toNat<pw n):
 D C 196 #[va,.int .u64 a,.int .i64 sz] w fun b w'=>(∃g L,b= .returned (.slice (some ⟨g,0,none⟩) n n)/\w.heap.size<=g/\Row w' g 140 (F6 .u32 L)/\L.length=n/\Lo L/\val L=x*a.toNat)/\e w.heap.size w w':=by subst o;obtain⟨A,c,rfl,_,_,d⟩:=ha;have h:=zz1443 A c (A8 x) a n w _ _ l (Y8 x) p m i j (by rw[Z6];exact k) d;rw[Z6] at h;exact h
theorem znl {a b:Int} (h:a<=b) (hc:0<=c):a*c<=b*c:=Int.mul_le_mul_of_nonneg_right h hc
theorem ysr {V Q:Int} (a:0<Q) (f:0<=s) (m:A<Q) (h:0<=d) (p:u2<=999999999) (o:0<=g) (n:top<(g+1)*v1)
 (c:U=(top*1000000000+u2)*Q+A) (e:V=(v1*1000000000+d)*Q+s):U<(g+1)*V:=by have i:U<(top*1000000000+u2+1)*Q:=(by rw[c,Int.add_mul (top*1000000000+u2) 1 Q];omega);have b:top*1000000000+u2+1<=((g+1)*v1)*1000000000:=og;have j:=znl b (Int.le_of_lt a);have k:(g+1)*V=(g+1)*v1*1000000000*Q+(g+1)*(d*Q+s):=(by rw[e];grind);have l:0<=(g+1)*(d*Q+s):=Int.mul_nonneg og (Int.add_nonneg (Int.mul_nonneg h (Int.le_of_lt a)) f);omega
theorem ysp {V:Int} (a:0<=V) (h:U<V*1000000000) (b:1000000000<=g):U<g*V:=by have:=znl b a;have c:1000000000*V=V*1000000000:=Int.mul_comm _ _;omega
theorem yst {V Q:Int} (b:0<Q) (f:0<=s) (n:A<Q) (i:0<=g) (o:g*v1+r=top) (h:r*1000000000+u2<g*d)
 (c:U=(top*1000000000+u2)*Q+A) (e:V=(v1*1000000000+d)*Q+s):U<g*V:=by have j:U<(top*1000000000+u2+1)*Q:=(by rw[c,Int.add_mul (top*1000000000+u2) 1 Q];omega);have a:top*1000000000+u2+1<=g*v1*1000000000+g*d:=og;have k:=znl a (Int.le_of_lt b);have l:g*V=(g*v1*1000000000+g*d)*Q+g*s:=(by rw[e];grind);have m:0<=g*s:=Int.mul_nonneg i f;omega
theorem yss {V Q:Int} (a:0<Q) (o:s<Q) (m:0<=A) (u:d<=999999999) (c:0<=u2) (t:1<=v1) (q:g*v1+r=top) (hr:1000000000<=r) (p:U<V*1000000000)
 (b:U=(top*1000000000+u2)*Q+A) (n:V=(v1*1000000000+d)*Q+s):g<=999999999:=by
 have f:V<(v1*1000000000+1000000000)*Q:=(by have h:=znl (show v1*1000000000+d+1<=v1*1000000000+1000000000 by omega) (Int.le_of_lt a);rw[Int.add_mul (v1*1000000000+d) 1 Q] at h;omega);have i:top*1000000000*Q<=U:=by rw[b,Int.add_mul];have:=Int.mul_nonneg c (Int.le_of_lt a);omega
 have j:top<v1*1000000000+1000000000:=by
  rcases Int.lt_or_le top (v1*1000000000+1000000000) with h|h
  ·exact h
  ·have k:=znl (znl h (by omega:(0:Int)<=1000000000)) (Int.le_of_lt a);have e:(v1*1000000000+1000000000)*1000000000*Q=(v1*1000000000+1000000000)*Q*1000000000:=(by grind);omega
 rcases Int.lt_or_le g 1000000000 with h|h
 ·omega
 ·have l:=znl h (by omega:0<=v1);omega
theorem ysq {V Q:Int} (a:0<Q) (i:s<Q) (j:0<=s) (v:0<=A) (l:0<=d) (m:d<=999999999) (x:0<=u2) (y:1<=v1) (k:0<=g) (c:g<=999999999) (w:g*v1+r=top)
 (h:1000000000<=r\/g*d<=r*1000000000+u2) (u:U=(top*1000000000+u2)*Q+A) (b:V=(v1*1000000000+d)*Q+s):g*V<=U+V:=by
 have f:g*v1*1000000000+g*d<=top*1000000000+u2:=by
  rcases h with h|h
  ·have:=(zqu k c l m).2;omega
  ·omega
 have o:=znl f (Int.le_of_lt a);have p:g*V=(g*v1*1000000000+g*d)*Q+g*s:=(by rw[b];grind);have q:g*s<=1000000000*Q:=(by have e:=znl c j;have n:=Int.mul_le_mul_of_nonneg_left (Int.le_of_lt i) (by omega:(0:Int)<=999999999);omega);have t:1000000000*Q<=V:=(by rw[b];have e:=znl (show 1000000000<=v1*1000000000+d by omega) (Int.le_of_lt a);omega);omega
theorem zxu {v:List Nat} {x y:Int} (b:i<M'.length) (e:x=(M.getD i 0:Nat)) (f:y=(v.getD i 0:Nat)) (hr:r=x-(g*y+c)+c'*1000000000) (d:0<=r)
 (h:(val (M'.take i):Int)=val (M.take i)-g*val (v.take i)+c*pw i):
 (val ((M'.set i r.toNat).take (i+1)):Int)=val (M.take (i+1))-g*val (v.take (i+1))+c'*pw (i+1):=by rw[zvl b,val_take_succ' M,val_take_succ' v,zlj];have a:((r.toNat:Nat):Int)=r:=Int.toNat_of_nonneg d;simp only[Int.natCast_add,Int.natCast_mul,a,<-f,<-e];rw[h];subst hr;generalize (val (M.take i):Int)=V at*;generalize (val (v.take i):Int)=j at*;generalize (pw i:Int)=P at*;grind
theorem zxi {v:List Nat} {x y:Int} (b:i<M'.length) (e:x=(M.getD i 0:Nat)) (f:y=(v.getD i 0:Nat)) (hr:r=x+y+c-c'*1000000000) (d:0<=r)
 (h:(val (M'.take i):Int)+c*pw i=val (M.take i)+val (v.take i)):
 (val ((M'.set i r.toNat).take (i+1)):Int)+c'*pw (i+1)=val (M.take (i+1))+val (v.take (i+1)):=by rw[zvl b,val_take_succ' M,val_take_succ' v,zlj];have a:((r.toNat:Nat):Int)=r:=Int.toNat_of_nonneg d;simp only[Int.natCast_add,Int.natCast_mul,a,<-f,<-e];subst hr;generalize (val (M.take i):Int)=V at*;generalize (val (v.take i):Int)=g at*;generalize (pw i:Int)=P at*;grind
theorem ybn {U g R:Nat} (h:U=g*V+R) (a:R<V):U/V=g/\U%V=R:=by
 have b:0<V:=og;subst h;constructor
 ·rw[Nat.mul_comm,Nat.mul_add_div b,Nat.div_eq_of_lt a,Nat.add_zero]
 ·rw[Nat.mul_comm,Nat.mul_add_mod,Nat.mod_eq_of_lt a]
theorem ygq {U:Nat} {m0 P:Int} (j:(U:Int)=m0+P*u) (l:y=m0-g*V+c*P) (d:0<=y) (q:y<P) (r:c<=u) (p:(V:Int)<=P) (k:0<=g) (b:(U:Int)<(g+1)*V):
 U/V=g.toNat/\((U%V:Nat):Int)=y:=by
 have f:(U:Int)-g*V=y+(u-c)*P:=(by rw[j,l];grind);have m:(u-c)*P<P:=by rw[Int.add_mul,Int.one_mul] at b;omega
 have i:u=c:=by
  rcases Int.lt_or_le u (c+1) with h|h
  ·omega
  ·have n:=znl (show 1<=u-c by omega) (show 0<=P by omega);omega
 rw[i,Int.sub_self,Int.zero_mul,Int.add_zero] at f;have o:y<V:=(by rw[Int.add_mul,Int.one_mul] at b;omega);have e:U=g.toNat*V+y.toNat:=(by apply Int.ofNat_inj.1;simp only[Int.natCast_add,Int.natCast_mul];rw[Int.toNat_of_nonneg k,Int.toNat_of_nonneg d];omega);have a:=ybn e og;refine⟨a.1,?_⟩;rw[a.2];exact Int.toNat_of_nonneg d
theorem ygr {U:Nat} {m0 P:Int} (d:(U:Int)=m0+P*u) (e:y=m0-g*V+c*P) (j:y<P) (k:u<c) (b:0<P) (i:0<=g):1<=g:=by
 have a:(U:Int)-g*V=y+(u-c)*P:=(by rw[d,e];grind);have f:(u-c)*P<=-P:=(by have:=znl (show u-c<=-1 by omega) (Int.le_of_lt b);omega);rcases Int.lt_or_le g 1 with h|h
 ·have:g=0:=og;subst this;rw[Int.zero_mul] at a;omega
 ·exact h
theorem ygp {U:Nat} {m0 a P o:Int} (n:(U:Int)=m0+P*u) (q:y=m0-g*V+c*P) (B:y<P) (C:u<c) (w:(V:Int)<=P) (z:0<=g) (x:g*V<=U+V)
 (r:a+o*P=y+V) (i:0<=a) (A:a<P):
 1<=g/\U/V=(g-1).toNat/\((U%V:Nat):Int)=a:=by
 have k:(U:Int)-g*V=y+(u-c)*P:=(by rw[n,q];grind);have d:0<P:=og;have s:(u-c)*P<=-P:=by have:=znl (show u-c<=-1 by omega) (Int.le_of_lt d);omega
 have p:1<=g:=by
  rcases Int.lt_or_le g 1 with h|h
  ·have:g=0:=og;subst this;rw[Int.zero_mul] at k;omega
  ·exact h
 have l:(U:Int)-(g-1)*V=a+(o+u-c)*P:=(by have b:(g-1)*(V:Int)=g*V-V:=(by rw[Int.sub_mul,Int.one_mul]);have j:(o+u-c)*P=o*P+(u-c)*P:=(by rw[<-Int.add_mul];congr 1;omega);rw[b,j];omega);have t:0<=(U:Int)-(g-1)*V:=(by rw[Int.sub_mul,Int.one_mul];omega);have v:(U:Int)-(g-1)*V<V:=by rw[Int.sub_mul,Int.one_mul];omega
 have m:o+u-c=0:=by
  rcases Int.lt_or_le (o+u-c) 0 with h|h
  ·have:=znl (show o+u-c<=-1 by omega) (Int.le_of_lt d);omega
  ·rcases Int.lt_or_le (o+u-c) 1 with e|e
   ·omega
   ·have:=znl e (Int.le_of_lt d);omega
 rw[m,Int.zero_mul,Int.add_zero] at l;have b:U=(g-1).toNat*V+a.toNat:=(by apply Int.ofNat_inj.1;simp only[Int.natCast_add,Int.natCast_mul];rw[Int.toNat_of_nonneg (by omega:0<=g-1),Int.toNat_of_nonneg i];omega);have f:=ybn b og;refine⟨p,f.1,?_⟩;rw[f.2];exact Int.toNat_of_nonneg i
theorem yaf (h:l.length=n+1):val l=val (l.take n)+pw n*l.getD n 0:=by rw[<-yeh og,List.take_of_length_le og]
theorem zz1465 (h:l.length=n+2):val l=(l.getD (n+1) 0*1000000000+l.getD n 0)*pw n+val (l.take n):=by rw[<-zln (Nat.le_of_eq h),val_take_succ' l (n+1),val_take_succ' l n,zlj];grind
theorem zz1464 (h:l.length=n+3):val l=((l.getD (n+2) 0*1000000000+l.getD (n+1) 0)*1000000000+l.getD n 0)*pw n+val (l.take n):=by rw[<-zln (Nat.le_of_eq h),val_take_succ' l (n+2),val_take_succ' l (n+1),val_take_succ' l n];simp only[zlj];grind
theorem yae (h:l.length=n+1):val (l.set n 0)=val (l.take n):=by rw[yaf (n:=n) (by simpa using h),List.take_set_of_le (t n)];rw[N,List.getElem?_set_self og];simp
theorem zz1400 {P S:List Nat} {x:Nat} (h:i<M.length):(P++M++S).set (P.length+i) x=P++M.set i x++S:=by rw[List.append_assoc,List.append_assoc,List.set_append_right _ _ og,Nat.add_sub_cancel_left,List.set_append_left _ _ h]
theorem ytw {P S:List Nat} (h:i<M.length):(P++M++S).getD (P.length+i) 0=M.getD i 0:=by rw[List.append_assoc,N,List.getElem?_append_right og,Nat.add_sub_cancel_left,List.getElem?_append_left h,N]
theorem ytb {b:List Nat} {a:Int} (n:Lo b) (p:b.length=m+2) (j:a=(b.getD (m+1) 0:Nat)) (q:1<=a) (u:a<=999999999):
 1<=1000000000/(a+1)/\1000000000/(a+1)<=999999999/\val b*(1000000000/(a+1)).toNat<pw (m+2):=by have f:1<=1000000000/(a+1):=(Int.le_ediv_iff_mul_le og).2 og;have g:1000000000/(a+1)<=999999999:=(by have:=Int.ediv_lt_of_lt_mul (a:=1000000000) (b:=1000000000) (c:=a+1) og og;omega);refine⟨f,g,?_⟩;have i:(a+1)*(1000000000/(a+1))<=1000000000:=Int.mul_ediv_self_le og;generalize hF:1000000000/(a+1)=e at*;obtain⟨d,rfl⟩:=Int.eq_ofNat_of_zero_le (show 0<=e by omega);simp only[Int.toNat_natCast];subst j;generalize o:b.getD (m+1) 0=c at*;have k:(c+1)*d<=1000000000:=(by have:(((c+1)*d:Nat):Int)<=1000000000:=(by simpa using i);omega);have l:val b<(c+1)*pw (m+1):=(by rw[yaf p,o];have h:=zna (znj n (m+1));rw[List.length_take,Nat.min_eq_left og] at h;rw[Nat.add_mul,Nat.one_mul,Nat.mul_comm (pw (m+1)) c];omega);have r:val b*d<(c+1)*pw (m+1)*d:=Nat.mul_lt_mul_of_pos_right l og;have s:(c+1)*pw (m+1)*d=(c+1)*d*pw (m+1):=(by rw[Nat.mul_right_comm]);have t:=O (pw (m+1)) k;rw[zlj (m+1)];omega
theorem yne {v:List Nat} (hv:Lo v) (c:v.length=m+2) (h:pw (m+1)<=val v):1<=v.getD (m+1) 0:=by
 rcases Nat.eq_zero_or_pos (v.getD (m+1) 0) with a|a
 ·rw[yaf c,a,Nat.mul_zero,Nat.add_zero] at h;have b:=zna (znj hv (m+1));rw[List.length_take,Nat.min_eq_left og] at b;omega
 ·exact a
theorem ygs (hlo:Lo L) (f:j+n+1<=L.length) (e:V<=pw n) (h:val (L.drop (j+1))<V):
 val ((L.drop j).take (n+1))<V*1000000000/\val (L.drop (j+n+1))=0/\val L=val (L.take j)+pw j*val ((L.drop j).take (n+1)):=by
 have d:val (L.drop (j+1))=val ((L.drop (j+1)).take n)+pw n*val (L.drop (j+n+1)):=by have:=zsb (L.drop (j+1)) n (by simp;omega);rw[List.drop_drop,show j+1+n=j+n+1 by omega] at this;exact this
 have b:val (L.drop (j+n+1))=0:=by
  rcases Nat.eq_zero_or_pos (val (L.drop (j+n+1))) with a|a
  ·exact a
  ·have:=Nat.mul_le_mul_left (pw n) a;omega
 have c:val (L.drop j)=val ((L.drop j).take (n+1)):=(by have:=zsb (L.drop j) (n+1) (by simp;omega);rw[List.drop_drop,show j+(n+1)=j+n+1 by omega,b,Nat.mul_zero,Nat.add_zero] at this;exact this);refine⟨?_,b,?_⟩
 ·rw[<-c,zvj og];have:=zpz hlo j;omega
 ·rw[<-c];exact zsb L j og
theorem yrt (P a r V v q:Nat):P+a*r+V*(v+a*q)=P+a*(r+V*q)+V*v:=by grind
theorem yrv {Lq:List Nat} {X:Nat} (hlo:Lo L) (i:j+n+1<=L.length) (e:V<=pw n) (f:0<V) (h:val (L.drop (j+1))<V) (c:val M'=val ((L.drop j).take (n+1))%V) (o:M'.length=n+1)
 (l:j<Lq.length) (m:Lq.getD j 0=0) (g:val L+V*val Lq=X):
 val ((L.take j++M'++L.drop (j+n+1)).drop j)<V/\val (L.take j++M'++L.drop (j+n+1))+V*val (Lq.set j (val ((L.drop j).take (n+1))/V))=X:=by
 have a:=ygs hlo i e h;have k:(L.take j).length=j:=(by rw[List.length_take,Nat.min_eq_left og]);have p:=Nat.mod_lt (val ((L.drop j).take (n+1))) f;constructor
 ·rw[List.append_assoc,List.drop_append_of_le_length og,List.drop_of_length_le og,List.nil_append,zpk,a.2.1,c];omega
 ·rw[List.append_assoc,zpk,zpk,a.2.1,k,Nat.mul_zero,Nat.add_zero,c];have b:=yeg (x:=val ((L.drop j).take (n+1))/V) l;rw[m,Nat.mul_zero,Nat.add_zero] at b;rw[b,<-g,a.2.2];have d:=Nat.mod_add_div (val ((L.drop j).take (n+1))) V;rw[yrt,d]
theorem ysa (L:List Nat) (i:Nat) (h:i<=L.length):val (L.drop i)*pw i<=val L:=by rw[zsb L i h,Nat.mul_comm (pw i)];omega
theorem yru {a x y b:Nat} (i:L.length=m+2+a+1) (f:val L=x*b) (g:x<pw (m+2+a)) (h:pw (m+1)<=y) (hF:0<b):val (L.drop (a+1))<y*b:=by have c:=ysa L (a+1) og;rw[f] at c;have d:x*b<pw (m+1)*b*pw (a+1):=(by have:=Nat.mul_lt_mul_of_pos_right g hF;rw[show m+2+a=(m+1)+(a+1) by omega,zzk] at this;rw[Nat.mul_right_comm];exact this);have e:=Nat.lt_of_mul_lt_mul_right (Nat.lt_of_le_of_lt c d);exact Nat.lt_of_lt_of_le e (O b h)
theorem yrs {a b q u c:Nat} (hf:0<c) (e:u<b*c) (h:u+b*c*q=a*c):q=a/b/\u/c=a%b:=by have d:=ybn (U:=a*c) (V:=b*c) (g:=q) (R:=u) (by rw[<-h,Nat.mul_comm q];omega) e;rw[Nat.mul_div_mul_right _ _ hf] at d;rw[Nat.mul_mod_mul_right] at d;exact⟨d.1.symm,by rw[<-d.2,Nat.mul_div_cancel _ hf]⟩
end Go.Proofs.YtlhhbccgfkhflaaGreatDoor
