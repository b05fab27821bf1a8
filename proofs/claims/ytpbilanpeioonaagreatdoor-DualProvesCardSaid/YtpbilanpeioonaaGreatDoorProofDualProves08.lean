/-
 The contract of package simplex's helping.
-/
import Derived.Test.YtpbilanpeioonaaGreatDoorProofDualProves07
import Derived.Lib.SliceRun
namespace Go.Proofs.YtpbilanpeioonaaGreatDoor
open Go.RowKit
set_option linter.unusedVariables false
set_option maxRecDepth 100000
set_option maxHeartbeats 8000000
open _root_.Go.Lib renaming hid → g
open _root_.Nat renaming le_trans → q, lt_of_lt_of_le → j, lt_or_ge → s, zero_le → u
open _root_.And renaming intro → i
open _root_.Go renaming World → k, Value → t, Calls → r, Addr → o
open _root_.Go.RowKit renaming Hid → e
open _root_.Go.Proofs.Tryz renaming prog → p
variable {S : Nat → Prop} {V b c lo m n : Nat} {f : Nat → Int} {l : List Int} {v : t}
theorem yvw {w:k} {aS af top:Nat} {i:Lay} {aT:Nat->Nat} {f:TB} {st aD steps:Int} {c:Nat} (hr:c<m) (h:U8 w S aS lo af i m n aT top f st aD steps) (bj:m<=100) (bm:n<=100):
 r p 127 #[.pointer (some ⟨af,0,none⟩),.int .i64 (c:Int)] w fun aE w'=>aE= .returned (.int .i64 (Q7 (zpo n f c)))/\Below w.heap.size w w':=by
 obtain⟨X,ay⟩:=C7 h hr;have bn:(0:Int)<=(c:Int):=og;have bp:(c:Int)<(m:Int):=og;obtain⟨aX,bt,aY,bu,aW,a2,a0,a4,-,⟨aH,ag,ah,aI,aJ⟩,-,-,-⟩:=h.open;obtain⟨A,Q⟩:=nm (fun j=>decide (f.A c j<0));obtain⟨key,v⟩:=nm (fun o=>f.oth.getD o 0);have az:e (zpo n f c=X9 A key n):=(by rw[e,Q,v];rfl);rw[az.out];obtain⟨au,W⟩:=C7 Q v;have G:=h.cap c og;rw[K8 og] at G;have a8:=G.1;have a9:i.cp c<=9223372036854775807:=(by have:=G.2;unfold maxLen at this;omega);have P:=h.caps;have bh:n<=i.oc:=og;have bi:i.oc<=9223372036854775807:=(by unfold maxLen at P;omega);have bq:m<=i.rc:=og;have br:i.rc<=9223372036854775807:=(by unfold maxLen at P;omega);obtain⟨ae,aK,ac⟩:=h.hd c hr;rw[ae] at ah;clear h Q v P G hr ae aK;have a3:=U0;clear aH aI aJ;obtain⟨a1,O⟩:=nm (i.ha c);rw[<-O] at ac;have ar:=g O;clear O;have aA:=g ag;go_in;go_wp2_with fail;clear ah ag ac;go_loopw [17,5,6,7] (fun U best _ _ wr=>∃a:Nat,a<=n/\U= .int .i64 (a:Int)/\best= .int .i64 (Q7 (X9 A key a))/\Below w.heap.size w wr) (fun U _ _ _ _=>n-(intOf U).toNat);case atStart=>exact⟨0,u _,rfl,rfl,Below.refl _ _⟩
 case round=>
  obtain⟨a,bg,rfl,rfl,aj⟩:=hrel;have y:=g aj;clear aj;rcases s a n with H|bd
  ·obtain⟨aB,aP,aC,aR,ea,L,M,ad,eq⟩:=(X.out.next y.out).el (l:=c) (j:=a) og (by rw[K8 og];exact H);rw[zsa ay.out] at L M eq;obtain⟨aQ,hI⟩:=(X.out.next y.out).othW og;have V:=C0 y.out aA.out;rw[aQ] at V;have ab:=hI.el a H;have av:=g H;have be:(0:Int)<=(a:Int):=og;have bf:(a:Int)<(n:Int):=og;have C:=g eq;obtain⟨J,T⟩:=nm (decide (f.A c a<0));obtain⟨aV,an⟩:=nm ((A9 (f.A c a).natAbs).length);obtain⟨aU,al⟩:=nm ((A9 1).length);rw[<-T] at L C;rw[<-an] at M C;rw[<-al] at ad C;obtain⟨ao,aN,t,rx,aO⟩:=J7 wr #[.bool J,.slice aB aV aP,.slice aC aU aR] 37;obtain⟨D,E,b2⟩:=C4 rx;have aq:=g t;have B:=nB y t;have I:=C0 t V;have q:=C0 t ab;have v:∀o,(fun o=>f.oth.getD o 0) o=key o:=fun o=>(by rw[W.out]);have z:f.oth.getD a 0=key a:=v a;have q:ao.cell? ⟨i.ob,a,none⟩=some (.int .i64 ((key a:Nat):Int)):=(by rw[<-z];exact q);have aZ:=nQ C t;have Y:e (A a=J):=(by rw[e,au.out,T]);have aG:=ar.out.trans ea;subst aG;clear T an al rx aO t eq V ab z v H;go_wp2_with fail;clear aN L M ad;have d:e (a+1<=n):=av.out;cases x:A a with
   |false=>have R:J=false:=Y.out.symm.trans x;subst R;have l:=hs5 D E b2 I q;refine wp_region_noPanic ?_;refine zmd l fun N=> ?_;refine sT 0 22 ?_;refine sT 1 23 ?_;refine sT 2 24 ?_;refine sU 3 25 ?_;refine sU 4 26 ?_;refine sU 5 27 ?_;refine sU 6 28 ?_;refine sU 7 29 ?_;refine sU 8 30 ?_;refine sU 9 31 ?_;refine sU 10 32 ?_;refine sU 11 33 ?_;refine sU 12 34 ?_;refine sU 13 35 ?_;refine sU 14 36 ?_;refine sU 15 37 ?_;refine sU 16 38 ?_;refine sU 17 39 ?_;refine sU 18 40 ?_;refine sU 19 41 ?_;refine sU 20 42 ?_;refine sU 21 43 ?_;refine sU 22 44 ?_;refine sU 23 45 ?_;refine sT 24 46 ?_;refine wpAnyH_done kr ?_ _;refine NoPanic.normal ?_;go_wp2_with fail;have K:=B.out;go_roundw;(case rel=>exact⟨a+1,d.out,by go_num,by rw[yen x],bel⟩);case measure=>simp[intOf];have:=d.out;omega
   |true=>
    have R:J=true:=Y.out.symm.trans x;subst R;cases F:X9 A key a with
    |none=>have ai:Q7 (none:Option Nat)= -1:=rfl;rw[ai];have l:=hs5 D E b2 I q;refine wp_region_noPanic ?_;refine zmd l fun N=> ?_;refine sT 0 22 ?_;refine sT 1 23 ?_;refine sT 2 24 ?_;refine sT 3 25 ?_;refine sT 4 26 ?_;refine sT 5 27 ?_;refine sU 6 28 ?_;refine sU 7 29 ?_;refine sU 8 30 ?_;refine sU 9 31 ?_;refine sU 10 32 ?_;refine sU 11 33 ?_;refine sU 12 34 ?_;refine sU 13 35 ?_;refine sU 14 36 ?_;refine sU 15 37 ?_;refine sU 16 38 ?_;refine sU 17 39 ?_;refine sU 18 40 ?_;refine sU 19 41 ?_;refine sU 20 42 ?_;refine sU 21 43 ?_;refine sU 22 44 ?_;refine sT 23 45 ?_;refine sT 24 46 ?_;refine wpAnyH_done kr ?_ _;refine NoPanic.normal ?_;go_wp2_with fail;have K:=B.out;go_roundw;(case rel=>exact⟨a+1,d.out,by go_num,by rw[yem x F],bel⟩);case measure=>simp[intOf];have:=d.out;omega
    |some b=>
     have a7:b<a:=(znc F).1;have Z:=hI.el b (oh d);have z:f.oth.getD b 0=key b:=(by rw[W.out]);have aa:ao.cell? ⟨i.ob,b,none⟩=some (.int .i64 ((key b:Nat):Int)):=(by rw[<-z];exact C0 aq.out Z);clear z;have a5:(0:Int)<=(b:Int):=og;have a6:(b:Int)<(n:Int):=oh d;have aL:Q7 (some b)=(b:Int):=rfl;rw[aL];have ai:decide ((b:Int)<0)=false:=decide_eq_false og;clear Z;by_cases ak:key a<key b
     ·have aM:decide (((key a:Nat):Int)<((key b:Nat):Int))=true:=decide_eq_true og;have l:=zoj D E b2 I q aa;refine wp_region_noPanic ?_;refine zmd l fun N=> ?_;refine sT 0 22 ?_;refine sT 1 23 ?_;refine sT 2 24 ?_;refine sT 3 25 ?_;refine sT 4 26 ?_;refine sT 5 27 ?_;refine sT 6 28 ?_;refine sT 7 29 ?_;refine sT 8 30 ?_;refine sT 9 31 ?_;refine sT 10 32 ?_;refine sT 11 33 ?_;refine sT 12 34 ?_;refine sT 13 35 ?_;refine sT 14 36 ?_;refine sT 15 37 ?_;refine sT 16 38 ?_;refine sT 17 39 ?_;refine sT 18 40 ?_;refine sT 19 41 ?_;refine sT 20 42 ?_;refine sT 21 43 ?_;refine sT 22 44 ?_;refine sT 23 45 ?_;refine sT 24 46 ?_;refine wpAnyH_done kr ?_ _;refine NoPanic.normal ?_;go_wp2_with fail;have K:=B.out;go_roundw;(case rel=>exact⟨a+1,d.out,by go_num,by rw[yel x F ak],bel⟩);case measure=>simp[intOf];have:=d.out;omega
     ·have aM:decide (((key a:Nat):Int)<((key b:Nat):Int))=false:=decide_eq_false og;have l:=zoj D E b2 I q aa;refine wp_region_noPanic ?_;refine zmd l fun N=> ?_;refine sT 0 22 ?_;refine sT 1 23 ?_;refine sT 2 24 ?_;refine sT 3 25 ?_;refine sT 4 26 ?_;refine sT 5 27 ?_;refine sT 6 28 ?_;refine sT 7 29 ?_;refine sT 8 30 ?_;refine sT 9 31 ?_;refine sT 10 32 ?_;refine sT 11 33 ?_;refine sT 12 34 ?_;refine sT 13 35 ?_;refine sT 14 36 ?_;refine sT 15 37 ?_;refine sT 16 38 ?_;refine sT 17 39 ?_;refine sT 18 40 ?_;refine sT 19 41 ?_;refine sT 20 42 ?_;refine sT 21 43 ?_;refine sT 22 44 ?_;refine sT 23 45 ?_;refine sT 24 46 ?_;refine wpAnyH_done kr ?_ _;refine NoPanic.normal ?_;go_wp2_with fail;have K:=B.out;go_roundw;(case rel=>exact⟨a+1,d.out,by go_num,by rw[yeo x F ak],bel⟩);case measure=>simp[intOf];have:=d.out;omega
  ·obtain rfl:a=n:=og;go_wp2_with fail;go_ret;exact⟨rfl,y.out⟩
theorem ywm {w:k} {a:t} {x:Raw} (h:IsR w S a x):∀e∈a.cells,e.oneCell'=true:=by obtain⟨A,c,B,d,rfl,_,_⟩:=h;intro e b;simp[Value.cells] at b;rcases b with rfl|rfl|rfl<;>rfl
theorem ywi:(Tryz.prog.info? 3).map (fun a=>(a.zero,a.size,a.bytes))=some (some (.int .i64 0),1,8):=by kernel_rfl
theorem ycw:ElN p 22 3 1 8:=⟨Tryz.underlying22,by obtain⟨e,a,b,c,d⟩:=info_parts ywi;exact⟨e,_,a,b,c,d,rfl⟩,by omega⟩
def IsIV (w:k) (S:Nat->Prop) (v:t) (x:Int):Prop:=v= .int .i64 x
theorem IsIV.stb:Stb IsIV:=fun _ _ _ _ _ _ h _=>h
theorem yrx (l:List Int):cellsOf (l.map fun x=>Value.int .i64 x)=l.map fun x=>Value.int .i64 x:=by
 induction l with
 |nil=>rfl
 |cons x l ih=>have a:cellsOf ((x::l).map fun x=>Value.int .i64 x)=(Value.int .i64 x).cells.toList++cellsOf (l.map fun x=>Value.int .i64 x):=(by simp[cellsOf]);rw[a,ih];rfl
theorem yql {w:k} (l:List Int):All2 (IsIV w S) (l.map fun x=>Value.int .i64 x) l:=⟨by simp,fun c x y a b=>by
 rw[List.getElem?_map,b] at a
 cases a;rfl⟩
theorem zz1511 (l:List Int):Wid 1 (l.map fun x=>Value.int .i64 x):=fun v hv=>by obtain⟨x,_,rfl⟩:=List.mem_map.1 hv;rfl
theorem IsIL.isS {w:k} (h:IsIL w S v l):IsS 1 IsIV w S v l:=by obtain⟨A,c,hv,a,b,d,e⟩:=h;exact⟨A,c,l.map fun x=>Value.int .i64 x,hv,a,b,by rw[yrx];exact d,zz1511 l,yql l⟩
theorem yga {C:Program} {w:k} {ops:Array Oper} {rest:List Oper} {g:Oper} {a:Act} {J:Exit->Act->k->Prop} {v d:TypeId} {bytes:Nat} (B:ElN C v d n bytes) (Y:g.guard=none) (s x:Operand) (ad:g.op= .call {callee:= .builtin .append,args:= #[s,x],argTypes:= #[v,v]})
 {N:Type} {R:k->(Nat->Prop)->t->N->Prop} (U:Stb R) {D:o} {l:List N} (ae:a.eval s= .slice (some ⟨w.heap.size,0,none⟩) 0 0) (G:a.eval x= .slice (some D) m c) (hv:IsS n R w S (.slice (some D) m c) l)
 (i:∀b,S b->b<w.heap.size) (P:∀d x,R w S d x->∀j∈d.cells,j.oneCell'=true) (e:l.length*(bytes+1)<=140737488355328)
 (h:∀p w',OwnS n d R w' w.heap.size S p l->Below w.heap.size w w'->p≠.slice none 0 0->wpList C ops J rest (a.put g.dst p) w'):wpList C ops J (g::rest) a (w.alloc (.cells #[] d)):=by
 obtain⟨aj,z,Z,ah,af,W,ai⟩:=B.info
 obtain⟨A,al,F,M,ao,aq,Q,K,q⟩:=hv
 simp only[Value.slice.injEq] at M
 obtain⟨rfl,rfl,rfl⟩:=M
 have ab:=ztv K
 rw[Nat.mul_add,Nat.mul_one] at e
 refine wpList_append_own _ Y s x v ad w.heap.size d aj z n bytes B.und Z ah af W ai B.pos _ 0 [] ae (World.ownsRow_made w #[] 0 (Nat.le_refl _) (u _) (by simp)) D l.length c (cellsOf F) G (by rw[ab,q.1]) (fun r j f=> ?_) (fun j f=> ?_) (by unfold maxLen;omega) (by rw[Nat.zero_add];omega) (by simp)
  fun p w' H I ak=>h p w' ?_ ?_ ?_
 ·have ac:cellsOf F≠[]:=fun d=>by rw[d] at f;simp at f
  obtain⟨b,off,T,an,X⟩:=Q ac
  cases T
  rw[Addr.add_lit]
  exact Lib.cell?_alloc_some _ (X r j f)
 ·unfold cellsOf at f
  obtain⟨x,G,f⟩:=List.mem_flatMap.1 f
  obtain⟨r,L⟩:=List.getElem?_of_mem G
  obtain⟨y,ag⟩:∃y,l[r]? =some y:=⟨_,List.getElem?_eq_getElem (by rw[<-q.1];exact(List.getElem?_eq_some_iff.1 L).1)⟩
  exact P _ _ (q.2 r _ _ L ag) j (by simpa using f)
 ·have V:=(Below.refl w.heap.size w).alloc (Nat.le_refl _) (.cells #[] d)
  have hst:L8 S S w w':=fun b e=>⟨e,fun g=>by
   have O:=I.block b (by rw[World.size_alloc];have:=i b e;omega) (by simp[Value.ownBlock];have:=i b e;omega)
   exact(World.cell?_of_block O).trans ((zqs V i b e).2 g)⟩
  refine⟨F,?_,K,q.imp fun x y h=>U.to h hst,fun b e=>⟨?_,fun E=> ?_⟩⟩
  ·rw[Nat.zero_add,List.nil_append] at H;exact H
  ·have:=I.size;rw[World.size_alloc] at this;have:=i b e;omega
  ·have:=(H.lt b E.symm).1;have:=i b e;omega
 ·exact((Below.refl _ w).alloc (Nat.le_refl _) _).grown I (by simp) (by intro ar aa;simp[Value.ownBlock] at aa;omega)
 ·intro E
  have:=(ak.1 E).1
  simp at this
theorem yhy {w:k} (h:IsS 1 IsIV w (C6 w) v l) (M:l.length<=10000):
 r p 95 #[v] w fun d w'=>(∃j,d= .returned j/\OwnS 1 3 IsIV w' w.heap.size (C6 w) j l)/\Below w.heap.size w w':=by
 have m:=g h;obtain⟨A,c,s,rfl,K,L,B,C,D⟩:=id h;clear h B C D;cases A with
 |none=>
  have t:l=[]:=by
   obtain⟨A,e,s,d,_,_,H,I,ha⟩:=m.out;simp only[Value.slice.injEq] at d;obtain⟨rfl,_,_⟩:=d;refine List.eq_nil_of_length_eq_zero ?_;rw[<-ha.1];rcases Nat.eq_zero_or_pos s.length with h|h
   ·exact h
   ·exfalso;have u:=ztv I;obtain⟨b,off,E,_⟩:=H (fun d=>by rw[d] at u;simp at u;omega);cases E
  have z:=g t;clear t;have q:=fun(w:k) (a:Option o) (n c i e:Nat)=>Lib.run_eql_slice_nil w _ _ a n c i e Tryz.underlying22;go_in;go_wp2_with fail;go_ret;refine⟨⟨_,rfl,?_⟩,Below.refl _ _⟩;rw[z.out];exact OwnS.nil fun b f=>f
 |some J=>have q:=fun(w:k) (a:Option o) (n c i e:Nat)=>Lib.run_eql_slice_nil w _ _ a n c i e Tryz.underlying22;go_in;go_wp2_with (at_builtin;refine yga ycw rfl _ _ rfl IsIV.stb rfl rfl m.out (fun b f=>f) (fun d x h O y=>by cases(show d= .int .i64 x from h);simp[Value.cells] at y;subst y;rfl) og ?_;intro j w' G F N);go_ret;exact⟨⟨_,rfl,G⟩,F⟩
theorem yhz {w:k} {l:List Raw} (h:IsS 3 IsR w (C6 w) v l) (L:l.length<=10000):
 r p 152 #[v] w fun d w'=>(∃j,d= .returned j/\OwnS 3 37 IsR w' w.heap.size (C6 w) j l)/\Below w.heap.size w w':=by
 have m:=g h;obtain⟨A,c,s,rfl,J,K,z,B,C⟩:=id h;clear h z B C;cases A with
 |none=>
  have t:l=[]:=by
   obtain⟨A,e,s,d,_,_,G,H,ha⟩:=m.out;simp only[Value.slice.injEq] at d;obtain⟨rfl,_,_⟩:=d;refine List.eq_nil_of_length_eq_zero ?_;rw[<-ha.1];rcases Nat.eq_zero_or_pos s.length with h|h
   ·exact h
   ·exfalso;have u:=ztv H;obtain⟨b,off,D,_⟩:=G (fun d=>by rw[d] at u;simp at u;omega);cases D
  have y:=g t;clear t;have q:=fun(w:k) (a:Option o) (n c i e:Nat)=>Lib.run_eql_slice_nil w _ _ a n c i e Tryz.underlying30;go_in;go_wp2_with fail;go_ret;refine⟨⟨_,rfl,?_⟩,Below.refl _ _⟩;rw[y.out];exact OwnS.nil fun b f=>f
 |some I=>have q:=fun(w:k) (a:Option o) (n c i e:Nat)=>Lib.run_eql_slice_nil w _ _ a n c i e Tryz.underlying30;go_in;go_wp2_with (at_builtin;refine yga zlf rfl _ _ rfl IsR.stb rfl rfl m.out (fun b f=>f) (fun d x h=>ywm h) og ?_;intro j w' F E M);go_ret;exact⟨⟨_,rfl,F⟩,E⟩
def IsSl (w:k) (S:Nat->Prop) (v x:t):Prop:=v=x/\∃A m c,x= .slice A m c
theorem IsSl.stb:Stb IsSl:=fun _ _ _ _ _ _ h _=>h
theorem ysl {w:k} {l:List t} (h:IsS 1 IsSl w (C6 w) v l) (O:l.length<=10000):
 r p 161 #[v] w fun d w'=>(∃j,d= .returned j/\OwnS 1 30 IsSl w' w.heap.size (C6 w) j l)/\Below w.heap.size w w':=by
 have s:=g h;obtain⟨A,c,u,rfl,M,N,D,E,F⟩:=id h;clear h D E F;cases A with
 |none=>
  have y:l=[]:=by
   obtain⟨A,e,u,d,_,_,J,K,ha⟩:=s.out;simp only[Value.slice.injEq] at d;obtain⟨rfl,_,_⟩:=d;refine List.eq_nil_of_length_eq_zero ?_;rw[<-ha.1];rcases Nat.eq_zero_or_pos u.length with h|h
   ·exact h
   ·exfalso;have z:=ztv K;obtain⟨b,off,G,_⟩:=J (fun d=>by rw[d] at z;simp at z;omega);cases G
  have C:=g y;clear y;have q:=fun(w:k) (a:Option o) (n c i e:Nat)=>Lib.run_eql_slice_nil w _ _ a n c i e Tryz.underlying28;go_in;go_wp2_with fail;go_ret;refine⟨⟨_,rfl,?_⟩,Below.refl _ _⟩;rw[C.out];exact OwnS.nil fun b f=>f
 |some L=>have q:=fun(w:k) (a:Option o) (n c i e:Nat)=>Lib.run_eql_slice_nil w _ _ a n c i e Tryz.underlying28;go_in;go_wp2_with (at_builtin;refine yga elV rfl _ _ rfl IsSl.stb rfl rfl s.out (fun b f=>f) (fun d x h Q B=>by obtain⟨rfl,A,m,c,rfl⟩:=h;simp[Value.cells] at B;subst B;rfl) og ?_;intro j w' I H P);go_ret;exact⟨⟨_,rfl,I⟩,H⟩
theorem hpE {w:k} {S:k->Prop} (c:Nat) (h:e (∀a:k,Below w.heap.size w a->S a)) (f:NeL V S):e (∀a:k,Below w.heap.size w a->∀x y z,S (T4 a V c x y z)):=fun a d x y z=>f (fun a=>T4 a V c x y z) (fun b g v a n h=>ydr h n) a (h.out a d)
def zmj (f b:Nat->Int) (c d e:Nat):Nat->Int:=fun a=>if a<e/\a≠c then zlo (f a) (b c) (f c) (b a) d else f a
def zor (f b:Nat->Int) (c d:Nat):Nat->Int:=fun a=>if a=c then -(f c) else zlo (f a) (b c) (f c) (b a) d
theorem yhr (f a:Nat->Int) (c d:Nat):zmj f a c d 0=f:=by funext j;unfold zmj;rw[if_neg og]
theorem yhn (f b:Nat->Int) (c d a:Nat):zmj f b c d a a=f a:=by unfold zmj;rw[if_neg og]
theorem yhp (f b:Nat->Int) (d a:Nat):zmj f b a d (a+1)=zmj f b a d a:=by
 funext j;unfold zmj;by_cases h:j<a/\j≠a
 ·rw[if_pos h,if_pos ⟨by omega,h.2⟩]
 ·rw[if_neg h,if_neg og]
theorem yhq (f e:Nat->Int) {d a:Nat} (h:a≠c) (b:Nat):(if b=a then zlo (f a) (e c) (f c) (e a) d else zmj f e c d a b)=zmj f e c d (a+1) b:=by
 unfold zmj;by_cases i:b=a
 ·subst i;rw[if_pos rfl,if_pos ⟨by omega,h⟩]
 ·rw[if_neg i];by_cases g:b<a/\b≠c
  ·rw[if_pos g,if_pos ⟨by omega,g.2⟩]
  ·rw[if_neg g,if_neg og]
theorem yho (f e:Nat->Int) {d:Nat} (b:Nat) (g:b<m):(if b=c then -(f c) else zmj f e c d m b)=zor f e c d b:=by
 unfold zmj zor;by_cases a:b=c
 ·rw[if_pos a,if_pos a]
 ·rw[if_neg a,if_neg a,if_pos ⟨g,a⟩]
theorem LineW.mono {w:k} {T:Nat->Prop} (h:LineW w S b c m f) (a:∀x,S x->T x):LineW w T b c m f:=h.keep rfl fun x d=>⟨a x d,rfl⟩
theorem LineW.grow {w w':k} (h:LineW w (SN S lo w) b c m f) (g:∀x,S x->x<w.heap.size) (d:Below w.heap.size w w'):LineW w' (SN S lo w') b c m f:=
 h.keep (d.block _ h.lt) fun x e=>⟨zsn d.size x e,d.block x (by rcases e with a|a;exact g x a;exact a.2)⟩
theorem yhm {w:k} {C aY B d aS:Nat} {D:Option o} {F:Nat->Int} (bd:LineW w S V C m f) (a9:LineW w S aY B m F) (cB:aY≠V) (cA:∀b,S b->b<w.heap.size/\b≠V/\b≠aY)
 (hD:NumS w S (.slice D (A9 d).length aS) d) (c1:m<=100) (hc:c<m) (cH:∀n,n<m->Sz ((f n:Int):Rat) 100000/\Sz ((F n:Int):Rat) 100000) (cF:(A9 d).length<=100000) (cE:0<d):
 r p 132 #[.slice (some ⟨V,0,none⟩) m C,.slice (some ⟨aY,0,none⟩) m B,.int .i64 (c:Int),.slice D (A9 d).length aS] w fun y w'=>y= .returned (.tuple #[])/\LineW w' (SN S w.heap.size w') V C m (zor f F c d)/\w.grownBy w' (some V):=by
 obtain⟨cv,cu,bY,au,H,cy,cx,aR⟩:=zmc bd a9 hD cH cA cF cE cB;have cV:(0:Int)<=(c:Int):=og;have cW:(c:Int)<(m:Int):=og;have cU:=U0;obtain⟨av,aB,az,l,L,M,P,eq⟩:=a9.el c hc;obtain⟨ay,aC,aA,aD,bU,bV,bX,cz⟩:=bd.el c hc;obtain⟨br,bp⟩:=C7 eq cz;obtain⟨aE,cI⟩:=nm (decide (F c<0));obtain⟨aG,cJ⟩:=nm ((A9 (F c).natAbs).length);obtain⟨aH,cK⟩:=nm (decide (f c<0));obtain⟨aI,cL⟩:=nm ((A9 (f c).natAbs).length);obtain⟨I,cl⟩:=nm ((A9 1).length);obtain⟨be,cG⟩:=nm ((A9 d).length);rw[<-cI] at L br;rw[<-cJ] at M br;rw[<-cl] at P br bX bp;rw[<-cK] at bU bp;rw[<-cL] at bV bp;rw[<-cG] at bY⊢;have cD:V<w.heap.size:=bd.lt;have cC:aY<w.heap.size:=a9.lt;obtain⟨ab,cw,bT⟩:=H7 cD cC cl;have cX:=bd.cap.1;have cY:C<=9223372036854775807:=(by have:=bd.cap.2;unfold maxLen at this;omega);have cZ:=a9.cap.1;have c0:B<=9223372036854775807:=(by have:=a9.cap.2;unfold maxLen at this;omega);clear bd a9 eq cz cH cI cJ cl cK cL cD cC cG hD cF cE cB cA;go_in;go_wp2_with fail;have X:=zoj L M P bU bV bX
 go_region_held3 (SH.mk _ X).s
  (exact X.out _ bel)
  (fail)
 ·obtain⟨ct,bE,Z,bN,bM,bn⟩:=zkn w #[.bool aE,.slice av aG aB,.slice az I l] #[.bool aH,.slice ay aI aC,.slice aA I aD] 37 37;rw[bE];obtain⟨ar,aa⟩:=nm (ct.drew);have bf:e (Below w.heap.size w ar):=(by rw[e,aa];exact⟨Z.os,Z.tape,Z.output,Z.size,Z.block⟩);have cd:e (Row ar w.heap.size 37 [.bool aE,.slice av aG aB,.slice az I l]):=(by rw[e,aa];exact bN.drew);have cc:e (Row ar (w.heap.size+1) 37 [.bool aH,.slice ay aI aC,.slice aA I aD]):=(by rw[e,aa];exact bM.drew);have cM:e (ar.heap.size=w.heap.size+2):=(by rw[e,aa];exact bn.out);rw[<-aa];clear aa Z bN bM bn X bE;clear L M P bU bV bX;go_wp2_with fail;go_loopw [22,10,11] (fun a6 _ _ wr=>∃n:Nat,n<=m/\a6= .int .i64 (n:Int)/\ar.grownBy wr (some V)/\e (LineW wr (SN S w.heap.size wr) V C m (zmj f F c d n))) (fun a6 _ _ _=>m-(intOf a6).toNat);case atStart=>exact⟨0,u _,rfl,I7 _ _,by rw[e,yhr];exact(cv.out.mono (T:=SN S w.heap.size w) fun x t=> .inl t).grow (fun x t=>(H.out x t).1) bf.out⟩
  case round=>
   obtain⟨n,cQ,rfl,ak,bA⟩:=hrel;have bh:=g ak;have N:=g bA.out;have E:=g (K1 (K7 bf.out) ak);have b4:e (LineW wr S aY B m F):=cu.out.keep (E.out.block _ cw.out fun y=>aR.out (by cases y;rfl)) fun x t=>⟨t,E.out.block _ (H.out x t).1 fun y=>(H.out x t).2.1 (by cases y;rfl)⟩;have bx:e (V<w.heap.size):=ab.out;obtain⟨cf,bt⟩:=C7 (cd.out.grownN ak fun b y=>by cases y;have:=bx.out;omega) (cc.out.grownN ak fun b y=>by cases y;have:=bx.out;omega);have aJ:L8 S (C6 wr) w wr:=fun b G=>⟨j (H.out b G).1 E.out.size,fun cT=>World.cell?_of_block (E.out.block b (H.out b G).1 fun y=>(H.out b G).2.1 (by cases y;rfl))⟩;have b8:e (IsQ wr (C6 wr) (.agg #[.bool aE,.slice av aG aB,.slice az I l]) ((F c:Int):Rat)):=IsQ.stb.to br.out aJ;have bq:e (IsQ wr (C6 wr) (.agg #[.bool aH,.slice ay aI aC,.slice aA I aD]) ((f c:Int):Rat)):=IsQ.stb.to bp.out aJ;have bZ:e (NumS wr (C6 wr) (.slice D be aS) d):=IsK.stb.to bY.out aJ
   have bm:e (∀b,SN S w.heap.size wr b->C6 wr b):=fun b G=>by
    rcases G with h|h
    ·exact j (H.out b h).1 E.out.size
    ·exact h.2
   clear ak bA aJ;rcases s n m with T|cP
   ·obtain⟨aW,a7,aX,a8,L,M,P,eq⟩:=N.out.el n T;obtain⟨b5,cn,Q3,cq,a3,a4,a5,bI⟩:=b4.out.el n T;rw[yhn] at L M eq;obtain⟨aK,aL⟩:=C7 (IsQ.stb.to eq (G6 (T:=C6 wr) bm.out)) (IsQ.stb.to bI (G6 (T:=C6 wr) fun b G=>bm.out b (.inl G)));obtain⟨bQ,bG⟩:=nm (decide (f n<0));obtain⟨bR,bH⟩:=nm ((A9 (f n).natAbs).length);obtain⟨cr,bB⟩:=nm (decide (F n<0));obtain⟨cs,bC⟩:=nm ((A9 (F n).natAbs).length);rw[<-bG] at L aK;rw[<-bH] at M aK;rw[<-bB] at a3 aL;rw[<-bC] at a4 aL;rw[<-bT.out] at P aK a5 aL;have cR:(0:Int)<=(n:Int):=og;have cS:(n:Int)<(m:Int):=og;have ch:V<wr.heap.size:=j ab.out E.out.size;have ag:wr.frozen? ⟨V,n*3,none⟩=false:=N.out.free;have ah:wr.frozen? ⟨V,n*3+1,none⟩=false:=N.out.free;have ai:wr.frozen? ⟨V,n*3+2,none⟩=false:=N.out.free;obtain⟨Q,bF,v,rx,cm⟩:=J7 wr #[.bool bQ,.slice aW bR a7,.slice aX I a8] 37;obtain⟨bu,bv,b2⟩:=C4 rx;obtain⟨bJ,bK,bL⟩:=C4 cf.out;obtain⟨aN,aO,aP⟩:=C4 bt.out;obtain⟨J,A,U⟩:=H7 (i bu (i bv (i b2 (i (C0 v bJ) (i (C0 v bK) (i (C0 v bL) (i (C0 v aN) (i (C0 v aO) (i (C0 v aP) (i (C0 v a3) (i (C0 v a4) (C0 v a5)))))))))))) (i (C0 v L) (i (C0 v M) (C0 v P))) (i (J8 v L ag) (i (J8 v M ah) (J8 v P ai)));have ca:=nQ aK v;have cb:=nQ aL v;have Y:=g v;have cj:=T;have ad:=g T;obtain⟨z,an⟩:=nm (zlo (f n) (F c) (f c) (F n) d);have ac:=g an;have a0:e (wr.heap.size≠V):=oH;have a1:e (w.heap.size≠V):=oH1 ab;have a2:e ((w.heap.size+1)≠V):=oH1 ab;have b9:e (IsQ Q (C6 Q) (.agg #[.bool aE,.slice av aG aB,.slice az I l]) ((F c:Int):Rat)):=IsQ.stb.next b8.out v;have b7:e (IsQ Q (C6 Q) (.agg #[.bool aH,.slice ay aI aC,.slice aA I aD]) ((f c:Int):Rat)):=IsQ.stb.next bq.out v;have b0:e (NumS Q (C6 Q) (.slice D be aS) d):=IsK.stb.next bZ.out v;clear eq bI bG bH bB bC rx cm v bu bv b2 ag ah ai ch an T cj bJ bK bL aN aO aP;by_cases al:n=c
    ·have ck:(((n:Int) !=(c:Int)):Bool)=false:=(by rw[al];simp);have bi:=g al;clear al;go_wp2_with fail;clear bF;go_roundw;(case rel=>refine⟨n+1,ad.out,by go_num,K1 bh.out (K7 Y.out),?_⟩;rw[<-bi.out];rw[e,yhp];have:=N.out.grow (fun x t=>j (H.out x t).1 E.out.size) Y.out;rw[<-bi.out] at this;exact this);case measure=>simp[intOf];have:=ad.out;omega
    ·have ck:(((n:Int) !=(c:Int)):Bool)=true:=(by simp;omega);have b3:=g al;clear al;go_wp2_with fail;clear bF L M P a3 a4 a5;have X:=yjx J.out.1 J.out.2.1 J.out.2.2.1 J.out.2.2.2.1 J.out.2.2.2.2.1 J.out.2.2.2.2.2.1 J.out.2.2.2.2.2.2.1 J.out.2.2.2.2.2.2.2.1 J.out.2.2.2.2.2.2.2.2.1 J.out.2.2.2.2.2.2.2.2.2.1 J.out.2.2.2.2.2.2.2.2.2.2.1 J.out.2.2.2.2.2.2.2.2.2.2.2;have bg:e (∀aM:k,Below Q.heap.size Q aM->r p 131 #[.agg #[.bool bQ,.slice aW bR a7,.slice aX I a8],.agg #[.bool aE,.slice av aG aB,.slice az I l],.agg #[.bool aH,.slice ay aI aC,.slice aA I aD],.agg #[.bool cr,.slice b5 cs cn,.slice Q3 I cq],.slice D be aS] aM (L5 aM (((z:Int)):Rat))):=fun aM aj=>(by have h:=zww (IsQ.stb.next ca.out aj) (IsQ.stb.next b9.out aj) (IsQ.stb.next b7.out aj) (IsQ.stb.next cb.out aj) (F7 (IsK.stb.next b0.out aj)) ((au.out n ad.out).1.le og) ((au.out c hc).2.le og) ((au.out c hc).1.le og) ((au.out n ad.out).2.le og) (q cy.out og) cx.out;rw[Rat.num_intCast,Rat.num_intCast,Rat.num_intCast,Rat.num_intCast,<-ac.out] at h;exact h);have bj:=hpE n X (nA a0.out (nA a0.out (nA a0.out (nA a1.out (nA a1.out (nA a1.out (nA a2.out (nA a2.out (nA a2.out (nA aR.out (nA aR.out (nZ aR.out))))))))))))
     go_region_held3 (SH.mk _ X).s
      (first|exact X.out _ bel|exact bj.out _ bel _ _ _)
      (first
        |(go_at_call 131;(with_reducible refine Calls.mono (bg.out _ bel) ?_);rintro y K ⟨⟨aQ,rfl,W⟩,O⟩;have R:=bW Q K;obtain⟨af,ao,ae,aq,rfl⟩:=zlp W;have u0:=C0 R.out A.out.1;have u1:=C0 R.out A.out.2.1;have u2:=C0 R.out A.out.2.2;have bO:=J8 R.out A.out.1 U.out.1;have bP:=J8 R.out A.out.2.1 U.out.2.1;have aQ:=J8 R.out A.out.2.2 U.out.2.2))
     have aV:=g ((N.out.grow (fun x t=>j (H.out x t).1 E.out.size) Y.out).grow (fun x t=>j (H.out x t).1 (q E.out.size Y.out.size)) R.out);have bD:IsQ K (SN S w.heap.size K) (.agg #[.bool (decide (z<0)),.slice af (A9 z.natAbs).length ao,.slice ae (A9 1).length aq]) ((z:Int):Rat):=IsQ.stb.to W (G6 fun b G=> .inr ⟨by have cN:=E.out.size;have cO:=Y.out.size;have cg:=G.1;simp at cg;omega,G.2⟩);have aU:=g bD;have T:=ad.out;have aT:=g (K1 (K1 bh.out (K7 Y.out)) (K7 R.out));clear X bj bg W O u0 u1 u2 bO bP aQ bD;go_wp2_with fail;go_roundw
     case rel=>
      have aZ:=aV.out.put (fun x t y=>by
       rcases t with t|t
       ·exact(H.out x t).2.1 y
       ·have:=ab.out;have:=t.1;omega) T aU.out
      refine⟨n+1,T,by go_num,zne aT.out,?_⟩;have y:SN S w.heap.size (T4 K V n (.bool (decide (z<0))) (.slice af (A9 z.natAbs).length ao) (.slice ae (A9 1).length aq))=SN S w.heap.size K:=(by unfold SN;rw[zrk]);show LineW _ (SN S w.heap.size (T4 K V n _ _ _)) _ _ _ _;rw[y];exact aZ.same fun a _=>by rw[ac.out];exact yhq f F b3.out a
     case measure=>simp[intOf];omega
   ·obtain rfl:n=m:=og;obtain⟨aW,a7,aX,a8,L,M,P,eq⟩:=N.out.el c hc;have bw:zmj f F c d n c=f c:=(by unfold zmj;rw[if_neg og]);rw[<-bT.out] at P;rw[bw] at L M;have ag:wr.frozen? ⟨V,c*3,none⟩=false:=N.out.free;have ah:wr.frozen? ⟨V,c*3+1,none⟩=false:=N.out.free;have ai:wr.frozen? ⟨V,c*3+2,none⟩=false:=N.out.free;obtain⟨aN,aO,aP⟩:=C4 bt.out;obtain⟨b1,A,U⟩:=H7 hc (i L (i M P)) (i ag (i ah ai));clear L M P ag ah ai eq bw;go_wp2_with fail;obtain⟨z,an⟩:=nm (-f c);have ac:=g an;clear an;refine(zsb (p:=((z:Int):Rat)) bq.out ((au.out c hc).1) (by rw[ac.out,Rat.intCast_neg])).mono ?_;rintro y K ⟨⟨aQ,rfl,W⟩,O⟩;obtain⟨af,ao,ae,aq,rfl⟩:=zlp W;have u0:=C0 O A.out.1;have u1:=C0 O A.out.2.1;have u2:=C0 O A.out.2.2;have bO:=J8 O A.out.1 U.out.1;have bP:=J8 O A.out.2.1 U.out.2.1;have aQ:=J8 O A.out.2.2 U.out.2.2;have aV:=g (N.out.grow (fun x t=>j (H.out x t).1 E.out.size) O);have aU:e (IsQ K (SN S w.heap.size K) (.agg #[.bool (decide (z<0)),.slice af (A9 (z).natAbs).length ao,.slice ae (A9 1).length aq]) ((z:Int):Rat)):=IsQ.stb.to W (G6 fun b G=> .inr ⟨q E.out.size G.1,G.2⟩);have aT:=g (K1 E.out (K7 O));clear W O aN aO aP;go_wp2_with fail;refine bodyPost_end (results_none rfl _ _ _) rfl ?_
    have aZ:=aV.out.put (fun x t y=>by
     rcases t with t|t
     ·exact(H.out x t).2.1 y
     ·have:=ab.out;have:=t.1;omega) b1.out aU.out
    refine⟨rfl,?_,zne aT.out⟩;have y:SN S w.heap.size (T4 K V c (.bool (decide (z<0))) (.slice af (A9 (z).natAbs).length ao) (.slice ae (A9 1).length aq))=SN S w.heap.size K:=(by unfold SN;rw[zrk]);show LineW _ (SN S w.heap.size (T4 K V c _ _ _)) _ _ _ _;rw[y];exact aZ.same fun a ha=>by rw[ac.out];exact yho f F a ha
 ·obtain⟨ct,bE,Z,bM,bN,bn⟩:=zkn w #[.bool aH,.slice ay aI aC,.slice aA I aD] #[.bool aE,.slice av aG aB,.slice az I l] 37 37;rw[bE];obtain⟨ar,aa⟩:=nm (ct.drew);have bf:e (Below w.heap.size w ar):=(by rw[e,aa];exact⟨Z.os,Z.tape,Z.output,Z.size,Z.block⟩);have cd:e (Row ar (w.heap.size+1) 37 [.bool aE,.slice av aG aB,.slice az I l]):=(by rw[e,aa];exact bN.drew);have cc:e (Row ar w.heap.size 37 [.bool aH,.slice ay aI aC,.slice aA I aD]):=(by rw[e,aa];exact bM.drew);have cM:e (ar.heap.size=w.heap.size+2):=(by rw[e,aa];exact bn.out);rw[<-aa];clear aa Z bN bM bn X bE;clear L M P bU bV bX;go_wp2_with fail;go_loopw [22,10,11] (fun a6 _ _ wr=>∃n:Nat,n<=m/\a6= .int .i64 (n:Int)/\ar.grownBy wr (some V)/\e (LineW wr (SN S w.heap.size wr) V C m (zmj f F c d n))) (fun a6 _ _ _=>m-(intOf a6).toNat);case atStart=>exact⟨0,u _,rfl,I7 _ _,by rw[e,yhr];exact(cv.out.mono (T:=SN S w.heap.size w) fun x t=> .inl t).grow (fun x t=>(H.out x t).1) bf.out⟩
  case round=>
   obtain⟨n,cQ,rfl,ak,bA⟩:=hrel;have bh:=g ak;have N:=g bA.out;have E:=g (K1 (K7 bf.out) ak);have b4:e (LineW wr S aY B m F):=cu.out.keep (E.out.block _ cw.out fun y=>aR.out (by cases y;rfl)) fun x t=>⟨t,E.out.block _ (H.out x t).1 fun y=>(H.out x t).2.1 (by cases y;rfl)⟩;have bx:e (V<w.heap.size):=ab.out;obtain⟨cf,bt⟩:=C7 (cd.out.grownN ak fun b y=>by cases y;have:=bx.out;omega) (cc.out.grownN ak fun b y=>by cases y;have:=bx.out;omega);have aJ:L8 S (C6 wr) w wr:=fun b G=>⟨j (H.out b G).1 E.out.size,fun cT=>World.cell?_of_block (E.out.block b (H.out b G).1 fun y=>(H.out b G).2.1 (by cases y;rfl))⟩;have b8:e (IsQ wr (C6 wr) (.agg #[.bool aE,.slice av aG aB,.slice az I l]) ((F c:Int):Rat)):=IsQ.stb.to br.out aJ;have bq:e (IsQ wr (C6 wr) (.agg #[.bool aH,.slice ay aI aC,.slice aA I aD]) ((f c:Int):Rat)):=IsQ.stb.to bp.out aJ;have bZ:e (NumS wr (C6 wr) (.slice D be aS) d):=IsK.stb.to bY.out aJ
   have bm:e (∀b,SN S w.heap.size wr b->C6 wr b):=fun b G=>by
    rcases G with h|h
    ·exact j (H.out b h).1 E.out.size
    ·exact h.2
   clear ak bA aJ;rcases s n m with T|cP
   ·obtain⟨aW,a7,aX,a8,L,M,P,eq⟩:=N.out.el n T;obtain⟨b5,cn,Q3,cq,a3,a4,a5,bI⟩:=b4.out.el n T;rw[yhn] at L M eq;obtain⟨aK,aL⟩:=C7 (IsQ.stb.to eq (G6 (T:=C6 wr) bm.out)) (IsQ.stb.to bI (G6 (T:=C6 wr) fun b G=>bm.out b (.inl G)));obtain⟨bQ,bG⟩:=nm (decide (f n<0));obtain⟨bR,bH⟩:=nm ((A9 (f n).natAbs).length);obtain⟨cr,bB⟩:=nm (decide (F n<0));obtain⟨cs,bC⟩:=nm ((A9 (F n).natAbs).length);rw[<-bG] at L aK;rw[<-bH] at M aK;rw[<-bB] at a3 aL;rw[<-bC] at a4 aL;rw[<-bT.out] at P aK a5 aL;have cR:(0:Int)<=(n:Int):=og;have cS:(n:Int)<(m:Int):=og;have ch:V<wr.heap.size:=j ab.out E.out.size;have ag:wr.frozen? ⟨V,n*3,none⟩=false:=N.out.free;have ah:wr.frozen? ⟨V,n*3+1,none⟩=false:=N.out.free;have ai:wr.frozen? ⟨V,n*3+2,none⟩=false:=N.out.free;obtain⟨Q,bF,v,rx,cm⟩:=J7 wr #[.bool bQ,.slice aW bR a7,.slice aX I a8] 37;obtain⟨bu,bv,b2⟩:=C4 rx;obtain⟨bJ,bK,bL⟩:=C4 cf.out;obtain⟨aN,aO,aP⟩:=C4 bt.out;obtain⟨J,A,U⟩:=H7 (i bu (i bv (i b2 (i (C0 v bJ) (i (C0 v bK) (i (C0 v bL) (i (C0 v aN) (i (C0 v aO) (i (C0 v aP) (i (C0 v a3) (i (C0 v a4) (C0 v a5)))))))))))) (i (C0 v L) (i (C0 v M) (C0 v P))) (i (J8 v L ag) (i (J8 v M ah) (J8 v P ai)));have ca:=nQ aK v;have cb:=nQ aL v;have Y:=g v;have cj:=T;have ad:=g T;obtain⟨z,an⟩:=nm (zlo (f n) (F c) (f c) (F n) d);have ac:=g an;have a0:e (wr.heap.size≠V):=oH;have a1:e ((w.heap.size+1)≠V):=oH1 ab;have a2:e (w.heap.size≠V):=oH1 ab;have b9:e (IsQ Q (C6 Q) (.agg #[.bool aE,.slice av aG aB,.slice az I l]) ((F c:Int):Rat)):=IsQ.stb.next b8.out v;have b7:e (IsQ Q (C6 Q) (.agg #[.bool aH,.slice ay aI aC,.slice aA I aD]) ((f c:Int):Rat)):=IsQ.stb.next bq.out v;have b0:e (NumS Q (C6 Q) (.slice D be aS) d):=IsK.stb.next bZ.out v;clear eq bI bG bH bB bC rx cm v bu bv b2 ag ah ai ch an T cj bJ bK bL aN aO aP;by_cases al:n=c
    ·have ck:(((n:Int) !=(c:Int)):Bool)=false:=(by rw[al];simp);have bi:=g al;clear al;go_wp2_with fail;clear bF;go_roundw;(case rel=>refine⟨n+1,ad.out,by go_num,K1 bh.out (K7 Y.out),?_⟩;rw[<-bi.out];rw[e,yhp];have:=N.out.grow (fun x t=>j (H.out x t).1 E.out.size) Y.out;rw[<-bi.out] at this;exact this);case measure=>simp[intOf];have:=ad.out;omega
    ·have ck:(((n:Int) !=(c:Int)):Bool)=true:=(by simp;omega);have b3:=g al;clear al;go_wp2_with fail;clear bF L M P a3 a4 a5;have X:=yjx J.out.1 J.out.2.1 J.out.2.2.1 J.out.2.2.2.1 J.out.2.2.2.2.1 J.out.2.2.2.2.2.1 J.out.2.2.2.2.2.2.1 J.out.2.2.2.2.2.2.2.1 J.out.2.2.2.2.2.2.2.2.1 J.out.2.2.2.2.2.2.2.2.2.1 J.out.2.2.2.2.2.2.2.2.2.2.1 J.out.2.2.2.2.2.2.2.2.2.2.2;have bg:e (∀aM:k,Below Q.heap.size Q aM->r p 131 #[.agg #[.bool bQ,.slice aW bR a7,.slice aX I a8],.agg #[.bool aE,.slice av aG aB,.slice az I l],.agg #[.bool aH,.slice ay aI aC,.slice aA I aD],.agg #[.bool cr,.slice b5 cs cn,.slice Q3 I cq],.slice D be aS] aM (L5 aM (((z:Int)):Rat))):=fun aM aj=>(by have h:=zww (IsQ.stb.next ca.out aj) (IsQ.stb.next b9.out aj) (IsQ.stb.next b7.out aj) (IsQ.stb.next cb.out aj) (F7 (IsK.stb.next b0.out aj)) ((au.out n ad.out).1.le og) ((au.out c hc).2.le og) ((au.out c hc).1.le og) ((au.out n ad.out).2.le og) (q cy.out og) cx.out;rw[Rat.num_intCast,Rat.num_intCast,Rat.num_intCast,Rat.num_intCast,<-ac.out] at h;exact h);have bj:=hpE n X (nA a0.out (nA a0.out (nA a0.out (nA a1.out (nA a1.out (nA a1.out (nA a2.out (nA a2.out (nA a2.out (nA aR.out (nA aR.out (nZ aR.out))))))))))))
     go_region_held3 (SH.mk _ X).s
      (first|exact X.out _ bel|exact bj.out _ bel _ _ _)
      (first
        |(go_at_call 131;(with_reducible refine Calls.mono (bg.out _ bel) ?_);rintro y K ⟨⟨aQ,rfl,W⟩,O⟩;have R:=bW Q K;obtain⟨af,ao,ae,aq,rfl⟩:=zlp W;have u0:=C0 R.out A.out.1;have u1:=C0 R.out A.out.2.1;have u2:=C0 R.out A.out.2.2;have bO:=J8 R.out A.out.1 U.out.1;have bP:=J8 R.out A.out.2.1 U.out.2.1;have aQ:=J8 R.out A.out.2.2 U.out.2.2))
     have aV:=g ((N.out.grow (fun x t=>j (H.out x t).1 E.out.size) Y.out).grow (fun x t=>j (H.out x t).1 (q E.out.size Y.out.size)) R.out);have bD:IsQ K (SN S w.heap.size K) (.agg #[.bool (decide (z<0)),.slice af (A9 z.natAbs).length ao,.slice ae (A9 1).length aq]) ((z:Int):Rat):=IsQ.stb.to W (G6 fun b G=> .inr ⟨by have cN:=E.out.size;have cO:=Y.out.size;have cg:=G.1;simp at cg;omega,G.2⟩);have aU:=g bD;have T:=ad.out;have aT:=g (K1 (K1 bh.out (K7 Y.out)) (K7 R.out));clear X bj bg W O u0 u1 u2 bO bP aQ bD;go_wp2_with fail;go_roundw
     case rel=>
      have aZ:=aV.out.put (fun x t y=>by
       rcases t with t|t
       ·exact(H.out x t).2.1 y
       ·have:=ab.out;have:=t.1;omega) T aU.out
      refine⟨n+1,T,by go_num,zne aT.out,?_⟩;have y:SN S w.heap.size (T4 K V n (.bool (decide (z<0))) (.slice af (A9 z.natAbs).length ao) (.slice ae (A9 1).length aq))=SN S w.heap.size K:=(by unfold SN;rw[zrk]);show LineW _ (SN S w.heap.size (T4 K V n _ _ _)) _ _ _ _;rw[y];exact aZ.same fun a _=>by rw[ac.out];exact yhq f F b3.out a
     case measure=>simp[intOf];omega
   ·obtain rfl:n=m:=og;obtain⟨aW,a7,aX,a8,L,M,P,eq⟩:=N.out.el c hc;have bw:zmj f F c d n c=f c:=(by unfold zmj;rw[if_neg og]);rw[<-bT.out] at P;rw[bw] at L M;have ag:wr.frozen? ⟨V,c*3,none⟩=false:=N.out.free;have ah:wr.frozen? ⟨V,c*3+1,none⟩=false:=N.out.free;have ai:wr.frozen? ⟨V,c*3+2,none⟩=false:=N.out.free;obtain⟨aN,aO,aP⟩:=C4 bt.out;obtain⟨b1,A,U⟩:=H7 hc (i L (i M P)) (i ag (i ah ai));clear L M P ag ah ai eq bw;go_wp2_with fail;obtain⟨z,an⟩:=nm (-f c);have ac:=g an;clear an;refine(zsb (p:=((z:Int):Rat)) bq.out ((au.out c hc).1) (by rw[ac.out,Rat.intCast_neg])).mono ?_;rintro y K ⟨⟨aQ,rfl,W⟩,O⟩;obtain⟨af,ao,ae,aq,rfl⟩:=zlp W;have u0:=C0 O A.out.1;have u1:=C0 O A.out.2.1;have u2:=C0 O A.out.2.2;have bO:=J8 O A.out.1 U.out.1;have bP:=J8 O A.out.2.1 U.out.2.1;have aQ:=J8 O A.out.2.2 U.out.2.2;have aV:=g (N.out.grow (fun x t=>j (H.out x t).1 E.out.size) O);have aU:e (IsQ K (SN S w.heap.size K) (.agg #[.bool (decide (z<0)),.slice af (A9 (z).natAbs).length ao,.slice ae (A9 1).length aq]) ((z:Int):Rat)):=IsQ.stb.to W (G6 fun b G=> .inr ⟨q E.out.size G.1,G.2⟩);have aT:=g (K1 E.out (K7 O));clear W O aN aO aP;go_wp2_with fail;refine bodyPost_end (results_none rfl _ _ _) rfl ?_
    have aZ:=aV.out.put (fun x t y=>by
     rcases t with t|t
     ·exact(H.out x t).2.1 y
     ·have:=ab.out;have:=t.1;omega) b1.out aU.out
    refine⟨rfl,?_,zne aT.out⟩;have y:SN S w.heap.size (T4 K V c (.bool (decide (z<0))) (.slice af (A9 (z).natAbs).length ao) (.slice ae (A9 1).length aq))=SN S w.heap.size K:=(by unfold SN;rw[zrk]);show LineW _ (SN S w.heap.size (T4 K V c _ _ _)) _ _ _ _;rw[y];exact aZ.same fun a ha=>by rw[ac.out];exact yho f F a ha
end Go.Proofs.YtpbilanpeioonaaGreatDoor
