/-
 slices.Clone at ints,numbers and rows.
-/
import Derived.Test.YtlhhbccgfkhflaaGreatDoorProofDualWeak06
import Derived.Lib.SliceRun
namespace Go.Proofs.YtlhhbccgfkhflaaGreatDoor
open Go.RowKit
set_option linter.unusedVariables false
set_option maxRecDepth 100000
set_option maxHeartbeats 8000000
open _root_.Go.Lib renaming hid → i
open _root_.Nat renaming le_trans → o, lt_of_lt_of_le → k, lt_or_ge → s, zero_le → r
open _root_.And renaming intro → g
open _root_.Go renaming World → j, Calls → p, Addr → n
open _root_.Go.RowKit renaming Hid → e
variable {S : Nat → Prop} {V b c m : Nat} {f : Nat → Int} {l : List Int} {v : Value}
theorem yun:(Tryz.prog.info? 3).map (fun a=>(a.zero,a.size,a.bytes))=some (some (.int .i64 0),1,8):=by kernel_rfl
theorem ybr:ElN Tryz.prog 22 3 1 8:=⟨Tryz.underlying22,by obtain⟨e,a,b,c,d⟩:=info_parts yun;exact⟨e,_,a,b,c,d,rfl⟩,by omega⟩
def IsIV (w:j) (S:Nat->Prop) (v:Value) (x:Int):Prop:=v= .int .i64 x
theorem IsIV.stb:Stb IsIV:=fun _ _ _ _ _ _ h _=>h
theorem ypx (l:List Int):cellsOf (l.map fun x=>Value.int .i64 x)=l.map fun x=>Value.int .i64 x:=by
 induction l with
 |nil=>rfl
 |cons x l ih=>have a:cellsOf ((x::l).map fun x=>Value.int .i64 x)=(Value.int .i64 x).cells.toList++cellsOf (l.map fun x=>Value.int .i64 x):=(by simp[cellsOf]);rw[a,ih];rfl
theorem yom {w:j} (l:List Int):All2 (IsIV w S) (l.map fun x=>Value.int .i64 x) l:=⟨by simp,fun c x y a b=>by
 rw[List.getElem?_map,b] at a
 cases a;rfl⟩
theorem zz1468 (l:List Int):Wid 1 (l.map fun x=>Value.int .i64 x):=fun v hv=>by obtain⟨x,_,rfl⟩:=List.mem_map.1 hv;rfl
theorem IsIL.isS {w:j} (h:IsIL w S v l):IsS 1 IsIV w S v l:=by obtain⟨A,c,hv,a,b,d,e⟩:=h;exact⟨A,c,l.map fun x=>Value.int .i64 x,hv,a,b,by rw[ypx];exact d,zz1468 l,yom l⟩
theorem yep {B:Program} {w:j} {ops:Array Oper} {rest:List Oper} {g:Oper} {a:Act} {I:Exit->Act->j->Prop} {u d:TypeId} {t bytes:Nat} (v:ElN B u d t bytes) (X:g.guard=none) (s x:Operand) (ac:g.op= .call {callee:= .builtin .append,args:= #[s,x],argTypes:= #[u,u]})
 {M:Type} {R:j->(Nat->Prop)->Value->M->Prop} (T:Stb R) {C:n} {l:List M} (ad:a.eval s= .slice (some ⟨w.heap.size,0,none⟩) 0 0) (F:a.eval x= .slice (some C) m c) (hv:IsS t R w S (.slice (some C) m c) l)
 (i:∀b,S b->b<w.heap.size) (O:∀d x,R w S d x->∀k∈d.cells,k.oneCell'=true) (e:l.length*(bytes+1)<=140737488355328)
 (h:∀o w',OwnS t d R w' w.heap.size S o l->Below w.heap.size w w'->o≠.slice none 0 0->wpList B ops I rest (a.put g.dst o) w'):wpList B ops I (g::rest) a (w.alloc (.cells #[] d)):=by
 obtain⟨ai,z,Y,ag,ae,V,ah⟩:=v.info
 obtain⟨A,ak,E,L,an,ao,P,J,p⟩:=hv
 simp only[Value.slice.injEq] at L
 obtain⟨rfl,rfl,rfl⟩:=L
 have aa:=zte J
 rw[Nat.mul_add,Nat.mul_one] at e
 refine wpList_append_own _ X s x u ac w.heap.size d ai z t bytes v.und Y ag ae V ah v.pos _ 0 [] ad (World.ownsRow_made w #[] 0 (Nat.le_refl _) (r _) (by simp)) C l.length c (cellsOf E) F (by rw[aa,p.1]) (fun q k f=> ?_) (fun k f=> ?_) (by unfold maxLen;omega) (by rw[Nat.zero_add];omega) (by simp)
  fun o w' G H aj=>h o w' ?_ ?_ ?_
 ·have ab:cellsOf E≠[]:=fun d=>by rw[d] at f;simp at f
  obtain⟨b,off,Q,al,W⟩:=P ab
  cases Q
  rw[Addr.add_lit]
  exact Lib.cell?_alloc_some _ (W q k f)
 ·unfold cellsOf at f
  obtain⟨x,F,f⟩:=List.mem_flatMap.1 f
  obtain⟨q,K⟩:=List.getElem?_of_mem F
  obtain⟨y,af⟩:∃y,l[q]? =some y:=⟨_,List.getElem?_eq_getElem (by rw[<-p.1];exact(List.getElem?_eq_some_iff.1 K).1)⟩
  exact O _ _ (p.2 q _ _ K af) k (by simpa using f)
 ·have U:=(Below.refl w.heap.size w).alloc (Nat.le_refl _) (.cells #[] d)
  have hst:L6 S S w w':=fun b e=>⟨e,fun g=>by
   have N:=H.block b (by rw[World.size_alloc];have:=i b e;omega) (by simp[Value.ownBlock];have:=i b e;omega)
   exact(World.cell?_of_block N).trans ((zqg U i b e).2 g)⟩
  refine⟨E,?_,J,p.imp fun x y h=>T.to h hst,fun b e=>⟨?_,fun D=> ?_⟩⟩
  ·rw[Nat.zero_add,List.nil_append] at G;exact G
  ·have:=H.size;rw[World.size_alloc] at this;have:=i b e;omega
  ·have:=(G.lt b D.symm).1;have:=i b e;omega
 ·exact((Below.refl _ w).alloc (Nat.le_refl _) _).grown H (by simp) (by intro aq Z;simp[Value.ownBlock] at Z;omega)
 ·intro D
  have:=(aj.1 D).1
  simp at this
theorem yfy {w:j} (h:IsS 1 IsIV w (C5 w) v l) (R:l.length<=10000):
 p Tryz.prog 64 #[v] w fun d w'=>(∃y,d= .returned y/\OwnS 1 3 IsIV w' w.heap.size (C5 w) y l)/\Below w.heap.size w w':=by
 have z:=i h;obtain⟨A,c,B,rfl,P,Q,G,H,I⟩:=id h;clear h G H I;cases A with
 |none=>
  have C:l=[]:=by
   obtain⟨A,f,B,d,_,_,M,N,ha⟩:=z.out;simp only[Value.slice.injEq] at d;obtain⟨rfl,_,_⟩:=d;refine List.eq_nil_of_length_eq_zero ?_;rw[<-ha.1];rcases Nat.eq_zero_or_pos B.length with h|h
   ·exact h
   ·exfalso;have D:=zte N;obtain⟨b,off,J,_⟩:=M (fun d=>by rw[d] at D;simp at D;omega);cases J
  have F:=i C;clear C;have q:=fun(w:j) (a:Option n) (t c u f:Nat)=>Lib.run_eql_slice_nil w _ _ a t c u f Tryz.underlying22;go_in;go_wp2_with fail;go_ret;refine⟨⟨_,rfl,?_⟩,Below.refl _ _⟩;rw[F.out];exact OwnS.nil fun b m=>m
 |some O=>have q:=fun(w:j) (a:Option n) (t c u f:Nat)=>Lib.run_eql_slice_nil w _ _ a t c u f Tryz.underlying22;go_in;go_wp2_with (at_builtin;refine yep ybr rfl _ _ rfl IsIV.stb rfl rfl z.out (fun b m=>m) (fun d x h T E=>by cases(show d= .int .i64 x from h);simp[Value.cells] at E;subst E;rfl) og ?_;intro y w' L K S);go_ret;exact⟨⟨_,rfl,L⟩,K⟩
theorem yfz {w:j} {l:List Raw} (h:IsS 3 IsR w (C5 w) v l) (Q:l.length<=10000):
 p Tryz.prog 124 #[v] w fun d w'=>(∃y,d= .returned y/\OwnS 3 30 IsR w' w.heap.size (C5 w) y l)/\Below w.heap.size w w':=by
 have z:=i h;obtain⟨A,c,B,rfl,O,P,F,G,H⟩:=id h;clear h F G H;cases A with
 |none=>
  have C:l=[]:=by
   obtain⟨A,f,B,d,_,_,L,M,ha⟩:=z.out;simp only[Value.slice.injEq] at d;obtain⟨rfl,_,_⟩:=d;refine List.eq_nil_of_length_eq_zero ?_;rw[<-ha.1];rcases Nat.eq_zero_or_pos B.length with h|h
   ·exact h
   ·exfalso;have D:=zte M;obtain⟨b,off,I,_⟩:=L (fun d=>by rw[d] at D;simp at D;omega);cases I
  have E:=i C;clear C;have q:=fun(w:j) (a:Option n) (t c u f:Nat)=>Lib.run_eql_slice_nil w _ _ a t c u f Tryz.underlying26;go_in;go_wp2_with fail;go_ret;refine⟨⟨_,rfl,?_⟩,Below.refl _ _⟩;rw[E.out];exact OwnS.nil fun b m=>m
 |some N=>have q:=fun(w:j) (a:Option n) (t c u f:Nat)=>Lib.run_eql_slice_nil w _ _ a t c u f Tryz.underlying26;go_in;go_wp2_with (at_builtin;refine yep zlp rfl _ _ rfl IsR.stb rfl rfl z.out (fun b m=>m) (fun d x h=>yut h) og ?_;intro y w' K J R);go_ret;exact⟨⟨_,rfl,K⟩,J⟩
def IsSl (w:j) (S:Nat->Prop) (v x:Value):Prop:=v=x/\∃A m c,x= .slice A m c
theorem IsSl.stb:Stb IsSl:=fun _ _ _ _ _ _ h _=>h
theorem yqp {w:j} {l:List Value} (h:IsS 1 IsSl w (C5 w) v l) (S:l.length<=10000):
 p Tryz.prog 134 #[v] w fun d w'=>(∃z,d= .returned z/\OwnS 1 26 IsSl w' w.heap.size (C5 w) z l)/\Below w.heap.size w w':=by
 have B:=i h;obtain⟨A,c,C,rfl,Q,R,H,I,J⟩:=id h;clear h H I J;cases A with
 |none=>
  have D:l=[]:=by
   obtain⟨A,f,C,d,_,_,N,O,ha⟩:=B.out;simp only[Value.slice.injEq] at d;obtain⟨rfl,_,_⟩:=d;refine List.eq_nil_of_length_eq_zero ?_;rw[<-ha.1];rcases Nat.eq_zero_or_pos C.length with h|h
   ·exact h
   ·exfalso;have E:=zte O;obtain⟨b,off,K,_⟩:=N (fun d=>by rw[d] at E;simp at E;omega);cases K
  have G:=i D;clear D;have q:=fun(w:j) (a:Option n) (u c y f:Nat)=>Lib.run_eql_slice_nil w _ _ a u c y f Tryz.underlying24;go_in;go_wp2_with fail;go_ret;refine⟨⟨_,rfl,?_⟩,Below.refl _ _⟩;rw[G.out];exact OwnS.nil fun b t=>t
 |some P=>have q:=fun(w:j) (a:Option n) (u c y f:Nat)=>Lib.run_eql_slice_nil w _ _ a u c y f Tryz.underlying24;go_in;go_wp2_with (at_builtin;refine yep elV rfl _ _ rfl IsSl.stb rfl rfl B.out (fun b t=>t) (fun d x h U F=>by obtain⟨rfl,A,m,c,rfl⟩:=h;simp[Value.cells] at F;subst F;rfl) og ?_;intro z w' M L T);go_ret;exact⟨⟨_,rfl,M⟩,L⟩
theorem hpE {w:j} {S:j->Prop} (c:Nat) (h:e (∀a:j,Below w.heap.size w a->S a)) (g:NeL V S):e (∀a:j,Below w.heap.size w a->∀x y z,S (N8 a V c x y z)):=fun a d x y z=>g (fun a=>N8 a V c x y z) (fun b i v a f h=>ycg h f) a (h.out a d)
def zlx (f b:Nat->Int) (c d e:Nat):Nat->Int:=fun a=>if a<e/\a≠c then zlc (f a) (b c) (f c) (b a) d else f a
def zoj (f b:Nat->Int) (c d:Nat):Nat->Int:=fun a=>if a=c then -(f c) else zlc (f a) (b c) (f c) (b a) d
theorem yft (f a:Nat->Int) (c d:Nat):zlx f a c d 0=f:=by funext j;unfold zlx;rw[if_neg og]
theorem yfp (f b:Nat->Int) (c d a:Nat):zlx f b c d a a=f a:=by unfold zlx;rw[if_neg og]
theorem yfr (f b:Nat->Int) (d a:Nat):zlx f b a d (a+1)=zlx f b a d a:=by
 funext j;unfold zlx;by_cases h:j<a/\j≠a
 ·rw[if_pos h,if_pos ⟨by omega,h.2⟩]
 ·rw[if_neg h,if_neg og]
theorem yfs (f e:Nat->Int) {d a:Nat} (h:a≠c) (b:Nat):(if b=a then zlc (f a) (e c) (f c) (e a) d else zlx f e c d a b)=zlx f e c d (a+1) b:=by
 unfold zlx;by_cases i:b=a
 ·subst i;rw[if_pos rfl,if_pos ⟨by omega,h⟩]
 ·rw[if_neg i];by_cases g:b<a/\b≠c
  ·rw[if_pos g,if_pos ⟨by omega,g.2⟩]
  ·rw[if_neg g,if_neg og]
theorem yfq (f e:Nat->Int) {d:Nat} (b:Nat) (g:b<m):(if b=c then -(f c) else zlx f e c d m b)=zoj f e c d b:=by
 unfold zlx zoj;by_cases a:b=c
 ·rw[if_pos a,if_pos a]
 ·rw[if_neg a,if_neg a,if_pos ⟨g,a⟩]
theorem LineW.mono {w:j} {T:Nat->Prop} (h:LineW w S b c m f) (a:∀x,S x->T x):LineW w T b c m f:=h.keep rfl fun x d=>⟨a x d,rfl⟩
theorem LineW.grow {w w':j} {g:Nat} (h:LineW w (SN S g w) b c m f) (i:∀x,S x->x<w.heap.size) (d:Below w.heap.size w w'):LineW w' (SN S g w') b c m f:=
 h.keep (d.block _ h.lt) fun x e=>⟨zrx d.size x e,d.block x (by rcases e with a|a;exact i x a;exact a.2)⟩
theorem yfo {w:j} {C aX B d aR:Nat} {D:Option n} {E:Nat->Int} (a9:LineW w S V C m f) (a8:LineW w S aX B m E) (cB:aX≠V) (cA:∀b,S b->b<w.heap.size/\b≠V/\b≠aX)
 (hD:NumS w S (.slice D (A8 d).length aR) d) (c1:m<=100) (hc:c<m) (cH:∀q,q<m->Sz ((f q:Int):Rat) 100000/\Sz ((E q:Int):Rat) 100000) (cF:(A8 d).length<=100000) (cE:0<d):
 p Tryz.prog 118 #[.slice (some ⟨V,0,none⟩) m C,.slice (some ⟨aX,0,none⟩) m B,.int .i64 (c:Int),.slice D (A8 d).length aR] w fun v w'=>v= .returned (.tuple #[])/\LineW w' (SN S w.heap.size w') V C m (zoj f E c d)/\w.grownBy w' (some V):=by
 obtain⟨cv,cu,bY,ar,G,cy,cx,aQ⟩:=zny a9 a8 hD cH cA cF cE cB;have cV:(0:Int)<=(c:Int):=og;have cW:(c:Int)<(m:Int):=og;have cU:=N9;obtain⟨au,aA,ay,l,K,L,O,eq⟩:=a8.el c hc;obtain⟨av,aB,az,aC,bU,bV,bX,cz⟩:=a9.el c hc;obtain⟨bq,bn⟩:=C7 eq cz;obtain⟨aD,cI⟩:=nm (decide (E c<0));obtain⟨aE,cJ⟩:=nm ((A8 (E c).natAbs).length);obtain⟨aG,cK⟩:=nm (decide (f c<0));obtain⟨aH,cL⟩:=nm ((A8 (f c).natAbs).length);obtain⟨H,cl⟩:=nm ((A8 1).length);obtain⟨bd,cG⟩:=nm ((A8 d).length);rw[<-cI] at K bq;rw[<-cJ] at L bq;rw[<-cl] at O bq bX bn;rw[<-cK] at bU bn;rw[<-cL] at bV bn;rw[<-cG] at bY⊢;have cD:V<w.heap.size:=a9.lt;have cC:aX<w.heap.size:=a8.lt;obtain⟨aa,cw,bT⟩:=F0 cD cC cl;have cX:=a9.cap.1;have cY:C<=9223372036854775807:=(by have:=a9.cap.2;unfold maxLen at this;omega);have cZ:=a8.cap.1;have c0:B<=9223372036854775807:=(by have:=a8.cap.2;unfold maxLen at this;omega);clear a9 a8 eq cz cH cI cJ cl cK cL cD cC cG hD cF cE cB cA;go_in;go_wp2_with fail;have W:=znz K L O bU bV bX
 go_region_held3 (SH.mk _ W).s
  (exact W.out _ bel)
  (fail)
 ·obtain⟨ct,bD,Y,bM,bL,bm⟩:=zkd w #[.bool aD,.slice au aE aA,.slice ay H l] #[.bool aG,.slice av aH aB,.slice az H aC] 30 30;rw[bD];obtain⟨aq,Z⟩:=nm (ct.drew);have be:e (Below w.heap.size w aq):=(by rw[e,Z];exact⟨Y.os,Y.tape,Y.output,Y.size,Y.block⟩);have cd:e (Row aq w.heap.size 30 [.bool aD,.slice au aE aA,.slice ay H l]):=(by rw[e,Z];exact bM.drew);have cc:e (Row aq (w.heap.size+1) 30 [.bool aG,.slice av aH aB,.slice az H aC]):=(by rw[e,Z];exact bL.drew);have cM:e (aq.heap.size=w.heap.size+2):=(by rw[e,Z];exact bm.out);rw[<-Z];clear Z Y bM bL bm W bD;clear K L O bU bV bX;go_wp2_with fail;go_loopw [22,10,11] (fun a5 _ _ wr=>∃q:Nat,q<=m/\a5= .int .i64 (q:Int)/\aq.grownBy wr (some V)/\e (LineW wr (SN S w.heap.size wr) V C m (zlx f E c d q))) (fun a5 _ _ _=>m-(intOf a5).toNat);case atStart=>exact⟨0,r _,rfl,J0 _ _,by rw[e,yft];exact(cv.out.mono (T:=SN S w.heap.size w) fun x t=> .inl t).grow (fun x t=>(G.out x t).1) be.out⟩
  case round=>
   obtain⟨q,cQ,rfl,aj,bx⟩:=hrel;have bg:=i aj;have M:=i bx.out;have A:=i (L5 (K9 be.out) aj);have b4:e (LineW wr S aX B m E):=cu.out.keep (A.out.block _ cw.out fun v=>aQ.out (by cases v;rfl)) fun x t=>⟨t,A.out.block _ (G.out x t).1 fun v=>(G.out x t).2.1 (by cases v;rfl)⟩;have bw:e (V<w.heap.size):=aa.out;obtain⟨cf,br⟩:=C7 (cd.out.grownN aj fun b v=>by cases v;have:=bw.out;omega) (cc.out.grownN aj fun b v=>by cases v;have:=bw.out;omega);have aI:L6 S (C5 wr) w wr:=fun b F=>⟨k (G.out b F).1 A.out.size,fun cT=>World.cell?_of_block (A.out.block b (G.out b F).1 fun v=>(G.out b F).2.1 (by cases v;rfl))⟩;have b8:e (IsQ wr (C5 wr) (.agg #[.bool aD,.slice au aE aA,.slice ay H l]) ((E c:Int):Rat)):=IsQ.stb.to bq.out aI;have bp:e (IsQ wr (C5 wr) (.agg #[.bool aG,.slice av aH aB,.slice az H aC]) ((f c:Int):Rat)):=IsQ.stb.to bn.out aI;have bZ:e (NumS wr (C5 wr) (.slice D bd aR) d):=IsK.stb.to bY.out aI
   have bj:e (∀b,SN S w.heap.size wr b->C5 wr b):=fun b F=>by
    rcases F with h|h
    ·exact k (G.out b h).1 A.out.size
    ·exact h.2
   clear aj bx aI;rcases s q m with R|cP
   ·obtain⟨aV,a6,aW,a7,K,L,O,eq⟩:=M.out.el q R;obtain⟨b5,cn,Q3,cq,a2,a3,a4,bH⟩:=b4.out.el q R;rw[yfp] at K L eq;obtain⟨aJ,aK⟩:=C7 (IsQ.stb.to eq (G4 (T:=C5 wr) bj.out)) (IsQ.stb.to bH (G4 (T:=C5 wr) fun b F=>bj.out b (.inl F)));obtain⟨bQ,bF⟩:=nm (decide (f q<0));obtain⟨bR,bG⟩:=nm ((A8 (f q).natAbs).length);obtain⟨cr,bA⟩:=nm (decide (E q<0));obtain⟨cs,bB⟩:=nm ((A8 (E q).natAbs).length);rw[<-bF] at K aJ;rw[<-bG] at L aJ;rw[<-bA] at a2 aK;rw[<-bB] at a3 aK;rw[<-bT.out] at O aJ a4 aK;have cR:(0:Int)<=(q:Int):=og;have cS:(q:Int)<(m:Int):=og;have ch:V<wr.heap.size:=k aa.out A.out.size;have af:wr.frozen? ⟨V,q*3,none⟩=false:=M.out.free;have ag:wr.frozen? ⟨V,q*3+1,none⟩=false:=M.out.free;have ah:wr.frozen? ⟨V,q*3+2,none⟩=false:=M.out.free;obtain⟨P,bE,u,bN,cm⟩:=J9 wr #[.bool bQ,.slice aV bR a6,.slice aW H a7] 30;obtain⟨bt,bu,b2⟩:=C0 bN;obtain⟨bI,bJ,bK⟩:=C0 cf.out;obtain⟨aM,aN,aO⟩:=C0 br.out;obtain⟨I,y,T⟩:=F0 (g bt (g bu (g b2 (g (A9 u bI) (g (A9 u bJ) (g (A9 u bK) (g (A9 u aM) (g (A9 u aN) (g (A9 u aO) (g (A9 u a2) (g (A9 u a3) (A9 u a4)))))))))))) (g (A9 u K) (g (A9 u L) (A9 u O))) (g (J5 u K af) (g (J5 u L ag) (J5 u O ah)));have ca:=nQ aJ u;have cb:=nQ aK u;have X:=i u;have cj:=R;have ac:=i R;obtain⟨z,al⟩:=nm (zlc (f q) (E c) (f c) (E q) d);have ab:=i al;have aZ:e (wr.heap.size≠V):=oH;have a0:e (w.heap.size≠V):=oH1 aa;have a1:e ((w.heap.size+1)≠V):=oH1 aa;have b9:e (IsQ P (C5 P) (.agg #[.bool aD,.slice au aE aA,.slice ay H l]) ((E c:Int):Rat)):=IsQ.stb.next b8.out u;have b7:e (IsQ P (C5 P) (.agg #[.bool aG,.slice av aH aB,.slice az H aC]) ((f c:Int):Rat)):=IsQ.stb.next bp.out u;have b0:e (NumS P (C5 P) (.slice D bd aR) d):=IsK.stb.next bZ.out u;clear eq bH bF bG bA bB bN cm u bt bu b2 af ag ah ch al R cj bI bJ bK aM aN aO;by_cases ak:q=c
    ·have ck:(((q:Int) !=(c:Int)):Bool)=false:=(by rw[ak];simp);have bh:=i ak;clear ak;go_wp2_with fail;clear bE;go_roundw;(case rel=>refine⟨q+1,ac.out,by go_num,L5 bg.out (K9 X.out),?_⟩;rw[<-bh.out];rw[e,yfr];have:=M.out.grow (fun x t=>k (G.out x t).1 A.out.size) X.out;rw[<-bh.out] at this;exact this);case measure=>simp[intOf];have:=ac.out;omega
    ·have ck:(((q:Int) !=(c:Int)):Bool)=true:=(by simp;omega);have b3:=i ak;clear ak;go_wp2_with fail;clear bE K L O a2 a3 a4;have W:=yia I.out.1 I.out.2.1 I.out.2.2.1 I.out.2.2.2.1 I.out.2.2.2.2.1 I.out.2.2.2.2.2.1 I.out.2.2.2.2.2.2.1 I.out.2.2.2.2.2.2.2.1 I.out.2.2.2.2.2.2.2.2.1 I.out.2.2.2.2.2.2.2.2.2.1 I.out.2.2.2.2.2.2.2.2.2.2.1 I.out.2.2.2.2.2.2.2.2.2.2.2;have bf:e (∀aL:j,Below P.heap.size P aL->p Tryz.prog 117 #[.agg #[.bool bQ,.slice aV bR a6,.slice aW H a7],.agg #[.bool aD,.slice au aE aA,.slice ay H l],.agg #[.bool aG,.slice av aH aB,.slice az H aC],.agg #[.bool cr,.slice b5 cs cn,.slice Q3 H cq],.slice D bd aR] aL (K8 aL (((z:Int)):Rat))):=fun aL ai=>(by have h:=zwc (IsQ.stb.next ca.out ai) (IsQ.stb.next b9.out ai) (IsQ.stb.next b7.out ai) (IsQ.stb.next cb.out ai) (F7 (IsK.stb.next b0.out ai)) ((ar.out q ac.out).1.le og) ((ar.out c hc).2.le og) ((ar.out c hc).1.le og) ((ar.out q ac.out).2.le og) (o cy.out og) cx.out;rw[Rat.num_intCast,Rat.num_intCast,Rat.num_intCast,Rat.num_intCast,<-ab.out] at h;exact h);have bi:=hpE q W (nA aZ.out (nA aZ.out (nA aZ.out (nA a0.out (nA a0.out (nA a0.out (nA a1.out (nA a1.out (nA a1.out (nA aQ.out (nA aQ.out (nZ aQ.out))))))))))))
     go_region_held3 (SH.mk _ W).s
      (first|exact W.out _ bel|exact bi.out _ bel _ _ _)
      (first
        |(go_at_call 117;(with_reducible refine Calls.mono (bf.out _ bel) ?_);rintro v J ⟨⟨aP,rfl,U⟩,N⟩;have Q:=bW P J;obtain⟨ae,an,ad,ao,rfl⟩:=zle U;have u0:=A9 Q.out y.out.1;have u1:=A9 Q.out y.out.2.1;have u2:=A9 Q.out y.out.2.2;have bO:=J5 Q.out y.out.1 T.out.1;have bP:=J5 Q.out y.out.2.1 T.out.2.1;have aP:=J5 Q.out y.out.2.2 T.out.2.2))
     have aU:=i ((M.out.grow (fun x t=>k (G.out x t).1 A.out.size) X.out).grow (fun x t=>k (G.out x t).1 (o A.out.size X.out.size)) Q.out);have bC:IsQ J (SN S w.heap.size J) (.agg #[.bool (decide (z<0)),.slice ae (A8 z.natAbs).length an,.slice ad (A8 1).length ao]) ((z:Int):Rat):=IsQ.stb.to U (G4 fun b F=> .inr ⟨by have cN:=A.out.size;have cO:=X.out.size;have cg:=F.1;simp at cg;omega,F.2⟩);have aT:=i bC;have R:=ac.out;have aS:=i (L5 (L5 bg.out (K9 X.out)) (K9 Q.out));clear W bi bf U N u0 u1 u2 bO bP aP bC;go_wp2_with fail;go_roundw
     case rel=>
      have aY:=aU.out.put (fun x t v=>by
       rcases t with t|t
       ·exact(G.out x t).2.1 v
       ·have:=aa.out;have:=t.1;omega) R aT.out
      refine⟨q+1,R,by go_num,zmr aS.out,?_⟩;have v:SN S w.heap.size (N8 J V q (.bool (decide (z<0))) (.slice ae (A8 z.natAbs).length an) (.slice ad (A8 1).length ao))=SN S w.heap.size J:=(by unfold SN;rw[zqw]);show LineW _ (SN S w.heap.size (N8 J V q _ _ _)) _ _ _ _;rw[v];exact aY.same fun a _=>by rw[ab.out];exact yfs f E b3.out a
     case measure=>simp[intOf];omega
   ·obtain rfl:q=m:=og;obtain⟨aV,a6,aW,a7,K,L,O,eq⟩:=M.out.el c hc;have bv:zlx f E c d q c=f c:=(by unfold zlx;rw[if_neg og]);rw[<-bT.out] at O;rw[bv] at K L;have af:wr.frozen? ⟨V,c*3,none⟩=false:=M.out.free;have ag:wr.frozen? ⟨V,c*3+1,none⟩=false:=M.out.free;have ah:wr.frozen? ⟨V,c*3+2,none⟩=false:=M.out.free;obtain⟨aM,aN,aO⟩:=C0 br.out;obtain⟨b1,y,T⟩:=F0 hc (g K (g L O)) (g af (g ag ah));clear K L O af ag ah eq bv;go_wp2_with fail;obtain⟨z,al⟩:=nm (-f c);have ab:=i al;clear al;refine(zrq (p:=((z:Int):Rat)) bp.out ((ar.out c hc).1) (by rw[ab.out,Rat.intCast_neg])).mono ?_;rintro v J ⟨⟨aP,rfl,U⟩,N⟩;obtain⟨ae,an,ad,ao,rfl⟩:=zle U;have u0:=A9 N y.out.1;have u1:=A9 N y.out.2.1;have u2:=A9 N y.out.2.2;have bO:=J5 N y.out.1 T.out.1;have bP:=J5 N y.out.2.1 T.out.2.1;have aP:=J5 N y.out.2.2 T.out.2.2;have aU:=i (M.out.grow (fun x t=>k (G.out x t).1 A.out.size) N);have aT:e (IsQ J (SN S w.heap.size J) (.agg #[.bool (decide (z<0)),.slice ae (A8 (z).natAbs).length an,.slice ad (A8 1).length ao]) ((z:Int):Rat)):=IsQ.stb.to U (G4 fun b F=> .inr ⟨o A.out.size F.1,F.2⟩);have aS:=i (L5 A.out (K9 N));clear U N aM aN aO;go_wp2_with fail;refine bodyPost_end (results_none rfl _ _ _) rfl ?_
    have aY:=aU.out.put (fun x t v=>by
     rcases t with t|t
     ·exact(G.out x t).2.1 v
     ·have:=aa.out;have:=t.1;omega) b1.out aT.out
    refine⟨rfl,?_,zmr aS.out⟩;have v:SN S w.heap.size (N8 J V c (.bool (decide (z<0))) (.slice ae (A8 (z).natAbs).length an) (.slice ad (A8 1).length ao))=SN S w.heap.size J:=(by unfold SN;rw[zqw]);show LineW _ (SN S w.heap.size (N8 J V c _ _ _)) _ _ _ _;rw[v];exact aY.same fun a ha=>by rw[ab.out];exact yfq f E a ha
 ·obtain⟨ct,bD,Y,bL,bM,bm⟩:=zkd w #[.bool aG,.slice av aH aB,.slice az H aC] #[.bool aD,.slice au aE aA,.slice ay H l] 30 30;rw[bD];obtain⟨aq,Z⟩:=nm (ct.drew);have be:e (Below w.heap.size w aq):=(by rw[e,Z];exact⟨Y.os,Y.tape,Y.output,Y.size,Y.block⟩);have cd:e (Row aq (w.heap.size+1) 30 [.bool aD,.slice au aE aA,.slice ay H l]):=(by rw[e,Z];exact bM.drew);have cc:e (Row aq w.heap.size 30 [.bool aG,.slice av aH aB,.slice az H aC]):=(by rw[e,Z];exact bL.drew);have cM:e (aq.heap.size=w.heap.size+2):=(by rw[e,Z];exact bm.out);rw[<-Z];clear Z Y bM bL bm W bD;clear K L O bU bV bX;go_wp2_with fail;go_loopw [22,10,11] (fun a5 _ _ wr=>∃q:Nat,q<=m/\a5= .int .i64 (q:Int)/\aq.grownBy wr (some V)/\e (LineW wr (SN S w.heap.size wr) V C m (zlx f E c d q))) (fun a5 _ _ _=>m-(intOf a5).toNat);case atStart=>exact⟨0,r _,rfl,J0 _ _,by rw[e,yft];exact(cv.out.mono (T:=SN S w.heap.size w) fun x t=> .inl t).grow (fun x t=>(G.out x t).1) be.out⟩
  case round=>
   obtain⟨q,cQ,rfl,aj,bx⟩:=hrel;have bg:=i aj;have M:=i bx.out;have A:=i (L5 (K9 be.out) aj);have b4:e (LineW wr S aX B m E):=cu.out.keep (A.out.block _ cw.out fun v=>aQ.out (by cases v;rfl)) fun x t=>⟨t,A.out.block _ (G.out x t).1 fun v=>(G.out x t).2.1 (by cases v;rfl)⟩;have bw:e (V<w.heap.size):=aa.out;obtain⟨cf,br⟩:=C7 (cd.out.grownN aj fun b v=>by cases v;have:=bw.out;omega) (cc.out.grownN aj fun b v=>by cases v;have:=bw.out;omega);have aI:L6 S (C5 wr) w wr:=fun b F=>⟨k (G.out b F).1 A.out.size,fun cT=>World.cell?_of_block (A.out.block b (G.out b F).1 fun v=>(G.out b F).2.1 (by cases v;rfl))⟩;have b8:e (IsQ wr (C5 wr) (.agg #[.bool aD,.slice au aE aA,.slice ay H l]) ((E c:Int):Rat)):=IsQ.stb.to bq.out aI;have bp:e (IsQ wr (C5 wr) (.agg #[.bool aG,.slice av aH aB,.slice az H aC]) ((f c:Int):Rat)):=IsQ.stb.to bn.out aI;have bZ:e (NumS wr (C5 wr) (.slice D bd aR) d):=IsK.stb.to bY.out aI
   have bj:e (∀b,SN S w.heap.size wr b->C5 wr b):=fun b F=>by
    rcases F with h|h
    ·exact k (G.out b h).1 A.out.size
    ·exact h.2
   clear aj bx aI;rcases s q m with R|cP
   ·obtain⟨aV,a6,aW,a7,K,L,O,eq⟩:=M.out.el q R;obtain⟨b5,cn,Q3,cq,a2,a3,a4,bH⟩:=b4.out.el q R;rw[yfp] at K L eq;obtain⟨aJ,aK⟩:=C7 (IsQ.stb.to eq (G4 (T:=C5 wr) bj.out)) (IsQ.stb.to bH (G4 (T:=C5 wr) fun b F=>bj.out b (.inl F)));obtain⟨bQ,bF⟩:=nm (decide (f q<0));obtain⟨bR,bG⟩:=nm ((A8 (f q).natAbs).length);obtain⟨cr,bA⟩:=nm (decide (E q<0));obtain⟨cs,bB⟩:=nm ((A8 (E q).natAbs).length);rw[<-bF] at K aJ;rw[<-bG] at L aJ;rw[<-bA] at a2 aK;rw[<-bB] at a3 aK;rw[<-bT.out] at O aJ a4 aK;have cR:(0:Int)<=(q:Int):=og;have cS:(q:Int)<(m:Int):=og;have ch:V<wr.heap.size:=k aa.out A.out.size;have af:wr.frozen? ⟨V,q*3,none⟩=false:=M.out.free;have ag:wr.frozen? ⟨V,q*3+1,none⟩=false:=M.out.free;have ah:wr.frozen? ⟨V,q*3+2,none⟩=false:=M.out.free;obtain⟨P,bE,u,bN,cm⟩:=J9 wr #[.bool bQ,.slice aV bR a6,.slice aW H a7] 30;obtain⟨bt,bu,b2⟩:=C0 bN;obtain⟨bI,bJ,bK⟩:=C0 cf.out;obtain⟨aM,aN,aO⟩:=C0 br.out;obtain⟨I,y,T⟩:=F0 (g bt (g bu (g b2 (g (A9 u bI) (g (A9 u bJ) (g (A9 u bK) (g (A9 u aM) (g (A9 u aN) (g (A9 u aO) (g (A9 u a2) (g (A9 u a3) (A9 u a4)))))))))))) (g (A9 u K) (g (A9 u L) (A9 u O))) (g (J5 u K af) (g (J5 u L ag) (J5 u O ah)));have ca:=nQ aJ u;have cb:=nQ aK u;have X:=i u;have cj:=R;have ac:=i R;obtain⟨z,al⟩:=nm (zlc (f q) (E c) (f c) (E q) d);have ab:=i al;have aZ:e (wr.heap.size≠V):=oH;have a0:e ((w.heap.size+1)≠V):=oH1 aa;have a1:e (w.heap.size≠V):=oH1 aa;have b9:e (IsQ P (C5 P) (.agg #[.bool aD,.slice au aE aA,.slice ay H l]) ((E c:Int):Rat)):=IsQ.stb.next b8.out u;have b7:e (IsQ P (C5 P) (.agg #[.bool aG,.slice av aH aB,.slice az H aC]) ((f c:Int):Rat)):=IsQ.stb.next bp.out u;have b0:e (NumS P (C5 P) (.slice D bd aR) d):=IsK.stb.next bZ.out u;clear eq bH bF bG bA bB bN cm u bt bu b2 af ag ah ch al R cj bI bJ bK aM aN aO;by_cases ak:q=c
    ·have ck:(((q:Int) !=(c:Int)):Bool)=false:=(by rw[ak];simp);have bh:=i ak;clear ak;go_wp2_with fail;clear bE;go_roundw;(case rel=>refine⟨q+1,ac.out,by go_num,L5 bg.out (K9 X.out),?_⟩;rw[<-bh.out];rw[e,yfr];have:=M.out.grow (fun x t=>k (G.out x t).1 A.out.size) X.out;rw[<-bh.out] at this;exact this);case measure=>simp[intOf];have:=ac.out;omega
    ·have ck:(((q:Int) !=(c:Int)):Bool)=true:=(by simp;omega);have b3:=i ak;clear ak;go_wp2_with fail;clear bE K L O a2 a3 a4;have W:=yia I.out.1 I.out.2.1 I.out.2.2.1 I.out.2.2.2.1 I.out.2.2.2.2.1 I.out.2.2.2.2.2.1 I.out.2.2.2.2.2.2.1 I.out.2.2.2.2.2.2.2.1 I.out.2.2.2.2.2.2.2.2.1 I.out.2.2.2.2.2.2.2.2.2.1 I.out.2.2.2.2.2.2.2.2.2.2.1 I.out.2.2.2.2.2.2.2.2.2.2.2;have bf:e (∀aL:j,Below P.heap.size P aL->p Tryz.prog 117 #[.agg #[.bool bQ,.slice aV bR a6,.slice aW H a7],.agg #[.bool aD,.slice au aE aA,.slice ay H l],.agg #[.bool aG,.slice av aH aB,.slice az H aC],.agg #[.bool cr,.slice b5 cs cn,.slice Q3 H cq],.slice D bd aR] aL (K8 aL (((z:Int)):Rat))):=fun aL ai=>(by have h:=zwc (IsQ.stb.next ca.out ai) (IsQ.stb.next b9.out ai) (IsQ.stb.next b7.out ai) (IsQ.stb.next cb.out ai) (F7 (IsK.stb.next b0.out ai)) ((ar.out q ac.out).1.le og) ((ar.out c hc).2.le og) ((ar.out c hc).1.le og) ((ar.out q ac.out).2.le og) (o cy.out og) cx.out;rw[Rat.num_intCast,Rat.num_intCast,Rat.num_intCast,Rat.num_intCast,<-ab.out] at h;exact h);have bi:=hpE q W (nA aZ.out (nA aZ.out (nA aZ.out (nA a0.out (nA a0.out (nA a0.out (nA a1.out (nA a1.out (nA a1.out (nA aQ.out (nA aQ.out (nZ aQ.out))))))))))))
     go_region_held3 (SH.mk _ W).s
      (first|exact W.out _ bel|exact bi.out _ bel _ _ _)
      (first
        |(go_at_call 117;(with_reducible refine Calls.mono (bf.out _ bel) ?_);rintro v J ⟨⟨aP,rfl,U⟩,N⟩;have Q:=bW P J;obtain⟨ae,an,ad,ao,rfl⟩:=zle U;have u0:=A9 Q.out y.out.1;have u1:=A9 Q.out y.out.2.1;have u2:=A9 Q.out y.out.2.2;have bO:=J5 Q.out y.out.1 T.out.1;have bP:=J5 Q.out y.out.2.1 T.out.2.1;have aP:=J5 Q.out y.out.2.2 T.out.2.2))
     have aU:=i ((M.out.grow (fun x t=>k (G.out x t).1 A.out.size) X.out).grow (fun x t=>k (G.out x t).1 (o A.out.size X.out.size)) Q.out);have bC:IsQ J (SN S w.heap.size J) (.agg #[.bool (decide (z<0)),.slice ae (A8 z.natAbs).length an,.slice ad (A8 1).length ao]) ((z:Int):Rat):=IsQ.stb.to U (G4 fun b F=> .inr ⟨by have cN:=A.out.size;have cO:=X.out.size;have cg:=F.1;simp at cg;omega,F.2⟩);have aT:=i bC;have R:=ac.out;have aS:=i (L5 (L5 bg.out (K9 X.out)) (K9 Q.out));clear W bi bf U N u0 u1 u2 bO bP aP bC;go_wp2_with fail;go_roundw
     case rel=>
      have aY:=aU.out.put (fun x t v=>by
       rcases t with t|t
       ·exact(G.out x t).2.1 v
       ·have:=aa.out;have:=t.1;omega) R aT.out
      refine⟨q+1,R,by go_num,zmr aS.out,?_⟩;have v:SN S w.heap.size (N8 J V q (.bool (decide (z<0))) (.slice ae (A8 z.natAbs).length an) (.slice ad (A8 1).length ao))=SN S w.heap.size J:=(by unfold SN;rw[zqw]);show LineW _ (SN S w.heap.size (N8 J V q _ _ _)) _ _ _ _;rw[v];exact aY.same fun a _=>by rw[ab.out];exact yfs f E b3.out a
     case measure=>simp[intOf];omega
   ·obtain rfl:q=m:=og;obtain⟨aV,a6,aW,a7,K,L,O,eq⟩:=M.out.el c hc;have bv:zlx f E c d q c=f c:=(by unfold zlx;rw[if_neg og]);rw[<-bT.out] at O;rw[bv] at K L;have af:wr.frozen? ⟨V,c*3,none⟩=false:=M.out.free;have ag:wr.frozen? ⟨V,c*3+1,none⟩=false:=M.out.free;have ah:wr.frozen? ⟨V,c*3+2,none⟩=false:=M.out.free;obtain⟨aM,aN,aO⟩:=C0 br.out;obtain⟨b1,y,T⟩:=F0 hc (g K (g L O)) (g af (g ag ah));clear K L O af ag ah eq bv;go_wp2_with fail;obtain⟨z,al⟩:=nm (-f c);have ab:=i al;clear al;refine(zrq (p:=((z:Int):Rat)) bp.out ((ar.out c hc).1) (by rw[ab.out,Rat.intCast_neg])).mono ?_;rintro v J ⟨⟨aP,rfl,U⟩,N⟩;obtain⟨ae,an,ad,ao,rfl⟩:=zle U;have u0:=A9 N y.out.1;have u1:=A9 N y.out.2.1;have u2:=A9 N y.out.2.2;have bO:=J5 N y.out.1 T.out.1;have bP:=J5 N y.out.2.1 T.out.2.1;have aP:=J5 N y.out.2.2 T.out.2.2;have aU:=i (M.out.grow (fun x t=>k (G.out x t).1 A.out.size) N);have aT:e (IsQ J (SN S w.heap.size J) (.agg #[.bool (decide (z<0)),.slice ae (A8 (z).natAbs).length an,.slice ad (A8 1).length ao]) ((z:Int):Rat)):=IsQ.stb.to U (G4 fun b F=> .inr ⟨o A.out.size F.1,F.2⟩);have aS:=i (L5 A.out (K9 N));clear U N aM aN aO;go_wp2_with fail;refine bodyPost_end (results_none rfl _ _ _) rfl ?_
    have aY:=aU.out.put (fun x t v=>by
     rcases t with t|t
     ·exact(G.out x t).2.1 v
     ·have:=aa.out;have:=t.1;omega) b1.out aT.out
    refine⟨rfl,?_,zmr aS.out⟩;have v:SN S w.heap.size (N8 J V c (.bool (decide (z<0))) (.slice ae (A8 (z).natAbs).length an) (.slice ad (A8 1).length ao))=SN S w.heap.size J:=(by unfold SN;rw[zqw]);show LineW _ (SN S w.heap.size (N8 J V c _ _ _)) _ _ _ _;rw[v];exact aY.same fun a ha=>by rw[ab.out];exact yfq f E a ha
end Go.Proofs.YtlhhbccgfkhflaaGreatDoor
