/-
 The contract of package dual's dot.
-/
import Derived.Test.YtlhhbccgfkhflaaGreatDoorDwv09
import Derived.Maps.OwnIn
namespace Go.Proofs.YtlhhbccgfkhflaaGreatDoor
open Go.RowKit Go.Shelf
open Go.RowKit
set_option linter.unusedVariables false
set_option maxRecDepth 100000
set_option maxHeartbeats 8000000
open _root_.Go.Lib renaming hid → e
open _root_.Nat renaming le_refl → m, le_trans → H, lt_or_ge → G, zero_le → I, mul_le_mul_right → B
open _root_.List renaming getD_eq_getElem?_getD → F, mem_of_getElem? → E, length_map → d, getElem?_map → s
open _root_.And renaming intro → r
open _root_.Go renaming World → c, Value → j, Calls → u, undef → f
variable {M g k n : Nat} {S : Nat → Prop} {W Y : c} {b : List Rat} {es xs : List j} {a : List (List Raw)} {i : List Nat} {o o' : Obj} {p : ProgQ} {t : TypeId} {tmps : Array j} {v va l : j}
attribute [local go_sem] Oper.semAt_some
set_option linter.unusedVariables false
def yap (w:c) (p:(Q3×Rat)×(Q3×Rat)):Prop:=IsQ w (C5 w) (q3 p.1.1) p.1.2/\IsQ w (C5 w) (q3 p.2.1) p.2.2/\Sz p.1.2 1024/\Sz p.2.2 1024
abbrev Pair (w:c):={p:(Q3×Rat)×(Q3×Rat)//yap w p}
def Pair.qs {w:c} (x:Pair w):Rat×Rat:=(x.1.1.2,x.1.2.2)
theorem zz1431 {w:c} (a:List (Pair w)) (b:a.length<=40):Sz (zkp (a.map Pair.qs)) 100000:=by refine(yec (n:=1024) (l:=a.map Pair.qs) fun p e=> ?_).le (by rw[d];have:=B (2*1024+1) b;omega);obtain⟨x,_,rfl⟩:=List.mem_map.1 e;exact⟨x.2.2.2.1,x.2.2.2.2⟩
theorem ygw {a:Type} {P:a->Prop} {l:List a} (h:∀x∈l,P x):∃z:List {x//P x},z.map Subtype.val=l:=by
 induction l with
 |nil=>exact⟨[],rfl⟩
 |cons x l ih=>obtain⟨z,rfl⟩:=ih fun y b=>h y (List.mem_cons_of_mem _ b);exact⟨⟨x,h x (List.mem_cons_self ..)⟩::z,rfl⟩
theorem ysx {w:c} {ea eb:List Q3} {a:List Rat} (ha:All2 (fun x f=>IsR w (C5 w) (q3 x) f) ea (C4 a)) (i:All2 (fun x f=>IsR w (C5 w) (q3 x) f) eb (C4 b)) (y:a.length=M) (A:b.length=M)
 (sa:∀q∈a,Sz q 1024) (sb:∀q∈b,Sz q 1024):∃z:List (Pair w),z.length=M/\z.map (fun x=>x.1.1.1)=ea/\z.map (fun x=>x.1.2.1)=eb/\z.map Pair.qs=a.zip b:=by
 have D:ea.length=M:=(by rw[ha.1];simpa[C4] using y);have F:eb.length=M:=by rw[i.1];simpa[C4] using A
 obtain⟨z,e⟩:=ygw (P:=yap w) (l:=(ea.zip a).zip (eb.zip b)) (by
  intro x o;obtain⟨l,j⟩:=List.getElem?_of_mem o;rw[List.getElem?_zip_eq_some,List.getElem?_zip_eq_some,List.getElem?_zip_eq_some] at j;obtain⟨⟨m,g⟩,n,h⟩:=j;refine⟨ha.2 l _ _ m ?_,i.2 l _ _ n ?_,sa _ (E g),sb _ (E h)⟩
  ·rw[C4,s,g];rfl
  ·rw[C4,s,h];rfl)
 have r:(ea.zip a).map Prod.fst=ea:=List.map_fst_zip og;have t:(ea.zip a).map Prod.snd=a:=List.map_snd_zip og;have u:(eb.zip b).map Prod.fst=eb:=List.map_fst_zip og;have v:(eb.zip b).map Prod.snd=b:=List.map_snd_zip og;have B:((ea.zip a).zip (eb.zip b)).map Prod.fst=ea.zip a:=List.map_fst_zip (by rw[List.length_zip,List.length_zip];omega);have C:((ea.zip a).zip (eb.zip b)).map Prod.snd=eb.zip b:=List.map_snd_zip (by rw[List.length_zip,List.length_zip];omega);refine⟨z,?_,?_,?_,?_⟩
 ·rw[<-d (f:=Subtype.val),e,List.length_zip,List.length_zip,List.length_zip];omega
 ·rw[<-r,<-B,<-e,List.map_map,List.map_map];rfl
 ·rw[<-u,<-C,<-e,List.map_map,List.map_map];rfl
 ·have:z.map Pair.qs=(z.map Subtype.val).map (fun p=>(p.1.2,p.2.2)):=(by rw[List.map_map];rfl);have k:=List.zip_map (f:=(Prod.snd:Q3×Rat->Rat)) (g:=(Prod.snd:Q3×Rat->Rat)) (l₁:=ea.zip a) (l₂:=eb.zip b);rw[t,v] at k;rw[this,e,k];rfl
theorem zxl {w:c} {b o:Nat} (h:w.cell? ⟨b,o,none⟩=some v):∃obj,w.heap[b]? =some obj/\obj.isCells=true:=by
 unfold World.cell? at h;cases a:w.heap[b]? with
 |none=>simp[a] at h
 |some obj=>cases obj with
  |cells g t i=>exact⟨_,rfl,rfl⟩
  |_=>simp[a] at h
def yer (w:c) (S:Nat->Prop):Nat->Prop:=fun b=>S b/\∃obj,w.heap[b]? =some obj/\obj.isCells=true
theorem IsK.cells {k:IntKind} {w:c} {a:List Nat} (h:IsK k w S v a):IsK k w (yer w S) v a:=by
 obtain⟨A,l,hv,n,o,p⟩:=h;refine⟨A,l,hv,n,o,fun g=> ?_⟩;obtain⟨b,off,q,x,hc⟩:=p g;refine⟨b,off,q,⟨x,?_⟩,hc⟩;cases i:F6 k a with
 |nil=>exact absurd i g
 |cons y t=>exact zxl (hc 0 y (by rw[i];rfl))
theorem IsQ.cells {w:c} {q:Rat} (h:IsQ w S v q):IsQ w (yer w S) v q:=by obtain⟨A,a,B,d,hv,b,e⟩:=h;exact⟨A,a,B,d,hv,b.cells,e.cells⟩
theorem IsQ.others {X:c} {row:Option Nat} {q:Rat} (h:IsQ X S v q) (j:X.grownBy Y row) (k:∀g,row=some g->∃o,X.heap[g]? =some o/\o.isCells=false):IsQ Y S v q:=by refine IsQ.stb.to h.cells fun b a=>⟨a.1,fun o=> ?_⟩;obtain⟨obj,e,hc⟩:=a.2;refine World.cell?_of_block (j.block b (Array.getElem?_eq_some_iff.1 e).1 fun i=> ?_);obtain⟨l,f,d⟩:=k b i.symm;rw[e] at f;cases f;rw[hc] at d;cases d
theorem Row.others {X:c} {row:Option Nat} (h:Row X g t xs) (f:X.grownBy Y row) (i:∀b,row=some b->∃o,X.heap[b]? =some o/\o.isCells=false):Row Y g t xs:=by refine h.grown f fun d=> ?_;obtain⟨j,a,e⟩:=i g d.symm;rw[show X.heap[g]? =_ from h] at a;cases a;cases e
def yeu (s:Nat) {w:c} (pre:List (Pair w)) (W:c):Prop:=
 ∃sg d a,Row W s 30 [.bool sg,d,a]/\IsQ W (fun b=>(w.heap.size<b/\b<W.heap.size)/\b≠s) (.agg #[.bool sg,d,a]) (zkp (pre.map Pair.qs))
theorem yrx (s:Nat) {w:c}:Go.Own (yeu s (w:=w)):=by rintro pre X Y row ⟨sg,i,h,f,g⟩ d e;refine⟨sg,i,h,f.others d e,?_⟩;exact IsQ.stb.to (g.others d e) (G4 fun b a=>⟨⟨a.1.1,Nat.lt_of_lt_of_le a.1.2 d.size⟩,a.2⟩)
theorem zzn {e:Type} (c g:Nat):OwnFrom c (fun(_:e) W=>Row W g t xs):=fun _ _ _ _ h b hr=>h.others b fun d a=>(hr d a).2
theorem ymg {c:Type} (b n:Nat):OwnFrom b (fun(_:c) W=>n<=W.heap.size):=fun _ _ _ _ h a _=>H h a.size
def q3c (x:Q3):List j:=[.bool x.1,.slice x.2.1.1 x.2.1.2.1 x.2.1.2.2,.slice x.2.2.1 x.2.2.2.1 x.2.2.2.2]
def yet (n:Nat) (e:Nat->Nat->Q3->Q3->Array j) {w:c} (x:Pair w) (a:Act) (W:c):Prop:=
 ∃b d,a={tmps:=e b d x.1.1.1 x.1.2.1,defers:=[]}/\n<=b/\n<=d/\Row W b 30 (q3c x.1.1.1)/\Row W d 30 (q3c x.1.2.1)
theorem yrw (n p:Nat) (f:Nat->Nat->Q3->Q3->Array j) {w:c} (x:Pair w) (a:Act):OwnFrom p (fun(_:Unit) W=>yet n f x a W):=by rintro _ X Y row ⟨g,h,i,k,l,m,o⟩ e hr;exact⟨g,h,i,k,l,m.others e (fun d b=>(hr d b).2),o.others e (fun d b=>(hr d b).2)⟩
theorem zwj {a:c} (h:Below W.heap.size W a):KeepsOthers W a:=
 ⟨h.size,fun d o b _=>(h.block d (Array.getElem?_eq_some_iff.1 b).1).trans b⟩
theorem zyh (w:c) (g:Nat) (a b d:j) (h:k≠g):(put3 w g a b d).heap[k]? =w.heap[k]? :=by rw[put3,Below.heap_setCell _ _ _ _ h,Below.heap_setCell _ _ _ _ h,Below.heap_setCell _ _ _ _ h]
theorem yuw (w:c) (g:Nat) (a b d:j):KeepsOthers w (put3 w g a b d):=((KeepsOthers.setCell _ _ _).trans (KeepsOthers.setCell _ _ _)).trans (KeepsOthers.setCell _ _ _)
theorem yuz {a B s:Nat} (W:c) (x y z:j) (h:a<=s) (b:B≠s) (d:B+1≠s):zox a B va l W (put3 W s x y z):=
 ⟨zoy (Below.refl _ _) h _ _ _,fun h=>(zyh _ _ _ _ _ b).trans h,fun h=>(zyh _ _ _ _ _ d).trans h⟩
theorem zz1377 {fn:Func} {slot:Tmp} {w:c} {x y z:j} (hr:fn.results= #[.cell slot 30]) (ha:tmps.getD slot f= .pointer (some ⟨g,0,none⟩))
 (h:Row w g 30 [x,y,z]):(results fn tmps).run Tryz.prog w= .ok (.agg #[x,y,z]) w:=by obtain⟨a,b,d⟩:=C0 h;have e:tmps[slot]?.getD f= .pointer (some ⟨g,0,none⟩):=(by simpa using ha);simp[results,hr,e,asAddr,go_sem,a,b,d]
theorem zz1352 {D:Nat} {q:Rat} (h:IsQ W S v q) (hD:W.heap[D]? =some o) (b:o.isCells=false):IsQ (W.putObj D o') S v q:=
 h.others (grownBy_putObj' W D o') (fun c a=>by cases a;exact⟨o,hD,b⟩)
theorem Row.putD {D:Nat} (h:Row W g t xs) (hD:W.heap[D]? =some o) (b:o.isCells=false):Row (W.putObj D o') g t xs:=
 h.others (grownBy_putObj' W D o') (fun c a=>by cases a;exact⟨o,hD,b⟩)
theorem zng {w:c} {a:List Rat} (ha:IsV w (C5 w) va (C4 a)) (g:IsV w (C5 w) l (C4 b)) (a9:Bru w) (aG:a.length=M) (aH:b.length=M) (dM:M<=40) (sa:∀q∈a,Sz q 1024) (sb:∀q∈b,Sz q 1024):
 u Tryz.prog 97 #[va,l] w (K8 w (H7 a b)):=by
 obtain⟨A,R,rfl,_⟩:=J6 ha;obtain⟨B,d,rfl,_⟩:=J6 g;have aB:(C4 a).length=M:=(by simp[C4,aG]);have aC:(C4 b).length=M:=(by simp[C4,aH]);rw[aB] at ha;rw[aC] at g;rw[aB,aC];obtain⟨ea,bf,c1,bg⟩:=ycc ha;obtain⟨eb,bh,c2,bi⟩:=ycc g;obtain⟨z,bq,rfl,rfl,bt⟩:=ysx bg bi aG aH sa sb;obtain⟨bY,bZ,cb,bQ⟩:=V7 bf bh bq a9;have b3:Hid (H7 a b=zkp (z.map Pair.qs)):=(by rw[Hid,bt];rfl);clear ha g bf c1 bg bh c2 bi aG aH aB aC sa sb a9 bq bt;obtain⟨db,c7,bd,k,aU⟩:=J9 w #[.bool false,.slice none 0 0,.slice none 0 0] 30;obtain⟨cd,bV⟩:=C7 k bd;clear k bd;refine(callsIn_wide (n:=3)).1 ?_;refine callsIn_of_wp_marks Tryz.func97 rfl trivial ?_ rfl;simp only[Tryz.ntmps97,List.size_toArray,List.length_cons,List.length_nil,Nat.reduceAdd,Nat.reduceSub,Array.replicate_succ,Array.replicate_zero,List.push_toArray,List.append_toArray,List.nil_append,List.cons_append];refine wpIn_wide.2 ?_;go_wp2_with fail;clear c7;refine(zrb _).mono ?_;rintro aA j ⟨⟨eh,rfl,hv⟩,g⟩;obtain⟨aP,af,aL,ae,aM,rfl,_,_,_⟩:=F9 hv;have b9:=e hv;have bX:=nB bV g;have cf:=e (cd.out.next g);have dV:db.heap.size<=j.heap.size:=g.size;clear hv g;go_wp2_with fail;refine(zz1487 _ _ _ _ _ _ _).mono ?_;rintro aA C ⟨rfl,aE,ay,az,br⟩;rw[World.size_alloc] at ay az br;have Y:Below j.heap.size j C:=((Below.refl _ j).alloc (m _) _).trans (aE.mono (by simp));have cc:Hid (Row C j.heap.size 30 [.bool aP,.slice af (A8 0).length aL,.slice ae (A8 1).length aM]):=Row.next (heap_alloc_new j _) aE
 have bU:Hid (IsQ C (fun b=>(w.heap.size<b/\b<C.heap.size)/\b≠j.heap.size) (.agg #[.bool aP,.slice af (A8 0).length aL,.slice ae (A8 1).length aM]) (zkp (([]:List (Pair w)).map Pair.qs))):=
  IsQ.stb.to b9.out (fun x i=>⟨⟨⟨by have:=i.1;have:=aU.out;omega,by have:=i.2;omega⟩,by have:=i.2;omega⟩,fun o=>Y.cell (p:=⟨x,o,none⟩) i.2⟩)
 have L:=nB bX Y;obtain⟨cg,aS⟩:=C7 (cf.out.next Y) (r ay az);simp only[World.size_alloc] at br⊢;clear aE Y ay az;go_wp2_with fail;have aJ:w.heap.size<=C.heap.size:=L.out.size;have dT:w.heap.size+1<=j.heap.size:=oh aU;refine(wpIn_wide (n:=3)).1 ?_
 refine wpIn_rangeFunc_ownH rfl og (gf:=185) (lb:= #[.pointer (some ⟨j.heap.size+1,0,none⟩),.pointer (some ⟨j.heap.size+1+1,0,none⟩)]) rfl trivial (enters_of Tryz.func185 kr rfl)
  (zz1488 (fun x=>x.1.1.1) (fun x=>x.1.2.1) z 2 og w.heap.size (j.heap.size+1) A B R d M cb.out og C og aS.out.1 aS.out.2 (bY.out.below L.out (m _)) (bZ.out.below L.out (m _)) aJ)
  ych (yux aJ) (Below.refl _ _) (fun _=>rfl)
  (fun pre W=>yeu j.heap.size pre W/\Below w.heap.size w W/\Row W w.heap.size 30 [.bool false,.slice none 0 0,.slice none 0 0]/\C.heap.size<=W.heap.size) (fun _ _ _=>False)
  (OwnFrom.and (Own.from (yrx _) _) (OwnFrom.and (ownFrom_below (m _) aJ) (OwnFrom.and (zzn _ _) (ymg _ _)))) (fun _ _ _ _ _ c6 _ _=>c6)
  ⟨⟨_,_,_,cc.out,bU.out⟩,L.out,cg.out,m _⟩
  (yet C.heap.size (fun a7 a8 x y=> #[.slice A M R,.slice B M d,f,f,.pointer (some ⟨w.heap.size,0,none⟩),.pointer (some ⟨j.heap.size,0,none⟩),.pointer (some ⟨a7,0,none⟩),.pointer (some ⟨a8,0,none⟩),
    .agg #[.bool aP,.slice af (A8 0).length aL,.slice ae (A8 1).length aM],.slice A M R,.slice B M d,.func (.func 185) #[] #[.pointer (some ⟨j.heap.size+1,0,none⟩),.pointer (some ⟨j.heap.size+1+1,0,none⟩)],
    q3 x,q3 y,f,f,f,f,f,f])) (fun _ _=>yrw _ _ _ _ _) ?assign ?body ?done ?stop
 case assign=>rintro c8 pre ⟨⟨⟨⟨bC,⟨bD,bE,bF⟩,⟨bG,bH,bI⟩⟩,aN⟩,⟨⟨bJ,⟨bK,bL,bM⟩,⟨bN,bO,bP⟩⟩,aO⟩⟩,t⟩ W dd ⟨⟨sg,bB,bA,v,s⟩,n,k,Z⟩ U;obtain⟨dq,dN,be,G,H,bu⟩:=zkd W #[.bool bC,.slice bD bE bF,.slice bG bH bI] #[.bool bJ,.slice bK bL bM,.slice bN bO bP] 30 30;obtain⟨aT,F,ad,E⟩:=V7 (r G H) be (r v s) (r n k);clear G H be v s n k;dsimp only[q3];gi_wp2;have aK:w.heap.size<=W.heap.size:=E.out.1.size;have dW:j.heap.size<W.heap.size:=ad.out.1.lt;refine U _ _ ((zwj F.out).from _) (yip F.out aK) ⟨⟨_,_,_,ad.out.1.next F.out,IsQ.stb.to ad.out.2 (fun x i=>⟨⟨⟨i.1.1,by have:=bu.out;have:=i.1.2;omega⟩,i.2⟩,fun o=>F.out.cell (p:=⟨x,o,none⟩) i.1.2⟩)⟩,C8 E.out.1 F.out,E.out.2.next F.out,by have:=bu.out;omega⟩ ⟨_,_,rfl,Z,by omega,aT.out.1,aT.out.2⟩
 case body=>
  rintro c8 pre x dr W dQ dU ⟨⟨sg,bB,bA,v,s⟩,n,k,Z⟩ ⟨a7,a8,rfl,dO,dP,G,H⟩ dR;have aI:(pre++[x]).map Pair.qs=pre.map Pair.qs++[(x.1.1.2,x.1.2.2)]:=(by rw[List.map_append];rfl);generalize pre++[x]=c9 at aI⊢;obtain⟨⟨⟨⟨bC,⟨bD,bE,bF⟩,⟨bG,bH,bI⟩⟩,aN⟩,⟨⟨bJ,⟨bK,bL,bM⟩,⟨bN,bO,bP⟩⟩,aO⟩⟩,t⟩:=x;dsimp only[q3,q3c,yap] at G H t⊢;obtain⟨aZ,X⟩:=nm (zkp (pre.map Pair.qs));obtain⟨p,aa⟩:=nm (aN*aO);obtain⟨cl,aD⟩:=nm (aZ+p);have bj:cl=zkp (c9.map Pair.qs):=(by rw[aI,zz1432,aD,X,aa]);have b0:=e bj;have b5:Hid (Sz aZ 100000):=(by rw[Hid,X];exact zz1431 pre og);have b4:Hid (Sz p 100000):=(by rw[Hid,aa];exact(t.2.2.1.mul t.2.2.2).le og);have b7:Hid (Sz aN 100000):=t.2.2.1.le og;have b8:Hid (Sz aO 100000):=t.2.2.2.le og;rw[<-X] at s;obtain⟨b1,bT⟩:=C7 aa aD;have aK:w.heap.size<=W.heap.size:=n.size;have E:=e (r n k);have bp:=IsQ.stb.to s (T:=C5 W) (G4 fun b g=>g.1.2);clear s;obtain⟨aV,aX,au,N,ak,ao,a1⟩:=hd7 (IsQ.stb.to t.1 (C9 n)) (IsQ.stb.to t.2.1 (C9 n)) (bp) (v) (G) (H) (k);have aR:=nU bQ n;obtain⟨a4,bw⟩:=C7 (Below.refl W.heap.size W) (m W.heap.size);obtain⟨da,J,S,K,T,I,_,_,_⟩:=F9 au.out;simp only[Value.agg.injEq,Array.mk.injEq,List.cons.injEq,Value.bool.injEq] at I;obtain⟨rfl,rfl,rfl,_⟩:=I;clear v G H k t n bp X aa aD bj aI;obtain⟨cq,ct,cw⟩:=C0 N.out;obtain⟨cR,cU,cX⟩:=E9 N.out;obtain⟨cz,cC,cF⟩:=C0 ak.out;obtain⟨cI,cL,cO⟩:=C0 ao.out;gi_wp2;have dS:Tryz.prog.follows .mixedOrders=true:=(by kernel_rfl);have ah:=nQ aV (L8 _);have ai:=nQ aX (L8 _);have a0:=nQ au (L8 _);have O:=nR N (L8 _);have al:=nR ak (L8 _);have aq:=nR ao (L8 _);have a2:=nR a1 (L8 _);have ab:=nU aR (L8 _);have a5:=nB a4 (L8 _);have bx:=nS bw (L8 _);clear aV aX au N ak ao a1 aR a4 bw;clear cq ct cw cR cU cX cz cC cF cI cL cO;obtain⟨cr,cu,cx⟩:=C0 O.out;obtain⟨cS,cV,cY⟩:=E9 O.out;obtain⟨cA,cD,cG⟩:=C0 al.out;obtain⟨cJ,cM,cP⟩:=C0 aq.out
  gi_region_with_o (first
   |((refine r trivial ?_);gi_at_call 131;have hc:=zz1445 ah.out ai.out ab.out b7.out b8.out b1.out;(with_reducible refine CallsIn.inRound _ (callsIn_wide.2 (hc.mono ?_)));clear hc;rintro aA ek ⟨⟨ei,rfl,bm⟩,g⟩;have newP:=e (IsQ.stb.old bm);have aW:=nQ ah g;have aY:=nQ ai g;have av:=nQ a0 g;have P:=nR O g;have an:=nR al g;have ar:=nR aq g;have a3:=nR a2 g;have ac:=nU ab g;have a6:=nB a5 g;have aQ:=nS bx g;clear ah ai a0 O al aq a2 ab a5 bx;have ag:=newP;clear newP;obtain⟨ed,dh,dX,de,dZ,rfl,_,_,_⟩:=F9 bm;clear cr cu cx cS cV cY cA cD cG cJ cM cP;obtain⟨cs,cv,cy⟩:=C0 P.out;obtain⟨cT,cW,cZ⟩:=E9 P.out;obtain⟨cB,cE,cH⟩:=C0 an.out;obtain⟨cK,cN,cQ⟩:=C0 ar.out)
   |((refine r trivial ?_);gi_at_call 133;have hc:=ykt av.out ag.out ac.out b5.out b4.out bT.out;(with_reducible refine CallsIn.inRound _ (callsIn_wide.2 (hc.mono ?_)));clear hc;rintro aA em ⟨⟨ej,rfl,bn⟩,g⟩;have bv:=e (IsQ.stb.le bn aQ.out);have dk:=nQ aW g;have dm:=nQ aY g;have dp:=nQ av g;have aj:=nR P g;have cj:=nR an g;have ck:=nR ar g;have cn:=nR a3 g;have dc:=nU ac g;have Q:=nB a6 g;have eg:=nS aQ g;have dj:=nQ ag g;clear aW aY av P an ar a3 ac a6 aQ ag;have cm:=bv;clear bv;obtain⟨ee,di,dY,df,ec,rfl,_,_,_⟩:=F9 bn;clear cs cv cy cT cW cZ cB cE cH cK cN cQ;obtain⟨dv,dw,dx⟩:=C0 aj.out;obtain⟨dJ,dK,dL⟩:=E9 aj.out;obtain⟨dy,dz,dA⟩:=C0 cj.out;obtain⟨dB,dC,dD⟩:=C0 ck.out))
  all_goals(
   change KeepsFrom _ _ _/\zox _ _ _ _ _ _/\_
   have c4:=zzw Z Q.out
   refine⟨((zwj Q.out).trans (yuw _ _ _ _ _)).from _,ych (yip Q.out aK) (yuz _ _ _ _ og og og),⟨_,_,_,Row.put3 aj.out _ _ _,?_⟩,zoy (C8 E.out.1 Q.out) og _ _ _,(zyh _ _ _ _ _ og).trans cn.out,by rw[zqi];exact c4⟩
   rw[<-b0.out]
   exact IsQ.stb.to cm.out (zqh fun x i=>⟨by have:=i.1;omega,by have:=i.1;rw[zqi];exact⟨⟨by omega,i.2⟩,by omega⟩⟩))
 case done=>
  rintro D xs W hD rfl ⟨⟨sg,bB,bA,v,s⟩,n,k,Z⟩ U;obtain⟨ca,E,dn,ch,bR⟩:=hd5 s n v k U;obtain⟨da,J,S,K,T,I,_,_,_⟩:=F9 s;simp only[Value.agg.injEq,Array.mk.injEq,List.cons.injEq,Value.bool.injEq] at I;obtain⟨rfl,rfl,rfl,_⟩:=I;obtain⟨ds,dt,du⟩:=C0 v;obtain⟨d0,dE,dF⟩:=C0 k;obtain⟨dG,dH,dI⟩:=E9 k;clear s n v k U;go_wp2_with fail;have c3:D≠w.heap.size:=og;have V:=(zyh W w.heap.size (.bool sg) (.slice J (A8 (zkp (xs.map Pair.qs)).num.natAbs).length S) (.slice K (A8 (zkp (xs.map Pair.qs)).den).length T) c3).trans bR.out;have c5:=(Row.put3 ch.out (.bool sg) (.slice J (A8 (zkp (xs.map Pair.qs)).num.natAbs).length S) (.slice K (A8 (zkp (xs.map Pair.qs)).den).length T)).putD (o':= .deferred none) V rfl;refine⟨by simp,.inl ⟨_,_,rfl,run_takeDeferred V,?_⟩⟩;refine⟨.agg #[.bool sg,.slice J (A8 (zkp (xs.map Pair.qs)).num.natAbs).length S,.slice K (A8 (zkp (xs.map Pair.qs)).den).length T],zz1377 rfl rfl c5,⟨_,rfl,?_⟩,?_⟩
  ·rw[b3.out];refine zz1352 (IsQ.stb.to ca.out (zqh fun x i=>⟨by have:=i.1;omega,?_⟩)) V rfl;have c0:=i.1;refine⟨by omega,?_⟩;rw[World.putObj_size,zqi];exact c0.2
  ·exact(zoy E.out (m _) _ _ _).trans (belowK_b (w:=w) (m _) _ D _ _ og V rfl rfl)
 case stop=>rintro D R pre W _ _ h _;exact h.elim
def Y4 (A:List (List Rat)) (C y:List Rat):Bool:=(List.range C.length).all (fun k=>decide (C.getD k 0<=H7 (U1 A k) y))&& !zlv (C4 y)
theorem ybd {a:Nat->Bool} (h:∀k,k<n->a k=true):(List.range n).all a=true:=List.all_eq_true.2 fun k b=>h k (List.mem_range.1 b)
theorem ybc {a:Nat->Bool} (b:k<n) (h:a k=false):(List.range n).all a=false:=by
 cases g:(List.range n).all a with
 |false=>rfl
 |true=>have:=List.all_eq_true.1 g k (List.mem_range.2 b);rw[h] at this;cases this
theorem zsi {A:List (List Rat)} (h:∀row∈A,∀q∈row,Sz q n) (b:1<=n):∀q∈U1 A k,Sz q n:=by
 intro q g;obtain⟨row,i,rfl⟩:=List.mem_map.1 g;cases a:row[k]? with
 |none=>rw[F,a];exact Sz.zero.le b
 |some q=>rw[F,a];exact h row i q (E a)
theorem zth (A:List (List Rat)) (k:Nat):(U1 A k).length=A.length:=d _
theorem zku (a:List Rat):(C4 a).length=a.length:=d _
theorem zmi (a:List (List Rat)):(I0 a).length=a.length:=d _
theorem zz1429 {n:Nat} {a:List (Rat×Rat)} (b:a.length<=40) (h:∀p∈a,Sz p.1 1024/\Sz p.2 1024):Sz (zkp a) 100000:=(yec h).le (by have:=B (2*1024+1) b;omega)
theorem zsj {a:List Rat} (ha:∀q∈a,Sz q 1024) (d:∀q∈b,Sz q 1024) (e:a.length<=40):Sz (H7 a b) 100000:=by refine zz1429 (n:=1024) (by rw[List.length_zip];omega) fun p c=> ?_;exact⟨ha _ (List.of_mem_zip c).1,d _ (List.of_mem_zip c).2⟩
theorem yab {w:c} {vp vy:j} {y:List Rat} (bM:IsP w (C5 w) vp (I8 p)) (aa:IsV w (C5 w) vy (C4 y)) (a8:Bru w) (aK:Good p 1024) (bf:y.length=p.B.length) (bg:∀q∈y,Sz q 1024):
 u Tryz.prog 158 #[vp,vy] w fun r w'=>r= .returned (.bool (Y4 p.A p.C y))/\Below w.heap.size w w':=by
 obtain⟨A,S,B,a6,C,a7,rfl,aI,a9,W⟩:=bM;obtain⟨D,b0,rfl,_⟩:=J6 aa;simp only[I8,zku,zmi] at aI a9 W aa⊢;obtain⟨a,a0,ae,bn,bm,aX,aY⟩:=hd7 aK bf bg a8 aI W aa;obtain⟨n,Z⟩:=nm (p.C.length);have L:=e Z;have bV:n<=40:=(by rw[Z];exact aK.nC);rw[<-Z] at W⊢;clear aI a9 W aa a8 aK bf bg Z;rw[<-L.out] at aX;obtain⟨b8,bN,bd,aR,bX⟩:=J9 w #[.slice A p.A.length S,.slice B p.B.length a6,.slice C n a7] 136;obtain⟨bB,bp⟩:=C7 aR bd;obtain⟨T,U,V⟩:=C0 aR;clear aR bd;go_in;go_wp2_with fail;clear bN T U V;go_loopw [11] (fun aO wr=>∃k:Nat,k<=n/\aO= .int .i64 (k:Int)/\Below w.heap.size w wr/\Row wr w.heap.size 136 [.slice A p.A.length S,.slice B p.B.length a6,.slice C n a7]/\Hid (∀t,t<k->decide (p.C.getD t 0<=H7 (U1 p.A t) y)=true)) (fun aO _=>n-(intOf aO).toNat);case atStart=>exact⟨0,I _,rfl,bp.out,bB.out,fun t bL=>by omega⟩
 case round=>
  obtain⟨k,b7,rfl,M,O,hrel⟩:=hrel;have a1:=e hrel.out;clear hrel;rcases G k n with Y|b5
  ·obtain⟨m,hc,be⟩:=zph (l:=p.C) (j:=k) (by rw[<-L.out];exact Y);obtain⟨b,off,ag,aP,ah,aQ,rfl,b4,aJ,ai,aj,ak⟩:=zmt (IsV.stb.to aX.out (C9 M)) be;have b1:=N9;obtain⟨s,aL⟩:=nm ((E0 m).neg);obtain⟨aS,aM⟩:=nm ((E0 m).num.length);obtain⟨aT,aN⟩:=nm ((E0 m).den.length);rw[<-aL] at ai;rw[<-aM] at aj;rw[<-aN] at ak;rw[<-aL,<-aM,<-aN] at aJ;obtain⟨bu,aZ⟩:=C7 aJ hc;have a2:Hid (Sz m 100000):=(a.out.szC m (E hc)).le og;obtain⟨d,hd⟩:=nm (H7 (U1 p.A k) y);have R:=e hd;have a3:Hid (Sz d 100000):=(by rw[Hid,hd];exact zsj (zsi a.out.szA og) ae.out (by rw[zth,a.out.rows];exact a.out.nB));clear aJ hc be aL aM aN hd;obtain⟨bj,bh,X,bi,bY⟩:=J9 wr #[.bool s,.slice ag aS aP,.slice ah aT aQ] 30;have i:=C8 M X;obtain⟨aU,a4,aW,g,l,a5⟩:=zpu (IsM.stb.to bm.out (C9 i)) (IsV.stb.to aY.out (C9 i)) (IsQ.stb.next (zpd bu.out) X) (O.next X) (bi) (i);have aV:=nU bn i;have b3:wr.heap.size≠w.heap.size:=(by have:=O.lt;omega);obtain⟨T,U,V⟩:=C0 O;clear M O X i bi;rcases Decidable.em (d<m) with z|z
   ·obtain⟨o,J⟩:=nm (V6 d m);have bK:o<0:=(by rw[J,zvx z];omega);have ac:Hid (Y4 p.A p.C y=false):=(by rw[Hid,Y4,ybc (k:=k) (by rw[<-L.out];exact Y) (decide_eq_false (by rw[F,aZ.out,<-R.out];exact Rat.not_le.2 z))];rfl);have ad:=e J;clear J z;go_wp2_with fail;clear bh T U V ai aj ak;obtain⟨aD,bC,bG⟩:=C0 g.out;obtain⟨al,ar,az⟩:=C0 l.out
    go_region_held3 (fun w'=>w'.cell? ⟨w.heap.size,0,none⟩=some (.slice A p.A.length S)/\w'.cell? ⟨wr.heap.size,0,none⟩=some (.bool s)/\w'.cell? ⟨wr.heap.size,1,none⟩=some (.slice ag aS aP)/\w'.cell? ⟨wr.heap.size,2,none⟩=some (.slice ah aT aQ))
     (first
       |exact⟨aD,al,ar,az⟩
       |exact⟨aE,an,au,aA⟩
       |exact⟨aG,ao,av,aB⟩
       |exact⟨aH,aq,ay,aC⟩)
     (first
       |(go_at_call 98;have hc:=zwb (n:=n) (uM bj.drew aU) (by rw[a.out.rows];exact H a.out.nB og) (fun row hr=>(a.out.cols row hr).trans L.out.symm) Y og;(with_reducible refine hc.mono ?_);clear hc;rintro r f ⟨⟨bT,rfl,P⟩,x⟩;have af:=e (P);obtain⟨bx,bO,rfl,_⟩:=J6 P;obtain⟨aE,bD,bH⟩:=C0 (uR f g);obtain⟨an,au,aA⟩:=C0 (uR f l))
       |(go_at_call 97;have hc:=(show u _ _ _ _ (K8 _ d) from by rw[R.out];exact zng (M:=p.B.length) af.out (uV f a4) (uU f aV) (by rw[zth];exact a.out.rows) a0.out a.out.nB (zsi a.out.szA og) ae.out);(with_reducible refine hc.mono ?_);clear hc;rintro r K ⟨⟨bU,rfl,Q⟩,x⟩;have ab:=e (IsQ.stb.old Q);obtain⟨bR,bA,bP,bw,bQ,rfl,_,_,_⟩:=F9 Q;obtain⟨aG,bE,bI⟩:=C0 (uR K g);obtain⟨ao,av,aB⟩:=C0 (uR K l))
       |(go_at_call 96;have hc:=zon ab.out (uQ K aW) a3.out a2.out;(with_reducible refine hc.mono ?_);clear hc;rintro r v ⟨N,x⟩;rw[<-ad.out] at N;subst N;obtain⟨aH,bF,bJ⟩:=C0 (uR v g);obtain⟨aq,ay,aC⟩:=C0 (uR v l)))
    go_wp2_with fail;go_ret;exact⟨zpi ac.out.symm,(uB v a5)⟩
   ·obtain⟨o,J⟩:=nm (V6 d m);have bK:¬o<0:=(by rw[J];unfold V6;rw[if_neg z];split<;>omega);have bv:Hid (decide (p.C.getD k 0<=H7 (U1 p.A k) y)=true):=decide_eq_true (by rw[F,aZ.out,<-R.out];exact Rat.not_lt.1 z);have ad:=e J;clear J z;go_wp2_with fail;clear bh T U V ai aj ak;obtain⟨aD,bC,bG⟩:=C0 g.out;obtain⟨al,ar,az⟩:=C0 l.out
    go_region_held3 (fun w'=>w'.cell? ⟨w.heap.size,0,none⟩=some (.slice A p.A.length S)/\w'.cell? ⟨wr.heap.size,0,none⟩=some (.bool s)/\w'.cell? ⟨wr.heap.size,1,none⟩=some (.slice ag aS aP)/\w'.cell? ⟨wr.heap.size,2,none⟩=some (.slice ah aT aQ))
     (first
       |exact⟨aD,al,ar,az⟩
       |exact⟨aE,an,au,aA⟩
       |exact⟨aG,ao,av,aB⟩
       |exact⟨aH,aq,ay,aC⟩)
     (first
       |(go_at_call 98;have hc:=zwb (n:=n) (uM bj.drew aU) (by rw[a.out.rows];exact H a.out.nB og) (fun row hr=>(a.out.cols row hr).trans L.out.symm) Y og;(with_reducible refine hc.mono ?_);clear hc;rintro r f ⟨⟨bT,rfl,P⟩,x⟩;have af:=e (P);obtain⟨bx,bO,rfl,_⟩:=J6 P;obtain⟨aE,bD,bH⟩:=C0 (uR f g);obtain⟨an,au,aA⟩:=C0 (uR f l))
       |(go_at_call 97;have hc:=(show u _ _ _ _ (K8 _ d) from by rw[R.out];exact zng (M:=p.B.length) af.out (uV f a4) (uU f aV) (by rw[zth];exact a.out.rows) a0.out a.out.nB (zsi a.out.szA og) ae.out);(with_reducible refine hc.mono ?_);clear hc;rintro r K ⟨⟨bU,rfl,Q⟩,x⟩;have ab:=e (IsQ.stb.old Q);obtain⟨bR,bA,bP,bw,bQ,rfl,_,_,_⟩:=F9 Q;obtain⟨aG,bE,bI⟩:=C0 (uR K g);obtain⟨ao,av,aB⟩:=C0 (uR K l))
       |(go_at_call 96;have hc:=zon ab.out (uQ K aW) a3.out a2.out;(with_reducible refine hc.mono ?_);clear hc;rintro r v ⟨N,x⟩;rw[<-ad.out] at N;subst N;obtain⟨aH,bF,bJ⟩:=C0 (uR v g);obtain⟨aq,ay,aC⟩:=C0 (uR v l)))
    go_wp2_with fail;go_roundw
    case rel=>
     refine⟨k+1,by omega,by go_num,(uB v a5),(uR v g),fun t bL=> ?_⟩;rcases G t k with h|h
     ·exact a1.out t h
     ·obtain rfl:t=k:=og;exact bv.out
    case measure=>simp[intOf];omega
  ·obtain rfl:k=n:=og;have ac:Hid (Y4 p.A p.C y= !zlv (C4 y)):=(by rw[Hid,Y4,ybd (by rw[<-L.out];exact a1.out)];rfl);obtain⟨bq,bt⟩:=C7 (IsV.stb.to aY.out (C9 M)) M;clear M O;go_wp2_with fail;refine(yjq bq.out).mono ?_;rintro r f ⟨rfl,x⟩;obtain⟨bZ,i⟩:=nm (zlv (C4 y));rw[<-i];have br:=e i;clear i;go_wp2_with fail;go_ret;exact⟨zpi (by rw[ac.out,br.out]),C8 bt.out x⟩
attribute [local go_sem] Oper.semAt_some
set_option linter.unusedVariables false
def W6 (A:List (List Rat)) (B x:List Rat):Bool:=(A.zip B).all (fun p=>decide (H7 p.1 x<=p.2))&& !zlv (C4 x)
def yaz (w:c) (n:Nat) (p:(S3×List Rat)×(Q3×Rat)):Prop:=IsV w (C5 w) (.slice p.1.1.1 p.1.1.2.1 p.1.1.2.2) (C4 p.1.2)/\p.1.2.length=n/\IsQ w (C5 w) (q3 p.2.1) p.2.2/\(∀q∈p.1.2,Sz q 1024)/\Sz p.2.2 1024
abbrev Side (w:c) (n:Nat):={p:(S3×List Rat)×(Q3×Rat)//yaz w n p}
def Side.qs {w:c} {n:Nat} (x:Side w n):List Rat×Rat:=(x.1.1.2,x.1.2.2)
def sl3 (x:S3):j:= .slice x.1 x.2.1 x.2.2
theorem yta:(∀(b:Nat) (a:j),es[b]? =some a->∃x,a=sl3 x)->∃g:List S3,g.map sl3=es:=by
 induction es with
 |nil=>exact fun _=>⟨[],rfl⟩
 |cons a es ih=>intro h;obtain⟨x,rfl⟩:=h 0 a rfl;obtain⟨g,rfl⟩:=ih fun b a i=>h (b+1) a i;exact⟨x::g,rfl⟩
theorem ysz {w:c} {eb:List Q3} {A:List (List Rat)} {B:List Rat} (ha:All2 (IsV w (C5 w)) es (I0 A)) (h:All2 (fun x J=>IsR w (C5 w) (q3 x) J) eb (C4 B)) (D:A.length=M) (F:B.length=M)
 (r:∀row∈A,row.length=n) (sa:∀row∈A,∀q∈row,Sz q 1024) (sb:∀q∈B,Sz q 1024):∃z:List (Side w n),z.length=M/\z.map (fun x=>sl3 x.1.1.1)=es/\z.map (fun x=>x.1.2.1)=eb/\z.map Side.qs=A.zip B:=by
 have G:es.length=M:=(by rw[ha.1];simpa[I0] using D);have N:eb.length=M:=(by rw[h.1];simpa[C4] using F);obtain⟨ea,rfl⟩:=yta (es:=es) (fun b l i=>by have e:b<(I0 A).length:=(by rw[<-ha.1];exact(List.getElem?_eq_some_iff.1 i).1);obtain⟨K,k,L,rfl,_⟩:=ha.2 b l _ i (List.getElem?_eq_getElem e);exact⟨(_,_,_),rfl⟩);rw[d] at G
 obtain⟨z,f⟩:=ygw (P:=yaz w n) (l:=(ea.zip A).zip (eb.zip B)) (by
  intro x t;obtain⟨b,e⟩:=List.getElem?_of_mem t;rw[List.getElem?_zip_eq_some,List.getElem?_zip_eq_some,List.getElem?_zip_eq_some] at e;obtain⟨⟨m,a⟩,o,g⟩:=e;refine⟨ha.2 b (sl3 x.1.1) _ (by rw[s,m];rfl) ?_,r _ (E a),h.2 b _ _ o ?_,sa _ (E a),sb _ (E g)⟩
  ·rw[I0,s,a];rfl
  ·rw[C4,s,g];rfl)
 have u:(ea.zip A).map Prod.fst=ea:=List.map_fst_zip og;have v:(ea.zip A).map Prod.snd=A:=List.map_snd_zip og;have y:(eb.zip B).map Prod.fst=eb:=List.map_fst_zip og;have C:(eb.zip B).map Prod.snd=B:=List.map_snd_zip og;have H:((ea.zip A).zip (eb.zip B)).map Prod.fst=ea.zip A:=List.map_fst_zip (by rw[List.length_zip,List.length_zip];omega);have I:((ea.zip A).zip (eb.zip B)).map Prod.snd=eb.zip B:=List.map_snd_zip (by rw[List.length_zip,List.length_zip];omega);refine⟨z,?_,?_,?_,?_⟩
 ·rw[<-d (f:=Subtype.val),f,List.length_zip,List.length_zip,List.length_zip];omega
 ·have:z.map (fun x=>sl3 x.1.1.1)=((z.map Subtype.val).map (fun p=>p.1.1)).map sl3:=(by rw[List.map_map,List.map_map];rfl);rw[this,f];have a:((ea.zip A).zip (eb.zip B)).map (fun p=>p.1.1)=(((ea.zip A).zip (eb.zip B)).map Prod.fst).map Prod.fst:=(by rw[List.map_map];rfl);rw[a,H,u]
 ·rw[<-y,<-I,<-f,List.map_map,List.map_map];rfl
 ·have:z.map Side.qs=(z.map Subtype.val).map (fun p=>(p.1.2,p.2.2)):=(by rw[List.map_map];rfl);have j:=List.zip_map (f:=(Prod.snd:S3×List Rat->List Rat)) (g:=(Prod.snd:Q3×Rat->Rat)) (l₁:=ea.zip A) (l₂:=eb.zip B);rw[v,C] at j;rw[this,f,j];rfl
theorem yqr {p q:Rat} (h:¬q<p):¬V6 p q>0:=by
 rcases Decidable.em (p<q) with a|a
 ·rw[zvx a];omega
 ·rw[zxp (Rat.le_antisymm (Rat.not_lt.1 h) (Rat.not_lt.1 a))];omega
def zpy {w:c} {n:Nat} (x:List Rat) (s:Side w n):Bool:=decide (H7 s.qs.1 x<=s.qs.2)
theorem ytc {w:c} {z:List (Side w n)} {A:List (List Rat)} {B x:List Rat} (h:z.map Side.qs=A.zip B):W6 A B x=(z.all (zpy x)&& !zlv (C4 x)):=by unfold W6;rw[<-h,List.all_map];rfl
def yey (n:Nat) (d:Nat->S3->Q3->Array j) {w:c} {e:Nat} (x:Side w e) (a:Act) (W:c):Prop:=
 ∃b,a={tmps:=d b x.1.1.1 x.1.2.1,defers:=[]}/\n<=b/\Row W b 30 (q3c x.1.2.1)
theorem zz1408 (n l:Nat) (b:Nat->S3->Q3->Array j) {w:c} (x:Side w k) (a:Act):OwnFrom l (fun(_:Unit) W=>yey n b x a W):=by rintro _ X Y row ⟨e,f,g,h⟩ i hr;exact⟨e,f,g,h.others i (fun m d=>(hr m d).2)⟩
theorem ydm {b:Type} (a:Nat) (p:b->Prop):OwnFrom a (fun s (_:c)=>p s):=fun _ _ _ _ h _ _=>h
theorem ylj {fn:Func} {slot:Tmp} {w:c} {b:Bool} (hr:fn.results= #[.cell slot 4]) (ha:tmps.getD slot f= .pointer (some ⟨g,0,none⟩))
 (h:Row w g 4 [.bool b]):(results fn tmps).run Tryz.prog w= .ok (.bool b) w:=by have a:=zlo h;have d:tmps[slot]?.getD f= .pointer (some ⟨g,0,none⟩):=(by simpa using ha);simp[results,hr,d,asAddr,go_sem,a]
theorem zuk {w:c} {vp vx:j} {x:List Rat} (cU:IsP w (C5 w) vp (I8 p)) (aM:IsV w (C5 w) vx (C4 x)) (bL:Bru w) (V:Good p 1024) (bX:x.length=p.C.length) (b0:∀q∈x,Sz q 1024):
 u Tryz.prog 101 #[vp,vx] w fun S w'=>S= .returned (.bool (W6 p.A p.B x))/\Below w.heap.size w w':=by
 obtain⟨A,aH,B,aI,C,bJ,rfl,bj,bm,bM⟩:=cU;obtain⟨D,aW,rfl,_⟩:=J6 aM;simp only[I8,zku,zmi] at bj bm bM aM⊢;obtain⟨ea,bP,cQ,bQ⟩:=yuq bj;obtain⟨eb,bR,cR,bT⟩:=ycc bm;obtain⟨M,ao⟩:=nm (p.B.length);have bp:p.A.length=M:=(by rw[ao,V.rows]);rw[bp,<-ao];obtain⟨z,b1,rfl,rfl,b3⟩:=ysz bQ bT bp ao.symm V.cols V.szA V.szB;obtain⟨cs,ct,cw,cj,bw,aO,bC,aS⟩:=zny bP bR b1 bL aM V bX b0;have bA:Hid (W6 p.A p.B x=(z.all (zpy x)&& !zlv (C4 x))):=ytc b3;have df:M<=40:=(by rw[ao];exact V.nB);clear bP cQ bQ bR cR bT bj bm bM aM bL V bX b0 b1 b3 bp ao;obtain⟨ae,cW,bN,b7,t,g,cv⟩:=znc w #[.slice A M aH,.slice B M aI,.slice C p.C.length bJ] #[.slice D x.length aW] #[.bool false] 136 26 4;obtain⟨cz,cB,ck⟩:=F0 t g bN;obtain⟨cG,cH,cI⟩:=C0 b7;clear b7 t g bN;refine(callsIn_wide (n:=3)).1 ?_;refine callsIn_of_wp_marks Tryz.func101 rfl trivial ?_ rfl;simp only[Tryz.ntmps101,List.size_toArray,List.length_cons,List.length_nil,Nat.reduceAdd,Nat.reduceSub,Array.replicate_succ,Array.replicate_zero,List.push_toArray,List.append_toArray,List.nil_append,List.cons_append];refine wpIn_wide.2 ?_;go_wp2_with fail;clear cW cG cH cI;refine(zz1489 _ _ _ _ _ _ _).mono ?_;rintro S av ⟨rfl,aJ,bH,bI,cX⟩;have az:=nB ck aJ;obtain⟨cA,cC,bv,c8⟩:=V7 (cz.out.next aJ) (cB.out.next aJ) (r bH bI) cX;clear aJ bH bI;go_wp2_with fail;have aK:w.heap.size<=av.heap.size:=az.out.size;have dm:ae.heap.size+2<=av.heap.size:=og;refine(wpIn_wide (n:=3)).1 ?_
 refine wpIn_rangeFunc_ownH rfl og (gf:=186) (lb:= #[.pointer (some ⟨ae.heap.size,0,none⟩),.pointer (some ⟨ae.heap.size+1,0,none⟩)]) rfl trivial (enters_of Tryz.func186 kr rfl)
  (zz1490 (fun x=>sl3 x.1.1.1) (fun x=>x.1.2.1) z 2 og w.heap.size ae.heap.size A B aH aI M cw.out og av og bv.out.1 bv.out.2 (cs.out.below az.out (m _)) (ct.out.below az.out (m _)) aK)
  yir (yvb aK) (Below.refl _ _) (fun _=>rfl)
  (fun pre W=>Below w.heap.size w W/\Row W (w.heap.size+1) 26 [.slice D x.length aW]/\Row W (w.heap.size+1+1) 4 [.bool false]/\av.heap.size<=W.heap.size/\pre.all (zpy x)=true)
  (fun aG pre W=>Below w.heap.size w W/\Row W (w.heap.size+1+1) 4 [.bool false]/\aG= .ret/\pre.all (zpy x)=false)
  (OwnFrom.and (ownFrom_below (m _) aK) (OwnFrom.and (zzn _ _) (OwnFrom.and (zzn _ _) (OwnFrom.and (ymg _ _) (ydm _ _)))))
  (fun aG=>OwnFrom.and (ownFrom_below (m _) aK) (OwnFrom.and (zzn _ _) (OwnFrom.and (ydm _ (fun _=>aG= .ret)) (ydm _ _))))
  ⟨az.out,cA.out,cC.out,m _,rfl⟩
  (yey av.heap.size (fun bK b4 y=> #[.agg #[.slice A M aH,.slice B M aI,.slice C p.C.length bJ],.slice D x.length aW,.pointer (some ⟨w.heap.size,0,none⟩),.pointer (some ⟨w.heap.size+1,0,none⟩),.pointer (some ⟨w.heap.size+1+1,0,none⟩),sl3 b4,.pointer (some ⟨bK,0,none⟩),
    .pointer (some ⟨w.heap.size,0,none⟩),.pointer (some ⟨w.heap.size,0,none⟩),.slice A M aH,.pointer (some ⟨w.heap.size,0,none⟩),.pointer (some ⟨w.heap.size,1,none⟩),.slice B M aI,
    .func (.func 186) #[] #[.pointer (some ⟨ae.heap.size,0,none⟩),.pointer (some ⟨ae.heap.size+1,0,none⟩)],sl3 b4,q3 y,f,f,f,f,f,f,f,f,f])) (fun _ _=>zz1408 _ _ _ _ _) ?assign ?body ?done ?stop
 case assign=>rintro c0 pre ⟨⟨⟨⟨c2,b5,c3⟩,row⟩,⟨⟨b8,⟨b9,ca,cb⟩,⟨cc,cd,cf⟩⟩,ac⟩⟩,n⟩ W c9 ⟨b,t,g,aL,i⟩ T;obtain⟨da,dh,bO,ad,cY⟩:=J9 W #[.bool b8,.slice b9 ca cb,.slice cc cd cf] 30;obtain⟨cq,ag,l,aP⟩:=V7 ad bO (r b (r t g)) i;clear ad bO b t g i;dsimp only[q3,sl3];gi_wp2;have bt:w.heap.size<=W.heap.size:=l.out.1.size;have dp:=cY.out;exact T _ _ ((zwj ag.out).from _) (yiq ag.out bt) ⟨C8 l.out.1 ag.out,l.out.2.1.next ag.out,l.out.2.2.next ag.out,by omega,aP.out⟩ ⟨_,rfl,aL,cq.out⟩
 case body=>
  rintro c0 pre s db W dj dn ⟨b,t,g,aL,i⟩ ⟨bK,rfl,di,ad⟩ dk;have br:(pre++[s]).all (zpy x)=zpy x s:=(by rw[List.all_append,i];simp);generalize pre++[s]=bu at br⊢;obtain⟨⟨⟨⟨c2,b5,c3⟩,row⟩,⟨⟨b8,⟨b9,ca,cb⟩,⟨cc,cd,cf⟩⟩,ac⟩⟩,n⟩:=s;obtain⟨d,hd⟩:=nm (H7 row x);have bV:bu.all (zpy x)=decide (d<=ac):=(by rw[br,hd];rfl);dsimp only[q3,q3c,sl3,yaz] at ad n⊢;have cS:b5=row.length:=(by obtain⟨c7,dc,bi,_⟩:=J6 n.1;rw[zku] at bi;simp only[Value.slice.injEq] at bi;exact bi.2.1);subst cS;obtain⟨bB,bx⟩:=C7 bV hd;have bD:=e n.2.1;have bF:=e n.2.2.2.1;have bG:Hid (Sz ac 100000):=n.2.2.2.2.le og;have bY:row.length=p.C.length:=n.2.1;have bE:Hid (Sz d 100000):=(by rw[Hid,hd];exact zsj n.2.2.2.1 aS.out (by rw[bY];exact aO.out.nC));have bt:w.heap.size<=W.heap.size:=b.size;obtain⟨l,aB,aC,aD,aa,F,ab⟩:=hd7 b (IsV.stb.to n.1 (C9 b)) (IsV.stb.to bw.out (C9 b)) (IsQ.stb.to n.2.2.1 (C9 b)) (t) (g) (ad);have ay:=nU cj b;have aE:=e (Below.refl W.heap.size W);clear t g ad n b br bV hd i bY;rcases Decidable.em (ac<d) with U|U
  ·obtain⟨o,X⟩:=nm (V6 d ac);have cO:o>0:=(by rw[X,zxq U];omega);have aQ:Hid (bu.all (zpy x)=false):=(by rw[Hid,bB.out];exact decide_eq_false (Rat.not_le.2 U));have aR:=e X;clear X U;have aX:=zlo aa.out;have a9:=zlo F.out;have bf:=F.out.frozen 0;obtain⟨a0,a3,a6⟩:=C0 ab.out;gi_wp2;have cT:Tryz.prog.follows .mixedOrders=true:=(by kernel_rfl);have O:=nV aB (L8 _);have P:=nV aC (L8 _);have aj:=nQ aD (L8 _);have I:=nR aa (L8 _);have v:=nR F (L8 _);have K:=nR ab (L8 _);have G:=nU ay (L8 _);have ak:=nB aE (L8 _);clear aB aC aD aa F ab ay aE;clear aX a9 bf a0 a3 a6;have aY:=zlo I.out;have bd:=zlo v.out;have bg:=v.out.frozen 0;obtain⟨a1,a4,a7⟩:=C0 K.out
   gi_region_with_o (first
    |((refine r trivial ?_);gi_at_call 97;have hc:=(show u _ _ _ _ (K8 _ d) from by rw[bx.out];exact zng (M:=p.C.length) O.out P.out G.out bD.out bC.out aO.out.nC bF.out aS.out);(with_reducible refine CallsIn.inRound _ (callsIn_wide.2 (hc.mono ?_)));clear hc;rintro S c6 ⟨⟨c5,rfl,ar⟩,a⟩;have au:=e (IsQ.stb.old ar);have ah:=nV O a;have ai:=nV P a;have Q:=nQ aj a;have J:=nR I a;have E:=nR v a;have L:=nR K a;have af:=nU G a;have al:=nB ak a;clear O P aj I v K G ak;have H:=au;clear au;obtain⟨c4,cy,cZ,cx,c1,rfl,_,_,_⟩:=F9 ar;clear aY bd bg a1 a4 a7;have aZ:=zlo J.out;have be:=zlo E.out;have bh:=E.out.frozen 0;obtain⟨a2,a5,a8⟩:=C0 L.out)
    |((refine r trivial ?_);gi_at_call 96;have hc:=zon H.out Q.out bE.out bG.out;(with_reducible refine CallsIn.inRound _ (callsIn_wide.2 (hc.mono ?_)));clear hc;rintro S aN ⟨aq,a⟩;have cD:=nV ah a;have cE:=nV ai a;have cF:=nQ Q a;have aA:=nR J a;have N:=nR E a;have aT:=nR L a;have cg:=nU af a;have R:=nB al a;have ch:=nQ H a;clear ah ai Q J E L af al H;rw[<-aR.out] at aq;subst aq;clear aZ be bh a2 a5 a8;have cJ:=zlo aA.out;have cN:=zlo N.out;have cP:=N.out.frozen 0;obtain⟨cK,cL,cM⟩:=C0 aT.out))
   all_goals gi_wp2
   all_goals
    exact⟨((zwj R.out).trans (KeepsOthers.setCell _ _ _)).from _,(C8 l.out R.out).setCell (p:=⟨w.heap.size+1+1,0,none⟩) (by show _<=w.heap.size+1+1;omega) _,N.out.set_ 0 (.bool false),rfl,aQ.out⟩
  ·obtain⟨o,X⟩:=nm (V6 d ac);have cO:¬o>0:=(by rw[X];exact yqr U);have aQ:Hid (bu.all (zpy x)=true):=(by rw[Hid,bB.out];exact decide_eq_true (Rat.not_lt.1 U));have aR:=e X;clear X U;have aX:=zlo aa.out;have a9:=zlo F.out;have bf:=F.out.frozen 0;obtain⟨a0,a3,a6⟩:=C0 ab.out;gi_wp2;have cT:Tryz.prog.follows .mixedOrders=true:=(by kernel_rfl);have O:=nV aB (L8 _);have P:=nV aC (L8 _);have aj:=nQ aD (L8 _);have I:=nR aa (L8 _);have v:=nR F (L8 _);have K:=nR ab (L8 _);have G:=nU ay (L8 _);have ak:=nB aE (L8 _);clear aB aC aD aa F ab ay aE;clear aX a9 bf a0 a3 a6;have aY:=zlo I.out;have bd:=zlo v.out;have bg:=v.out.frozen 0;obtain⟨a1,a4,a7⟩:=C0 K.out
   gi_region_with_o (first
    |((refine r trivial ?_);gi_at_call 97;have hc:=(show u _ _ _ _ (K8 _ d) from by rw[bx.out];exact zng (M:=p.C.length) O.out P.out G.out bD.out bC.out aO.out.nC bF.out aS.out);(with_reducible refine CallsIn.inRound _ (callsIn_wide.2 (hc.mono ?_)));clear hc;rintro S c6 ⟨⟨c5,rfl,ar⟩,a⟩;have au:=e (IsQ.stb.old ar);have ah:=nV O a;have ai:=nV P a;have Q:=nQ aj a;have J:=nR I a;have E:=nR v a;have L:=nR K a;have af:=nU G a;have al:=nB ak a;clear O P aj I v K G ak;have H:=au;clear au;obtain⟨c4,cy,cZ,cx,c1,rfl,_,_,_⟩:=F9 ar;clear aY bd bg a1 a4 a7;have aZ:=zlo J.out;have be:=zlo E.out;have bh:=E.out.frozen 0;obtain⟨a2,a5,a8⟩:=C0 L.out)
    |((refine r trivial ?_);gi_at_call 96;have hc:=zon H.out Q.out bE.out bG.out;(with_reducible refine CallsIn.inRound _ (callsIn_wide.2 (hc.mono ?_)));clear hc;rintro S aN ⟨aq,a⟩;have cD:=nV ah a;have cE:=nV ai a;have cF:=nQ Q a;have aA:=nR J a;have N:=nR E a;have aT:=nR L a;have cg:=nU af a;have R:=nB al a;have ch:=nQ H a;clear ah ai Q J E L af al H;rw[<-aR.out] at aq;subst aq;clear aZ be bh a2 a5 a8;have cJ:=zlo aA.out;have cN:=zlo N.out;have cP:=N.out.frozen 0;obtain⟨cK,cL,cM⟩:=C0 aT.out))
   all_goals gi_wp2
   all_goals
    exact⟨(zwj R.out).from _,yiq R.out bt,C8 l.out R.out,aA.out,N.out,zzw aL R.out,aQ.out⟩
 case done=>
  rintro Y xs W hD rfl ⟨b,t,g,aL,i⟩ T;obtain⟨l,Z,aU,cn,aP⟩:=hd5 b T g (IsV.stb.to bw.out (C9 b)) i;have d0:=zlo t;clear b t g i T;go_wp2_with fail;refine(yjq cn.out).mono ?_;rintro S aN ⟨rfl,a⟩;obtain⟨an,bq⟩:=nm (zlv (C4 x));rw[<-bq];obtain⟨cr,aV⟩:=C7 bq (aU.out.next a);have cl:=nB l a;have cm:=e ((a.block Y (Array.getElem?_eq_some_iff.1 Z.out).1).trans Z.out);have dd:=zlo aV.out;have de:=aV.out.frozen 0;clear a bq;go_wp2_with fail;have bn:(aN.setCell ⟨w.heap.size+1+1,0,none⟩ (.bool (!an))).heap[Y]? =_:=(Below.heap_setCell _ _ _ _ (by have:=cv.out;show Y≠w.heap.size+1+1;omega)).trans cm.out;have cV:=((aV.out.set_ 0 (.bool (!an))):Row (aN.setCell ⟨w.heap.size+1+1,0,none⟩ (.bool (!an))) _ _ [.bool (!an)]).putD (o':= .deferred none) bn rfl;refine⟨by simp,.inl ⟨_,_,rfl,run_takeDeferred bn,?_⟩⟩;refine⟨.bool (!an),ylj rfl rfl cV,?_,?_⟩
  ·rw[bA.out,aP.out,cr.out];rfl
  ·exact(cl.out.setCell (p:=⟨w.heap.size+1+1,0,none⟩) (by show _<=w.heap.size+1+1;omega) _).trans (belowK_b (w:=w) (m _) _ Y _ _ og bn rfl rfl)
 case stop=>
  rintro Y aG pre W hD ⟨k,bU⟩ ⟨b,g,rfl,i⟩ T;have cu:Hid (W6 p.A p.B x=false):=(by rw[Hid,bA.out];have:z.all (zpy x)=false:=(by rw[List.all_eq_false] at i⊢;obtain⟨s,bZ,h⟩:=i;rw[bU] at bZ;exact⟨s,List.mem_of_mem_take bZ,h⟩);rw[this];rfl);obtain⟨l,Z,aU⟩:=F0 b T g;clear b i g T bU;gi_wp2;refine⟨by simp,.inl ⟨_,_,rfl,run_takeDeferred Z.out,?_⟩⟩;refine⟨.bool false,ylj rfl rfl (aU.out.putD (o':= .deferred none) Z.out rfl),?_,?_⟩
  ·rw[cu.out]
  ·exact l.out.trans (belowK_b (w:=w) (m _) _ Y _ _ og Z.out rfl rfl)
def znb (n:Nat) (v:List Raw):Int:=if U9 v≠0 then U9 v else if v.length≠n then 10 else 0
def zly (p:Prog) (i:List Nat) (a:List (List Raw)):Int:=if zok p≠0 then zok p else zka (List.zipWith znb i a)
def yao (w:c) (v:j) (i:List Nat):Prop:=∃b d,v= .slice (some ⟨b,0,none⟩) i.length d/\b<w.heap.size/\∀(a n:Nat),i[a]? =some n->w.cell? ⟨b,a,none⟩=some (.int .i64 (n:Int))
theorem zz1485 {b:Nat} {c:List Raw} (d:i[b]? =some n) (e:a[b]? =some c):(List.zipWith znb i a)[b]? =some (znb n c):=by rw[List.getElem?_zipWith,d,e]
theorem zze {w a:c} {p:Prog} (h:IsP w (C5 w) v p) (e:Bru w) (b:Below w.heap.size w a):u Tryz.prog 38 #[v] a fun d w'=>d= .returned (.int .i64 (zok p))/\Below a.heap.size a w':=ykn (IsP.stb.to h (C9 b)) (Bru.next e b)
theorem yht {w:c} {vp vs an:j} {p:Prog} (ak:IsP w (C5 w) vp p) (aM:yao w vs i) (l:IsM w (C5 w) an a) (ae:Bru w) (W:i.length=a.length) (aj:∀n∈i,n<=9223372036854775807) (aS:a.length<=40):
 u Tryz.prog 100 #[vp,vs,an] w fun o w'=>o= .returned (.int .i64 (zly p i a))/\Below w.heap.size w w':=by
 obtain⟨aa,aq,O,ab,aA⟩:=hd5 ak l ae W aj;obtain⟨b,aR,rfl,f,ah⟩:=aM;obtain⟨ar,ay⟩:=C7 f ah;obtain⟨D,d,rfl,_⟩:=zpw l;obtain⟨A,aD,B,aE,C,aG,rfl,_⟩:=ak;clear l ae aj f ah;obtain⟨aY,al,af,Z,aO⟩:=J9 w #[.slice A p.A.length aD,.slice B p.B.length aE,.slice C p.C.length aG] 54;obtain⟨H,aQ⟩:=C7 af Z;obtain⟨aH,aI,aJ⟩:=C0 Z;obtain⟨x,r⟩:=nm (zok p);have ad:=e r;clear Z af;by_cases z:x=0;(case neg=>have T:(x !=0)=true:=bne_iff_ne.2 z;have g:Hid (zly p i a=x):=(by rw[Hid,zly,if_pos (by rw[<-r];exact z),r]);clear r z;go_in;go_wp2_with fail;clear al;refine(zze aa.out O.out H.out).mono ?_;rw[<-ad.out];rintro o aN ⟨rfl,f⟩;go_wp2_with fail;go_ret;exact⟨K2 g.out.symm,C8 H.out f⟩);have Q:Hid (zly p i a=zka (List.zipWith znb i a)):=(by rw[Hid,zly,if_neg (by rw[<-r];exact fun h=>h z)]);subst z;clear r;rw[W];clear W;go_in;go_wp2_with fail;clear al;refine(zze aa.out O.out H.out).mono ?_;rw[<-ad.out];rintro o aN ⟨rfl,f⟩;have au:=nB H f;clear f aH aI aJ;go_wp2_with fail;go_loopw [18] (fun Y wr=>∃k:Nat,k<=a.length/\Y= .int .i64 (k:Int)/\Below w.heap.size w wr/\Hid (∀m,m<k->(List.zipWith znb i a).getD m 0=0)) (fun Y _=>a.length-(intOf Y).toNat);case atStart=>exact⟨0,I _,rfl,au.out,fun m aL=>by omega⟩
 case round=>
  obtain⟨k,aV,rfl,q,hrel⟩:=hrel;have K:=e hrel.out;have J:=e q;clear hrel;rcases G k a.length with ai|aU
  ·obtain⟨M,l⟩:=znt ai;obtain⟨n,L⟩:=znt (l:=i) (j:=k) (by rw[ab.out];exact ai);obtain⟨b2,off,aP,aX,rfl,aT,V,aC⟩:=zoa (IsM.stb.to aq.out (C9 q)) l;have ag:=zni q ar.out (ay.out k n L);have aW:n<=9223372036854775807:=aA.out n (E L);obtain⟨N,X⟩:=nm (M.length);rw[<-X] at aC V;obtain⟨az,P,S⟩:=F0 X V (zz1485 L l);have U:Hid (Bru wr):=Bru.next O.out q;obtain⟨y,s⟩:=nm (U9 M);have R:=e s;clear V l L q X;by_cases t:y=0;(case neg=>have T:(y !=0)=true:=bne_iff_ne.2 t;have g:Hid (zly p i a=y):=(by rw[Hid,Q.out];refine zul K.out (S.out.trans ?_) t;rw[znb,if_pos (by rw[<-s];exact t),s]);clear s t;go_wp2_with fail;refine(zsx P.out U.out).mono ?_;rw[<-R.out];rintro o ao ⟨rfl,f⟩;go_wp2_with fail;go_ret;exact⟨K2 g.out.symm,C8 J.out f⟩);have ac:Hid (znb n M=if N≠n then 10 else 0):=(by rw[Hid,znb,if_neg (by rw[<-s];exact fun h=>h t),az.out]);subst t;clear s;by_cases v:N=n;(case neg=>have T:((N:Int) !=(n:Int))=true:=bne_iff_ne.2 og;have g:Hid (zly p i a=10):=(by rw[Hid,Q.out];refine zul K.out (S.out.trans ?_) (by decide);rw[ac.out,if_pos v]);clear v;go_wp2_with fail;refine(zsx P.out U.out).mono ?_;rw[<-R.out];rintro o ao ⟨rfl,f⟩;have aK:=A9 f ag;go_wp2_with fail;go_ret;exact⟨K2 g.out.symm,C8 J.out f⟩);have T:((N:Int) !=(n:Int))=false:=(by rw[v];simp);have aB:Hid (znb n M=0):=(by rw[Hid,ac.out,if_neg (fun h=>h v)]);clear v;go_wp2_with fail;refine(zsx P.out U.out).mono ?_;rw[<-R.out];rintro o ao ⟨rfl,f⟩;have aK:=A9 f ag;have av:=nB J f;clear f;go_wp2_with fail;go_roundw
   case rel=>
    refine⟨k+1,by omega,by go_num,av.out,fun m aL=> ?_⟩;rcases G m k with h|h
    ·exact K.out m h
    ·obtain rfl:m=k:=og;rw[F,S.out,aB.out];rfl
   case measure=>simp[intOf];omega
  ·obtain rfl:k=a.length:=og;have g:Hid (zly p i a=0):=(by rw[Hid,Q.out];exact zwf (by rw[List.length_zipWith,ab.out,Nat.min_self];exact K.out));clear q;go_wp2_with fail;go_ret;exact⟨K2 g.out.symm,J.out⟩
end Go.Proofs.YtlhhbccgfkhflaaGreatDoor
