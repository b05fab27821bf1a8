/-
 The contract of package dual's dot.
-/
import Derived.Test.YtpbilanpeioonaaGreatDoorDpv09
import Derived.Maps.OwnIn
namespace Go.Proofs.YtpbilanpeioonaaGreatDoor
open Go.RowKit Go.Shelf
open Go.RowKit
set_option linter.unusedVariables false
set_option maxRecDepth 100000
set_option maxHeartbeats 8000000
open _root_.Go.Lib renaming hid → e
open _root_.Nat renaming le_refl → l, le_trans → x, lt_or_ge → E, zero_le → G, mul_le_mul_right → q
open _root_.List renaming getD_eq_getElem?_getD → z, mem_of_getElem? → u, length_map → d, getElem?_map → h
open _root_.And renaming intro → m
open _root_.Go renaming World → c, Value → j, Calls → r, undef → f
variable {M g k n : Nat} {S : Nat → Prop} {W Y : c} {b : List Rat} {es xs : List j} {a : List (List Raw)} {i : List Nat} {o o' : Obj} {p : ProgQ} {t : TypeId} {tmps : Array j} {v C F : j}
attribute [local go_sem] Oper.semAt_some
set_option linter.unusedVariables false
def ybr (w:c) (p:(Q3×Rat)×(Q3×Rat)):Prop:=IsQ w (C6 w) (q3 p.1.1) p.1.2/\IsQ w (C6 w) (q3 p.2.1) p.2.2/\Sz p.1.2 1024/\Sz p.2.2 1024
abbrev Pair (w:c):={p:(Q3×Rat)×(Q3×Rat)//ybr w p}
def Pair.qs {w:c} (x:Pair w):Rat×Rat:=(x.1.1.2,x.1.2.2)
theorem zz1475 {w:c} (a:List (Pair w)) (b:a.length<=40):Sz (zky (a.map Pair.qs)) 100000:=by refine(yor (n:=1024) (l:=a.map Pair.qs) fun p e=> ?_).le (by rw[d];have:=q (2*1024+1) b;omega);obtain⟨x,_,rfl⟩:=List.mem_map.1 e;exact⟨x.2.2.2.1,x.2.2.2.2⟩
theorem yiy {a:Type} {P:a->Prop} {l:List a} (h:∀x∈l,P x):∃z:List {x//P x},z.map Subtype.val=l:=by
 induction l with
 |nil=>exact⟨[],rfl⟩
 |cons x l ih=>obtain⟨z,rfl⟩:=ih fun y b=>h y (List.mem_cons_of_mem _ b);exact⟨⟨x,h x (List.mem_cons_self ..)⟩::z,rfl⟩
theorem yuw {w:c} {ea eb:List Q3} {a:List Rat} (ha:All2 (fun x f=>IsR w (C6 w) (q3 x) f) ea (C5 a)) (j:All2 (fun x f=>IsR w (C6 w) (q3 x) f) eb (C5 b)) (A:a.length=M) (B:b.length=M)
 (sa:∀q∈a,Sz q 1024) (sb:∀q∈b,Sz q 1024):∃z:List (Pair w),z.length=M/\z.map (fun x=>x.1.1.1)=ea/\z.map (fun x=>x.1.2.1)=eb/\z.map Pair.qs=a.zip b:=by
 have E:ea.length=M:=(by rw[ha.1];simpa[C5] using A);have F:eb.length=M:=by rw[j.1];simpa[C5] using B
 obtain⟨z,e⟩:=yiy (P:=ybr w) (l:=(ea.zip a).zip (eb.zip b)) (by
  intro x r;obtain⟨m,k⟩:=List.getElem?_of_mem r;rw[List.getElem?_zip_eq_some,List.getElem?_zip_eq_some,List.getElem?_zip_eq_some] at k;obtain⟨⟨n,g⟩,o,i⟩:=k;refine⟨ha.2 m _ _ n ?_,j.2 m _ _ o ?_,sa _ (u g),sb _ (u i)⟩
  ·rw[C5,h,g];rfl
  ·rw[C5,h,i];rfl)
 have s:(ea.zip a).map Prod.fst=ea:=List.map_fst_zip og;have t:(ea.zip a).map Prod.snd=a:=List.map_snd_zip og;have v:(eb.zip b).map Prod.fst=eb:=List.map_fst_zip og;have y:(eb.zip b).map Prod.snd=b:=List.map_snd_zip og;have C:((ea.zip a).zip (eb.zip b)).map Prod.fst=ea.zip a:=List.map_fst_zip (by rw[List.length_zip,List.length_zip];omega);have D:((ea.zip a).zip (eb.zip b)).map Prod.snd=eb.zip b:=List.map_snd_zip (by rw[List.length_zip,List.length_zip];omega);refine⟨z,?_,?_,?_,?_⟩
 ·rw[<-d (f:=Subtype.val),e,List.length_zip,List.length_zip,List.length_zip];omega
 ·rw[<-s,<-C,<-e,List.map_map,List.map_map];rfl
 ·rw[<-v,<-D,<-e,List.map_map,List.map_map];rfl
 ·have:z.map Pair.qs=(z.map Subtype.val).map (fun p=>(p.1.2,p.2.2)):=(by rw[List.map_map];rfl);have l:=List.zip_map (f:=(Prod.snd:Q3×Rat->Rat)) (g:=(Prod.snd:Q3×Rat->Rat)) (l₁:=ea.zip a) (l₂:=eb.zip b);rw[t,y] at l;rw[this,e,l];rfl
theorem zyp {w:c} {b o:Nat} (h:w.cell? ⟨b,o,none⟩=some v):∃obj,w.heap[b]? =some obj/\obj.isCells=true:=by
 unfold World.cell? at h;cases a:w.heap[b]? with
 |none=>simp[a] at h
 |some obj=>cases obj with
  |cells d t e=>exact⟨_,rfl,rfl⟩
  |_=>simp[a] at h
def ygc (w:c) (S:Nat->Prop):Nat->Prop:=fun b=>S b/\∃obj,w.heap[b]? =some obj/\obj.isCells=true
theorem IsK.cells {k:IntKind} {w:c} {a:List Nat} (h:IsK k w S v a):IsK k w (ygc w S) v a:=by
 obtain⟨A,f,hv,g,i,j⟩:=h;refine⟨A,f,hv,g,i,fun d=> ?_⟩;obtain⟨b,off,l,m,hc⟩:=j d;refine⟨b,off,l,⟨m,?_⟩,hc⟩;cases e:E7 k a with
 |nil=>exact absurd e d
 |cons n t=>exact zyp (hc 0 n (by rw[e];rfl))
theorem IsQ.cells {w:c} {q:Rat} (h:IsQ w S v q):IsQ w (ygc w S) v q:=by obtain⟨A,a,B,d,hv,b,e⟩:=h;exact⟨A,a,B,d,hv,b.cells,e.cells⟩
theorem IsQ.others {X:c} {row:Option Nat} {q:Rat} (h:IsQ X S v q) (j:X.grownBy Y row) (k:∀g,row=some g->∃o,X.heap[g]? =some o/\o.isCells=false):IsQ Y S v q:=by refine IsQ.stb.to h.cells fun b a=>⟨a.1,fun o=> ?_⟩;obtain⟨obj,e,hc⟩:=a.2;refine World.cell?_of_block (j.block b (Array.getElem?_eq_some_iff.1 e).1 fun i=> ?_);obtain⟨l,f,d⟩:=k b i.symm;rw[e] at f;cases f;rw[hc] at d;cases d
theorem Row.others {X:c} {row:Option Nat} (h:Row X g t xs) (f:X.grownBy Y row) (i:∀b,row=some b->∃o,X.heap[b]? =some o/\o.isCells=false):Row Y g t xs:=by refine h.grown f fun d=> ?_;obtain⟨j,a,e⟩:=i g d.symm;rw[show X.heap[g]? =_ from h] at a;cases a;cases e
def ygf (s:Nat) {w:c} (pre:List (Pair w)) (W:c):Prop:=
 ∃sg d a,Row W s 37 [.bool sg,d,a]/\IsQ W (fun b=>(w.heap.size<b/\b<W.heap.size)/\b≠s) (.agg #[.bool sg,d,a]) (zky (pre.map Pair.qs))
theorem ytx (s:Nat) {w:c}:Go.Own (ygf s (w:=w)):=by rintro pre X Y row ⟨sg,i,h,f,g⟩ d e;refine⟨sg,i,h,f.others d e,?_⟩;exact IsQ.stb.to (g.others d e) (G6 fun b a=>⟨⟨a.1.1,Nat.lt_of_lt_of_le a.1.2 d.size⟩,a.2⟩)
theorem yar {e:Type} (c g:Nat):OwnFrom c (fun(_:e) W=>Row W g t xs):=fun _ _ _ _ h b hr=>h.others b fun d a=>(hr d a).2
theorem yoh {c:Type} (b n:Nat):OwnFrom b (fun(_:c) W=>n<=W.heap.size):=fun _ _ _ _ h a _=>x h a.size
def q3c (x:Q3):List j:=[.bool x.1,.slice x.2.1.1 x.2.1.2.1 x.2.1.2.2,.slice x.2.2.1 x.2.2.2.1 x.2.2.2.2]
def yge (n:Nat) (e:Nat->Nat->Q3->Q3->Array j) {w:c} (x:Pair w) (a:Act) (W:c):Prop:=
 ∃b d,a={tmps:=e b d x.1.1.1 x.1.2.1,defers:=[]}/\n<=b/\n<=d/\Row W b 37 (q3c x.1.1.1)/\Row W d 37 (q3c x.1.2.1)
theorem ytw (n p:Nat) (f:Nat->Nat->Q3->Q3->Array j) {w:c} (x:Pair w) (a:Act):OwnFrom p (fun(_:Unit) W=>yge n f x a W):=by rintro _ X Y row ⟨g,h,i,k,l,m,o⟩ e hr;exact⟨g,h,i,k,l,m.others e (fun d b=>(hr d b).2),o.others e (fun d b=>(hr d b).2)⟩
theorem zxb {a:c} (h:Below W.heap.size W a):KeepsOthers W a:=
 ⟨h.size,fun d o b _=>(h.block d (Array.getElem?_eq_some_iff.1 b).1).trans b⟩
theorem zzj (w:c) (g:Nat) (a b d:j) (h:k≠g):(put3 w g a b d).heap[k]? =w.heap[k]? :=by rw[put3,Below.heap_setCell _ _ _ _ h,Below.heap_setCell _ _ _ _ h,Below.heap_setCell _ _ _ _ h]
theorem ywo (w:c) (g:Nat) (a b d:j):KeepsOthers w (put3 w g a b d):=((KeepsOthers.setCell _ _ _).trans (KeepsOthers.setCell _ _ _)).trans (KeepsOthers.setCell _ _ _)
theorem ywr {a B s:Nat} (W:c) (x y z:j) (h:a<=s) (b:B≠s) (d:B+1≠s):zpj a B C F W (put3 W s x y z):=
 ⟨zqe (Below.refl _ _) h _ _ _,fun h=>(zzj _ _ _ _ _ b).trans h,fun h=>(zzj _ _ _ _ _ d).trans h⟩
theorem zz1421 {a:Func} {slot:Tmp} {w:c} {x y z:j} (hr:a.results= #[.cell slot 37]) (ha:tmps.getD slot f= .pointer (some ⟨g,0,none⟩))
 (h:Row w g 37 [x,y,z]):(results a tmps).run Tryz.prog w= .ok (.agg #[x,y,z]) w:=by obtain⟨b,d,e⟩:=C4 h;have i:tmps[slot]?.getD f= .pointer (some ⟨g,0,none⟩):=(by simpa using ha);simp[results,hr,i,asAddr,go_sem,b,d,e]
theorem zz1397 {D:Nat} {q:Rat} (h:IsQ W S v q) (hD:W.heap[D]? =some o) (b:o.isCells=false):IsQ (W.putObj D o') S v q:=
 h.others (grownBy_putObj' W D o') (fun c a=>by cases a;exact⟨o,hD,b⟩)
theorem Row.putD {D:Nat} (h:Row W g t xs) (hD:W.heap[D]? =some o) (b:o.isCells=false):Row (W.putObj D o') g t xs:=
 h.others (grownBy_putObj' W D o') (fun c a=>by cases a;exact⟨o,hD,b⟩)
theorem znr {w:c} {a:List Rat} (ha:IsV w (C6 w) C (C5 a)) (g:IsV w (C6 w) F (C5 b)) (bd:Bru w) (aH:a.length=M) (aI:b.length=M) (dN:M<=40) (sa:∀q∈a,Sz q 1024) (sb:∀q∈b,Sz q 1024):
 r Tryz.prog 117 #[C,F] w (L5 w (K9 a b)):=by
 obtain⟨A,S,rfl,_⟩:=K3 ha;obtain⟨B,d,rfl,_⟩:=K3 g;have aC:(C5 a).length=M:=(by simp[C5,aH]);have aD:(C5 b).length=M:=(by simp[C5,aI]);rw[aC] at ha;rw[aD] at g;rw[aC,aD];obtain⟨ea,bg,c2,bh⟩:=ydn ha;obtain⟨eb,bi,c3,bj⟩:=ydn g;obtain⟨z,br,rfl,rfl,bu⟩:=yuw bh bj aH aI sa sb;obtain⟨bZ,b0,cc,bR⟩:=U2 bg bi br bd;have b4:Hid (K9 a b=zky (z.map Pair.qs)):=(by rw[Hid,bu];rfl);clear ha g bg c2 bh bi c3 bj aH aI aC aD sa sb bd br bu;obtain⟨dc,c8,be,k,aV⟩:=J7 w #[.bool false,.slice none 0 0,.slice none 0 0] 37;obtain⟨cf,bX⟩:=C7 k be;clear k be;refine(callsIn_wide (n:=3)).1 ?_;refine callsIn_of_wp_marks Tryz.func117 rfl trivial ?_ rfl;simp only[Tryz.ntmps117,List.size_toArray,List.length_cons,List.length_nil,Nat.reduceAdd,Nat.reduceSub,Array.replicate_succ,Array.replicate_zero,List.push_toArray,List.append_toArray,List.nil_append,List.cons_append];refine wpIn_wide.2 ?_;go_wp2_with fail;clear c8;refine(zro _).mono ?_;rintro aB j ⟨⟨ei,rfl,hv⟩,g⟩;obtain⟨aQ,ag,aM,af,aN,rfl,_,_,_⟩:=G4 hv;have ca:=e hv;have bY:=nB bX g;have cg:=e (cf.out.next g);have dW:dc.heap.size<=j.heap.size:=g.size;clear hv g;go_wp2_with fail;refine(zz1528 _ _ _ _ _ _ _).mono ?_;rintro aB v ⟨rfl,aG,az,aA,bt⟩;rw[World.size_alloc] at az aA bt;have Z:Below j.heap.size j v:=((Below.refl _ j).alloc (l _) _).trans (aG.mono (by simp));have cd:Hid (Row v j.heap.size 37 [.bool aQ,.slice ag (A9 0).length aM,.slice af (A9 1).length aN]):=Row.next (heap_alloc_new j _) aG
 have bV:Hid (IsQ v (fun b=>(w.heap.size<b/\b<v.heap.size)/\b≠j.heap.size) (.agg #[.bool aQ,.slice ag (A9 0).length aM,.slice af (A9 1).length aN]) (zky (([]:List (Pair w)).map Pair.qs))):=
  IsQ.stb.to ca.out (fun x i=>⟨⟨⟨by have:=i.1;have:=aV.out;omega,by have:=i.2;omega⟩,by have:=i.2;omega⟩,fun o=>Z.cell (p:=⟨x,o,none⟩) i.2⟩)
 have N:=nB bY Z;obtain⟨ch,aT⟩:=C7 (cg.out.next Z) (m az aA);simp only[World.size_alloc] at bt⊢;clear aG Z az aA;go_wp2_with fail;have aK:w.heap.size<=v.heap.size:=N.out.size;have dU:w.heap.size+1<=j.heap.size:=oh aV;refine(wpIn_wide (n:=3)).1 ?_
 refine wpIn_rangeFunc_ownH rfl og (gf:=193) (lb:= #[.pointer (some ⟨j.heap.size+1,0,none⟩),.pointer (some ⟨j.heap.size+1+1,0,none⟩)]) rfl trivial (enters_of Tryz.func193 kr rfl)
  (zz1529 (fun x=>x.1.1.1) (fun x=>x.1.2.1) z 2 og w.heap.size (j.heap.size+1) A B S d M cc.out og v og aT.out.1 aT.out.2 (bZ.out.below N.out (l _)) (b0.out.below N.out (l _)) aK)
  yds (ywp aK) (Below.refl _ _) (fun _=>rfl)
  (fun pre W=>ygf j.heap.size pre W/\Below w.heap.size w W/\Row W w.heap.size 37 [.bool false,.slice none 0 0,.slice none 0 0]/\v.heap.size<=W.heap.size) (fun _ _ _=>False)
  (OwnFrom.and (Own.from (ytx _) _) (OwnFrom.and (ownFrom_below (l _) aK) (OwnFrom.and (yar _ _) (yoh _ _)))) (fun _ _ _ _ _ c7 _ _=>c7)
  ⟨⟨_,_,_,cd.out,bV.out⟩,N.out,ch.out,l _⟩
  (yge v.heap.size (fun a8 a9 x y=> #[.slice A M S,.slice B M d,f,f,.pointer (some ⟨w.heap.size,0,none⟩),.pointer (some ⟨j.heap.size,0,none⟩),.pointer (some ⟨a8,0,none⟩),.pointer (some ⟨a9,0,none⟩),
    .agg #[.bool aQ,.slice ag (A9 0).length aM,.slice af (A9 1).length aN],.slice A M S,.slice B M d,.func (.func 193) #[] #[.pointer (some ⟨j.heap.size+1,0,none⟩),.pointer (some ⟨j.heap.size+1+1,0,none⟩)],
    q3 x,q3 y,f,f,f,f,f,f])) (fun _ _=>ytw _ _ _ _ _) ?assign ?body ?done ?stop
 case assign=>rintro c9 pre ⟨⟨⟨⟨bD,⟨bE,bF,bG⟩,⟨bH,bI,bJ⟩⟩,aO⟩,⟨⟨bK,⟨bL,bM,bN⟩,⟨bO,bP,bQ⟩⟩,aP⟩⟩,t⟩ W de ⟨⟨sg,bC,bB,u,s⟩,n,k,aa⟩ V;obtain⟨dr,dO,bf,H,I,bv⟩:=zkn W #[.bool bD,.slice bE bF bG,.slice bH bI bJ] #[.bool bK,.slice bL bM bN,.slice bO bP bQ] 37 37;obtain⟨aU,G,ae,E⟩:=U2 (m H I) bf (m u s) (m n k);clear H I bf u s n k;dsimp only[q3];gi_wp2;have aL:w.heap.size<=W.heap.size:=E.out.1.size;have dX:j.heap.size<W.heap.size:=ae.out.1.lt;refine V _ _ ((zxb G.out).from _) (ykm G.out aL) ⟨⟨_,_,_,ae.out.1.next G.out,IsQ.stb.to ae.out.2 (fun x i=>⟨⟨⟨i.1.1,by have:=bv.out;have:=i.1.2;omega⟩,i.2⟩,fun o=>G.out.cell (p:=⟨x,o,none⟩) i.1.2⟩)⟩,C8 E.out.1 G.out,E.out.2.next G.out,by have:=bv.out;omega⟩ ⟨_,_,rfl,aa,by omega,aU.out.1,aU.out.2⟩
 case body=>
  rintro c9 pre x ds W dR dV ⟨⟨sg,bC,bB,u,s⟩,n,k,aa⟩ ⟨a8,a9,rfl,dP,dQ,H,I⟩ dS;have aJ:(pre++[x]).map Pair.qs=pre.map Pair.qs++[(x.1.1.2,x.1.2.2)]:=(by rw[List.map_append];rfl);generalize pre++[x]=da at aJ⊢;obtain⟨⟨⟨⟨bD,⟨bE,bF,bG⟩,⟨bH,bI,bJ⟩⟩,aO⟩,⟨⟨bK,⟨bL,bM,bN⟩,⟨bO,bP,bQ⟩⟩,aP⟩⟩,t⟩:=x;dsimp only[q3,q3c,ybr] at H I t⊢;obtain⟨a0,Y⟩:=nm (zky (pre.map Pair.qs));obtain⟨p,ab⟩:=nm (aO*aP);obtain⟨cm,aE⟩:=nm (a0+p);have bm:cm=zky (da.map Pair.qs):=(by rw[aJ,zz1476,aE,Y,ab]);have b1:=e bm;have b7:Hid (Sz a0 100000):=(by rw[Hid,Y];exact zz1475 pre og);have b5:Hid (Sz p 100000):=(by rw[Hid,ab];exact(t.2.2.1.mul t.2.2.2).le og);have b8:Hid (Sz aO 100000):=t.2.2.1.le og;have b9:Hid (Sz aP 100000):=t.2.2.2.le og;rw[<-Y] at s;obtain⟨b3,bU⟩:=C7 ab aE;have aL:w.heap.size<=W.heap.size:=n.size;have E:=e (m n k);have bq:=IsQ.stb.to s (T:=C6 W) (G6 fun b g=>g.1.2);clear s;obtain⟨aW,aY,av,O,al,aq,a2⟩:=hd7 (IsQ.stb.to t.1 (E0 n)) (IsQ.stb.to t.2.1 (E0 n)) (bq) (u) (H) (I) (k);have aS:=nU bR n;obtain⟨a5,bx⟩:=C7 (Below.refl W.heap.size W) (l W.heap.size);obtain⟨db,K,T,L,U,J,_,_,_⟩:=G4 av.out;simp only[Value.agg.injEq,Array.mk.injEq,List.cons.injEq,Value.bool.injEq] at J;obtain⟨rfl,rfl,rfl,_⟩:=J;clear u H I k t n bq Y ab aE bm aJ;obtain⟨cr,cu,cx⟩:=C4 O.out;obtain⟨cS,cV,cY⟩:=F6 O.out;obtain⟨cA,cD,cG⟩:=C4 al.out;obtain⟨cJ,cM,cP⟩:=C4 aq.out;gi_wp2;have dT:Tryz.prog.follows .mixedOrders=true:=(by kernel_rfl);have ai:=nQ aW (L9 _);have aj:=nQ aY (L9 _);have a1:=nQ av (L9 _);have P:=nR O (L9 _);have an:=nR al (L9 _);have ar:=nR aq (L9 _);have a3:=nR a2 (L9 _);have ac:=nU aS (L9 _);have a6:=nB a5 (L9 _);have bA:=nS bx (L9 _);clear aW aY av O al aq a2 aS a5 bx;clear cr cu cx cS cV cY cA cD cG cJ cM cP;obtain⟨cs,cv,cy⟩:=C4 P.out;obtain⟨cT,cW,cZ⟩:=F6 P.out;obtain⟨cB,cE,cH⟩:=C4 an.out;obtain⟨cK,cN,cQ⟩:=C4 ar.out
  gi_region_with_o (first
   |((refine m trivial ?_);gi_at_call 158;have hc:=zz1488 ai.out aj.out ac.out b8.out b9.out b3.out;(with_reducible refine CallsIn.inRound _ (callsIn_wide.2 (hc.mono ?_)));clear hc;rintro aB em ⟨⟨ej,rfl,bn⟩,g⟩;have newP:=e (IsQ.stb.old bn);have aX:=nQ ai g;have aZ:=nQ aj g;have ay:=nQ a1 g;have Q:=nR P g;have ao:=nR an g;have au:=nR ar g;have a4:=nR a3 g;have ad:=nU ac g;have a7:=nB a6 g;have aR:=nS bA g;clear ai aj a1 P an ar a3 ac a6 bA;have ah:=newP;clear newP;obtain⟨ee,di,dY,df,ec,rfl,_,_,_⟩:=G4 bn;clear cs cv cy cT cW cZ cB cE cH cK cN cQ;obtain⟨ct,cw,cz⟩:=C4 Q.out;obtain⟨cU,cX,c0⟩:=F6 Q.out;obtain⟨cC,cF,cI⟩:=C4 ao.out;obtain⟨cL,cO,cR⟩:=C4 au.out)
   |((refine m trivial ?_);gi_at_call 160;have hc:=ymp ay.out ah.out ad.out b7.out b5.out bU.out;(with_reducible refine CallsIn.inRound _ (callsIn_wide.2 (hc.mono ?_)));clear hc;rintro aB en ⟨⟨ek,rfl,bp⟩,g⟩;have bw:=e (IsQ.stb.le bp aR.out);have dm:=nQ aX g;have dn:=nQ aZ g;have dq:=nQ ay g;have ak:=nR Q g;have ck:=nR ao g;have cl:=nR au g;have cq:=nR a4 g;have dd:=nU ad g;have R:=nB a7 g;have eh:=nS aR g;have dk:=nQ ah g;clear aX aZ ay Q ao au a4 ad a7 aR ah;have cn:=bw;clear bw;obtain⟨eg,dj,dZ,dh,ed,rfl,_,_,_⟩:=G4 bp;clear ct cw cz cU cX c0 cC cF cI cL cO cR;obtain⟨dw,dx,dy⟩:=C4 ak.out;obtain⟨dK,dL,dM⟩:=F6 ak.out;obtain⟨dz,dA,dB⟩:=C4 ck.out;obtain⟨dC,dD,dE⟩:=C4 cl.out))
  all_goals(
   change KeepsFrom _ _ _/\zpj _ _ _ _ _ _/\_
   have c5:=yaz aa R.out
   refine⟨((zxb R.out).trans (ywo _ _ _ _ _)).from _,yds (ykm R.out aL) (ywr _ _ _ _ og og og),⟨_,_,_,Row.put3 ak.out _ _ _,?_⟩,zqe (C8 E.out.1 R.out) og _ _ _,(zzj _ _ _ _ _ og).trans cq.out,by rw[zqv];exact c5⟩
   rw[<-b1.out]
   exact IsQ.stb.to cn.out (zqt fun x i=>⟨by have:=i.1;omega,by have:=i.1;rw[zqv];exact⟨⟨by omega,i.2⟩,by omega⟩⟩))
 case done=>
  rintro D xs W hD rfl ⟨⟨sg,bC,bB,u,s⟩,n,k,aa⟩ V;obtain⟨cb,E,dp,cj,bT⟩:=hd5 s n u k V;obtain⟨db,K,T,L,U,J,_,_,_⟩:=G4 s;simp only[Value.agg.injEq,Array.mk.injEq,List.cons.injEq,Value.bool.injEq] at J;obtain⟨rfl,rfl,rfl,_⟩:=J;obtain⟨dt,du,dv⟩:=C4 u;obtain⟨d0,dF,dG⟩:=C4 k;obtain⟨dH,dI,dJ⟩:=F6 k;clear s n u k V;go_wp2_with fail;have c4:D≠w.heap.size:=og;have X:=(zzj W w.heap.size (.bool sg) (.slice K (A9 (zky (xs.map Pair.qs)).num.natAbs).length T) (.slice L (A9 (zky (xs.map Pair.qs)).den).length U) c4).trans bT.out;have c6:=(Row.put3 cj.out (.bool sg) (.slice K (A9 (zky (xs.map Pair.qs)).num.natAbs).length T) (.slice L (A9 (zky (xs.map Pair.qs)).den).length U)).putD (o':= .deferred none) X rfl;refine⟨by simp,.inl ⟨_,_,rfl,run_takeDeferred X,?_⟩⟩;refine⟨.agg #[.bool sg,.slice K (A9 (zky (xs.map Pair.qs)).num.natAbs).length T,.slice L (A9 (zky (xs.map Pair.qs)).den).length U],zz1421 rfl rfl c6,⟨_,rfl,?_⟩,?_⟩
  ·rw[b4.out];refine zz1397 (IsQ.stb.to cb.out (zqt fun x i=>⟨by have:=i.1;omega,?_⟩)) X rfl;have c1:=i.1;refine⟨by omega,?_⟩;rw[World.putObj_size,zqv];exact c1.2
  ·exact(zqe E.out (l _) _ _ _).trans (belowK_b (w:=w) (l _) _ D _ _ og X rfl rfl)
 case stop=>rintro D S pre W _ _ h _;exact h.elim
def zme (A:List (List Rat)) (C y:List Rat):Bool:=(List.range C.length).all (fun k=>decide (C.getD k 0<=K9 (zkh A k) y))&& !zlz (C5 y)
theorem ycf {a:Nat->Bool} (h:∀k,k<n->a k=true):(List.range n).all a=true:=List.all_eq_true.2 fun k b=>h k (List.mem_range.1 b)
theorem yce {a:Nat->Bool} (b:k<n) (h:a k=false):(List.range n).all a=false:=by
 cases c:(List.range n).all a with
 |false=>rfl
 |true=>have:=List.all_eq_true.1 c k (List.mem_range.2 b);rw[h] at this;cases this
theorem zwv {A:List (List Rat)} (h:∀row∈A,∀q∈row,Sz q n) (b:1<=n):∀q∈zkh A k,Sz q n:=by
 intro q c;obtain⟨row,d,rfl⟩:=List.mem_map.1 c;cases a:row[k]? with
 |none=>rw[z,a];exact Sz.zero.le b
 |some q=>rw[z,a];exact h row d q (u a)
theorem zwu (A:List (List Rat)) (k:Nat):(zkh A k).length=A.length:=d _
theorem zkr (a:List Rat):(C5 a).length=a.length:=d _
theorem zqp (a:List (List Rat)):(J4 a).length=a.length:=d _
theorem zz1473 {n:Nat} {a:List (Rat×Rat)} (b:a.length<=40) (h:∀p∈a,Sz p.1 1024/\Sz p.2 1024):Sz (zky a) 100000:=(yor h).le (by have:=q (2*1024+1) b;omega)
theorem zve {a:List Rat} (ha:∀q∈a,Sz q 1024) (d:∀q∈b,Sz q 1024) (e:a.length<=40):Sz (K9 a b) 100000:=by refine zz1473 (n:=1024) (by rw[List.length_zip];omega) fun p c=> ?_;exact⟨ha _ (List.of_mem_zip c).1,d _ (List.of_mem_zip c).2⟩
theorem ybc {w:c} {vp vy:j} {y:List Rat} (bM:IsP w (C6 w) vp (J6 p)) (aa:IsV w (C6 w) vy (C5 y)) (a8:Bru w) (aK:Good p 1024) (bf:y.length=p.B.length) (bg:∀q∈y,Sz q 1024):
 r Tryz.prog 167 #[vp,vy] w fun t w'=>t= .returned (.bool (zme p.A p.C y))/\Below w.heap.size w w':=by
 obtain⟨A,S,B,a6,C,a7,rfl,aI,a9,W⟩:=bM;obtain⟨D,b0,rfl,_⟩:=K3 aa;simp only[J6,zkr,zqp] at aI a9 W aa⊢;obtain⟨a,a0,ae,bn,bm,aX,aY⟩:=hd7 aK bf bg a8 aI W aa;obtain⟨n,Z⟩:=nm (p.C.length);have L:=e Z;have bV:n<=40:=(by rw[Z];exact aK.nC);rw[<-Z] at W⊢;clear aI a9 W aa a8 aK bf bg Z;rw[<-L.out] at aX;obtain⟨b8,bN,bd,aR,bX⟩:=J7 w #[.slice A p.A.length S,.slice B p.B.length a6,.slice C n a7] 143;obtain⟨bB,bp⟩:=C7 aR bd;obtain⟨T,U,V⟩:=C4 aR;clear aR bd;go_in;go_wp2_with fail;clear bN T U V;go_loopw [11] (fun aO wr=>∃k:Nat,k<=n/\aO= .int .i64 (k:Int)/\Below w.heap.size w wr/\Row wr w.heap.size 143 [.slice A p.A.length S,.slice B p.B.length a6,.slice C n a7]/\Hid (∀v,v<k->decide (p.C.getD v 0<=K9 (zkh p.A v) y)=true)) (fun aO _=>n-(intOf aO).toNat);case atStart=>exact⟨0,G _,rfl,bp.out,bB.out,fun v bL=>by omega⟩
 case round=>
  obtain⟨k,b7,rfl,M,O,hrel⟩:=hrel;have a1:=e hrel.out;clear hrel;rcases E k n with Y|b5
  ·obtain⟨m,hc,be⟩:=zrl (l:=p.C) (j:=k) (by rw[<-L.out];exact Y);obtain⟨b,off,ag,aP,ah,aQ,rfl,b4,aJ,ai,aj,ak⟩:=znt (IsV.stb.to aX.out (E0 M)) be;have b1:=U0;obtain⟨s,aL⟩:=nm ((E9 m).neg);obtain⟨aS,aM⟩:=nm ((E9 m).num.length);obtain⟨aT,aN⟩:=nm ((E9 m).den.length);rw[<-aL] at ai;rw[<-aM] at aj;rw[<-aN] at ak;rw[<-aL,<-aM,<-aN] at aJ;obtain⟨bu,aZ⟩:=C7 aJ hc;have a2:Hid (Sz m 100000):=(a.out.szC m (u hc)).le og;obtain⟨d,hd⟩:=nm (K9 (zkh p.A k) y);have R:=e hd;have a3:Hid (Sz d 100000):=(by rw[Hid,hd];exact zve (zwv a.out.szA og) ae.out (by rw[zwu,a.out.rows];exact a.out.nB));clear aJ hc be aL aM aN hd;obtain⟨bj,bh,X,bi,bY⟩:=J7 wr #[.bool s,.slice ag aS aP,.slice ah aT aQ] 37;have i:=C8 M X;obtain⟨aU,a4,aW,g,l,a5⟩:=hd6 (IsM.stb.to bm.out (E0 i)) (IsV.stb.to aY.out (E0 i)) (IsQ.stb.next (zqj bu.out) X) (O.next X) (bi) (i);have aV:=nU bn i;have b3:wr.heap.size≠w.heap.size:=(by have:=O.lt;omega);obtain⟨T,U,V⟩:=C4 O;clear M O X i bi;rcases Decidable.em (d<m) with I|I
   ·obtain⟨o,J⟩:=nm (Z0 d m);have bK:o<0:=(by rw[J,zwt I];omega);have ac:Hid (zme p.A p.C y=false):=(by rw[Hid,zme,yce (k:=k) (by rw[<-L.out];exact Y) (decide_eq_false (by rw[z,aZ.out,<-R.out];exact Rat.not_le.2 I))];rfl);have ad:=e J;clear J I;go_wp2_with fail;clear bh T U V ai aj ak;obtain⟨aD,bC,bG⟩:=C4 g.out;obtain⟨al,ar,az⟩:=C4 l.out
    go_region_held3 (fun w'=>w'.cell? ⟨w.heap.size,0,none⟩=some (.slice A p.A.length S)/\w'.cell? ⟨wr.heap.size,0,none⟩=some (.bool s)/\w'.cell? ⟨wr.heap.size,1,none⟩=some (.slice ag aS aP)/\w'.cell? ⟨wr.heap.size,2,none⟩=some (.slice ah aT aQ))
     (first
       |exact⟨aD,al,ar,az⟩
       |exact⟨aE,an,au,aA⟩
       |exact⟨aG,ao,av,aB⟩
       |exact⟨aH,aq,ay,aC⟩)
     (first
       |(go_at_call 118;have hc:=zyx (n:=n) (uM bj.drew aU) (by rw[a.out.rows];exact x a.out.nB og) (fun row hr=>(a.out.cols row hr).trans L.out.symm) Y og;(with_reducible refine hc.mono ?_);clear hc;rintro t f ⟨⟨bT,rfl,P⟩,H⟩;have af:=e (P);obtain⟨bx,bO,rfl,_⟩:=K3 P;obtain⟨aE,bD,bH⟩:=C4 (uR f g);obtain⟨an,au,aA⟩:=C4 (uR f l))
       |(go_at_call 117;have hc:=(show r _ _ _ _ (L5 _ d) from by rw[R.out];exact znr (M:=p.B.length) af.out (uV f a4) (uU f aV) (by rw[zwu];exact a.out.rows) a0.out a.out.nB (zwv a.out.szA og) ae.out);(with_reducible refine hc.mono ?_);clear hc;rintro t K ⟨⟨bU,rfl,Q⟩,H⟩;have ab:=e (IsQ.stb.old Q);obtain⟨bR,bA,bP,bw,bQ,rfl,_,_,_⟩:=G4 Q;obtain⟨aG,bE,bI⟩:=C4 (uR K g);obtain⟨ao,av,aB⟩:=C4 (uR K l))
       |(go_at_call 116;have hc:=zsf ab.out (uQ K aW) a3.out a2.out;(with_reducible refine hc.mono ?_);clear hc;rintro t F ⟨N,H⟩;rw[<-ad.out] at N;subst N;obtain⟨aH,bF,bJ⟩:=C4 (uR F g);obtain⟨aq,ay,aC⟩:=C4 (uR F l)))
    go_wp2_with fail;go_ret;exact⟨zpx ac.out.symm,(uB F a5)⟩
   ·obtain⟨o,J⟩:=nm (Z0 d m);have bK:¬o<0:=(by rw[J];unfold Z0;rw[if_neg I];split<;>omega);have bv:Hid (decide (p.C.getD k 0<=K9 (zkh p.A k) y)=true):=decide_eq_true (by rw[z,aZ.out,<-R.out];exact Rat.not_lt.1 I);have ad:=e J;clear J I;go_wp2_with fail;clear bh T U V ai aj ak;obtain⟨aD,bC,bG⟩:=C4 g.out;obtain⟨al,ar,az⟩:=C4 l.out
    go_region_held3 (fun w'=>w'.cell? ⟨w.heap.size,0,none⟩=some (.slice A p.A.length S)/\w'.cell? ⟨wr.heap.size,0,none⟩=some (.bool s)/\w'.cell? ⟨wr.heap.size,1,none⟩=some (.slice ag aS aP)/\w'.cell? ⟨wr.heap.size,2,none⟩=some (.slice ah aT aQ))
     (first
       |exact⟨aD,al,ar,az⟩
       |exact⟨aE,an,au,aA⟩
       |exact⟨aG,ao,av,aB⟩
       |exact⟨aH,aq,ay,aC⟩)
     (first
       |(go_at_call 118;have hc:=zyx (n:=n) (uM bj.drew aU) (by rw[a.out.rows];exact x a.out.nB og) (fun row hr=>(a.out.cols row hr).trans L.out.symm) Y og;(with_reducible refine hc.mono ?_);clear hc;rintro t f ⟨⟨bT,rfl,P⟩,H⟩;have af:=e (P);obtain⟨bx,bO,rfl,_⟩:=K3 P;obtain⟨aE,bD,bH⟩:=C4 (uR f g);obtain⟨an,au,aA⟩:=C4 (uR f l))
       |(go_at_call 117;have hc:=(show r _ _ _ _ (L5 _ d) from by rw[R.out];exact znr (M:=p.B.length) af.out (uV f a4) (uU f aV) (by rw[zwu];exact a.out.rows) a0.out a.out.nB (zwv a.out.szA og) ae.out);(with_reducible refine hc.mono ?_);clear hc;rintro t K ⟨⟨bU,rfl,Q⟩,H⟩;have ab:=e (IsQ.stb.old Q);obtain⟨bR,bA,bP,bw,bQ,rfl,_,_,_⟩:=G4 Q;obtain⟨aG,bE,bI⟩:=C4 (uR K g);obtain⟨ao,av,aB⟩:=C4 (uR K l))
       |(go_at_call 116;have hc:=zsf ab.out (uQ K aW) a3.out a2.out;(with_reducible refine hc.mono ?_);clear hc;rintro t F ⟨N,H⟩;rw[<-ad.out] at N;subst N;obtain⟨aH,bF,bJ⟩:=C4 (uR F g);obtain⟨aq,ay,aC⟩:=C4 (uR F l)))
    go_wp2_with fail;go_roundw
    case rel=>
     refine⟨k+1,by omega,by go_num,(uB F a5),(uR F g),fun v bL=> ?_⟩;rcases E v k with h|h
     ·exact a1.out v h
     ·obtain rfl:v=k:=og;exact bv.out
    case measure=>simp[intOf];omega
  ·obtain rfl:k=n:=og;have ac:Hid (zme p.A p.C y= !zlz (C5 y)):=(by rw[Hid,zme,ycf (by rw[<-L.out];exact a1.out)];rfl);obtain⟨bq,bt⟩:=C7 (IsV.stb.to aY.out (E0 M)) M;clear M O;go_wp2_with fail;refine(zxk bq.out).mono ?_;rintro t f ⟨rfl,H⟩;obtain⟨bZ,i⟩:=nm (zlz (C5 y));rw[<-i];have br:=e i;clear i;go_wp2_with fail;go_ret;exact⟨zpx (by rw[ac.out,br.out]),C8 bt.out H⟩
attribute [local go_sem] Oper.semAt_some
set_option linter.unusedVariables false
def zlg (A:List (List Rat)) (B x:List Rat):Bool:=(A.zip B).all (fun p=>decide (K9 p.1 x<=p.2))&& !zlz (C5 x)
def yca (w:c) (n:Nat) (p:(S3×List Rat)×(Q3×Rat)):Prop:=IsV w (C6 w) (.slice p.1.1.1 p.1.1.2.1 p.1.1.2.2) (C5 p.1.2)/\p.1.2.length=n/\IsQ w (C6 w) (q3 p.2.1) p.2.2/\(∀q∈p.1.2,Sz q 1024)/\Sz p.2.2 1024
abbrev Side (w:c) (n:Nat):={p:(S3×List Rat)×(Q3×Rat)//yca w n p}
def Side.qs {w:c} {n:Nat} (x:Side w n):List Rat×Rat:=(x.1.1.2,x.1.2.2)
def sl3 (x:S3):j:= .slice x.1 x.2.1 x.2.2
theorem yuz:(∀(b:Nat) (a:j),es[b]? =some a->∃x,a=sl3 x)->∃c:List S3,c.map sl3=es:=by
 induction es with
 |nil=>exact fun _=>⟨[],rfl⟩
 |cons a es ih=>intro h;obtain⟨x,rfl⟩:=h 0 a rfl;obtain⟨c,rfl⟩:=ih fun b a d=>h (b+1) a d;exact⟨x::c,rfl⟩
theorem yuy {w:c} {eb:List Q3} {A:List (List Rat)} {B:List Rat} (ha:All2 (IsV w (C6 w)) es (J4 A)) (i:All2 (fun x J=>IsR w (C6 w) (q3 x) J) eb (C5 B)) (E:A.length=M) (F:B.length=M)
 (s:∀row∈A,row.length=n) (sa:∀row∈A,∀q∈row,Sz q 1024) (sb:∀q∈B,Sz q 1024):∃z:List (Side w n),z.length=M/\z.map (fun x=>sl3 x.1.1.1)=es/\z.map (fun x=>x.1.2.1)=eb/\z.map Side.qs=A.zip B:=by
 have G:es.length=M:=(by rw[ha.1];simpa[J4] using E);have N:eb.length=M:=(by rw[i.1];simpa[C5] using F);obtain⟨ea,rfl⟩:=yuz (es:=es) (fun b m j=>by have e:b<(J4 A).length:=(by rw[<-ha.1];exact(List.getElem?_eq_some_iff.1 j).1);obtain⟨K,k,L,rfl,_⟩:=ha.2 b m _ j (List.getElem?_eq_getElem e);exact⟨(_,_,_),rfl⟩);rw[d] at G
 obtain⟨z,f⟩:=yiy (P:=yca w n) (l:=(ea.zip A).zip (eb.zip B)) (by
  intro x t;obtain⟨b,e⟩:=List.getElem?_of_mem t;rw[List.getElem?_zip_eq_some,List.getElem?_zip_eq_some,List.getElem?_zip_eq_some] at e;obtain⟨⟨o,a⟩,r,g⟩:=e;refine⟨ha.2 b (sl3 x.1.1) _ (by rw[h,o];rfl) ?_,s _ (u a),i.2 b _ _ r ?_,sa _ (u a),sb _ (u g)⟩
  ·rw[J4,h,a];rfl
  ·rw[C5,h,g];rfl)
 have v:(ea.zip A).map Prod.fst=ea:=List.map_fst_zip og;have y:(ea.zip A).map Prod.snd=A:=List.map_snd_zip og;have C:(eb.zip B).map Prod.fst=eb:=List.map_fst_zip og;have D:(eb.zip B).map Prod.snd=B:=List.map_snd_zip og;have H:((ea.zip A).zip (eb.zip B)).map Prod.fst=ea.zip A:=List.map_fst_zip (by rw[List.length_zip,List.length_zip];omega);have I:((ea.zip A).zip (eb.zip B)).map Prod.snd=eb.zip B:=List.map_snd_zip (by rw[List.length_zip,List.length_zip];omega);refine⟨z,?_,?_,?_,?_⟩
 ·rw[<-d (f:=Subtype.val),f,List.length_zip,List.length_zip,List.length_zip];omega
 ·have:z.map (fun x=>sl3 x.1.1.1)=((z.map Subtype.val).map (fun p=>p.1.1)).map sl3:=(by rw[List.map_map,List.map_map];rfl);rw[this,f];have a:((ea.zip A).zip (eb.zip B)).map (fun p=>p.1.1)=(((ea.zip A).zip (eb.zip B)).map Prod.fst).map Prod.fst:=(by rw[List.map_map];rfl);rw[a,H,v]
 ·rw[<-C,<-I,<-f,List.map_map,List.map_map];rfl
 ·have:z.map Side.qs=(z.map Subtype.val).map (fun p=>(p.1.2,p.2.2)):=(by rw[List.map_map];rfl);have l:=List.zip_map (f:=(Prod.snd:S3×List Rat->List Rat)) (g:=(Prod.snd:Q3×Rat->Rat)) (l₁:=ea.zip A) (l₂:=eb.zip B);rw[y,D] at l;rw[this,f,l];rfl
theorem ysn {p q:Rat} (h:¬q<p):¬Z0 p q>0:=by
 rcases Decidable.em (p<q) with a|a
 ·rw[zwt a];omega
 ·rw[zys (Rat.le_antisymm (Rat.not_lt.1 h) (Rat.not_lt.1 a))];omega
def zqk {w:c} {n:Nat} (x:List Rat) (s:Side w n):Bool:=decide (K9 s.qs.1 x<=s.qs.2)
theorem yvb {w:c} {z:List (Side w n)} {A:List (List Rat)} {B x:List Rat} (h:z.map Side.qs=A.zip B):zlg A B x=(z.all (zqk x)&& !zlz (C5 x)):=by unfold zlg;rw[<-h,List.all_map];rfl
def ygl (n:Nat) (d:Nat->S3->Q3->Array j) {w:c} {e:Nat} (x:Side w e) (a:Act) (W:c):Prop:=
 ∃b,a={tmps:=d b x.1.1.1 x.1.2.1,defers:=[]}/\n<=b/\Row W b 37 (q3c x.1.2.1)
theorem zz1457 (n l:Nat) (b:Nat->S3->Q3->Array j) {w:c} (x:Side w k) (a:Act):OwnFrom l (fun(_:Unit) W=>ygl n b x a W):=by rintro _ X Y row ⟨e,f,g,h⟩ i hr;exact⟨e,f,g,h.others i (fun m d=>(hr m d).2)⟩
theorem yev {b:Type} (a:Nat) (p:b->Prop):OwnFrom a (fun s (_:c)=>p s):=fun _ _ _ _ h _ _=>h
theorem ynd {a:Func} {slot:Tmp} {w:c} {b:Bool} (hr:a.results= #[.cell slot 4]) (ha:tmps.getD slot f= .pointer (some ⟨g,0,none⟩))
 (h:Row w g 4 [.bool b]):(results a tmps).run Tryz.prog w= .ok (.bool b) w:=by have d:=zma h;have e:tmps[slot]?.getD f= .pointer (some ⟨g,0,none⟩):=(by simpa using ha);simp[results,hr,e,asAddr,go_sem,d]
theorem zvh {w:c} {vp vx:j} {x:List Rat} (cU:IsP w (C6 w) vp (J6 p)) (aM:IsV w (C6 w) vx (C5 x)) (bL:Bru w) (V:Good p 1024) (bX:x.length=p.C.length) (b0:∀q∈x,Sz q 1024):
 r Tryz.prog 121 #[vp,vx] w fun S w'=>S= .returned (.bool (zlg p.A p.B x))/\Below w.heap.size w w':=by
 obtain⟨A,aH,B,aI,C,bJ,rfl,bj,bm,bM⟩:=cU;obtain⟨D,aW,rfl,_⟩:=K3 aM;simp only[J6,zkr,zqp] at bj bm bM aM⊢;obtain⟨ea,bP,cQ,bQ⟩:=ywk bj;obtain⟨eb,bR,cR,bT⟩:=ydn bm;obtain⟨M,ao⟩:=nm (p.B.length);have bp:p.A.length=M:=(by rw[ao,V.rows]);rw[bp,<-ao];obtain⟨z,b1,rfl,rfl,b3⟩:=yuy bQ bT bp ao.symm V.cols V.szA V.szB;obtain⟨cs,ct,cw,cj,bw,aO,bC,aS⟩:=zmc bP bR b1 bL aM V bX b0;have bA:Hid (zlg p.A p.B x=(z.all (zqk x)&& !zlz (C5 x))):=yvb b3;have df:M<=40:=(by rw[ao];exact V.nB);clear bP cQ bQ bR cR bT bj bm bM aM bL V bX b0 b1 b3 bp ao;obtain⟨ae,cW,bN,b7,u,g,cv⟩:=znd w #[.slice A M aH,.slice B M aI,.slice C p.C.length bJ] #[.slice D x.length aW] #[.bool false] 143 30 4;obtain⟨cz,cB,ck⟩:=H7 u g bN;obtain⟨cG,cH,cI⟩:=C4 b7;clear b7 u g bN;refine(callsIn_wide (n:=3)).1 ?_;refine callsIn_of_wp_marks Tryz.func121 rfl trivial ?_ rfl;simp only[Tryz.ntmps121,List.size_toArray,List.length_cons,List.length_nil,Nat.reduceAdd,Nat.reduceSub,Array.replicate_succ,Array.replicate_zero,List.push_toArray,List.append_toArray,List.nil_append,List.cons_append];refine wpIn_wide.2 ?_;go_wp2_with fail;clear cW cG cH cI;refine(zz1530 _ _ _ _ _ _ _).mono ?_;rintro S av ⟨rfl,aJ,bH,bI,cX⟩;have az:=nB ck aJ;obtain⟨cA,cC,bv,c8⟩:=U2 (cz.out.next aJ) (cB.out.next aJ) (m bH bI) cX;clear aJ bH bI;go_wp2_with fail;have aK:w.heap.size<=av.heap.size:=az.out.size;have dm:ae.heap.size+2<=av.heap.size:=og;refine(wpIn_wide (n:=3)).1 ?_
 refine wpIn_rangeFunc_ownH rfl og (gf:=194) (lb:= #[.pointer (some ⟨ae.heap.size,0,none⟩),.pointer (some ⟨ae.heap.size+1,0,none⟩)]) rfl trivial (enters_of Tryz.func194 kr rfl)
  (zz1531 (fun x=>sl3 x.1.1.1) (fun x=>x.1.2.1) z 2 og w.heap.size ae.heap.size A B aH aI M cw.out og av og bv.out.1 bv.out.2 (cs.out.below az.out (l _)) (ct.out.below az.out (l _)) aK)
  yko (ywt aK) (Below.refl _ _) (fun _=>rfl)
  (fun pre W=>Below w.heap.size w W/\Row W (w.heap.size+1) 30 [.slice D x.length aW]/\Row W (w.heap.size+1+1) 4 [.bool false]/\av.heap.size<=W.heap.size/\pre.all (zqk x)=true)
  (fun aG pre W=>Below w.heap.size w W/\Row W (w.heap.size+1+1) 4 [.bool false]/\aG= .ret/\pre.all (zqk x)=false)
  (OwnFrom.and (ownFrom_below (l _) aK) (OwnFrom.and (yar _ _) (OwnFrom.and (yar _ _) (OwnFrom.and (yoh _ _) (yev _ _)))))
  (fun aG=>OwnFrom.and (ownFrom_below (l _) aK) (OwnFrom.and (yar _ _) (OwnFrom.and (yev _ (fun _=>aG= .ret)) (yev _ _))))
  ⟨az.out,cA.out,cC.out,l _,rfl⟩
  (ygl av.heap.size (fun bK b4 y=> #[.agg #[.slice A M aH,.slice B M aI,.slice C p.C.length bJ],.slice D x.length aW,.pointer (some ⟨w.heap.size,0,none⟩),.pointer (some ⟨w.heap.size+1,0,none⟩),.pointer (some ⟨w.heap.size+1+1,0,none⟩),sl3 b4,.pointer (some ⟨bK,0,none⟩),
    .pointer (some ⟨w.heap.size,0,none⟩),.pointer (some ⟨w.heap.size,0,none⟩),.slice A M aH,.pointer (some ⟨w.heap.size,0,none⟩),.pointer (some ⟨w.heap.size,1,none⟩),.slice B M aI,
    .func (.func 194) #[] #[.pointer (some ⟨ae.heap.size,0,none⟩),.pointer (some ⟨ae.heap.size+1,0,none⟩)],sl3 b4,q3 y,f,f,f,f,f,f,f,f,f])) (fun _ _=>zz1457 _ _ _ _ _) ?assign ?body ?done ?stop
 case assign=>rintro c0 pre ⟨⟨⟨⟨c2,b5,c3⟩,row⟩,⟨⟨b8,⟨b9,ca,cb⟩,⟨cc,cd,cf⟩⟩,ac⟩⟩,t⟩ W c9 ⟨b,u,g,aL,i⟩ T;obtain⟨da,dh,bO,ad,cY⟩:=J7 W #[.bool b8,.slice b9 ca cb,.slice cc cd cf] 37;obtain⟨cq,ag,n,aP⟩:=U2 ad bO (m b (m u g)) i;clear ad bO b u g i;dsimp only[q3,sl3];gi_wp2;have bt:w.heap.size<=W.heap.size:=n.out.1.size;have dp:=cY.out;exact T _ _ ((zxb ag.out).from _) (ykn ag.out bt) ⟨C8 n.out.1 ag.out,n.out.2.1.next ag.out,n.out.2.2.next ag.out,by omega,aP.out⟩ ⟨_,rfl,aL,cq.out⟩
 case body=>
  rintro c0 pre s db W dj dn ⟨b,u,g,aL,i⟩ ⟨bK,rfl,di,ad⟩ dk;have br:(pre++[s]).all (zqk x)=zqk x s:=(by rw[List.all_append,i];simp);generalize pre++[s]=bu at br⊢;obtain⟨⟨⟨⟨c2,b5,c3⟩,row⟩,⟨⟨b8,⟨b9,ca,cb⟩,⟨cc,cd,cf⟩⟩,ac⟩⟩,t⟩:=s;obtain⟨d,hd⟩:=nm (K9 row x);have bV:bu.all (zqk x)=decide (d<=ac):=(by rw[br,hd];rfl);dsimp only[q3,q3c,sl3,yca] at ad t⊢;have cS:b5=row.length:=(by obtain⟨c7,dc,bi,_⟩:=K3 t.1;rw[zkr] at bi;simp only[Value.slice.injEq] at bi;exact bi.2.1);subst cS;obtain⟨bB,bx⟩:=C7 bV hd;have bD:=e t.2.1;have bF:=e t.2.2.2.1;have bG:Hid (Sz ac 100000):=t.2.2.2.2.le og;have bY:row.length=p.C.length:=t.2.1;have bE:Hid (Sz d 100000):=(by rw[Hid,hd];exact zve t.2.2.2.1 aS.out (by rw[bY];exact aO.out.nC));have bt:w.heap.size<=W.heap.size:=b.size;obtain⟨n,aB,aC,aD,aa,F,ab⟩:=hd7 b (IsV.stb.to t.1 (E0 b)) (IsV.stb.to bw.out (E0 b)) (IsQ.stb.to t.2.2.1 (E0 b)) (u) (g) (ad);have ay:=nU cj b;have aE:=e (Below.refl W.heap.size W);clear u g ad t b br bV hd i bY;rcases Decidable.em (ac<d) with U|U
  ·obtain⟨o,X⟩:=nm (Z0 d ac);have cO:o>0:=(by rw[X,zyt U];omega);have aQ:Hid (bu.all (zqk x)=false):=(by rw[Hid,bB.out];exact decide_eq_false (Rat.not_le.2 U));have aR:=e X;clear X U;have aX:=zma aa.out;have a9:=zma F.out;have bf:=F.out.frozen 0;obtain⟨a0,a3,a6⟩:=C4 ab.out;gi_wp2;have cT:Tryz.prog.follows .mixedOrders=true:=(by kernel_rfl);have O:=nV aB (L9 _);have P:=nV aC (L9 _);have aj:=nQ aD (L9 _);have I:=nR aa (L9 _);have v:=nR F (L9 _);have K:=nR ab (L9 _);have G:=nU ay (L9 _);have ak:=nB aE (L9 _);clear aB aC aD aa F ab ay aE;clear aX a9 bf a0 a3 a6;have aY:=zma I.out;have bd:=zma v.out;have bg:=v.out.frozen 0;obtain⟨a1,a4,a7⟩:=C4 K.out
   gi_region_with_o (first
    |((refine m trivial ?_);gi_at_call 117;have hc:=(show r _ _ _ _ (L5 _ d) from by rw[bx.out];exact znr (M:=p.C.length) O.out P.out G.out bD.out bC.out aO.out.nC bF.out aS.out);(with_reducible refine CallsIn.inRound _ (callsIn_wide.2 (hc.mono ?_)));clear hc;rintro S c6 ⟨⟨c5,rfl,ar⟩,a⟩;have au:=e (IsQ.stb.old ar);have ah:=nV O a;have ai:=nV P a;have Q:=nQ aj a;have J:=nR I a;have E:=nR v a;have L:=nR K a;have af:=nU G a;have al:=nB ak a;clear O P aj I v K G ak;have H:=au;clear au;obtain⟨c4,cy,cZ,cx,c1,rfl,_,_,_⟩:=G4 ar;clear aY bd bg a1 a4 a7;have aZ:=zma J.out;have be:=zma E.out;have bh:=E.out.frozen 0;obtain⟨a2,a5,a8⟩:=C4 L.out)
    |((refine m trivial ?_);gi_at_call 116;have hc:=zsf H.out Q.out bE.out bG.out;(with_reducible refine CallsIn.inRound _ (callsIn_wide.2 (hc.mono ?_)));clear hc;rintro S aN ⟨aq,a⟩;have cD:=nV ah a;have cE:=nV ai a;have cF:=nQ Q a;have aA:=nR J a;have N:=nR E a;have aT:=nR L a;have cg:=nU af a;have R:=nB al a;have ch:=nQ H a;clear ah ai Q J E L af al H;rw[<-aR.out] at aq;subst aq;clear aZ be bh a2 a5 a8;have cJ:=zma aA.out;have cN:=zma N.out;have cP:=N.out.frozen 0;obtain⟨cK,cL,cM⟩:=C4 aT.out))
   all_goals gi_wp2
   all_goals
    exact⟨((zxb R.out).trans (KeepsOthers.setCell _ _ _)).from _,(C8 n.out R.out).setCell (p:=⟨w.heap.size+1+1,0,none⟩) (by show _<=w.heap.size+1+1;omega) _,N.out.set_ 0 (.bool false),rfl,aQ.out⟩
  ·obtain⟨o,X⟩:=nm (Z0 d ac);have cO:¬o>0:=(by rw[X];exact ysn U);have aQ:Hid (bu.all (zqk x)=true):=(by rw[Hid,bB.out];exact decide_eq_true (Rat.not_lt.1 U));have aR:=e X;clear X U;have aX:=zma aa.out;have a9:=zma F.out;have bf:=F.out.frozen 0;obtain⟨a0,a3,a6⟩:=C4 ab.out;gi_wp2;have cT:Tryz.prog.follows .mixedOrders=true:=(by kernel_rfl);have O:=nV aB (L9 _);have P:=nV aC (L9 _);have aj:=nQ aD (L9 _);have I:=nR aa (L9 _);have v:=nR F (L9 _);have K:=nR ab (L9 _);have G:=nU ay (L9 _);have ak:=nB aE (L9 _);clear aB aC aD aa F ab ay aE;clear aX a9 bf a0 a3 a6;have aY:=zma I.out;have bd:=zma v.out;have bg:=v.out.frozen 0;obtain⟨a1,a4,a7⟩:=C4 K.out
   gi_region_with_o (first
    |((refine m trivial ?_);gi_at_call 117;have hc:=(show r _ _ _ _ (L5 _ d) from by rw[bx.out];exact znr (M:=p.C.length) O.out P.out G.out bD.out bC.out aO.out.nC bF.out aS.out);(with_reducible refine CallsIn.inRound _ (callsIn_wide.2 (hc.mono ?_)));clear hc;rintro S c6 ⟨⟨c5,rfl,ar⟩,a⟩;have au:=e (IsQ.stb.old ar);have ah:=nV O a;have ai:=nV P a;have Q:=nQ aj a;have J:=nR I a;have E:=nR v a;have L:=nR K a;have af:=nU G a;have al:=nB ak a;clear O P aj I v K G ak;have H:=au;clear au;obtain⟨c4,cy,cZ,cx,c1,rfl,_,_,_⟩:=G4 ar;clear aY bd bg a1 a4 a7;have aZ:=zma J.out;have be:=zma E.out;have bh:=E.out.frozen 0;obtain⟨a2,a5,a8⟩:=C4 L.out)
    |((refine m trivial ?_);gi_at_call 116;have hc:=zsf H.out Q.out bE.out bG.out;(with_reducible refine CallsIn.inRound _ (callsIn_wide.2 (hc.mono ?_)));clear hc;rintro S aN ⟨aq,a⟩;have cD:=nV ah a;have cE:=nV ai a;have cF:=nQ Q a;have aA:=nR J a;have N:=nR E a;have aT:=nR L a;have cg:=nU af a;have R:=nB al a;have ch:=nQ H a;clear ah ai Q J E L af al H;rw[<-aR.out] at aq;subst aq;clear aZ be bh a2 a5 a8;have cJ:=zma aA.out;have cN:=zma N.out;have cP:=N.out.frozen 0;obtain⟨cK,cL,cM⟩:=C4 aT.out))
   all_goals gi_wp2
   all_goals
    exact⟨(zxb R.out).from _,ykn R.out bt,C8 n.out R.out,aA.out,N.out,yaz aL R.out,aQ.out⟩
 case done=>
  rintro Y xs W hD rfl ⟨b,u,g,aL,i⟩ T;obtain⟨n,Z,aU,cn,aP⟩:=hd5 b T g (IsV.stb.to bw.out (E0 b)) i;have d0:=zma u;clear b u g i T;go_wp2_with fail;refine(zxk cn.out).mono ?_;rintro S aN ⟨rfl,a⟩;obtain⟨an,bq⟩:=nm (zlz (C5 x));rw[<-bq];obtain⟨cr,aV⟩:=C7 bq (aU.out.next a);have cl:=nB n a;have cm:=e ((a.block Y (Array.getElem?_eq_some_iff.1 Z.out).1).trans Z.out);have dd:=zma aV.out;have de:=aV.out.frozen 0;clear a bq;go_wp2_with fail;have bn:(aN.setCell ⟨w.heap.size+1+1,0,none⟩ (.bool (!an))).heap[Y]? =_:=(Below.heap_setCell _ _ _ _ (by have:=cv.out;show Y≠w.heap.size+1+1;omega)).trans cm.out;have cV:=((aV.out.set_ 0 (.bool (!an))):Row (aN.setCell ⟨w.heap.size+1+1,0,none⟩ (.bool (!an))) _ _ [.bool (!an)]).putD (o':= .deferred none) bn rfl;refine⟨by simp,.inl ⟨_,_,rfl,run_takeDeferred bn,?_⟩⟩;refine⟨.bool (!an),ynd rfl rfl cV,?_,?_⟩
  ·rw[bA.out,aP.out,cr.out];rfl
  ·exact(cl.out.setCell (p:=⟨w.heap.size+1+1,0,none⟩) (by show _<=w.heap.size+1+1;omega) _).trans (belowK_b (w:=w) (l _) _ Y _ _ og bn rfl rfl)
 case stop=>
  rintro Y aG pre W hD ⟨k,bU⟩ ⟨b,g,rfl,i⟩ T;have cu:Hid (zlg p.A p.B x=false):=(by rw[Hid,bA.out];have:z.all (zqk x)=false:=(by rw[List.all_eq_false] at i⊢;obtain⟨s,bZ,h⟩:=i;rw[bU] at bZ;exact⟨s,List.mem_of_mem_take bZ,h⟩);rw[this];rfl);obtain⟨n,Z,aU⟩:=H7 b T g;clear b i g T bU;gi_wp2;refine⟨by simp,.inl ⟨_,_,rfl,run_takeDeferred Z.out,?_⟩⟩;refine⟨.bool false,ynd rfl rfl (aU.out.putD (o':= .deferred none) Z.out rfl),?_,?_⟩
  ·rw[cu.out]
  ·exact n.out.trans (belowK_b (w:=w) (l _) _ Y _ _ og Z.out rfl rfl)
def zra (n:Nat) (v:List Raw):Int:=if Y3 v≠0 then Y3 v else if v.length≠n then 10 else 0
def zpm (p:Prog) (i:List Nat) (a:List (List Raw)):Int:=if znq p≠0 then znq p else zko (List.zipWith zra i a)
def ygh (w:c) (v:j) (i:List Nat):Prop:=∃b d,v= .slice (some ⟨b,0,none⟩) i.length d/\b<w.heap.size/\∀(a n:Nat),i[a]? =some n->w.cell? ⟨b,a,none⟩=some (.int .i64 (n:Int))
theorem zz1526 {b:Nat} {c:List Raw} (d:i[b]? =some n) (e:a[b]? =some c):(List.zipWith zra i a)[b]? =some (zra n c):=by rw[List.getElem?_zipWith,d,e]
theorem yaf {w a:c} {p:Prog} (h:IsP w (C6 w) v p) (e:Bru w) (b:Below w.heap.size w a):r Tryz.prog 54 #[v] a fun d w'=>d= .returned (.int .i64 (znq p))/\Below a.heap.size a w':=ymj (IsP.stb.to h (E0 b)) (Bru.next e b)
theorem yvp {w:c} {vp vs an:j} {p:Prog} (ak:IsP w (C6 w) vp p) (aM:ygh w vs i) (l:IsM w (C6 w) an a) (ae:Bru w) (W:i.length=a.length) (aj:∀n∈i,n<=9223372036854775807) (aS:a.length<=40):
 r Tryz.prog 120 #[vp,vs,an] w fun o w'=>o= .returned (.int .i64 (zpm p i a))/\Below w.heap.size w w':=by
 obtain⟨aa,aq,O,ab,aA⟩:=hd5 ak l ae W aj;obtain⟨b,aR,rfl,f,ah⟩:=aM;obtain⟨ar,ay⟩:=C7 f ah;obtain⟨D,d,rfl,_⟩:=zqh l;obtain⟨A,aD,B,aE,C,aG,rfl,_⟩:=ak;clear l ae aj f ah;obtain⟨aY,al,af,Z,aO⟩:=J7 w #[.slice A p.A.length aD,.slice B p.B.length aE,.slice C p.C.length aG] 32;obtain⟨I,aQ⟩:=C7 af Z;obtain⟨aH,aI,aJ⟩:=C4 Z;obtain⟨x,s⟩:=nm (znq p);have ad:=e s;clear Z af;by_cases H:x=0;(case neg=>have T:(x !=0)=true:=bne_iff_ne.2 H;have g:Hid (zpm p i a=x):=(by rw[Hid,zpm,if_pos (by rw[<-s];exact H),s]);clear s H;go_in;go_wp2_with fail;clear al;refine(yaf aa.out O.out I.out).mono ?_;rw[<-ad.out];rintro o aN ⟨rfl,f⟩;go_wp2_with fail;go_ret;exact⟨I9 g.out.symm,C8 I.out f⟩);have Q:Hid (zpm p i a=zko (List.zipWith zra i a)):=(by rw[Hid,zpm,if_neg (by rw[<-s];exact fun h=>h H)]);subst H;clear s;rw[W];clear W;go_in;go_wp2_with fail;clear al;refine(yaf aa.out O.out I.out).mono ?_;rw[<-ad.out];rintro o aN ⟨rfl,f⟩;have au:=nB I f;clear f aH aI aJ;go_wp2_with fail;go_loopw [18] (fun Y wr=>∃k:Nat,k<=a.length/\Y= .int .i64 (k:Int)/\Below w.heap.size w wr/\Hid (∀m,m<k->(List.zipWith zra i a).getD m 0=0)) (fun Y _=>a.length-(intOf Y).toNat);case atStart=>exact⟨0,G _,rfl,au.out,fun m aL=>by omega⟩
 case round=>
  obtain⟨k,aV,rfl,q,hrel⟩:=hrel;have K:=e hrel.out;have J:=e q;clear hrel;rcases E k a.length with ai|aU
  ·obtain⟨M,l⟩:=zob ai;obtain⟨n,L⟩:=zob (l:=i) (j:=k) (by rw[ab.out];exact ai);obtain⟨b2,off,aP,aX,rfl,aT,V,aC⟩:=zrf (IsM.stb.to aq.out (E0 q)) l;have ag:=znu q ar.out (ay.out k n L);have aW:n<=9223372036854775807:=aA.out n (u L);obtain⟨N,X⟩:=nm (M.length);rw[<-X] at aC V;obtain⟨az,P,S⟩:=H7 X V (zz1526 L l);have U:Hid (Bru wr):=Bru.next O.out q;obtain⟨y,t⟩:=nm (Y3 M);have R:=e t;clear V l L q X;by_cases v:y=0;(case neg=>have T:(y !=0)=true:=bne_iff_ne.2 v;have g:Hid (zpm p i a=y):=(by rw[Hid,Q.out];refine zue K.out (S.out.trans ?_) v;rw[zra,if_pos (by rw[<-t];exact v),t]);clear t v;go_wp2_with fail;refine(zto P.out U.out).mono ?_;rw[<-R.out];rintro o ao ⟨rfl,f⟩;go_wp2_with fail;go_ret;exact⟨I9 g.out.symm,C8 J.out f⟩);have ac:Hid (zra n M=if N≠n then 10 else 0):=(by rw[Hid,zra,if_neg (by rw[<-t];exact fun h=>h v),az.out]);subst v;clear t;by_cases F:N=n;(case neg=>have T:((N:Int) !=(n:Int))=true:=bne_iff_ne.2 og;have g:Hid (zpm p i a=10):=(by rw[Hid,Q.out];refine zue K.out (S.out.trans ?_) (by decide);rw[ac.out,if_pos F]);clear F;go_wp2_with fail;refine(zto P.out U.out).mono ?_;rw[<-R.out];rintro o ao ⟨rfl,f⟩;have aK:=C0 f ag;go_wp2_with fail;go_ret;exact⟨I9 g.out.symm,C8 J.out f⟩);have T:((N:Int) !=(n:Int))=false:=(by rw[F];simp);have aB:Hid (zra n M=0):=(by rw[Hid,ac.out,if_neg (fun h=>h F)]);clear F;go_wp2_with fail;refine(zto P.out U.out).mono ?_;rw[<-R.out];rintro o ao ⟨rfl,f⟩;have aK:=C0 f ag;have av:=nB J f;clear f;go_wp2_with fail;go_roundw
   case rel=>
    refine⟨k+1,by omega,by go_num,av.out,fun m aL=> ?_⟩;rcases E m k with h|h
    ·exact K.out m h
    ·obtain rfl:m=k:=og;rw[z,S.out,aB.out];rfl
   case measure=>simp[intOf];omega
  ·obtain rfl:k=a.length:=og;have g:Hid (zpm p i a=0):=(by rw[Hid,Q.out];exact zvi (by rw[List.length_zipWith,ab.out,Nat.min_self];exact K.out));clear q;go_wp2_with fail;go_ret;exact⟨I9 g.out.symm,J.out⟩
end Go.Proofs.YtpbilanpeioonaaGreatDoor
