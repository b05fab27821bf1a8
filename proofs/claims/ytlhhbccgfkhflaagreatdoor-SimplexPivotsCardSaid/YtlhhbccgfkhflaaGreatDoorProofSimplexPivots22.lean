/-
 The contract of package simplex's Next,where d c has a b.
-/
import Derived.Test.YtlhhbccgfkhflaaGreatDoorProofSimplexPivots21
import Derived.Deep.RegionLaw
import Derived.Lib.ConvBytes
namespace Go.Proofs.YtlhhbccgfkhflaaGreatDoor
open Go.RowKit Go.Shelf
open Go.RowKit
set_option linter.unusedVariables false
set_option maxRecDepth 100000
set_option maxHeartbeats 8000000
open _root_.Go.Lib renaming hid → i
open _root_.Nat renaming le_refl → I, le_trans → O, lt_or_ge → D, zero_le → M, mul_le_mul_right → N
open _root_.And renaming intro → C
open _root_.List renaming length_append → H
open _root_.Go renaming World → u, Value → q, Calls → F, TypeId → J, undef → d
open _root_.Go.RowKit renaming Below → p, Hid → f
open _root_.Go.Proofs.Tryz renaming prog → E
variable {W : u} {hi s j k lo' : Nat} {l : List Nat} {v b G : q} {xs : List q}
attribute [local go_sem] Oper.semAt_some
set_option linter.unusedVariables false
theorem zz1379 {fn:Func} {s0 f g h:Tmp} {m n o p:Int} {tmps:Array q} {w:u} {a b c e:Nat} (hr:fn.results= #[.cell s0 3,.cell f 3,.cell g 3,.cell h 38])
 (r:tmps.getD s0 d= .pointer (some ⟨a,0,none⟩)) (s:tmps.getD f d= .pointer (some ⟨b,0,none⟩)) (t:tmps.getD g d= .pointer (some ⟨c,0,none⟩)) (v:tmps.getD h d= .pointer (some ⟨e,0,none⟩))
 (A:Row w a 3 [.int .i64 m]) (B:Row w b 3 [.int .i64 n]) (C:Row w c 3 [.int .i64 o]) (D:Row w e 38 [.int .i64 p]):
 (results fn tmps).run E w= .ok (.tuple #[.int .i64 m,.int .i64 n,.int .i64 o,.int .i64 p]) w:=by have x:tmps[s0]?.getD d= .pointer (some ⟨a,0,none⟩):=(by simpa using r);have y:tmps[f]?.getD d= .pointer (some ⟨b,0,none⟩):=(by simpa using s);have b2:tmps[g]?.getD d= .pointer (some ⟨c,0,none⟩):=(by simpa using t);have z:tmps[h]?.getD d= .pointer (some ⟨e,0,none⟩):=(by simpa using v);have i:=A.cell 0;have j:=B.cell 0;have k:=C.cell 0;have l:=D.cell 0;simp at i j k l;simp[results,hr,x,y,b2,z,asAddr,go_sem,i,j,k,l]
structure NxI (w:u) (S:Nat->Prop) (lo0 lo g:Nat) (L:Lay) (m n:Nat) (sc:Nat->Nat) (top:Nat) (B:Nat) (t:TB) (W:u):Prop where
 bel:p w.heap.size w W
 bxr:Row W B 88 [.pointer (some ⟨g,0,none⟩)]
 r1:Row W (w.heap.size+1) 3 [.int .i64 0]
 r2:Row W (w.heap.size+2) 3 [.int .i64 0]
 r3:Row W (w.heap.size+3) 3 [.int .i64 0]
 r4:Row W (w.heap.size+4) 38 [.int .i64 0]
 sch:U8 W S lo0 lo g L m n sc top t 0 (-1) 0
structure NxR (w:u) (r c:Nat) (W:u):Prop where
 bel:p w.heap.size w W
 r1:Row W (w.heap.size+1) 3 [.int .i64 (r:Int)]
 r2:Row W (w.heap.size+2) 3 [.int .i64 (c:Int)]
 r3:Row W (w.heap.size+3) 3 [.int .i64 0]
 r4:Row W (w.heap.size+4) 38 [.int .i64 0]
section
variable {w X Y : u} {S : Nat → Prop} {lo0 lo g m n top B r c : Nat} {L : Lay} {sc : Nat → Nat} {t : TB} {row : Option Nat}
theorem NxI.stays (h:NxI w S lo0 lo g L m n sc top B t X) (hg:X.grownBy Y row) (hr:∀x,row=some x->w.heap.size<=x/\∃o:Obj,X.heap[x]? =some o/\o.isCells=false):NxI w S lo0 lo g L m n sc top B t Y:=
 ⟨h.bel.grown hg h.bel.size fun a e=>(hr a e).1,h.bxr.stays hg fun x e=>(hr x e).2,h.r1.stays hg fun x e=>(hr x e).2,h.r2.stays hg fun x e=>(hr x e).2,h.r3.stays hg fun x e=>(hr x e).2,h.r4.stays hg fun x e=>(hr x e).2,h.sch.stays hg fun x e=>(hr x e).2⟩
theorem NxR.stays (h:NxR w r c X) (hg:X.grownBy Y row) (hr:∀x,row=some x->w.heap.size<=x/\∃o:Obj,X.heap[x]? =some o/\o.isCells=false):NxR w r c Y:=
 ⟨h.bel.grown hg h.bel.size fun a e=>(hr a e).1,h.r1.stays hg fun x e=>(hr x e).2,h.r2.stays hg fun x e=>(hr x e).2,h.r3.stays hg fun x e=>(hr x e).2,h.r4.stays hg fun x e=>(hr x e).2⟩
theorem zxh {A:u} {B:Nat} (h:p B A W) (b:B<=k) (a:q):p B A (W.setCell ⟨k,0,none⟩ a):=h.setCell (p:=⟨k,0,none⟩) b a
theorem Row.farN {a:J} (h:Row W k a xs) (c:k≠j) (b:q):Row (W.setCell ⟨j,0,none⟩ b) k a xs:=h.far c b
theorem NxI.put4 (h:NxI w S lo0 lo g L m n sc top B t X) (r c:Nat):NxR w r c ((((X.setCell ⟨w.heap.size+1,0,none⟩ (.int .i64 (r:Int))).setCell ⟨w.heap.size+2,0,none⟩ (.int .i64 (c:Int))).setCell ⟨w.heap.size+3,0,none⟩ (.int .i64 0)).setCell ⟨w.heap.size+4,0,none⟩ (.int .i64 0)):=
 ⟨zxh (zxh (zxh (zxh h.bel og _) og _) og _) og _,(((h.r1.set_ 0 _).farN og _).farN og _).farN og _,(((h.r2.farN og _).set_ 0 _).farN og _).farN og _,(((h.r3.farN og _).farN og _).set_ 0 _).farN og _,(((h.r4.farN og _).farN og _).farN og _).set_ 0 _⟩
end
theorem yxv {w:u} {v z P N H B G:Option Addr} {m n y A Q O I Z T aa U M r c0:Nat} {V:Bool} {bas oth:List Nat} {R:List (List Rat)} {b c:List Rat} {vq:Rat}
 (aG:IsS 1 IsIV w (C3 w) (.slice v m y) (bas.map fun(x:Nat)=>(x:Int))) (aK:IsS 1 IsIV w (C3 w) (.slice z n A) (oth.map fun(x:Nat)=>(x:Int))) (hr:IsM w (C3 w) (.slice P m Q) (G6 R)) (aL:IsV w (C3 w) (.slice N m O) (C2 b)) (hc:IsV w (C3 w) (.slice H n I) (C2 c)) (hv:IsQ w (C3 w) (.agg #[.bool V,.slice B Z T,.slice G aa U]) vq) (aD:Bru w)
 (lb:bas.length=m) (lo:oth.length=n) (aP:R.length=m) (aO:b.length=m) (aN:c.length=n) (aQ:∀r∈R,r.length=n) (aI:m<=40) (aJ:n<=40) (aH:∀x∈bas++oth,x<m+n) (a6:(bas++oth).Nodup) (aR:∀r∈R,∀q∈r,Sz q 1024) (sb:∀q∈b,Sz q 1024) (sc:∀q∈c,Sz q 1024) (aS:Sz vq 1024) (bi:v=none->y=0) (bj:z=none->A=0) (a7:∀q∈b,0<=q)
 (hI:TInv M m n (zmp R b c vq bas oth m n)) (aE:∀bd,bd<m->0<=(zmp R b c vq bas oth m n).A bd n) (hF:(A9 (N9 M (m+1))).length<=100000) (J:zkw m n (zmp R b c vq bas oth m n)=some c0) (ai:zmo m n (zmp R b c vq bas oth m n) c0=some r):
 F E 20 #[.agg #[.slice v m y,.slice z n A,.slice P m Q,.slice N m O,.slice H n I,.bool V,.slice B Z T,.slice G aa U]] w fun e w'=>e= .returned (.tuple #[.int .i64 (r:Int),.int .i64 (c0:Int),.int .i64 0,.int .i64 0])/\p w.heap.size w w':=by
 have aX:f (∀W:u,p w.heap.size w W->F E 52 #[.agg #[.slice v m y,.slice z n A,.slice P m Q,.slice N m O,.slice H n I,.bool V,.slice B Z T,.slice G aa U]] W fun e w'=>e= .returned (.int .i64 0)/\p W.heap.size W w'):=fun W j=>
  zz1370 ((IsS.stb IsIV.stb).to aG (E7 j)) ((IsS.stb IsIV.stb).to aK (E7 j)) (IsM.stb.to hr (E7 j)) (IsV.stb.to aL (E7 j)) (IsV.stb.to hc (E7 j)) (IsQ.stb.to hv (E7 j)) (Bru.next aD j) lb lo aP aO aN aQ aI aJ aH a6 aR sb sc aS bi bj a7
 obtain⟨t,aM⟩:=nm (zmp R b c vq bas oth m n);have aC:f (∀W:u,p w.heap.size w W->F E 53 #[.agg #[.slice v m y,.slice z n A,.slice P m Q,.slice N m O,.slice H n I,.bool V,.slice B Z T,.slice G aa U]] W fun e w'=>(∃g S L,e= .returned (.pointer (some ⟨g,0,none⟩))/\U8 w' S W.heap.size w'.heap.size g L m n (zna R b bas m) (zkz c vq) t 0 (-1) 0)/\p W.heap.size W w'):=fun W j=>(by rw[aM];exact yjo ((IsS.stb IsIV.stb).to aG (E7 j)) ((IsS.stb IsIV.stb).to aK (E7 j)) (IsM.stb.to hr (E7 j)) (IsV.stb.to aL (E7 j)) (IsV.stb.to hc (E7 j)) (IsQ.stb.to hv (E7 j)) (Bru.next aD j) lb lo aP aO aN aQ og og aH aR sb sc aS);rw[<-aM] at hI aE J ai;obtain⟨ab,bq,aW⟩:=G0 (C hI (C aE (C J ai))) hF (C aI aJ);obtain⟨bn,a8⟩:=nm (zna R b bas m);obtain⟨top,a9⟩:=nm (zkz c vq);rw[<-a8,<-a9] at aC;clear aG aK hr aL hc hv aD lb lo aP aO aN aQ aI aJ aH a6 aR sb sc aS bi bj a7 hI aE hF J ai aM a8 a9;have bI:=zox;have bJ:=ymr;obtain⟨bE,bD,a3,bm,be,bf,bg,bh,bG⟩:=yfc w #[.slice v m y,.slice z n A,.slice P m Q,.slice N m O,.slice H n I,.bool V,.slice B Z T,.slice G aa U] #[.int .i64 0] #[.int .i64 0] #[.int .i64 0] #[.int .i64 0] 32 3 3 3 38;obtain⟨d0,al,an,ao,aq,ar,au,av⟩:=K8 bm;have aY:=hs8 d0 al an ao aq ar au av;obtain⟨a,B0⟩:=C5 (C be (C bf (C bg bh))) a3;clear bm be bf bg bh a3;refine(callsIn_wide (n:=3)).1 ?_;refine callsIn_of_wp_marks Tryz.func20 rfl trivial ?_ rfl;simp only[Tryz.ntmps20,List.size_toArray,List.length_cons,List.length_nil,Nat.reduceAdd,Nat.reduceSub,Array.replicate_succ,Array.replicate_zero,List.push_toArray,List.append_toArray,List.nil_append,List.cons_append];refine wpIn_wide.2 ?_;go_wp2_with fail;clear bD d0 al an ao aq ar au av;refine(aX.out bE B0.out).mono ?_;rintro e az ⟨rfl,ad⟩;have aB:=nB B0 ad;have a:=i (C (a.out.1.next ad) (C (a.out.2.1.next ad) (C (a.out.2.2.1.next ad) (a.out.2.2.2.next ad))));obtain⟨d0,al,an,ao,aq,ar,au,av⟩:=aY.out az ad;clear ad aY aX;go_wp2_with fail;clear d0 al an ao aq ar au av;refine(aC.out az aB.out).mono ?_;rintro e aA ⟨⟨g,S,L,rfl,a2⟩,ah⟩;have aZ:=i a2;have aT:=nB aB ah;have a:=i (C (a.out.1.next ah) (C (a.out.2.1.next ah) (C (a.out.2.2.1.next ah) (a.out.2.2.2.next ah))));clear a2 ah aC;go_wp2_with fail;refine(yko aA g).mono ?_;rintro e bp ⟨rfl,ae,a4⟩;have S3:=i (aZ.out.next ae);have aj:=nB aT ae;obtain⟨a,aU⟩:=C5 (C (a.out.1.next ae) (C (a.out.2.1.next ae) (C (a.out.2.2.1.next ae) (a.out.2.2.2.next ae)))) a4;obtain⟨ak,a5⟩:=nm (aA.heap.size);rw[<-a5] at aU⊢;have bF:f (w.heap.size+4<bp.heap.size):=a.out.2.2.2.lt;clear ae a4 a5 aZ aT aB;go_wp2_with fail;refine(wpIn_wide (n:=3)).1 ?_
 refine yoe (σ:=TB) rfl og (gf:=114) (lb:= #[.pointer (some ⟨ak,0,none⟩)]) rfl trivial (enters_of Tryz.func114 kr rfl)
  (ykp (σ:=TB) (fun t=>t) 2 og (S:=S) (lo0:=az.heap.size) (lo:=aA.heap.size) (g:=g) (m:=m) (n:=n) (top:=top) (M:=M) (B:=ak) (L:=L) (sc:=bn) (w:=bp) (oh aW) (oh aW) bq.out) (Below.refl _ _) (fun s ag hv=>by obtain⟨r,c,_,_,rfl⟩:=hv;rfl)
  (fun s W=>s=t/\NxI w S az.heap.size aA.heap.size g L m n bn top ak t W)
  (fun _ _=>False)
  (fun k W=>k= .ret/\NxR w r c0 W) ?hI (fun _ _ _ _ h=>h.elim) ?hIx ?hRd ?hfin ⟨t,rfl,⟨aj.out,aU.out,a.out.1,a.out.2.1,a.out.2.2.1,a.out.2.2.2,S3.out⟩⟩
  (fun ag=>{tmps:= #[.agg #[.slice v m y,.slice z n A,.slice P m Q,.slice N m O,.slice H n I,.bool V,.slice B Z T,.slice G aa U],.pointer (some ⟨w.heap.size,0,none⟩),.pointer (some ⟨w.heap.size+1,0,none⟩),.pointer (some ⟨w.heap.size+2,0,none⟩),.pointer (some ⟨w.heap.size+3,0,none⟩),.pointer (some ⟨w.heap.size+4,0,none⟩),.int .i64 0,.pointer (some ⟨g,0,none⟩),ag.getD 0 d,ag.getD 1 d,.agg #[.slice v m y,.slice z n A,.slice P m Q,.slice N m O,.slice H n I,.bool V,.slice B Z T,.slice G aa U],.int .i64 0,.int .i64 0,.bool false,d,.agg #[.slice v m y,.slice z n A,.slice P m Q,.slice N m O,.slice H n I,.bool V,.slice B Z T,.slice G aa U],.pointer (some ⟨g,0,none⟩),.pointer (some ⟨g,0,none⟩),.func (.func 114) #[] #[.pointer (some ⟨ak,0,none⟩)],ag.getD 0 d,ag.getD 1 d,d,d,d,d,d,d,d,d,d,d],defers:=[]}) ?hassign ?hbody (fun D s W _ h=>h.elim) ?hstop
 (case hI=>rintro s X Y row ⟨rfl,h⟩ hg hr;exact⟨rfl,h.stays hg fun x e=>⟨by have:=(hr x e).1;have:=aj.out.size;omega,(hr x e).2⟩⟩);(case hIx=>rintro k X Y row ⟨rfl,h⟩ hg hr;exact⟨rfl,h.stays hg fun x e=>⟨by have:=(hr x e).1;have:=aj.out.size;omega,(hr x e).2⟩⟩);case hRd=>rintro s W ⟨rfl,h⟩;exact⟨⟨_,_,_,h.sch⟩,ab.out.1,ab.out.2.1,h.bxr⟩
 case hfin=>
  rintro s X Y ⟨rfl,h⟩ ⟨bH,_,_,hf⟩;rcases hf with⟨ac,_⟩|⟨bu,ac,a0,_⟩
  ·rw[ab.out.2.2.1] at ac;exact nomatch ac
  ·rw[ab.out.2.2.1] at ac;injection ac with ac;subst ac;rw[ab.out.2.2.2] at a0;exact nomatch a0
 (case hassign=>rintro l s ag X K ⟨r,c,_,_,rfl⟩ bB;gi_wp2;exact bB);(case hbody=>rintro l s ag X ai bC ⟨rfl,o⟩ ⟨bP,bu,J,ay,rfl⟩;rw[ab.out.2.2.1] at J;injection J with J;subst J;rw[ab.out.2.2.2] at ay;injection ay with ay;subst ay;have br:=i o;have bK:=o.r1.frozen 0;have bL:=o.r2.frozen 0;have bM:=o.r3.frozen 0;have bN:=o.r4.frozen 0;have bv:=o.r1.cell 0;have bw:=o.r2.cell 0;have bx:=o.r3.cell 0;have bA:=o.r4.cell 0;simp at bv bw bx bA;clear o ai bC;gi_wp2;have af:=br.out;refine⟨((((KeepsOthers.setCell _ _ _).trans (KeepsOthers.setCell _ _ _)).trans (KeepsOthers.setCell _ _ _)).trans (KeepsOthers.setCell _ _ _)).from _,rfl,af.put4 _ _⟩);case hstop=>rintro D k W hD ⟨rfl,h⟩ a1;obtain⟨bt,aV⟩:=C5 h a1;have bO:=aj.out.size;clear h a1;gi_wp2;refine⟨by simp,.inl ⟨_,_,rfl,run_takeDeferred aV.out,?_⟩⟩;have af:=bt.out.stays (grownBy_putObj' W D (.deferred none)) (fun x e=>by cases e;exact⟨by omega,_,aV.out,rfl⟩);exact⟨_,zz1379 rfl rfl rfl rfl rfl af.r1 af.r2 af.r3 af.r4,rfl,af.bel⟩
theorem yaa {l:List Int} (h:∀x∈l,x.natAbs<=1000000):∀q∈U7 l,Sz q 1024:=by intro q a;obtain⟨x,b,rfl⟩:=List.mem_map.1 a;exact(ydk (by have:=h x b;omega) og og).le og
theorem good_ex4:Good exQ 1024:=by
 refine⟨rfl,?_,?_,yaa (by decide),yaa (by decide),by decide,by decide⟩
 ·intro row hr;simp only[exQ,List.mem_cons,List.not_mem_nil,or_false] at hr;rcases hr with rfl|rfl<;>rfl
 ·intro row hr;simp only[exQ,List.mem_cons,List.not_mem_nil,or_false] at hr;rcases hr with rfl|rfl
  ·exact yaa (by decide)
  ·exact yaa (by decide)
theorem fine_ex4:FineP exQ 2 8:=
 ⟨good_ex4,by decide,by decide,by decide+kernel,by decide+kernel,by decide+kernel⟩
theorem ytd:zkw 2 2 (newP exQ)=some 0:=by decide+kernel
theorem yws:zmo 2 2 (newP exQ) 0=some 0:=by decide+kernel
theorem yzq:∀a,a<2->0<=(newP exQ).A a 2:=by decide+kernel
theorem fac_ex4:(A9 (N9 (8*2) (exQ.B.length+1)*2)).length<=1/\(A9 (N9 (8*2) (exQ.B.length+1))).length<=100000:=by
 constructor
 ·exact lim_len_le.2 (by decide+kernel)
 ·exact O (lim_len_le (k:=1).2 (by decide+kernel)) og
theorem ytn:exQ.A=[[1,1],[1,3]]/\exQ.B=[4,6]/\exQ.C=[3,2]/\U7 [4,0]=[4,0]/\U7 [3,0]=[3,0]/\zlo 12 1=12:=by decide+kernel
theorem zyr {c:Type} {l:List c} (h:l.length=2):∃a b,l=[a,b]:=by
 match l,h with
 |[a,b],_=>exact⟨a,b,rfl⟩
theorem yeu {s:Sol} (h:zqa exQ k s):s=⟨1,C7 (zlo 12 1),C2 (U7 [4,0]),C2 (U7 [3,0]),[]⟩:=by
 obtain⟨w,x,y,A,B,z⟩:=ytn;unfold zqa at h;rw[w,x,y] at h;rw[A,B,z];rcases h with⟨X,Y,v,rfl,hc,_⟩|⟨Y,rfl,hc,_⟩|⟨X,E,rfl,hc,_⟩
 ·obtain⟨f,g,rfl⟩:=zyr hc.x.len;obtain⟨a,b,rfl⟩:=zyr hc.y.len;have c:=hc.x.le 0 [1,1] rfl;have i:=hc.x.le 1 [1,3] rfl;have j:=hc.x.nn f (by simp);have l:=hc.x.nn g (by simp);have m:=hc.y.ge 0 (by decide);have b2:=hc.y.ge 1 (by decide);have n:=hc.y.nn a (by simp);have o:=hc.y.nn b (by simp);have d:=hc.vx;have e:=hc.vy;simp[K7,zmv,zqd,C4] at c i m b2 d e;have p:g=0:=(by grind);have q:b=0:=(by grind);subst p q;have r:f=4:=(by grind);have t:a=3:=(by grind);have u:v=12:=(by grind);subst r t u;rfl
 ·obtain⟨a,b,rfl⟩:=zyr hc.y.len;have n:=hc.y.nn a (by simp);have o:=hc.y.nn b (by simp);have e:=hc.vy;simp[K7,zmv] at e;exfalso;grind
 ·obtain⟨C,D,rfl⟩:=zyr hc.z.len;have c:=hc.z.le [1,1] (by simp);have j:=hc.z.nn C (by simp);have l:=hc.z.nn D (by simp);have d:=hc.up;simp[K7,zmv] at c d;exfalso;grind
theorem ylu (A:Option Addr) (c:Nat) (l:List Nat) (w:u) (lo hi:Nat) (t:Lo l) (K:l.length<=c) (v:c<=maxLen) (z:SV w lo hi A (C8 .u32 l)):
 F E 144 #[.slice A l.length c] w fun e w'=>(∃m,e= .returned (.slice A m c)/\m<=l.length/\A9 (val l)=l.take m)/\w=w':=by
 have B:=i v;unfold maxLen at v;have h:=i t;clear t;go_in;go_wp2;go_loop [0] (fun s=>∃m:Nat,m<=l.length/\s= .slice A m c/\f (∀j,m<=j->j<l.length->l.getD j 0=0)) (fun s=>match s with| .slice _ m _=>m|_=>0);case atStart=>exact⟨l.length,I _,rfl,i (by intro j n o;omega)⟩
 case round=>
  obtain⟨m,b,rfl,g⟩:=hrel;rcases m with _|m
  ·go_wp2;go_ret;exact⟨⟨0,rfl,M _,yec h.out (M _) g.out (.inl rfl)⟩,rfl⟩
  ·obtain⟨ba,oa,rfl,_,_,r⟩:=z (M5 b);obtain⟨x,y,L,P⟩:=znn (j:=m) r og;clear r;by_cases k:x=0
   ·subst k;go_wp2;go_round
    case rel=>exact⟨m,by omega,rfl,i (by
     intro j n o;rcases Nat.eq_or_lt_of_le n with a|a
     ·subst a;have:=y.out;omega
     ·exact g.out j a o)⟩
    case measure=>simp
   ·have G:(x==0)=false:=(by simpa using k);go_wp2;go_ret;exact⟨⟨m+1,rfl,b,yec h.out b g.out (.inr (by have:=y.out;simp only[Nat.add_sub_cancel];omega))⟩,rfl⟩
theorem ylt (A:Option Addr) (c:Nat) (l:List Nat) (w:u) (lo hi:Nat) (j:Lo l) (k:l.length<=c) (g:c<=maxLen) (b:SV w lo hi A (C8 .u32 l)):
 F E 144 #[.slice A l.length c] w fun e w'=>(∃v,e= .returned v/\IsN w lo hi v (val l))/\w=w':=
 (ylu A c l w lo hi j k g b).mono fun e w' ⟨⟨m,h,n,a⟩,o⟩=>⟨⟨_,h,A,c,by rw[a,List.length_take,Nat.min_eq_left n],by rw[a,List.length_take];omega,g,by rw[a,zxj];exact b.take m⟩,o⟩
theorem zzj {w:u} {lo:Nat} (ha:IsL .u32 w lo hi b l) (f:Lo l):
 F E 144 #[b] w fun e w'=>(∃v,e= .returned v/\IsN w lo hi v (val l))/\w=w':=by obtain⟨A,c,rfl,hc,d,a⟩:=ha;exact ylt A c l w lo hi f hc d a
theorem zz1393 {w:u} {x y:Nat} {lo:Nat} (ha:IsN w lo hi b x) (ai:IsN w lo' s G y) (aj:hi<=w.heap.size) (Z:s<=w.heap.size) (aD:(A9 x).length<=4294967296) (aI:(A9 y).length<=4294967296):
 F E 84 #[b,G] w fun e w'=>(∃v,e= .returned v/\IsN w' w.heap.size w'.heap.size v (x+y))/\p w.heap.size w w':=by
 obtain⟨A,c,rfl,_,_,af⟩:=ha;obtain⟨B,d,rfl,_,_,V⟩:=ai;obtain⟨g,aq,ar,X⟩:∃g:Nat,(A9 x).length<=g/\(A9 y).length<=g/\(g=(A9 x).length\/g=(A9 y).length):=⟨max (A9 x).length (A9 y).length,by omega,by omega,by omega⟩
 have ag:f (∀k,k<g->pw k<=x+y):=by
  intro k ak;rcases X with h|h
  ·have:=zzc (x:=x) (k:=k) og;omega
  ·have:=zzc (x:=y) (k:=k) og;omega
 generalize aa:A9 x=a at*;generalize ab:A9 y=r at*;have S:f (Lo a/\val a=x):=(by rw[f,<-aa];exact⟨M4 x,R7 x⟩);have M:f (Lo r/\val r=y):=(by rw[f,<-ab];exact⟨M4 y,R7 y⟩);have au:g<=4294967296:=og;clear aa ab X;generalize W:w.heap.size=bs at*;have ad:=i W;clear W;go_in;go_wp2
 go_loopw [5,6,7] (fun v ae P wr=>∃(k:Nat) (L:List Nat) (q:Int),k<=g+1/\P= .int .i64 (k:Int)/\ae= .int .u32 q/\0<=q/\q<=1/\Own wr bs 140 v (C8 .u32 L)/\p bs w wr/\
  f (L.length=k/\Lo L/\(val L:Int)+q*pw k=val (a.take k)+val (r.take k)/\(g<k->q=0/\pw g<=val L))) (fun _ _ P _=>g+1-(intOf P).toNat)
 case atStart=>exact⟨0,[],0,by omega,rfl,rfl,by omega,by omega,Own.nil _ _ _,Below.refl _ _,rfl,zvw,by simp[val],fun h=>by omega⟩
 case round=>
  obtain⟨k,L,q,ak,rfl,rfl,az,aA,z,m,hrel⟩:=hrel;have I:bs<=wr.heap.size:=(by have:=m.size;have:=ad.out;omega);have ay:k<=4294967297:=og;have J:f ((C8 .u32 L).length<=4294967297):=(by rw[f,zmh,hrel.out.1];omega);rcases D k a.length with o|o
  ·obtain⟨ba,oa,rfl,_,_,Y⟩:=(af.below m aj) (M5 (j:=k) o);obtain⟨K,ac,aE,aG,aH⟩:=W4 (j:=k) S.out.1 Y o;clear Y;rcases D k r.length with l|l
   ·obtain⟨bb,ob,rfl,_,_,t⟩:=(V.below m Z) (M5 (j:=k) l);obtain⟨C,N,al,an,ao⟩:=W4 (j:=k) M.out.1 t l;clear t;go_wp2_with (at_builtin;refine zlk U9 rfl _ _ rfl rfl z rfl rfl (oh J) I ?_;intro Q R j n O);go_roundw;(case rel=>rw[zlc .u32 L ((q+K+C)%1000000000).toNat _ og] at j;exact⟨k+1,_,(q+K+C)/1000000000,by omega,by go_num,rfl,by omega,by omega,j,m.trans n,by rw[H];simp[hrel.out.1],zma hrel.out.2.1 og,zpf hrel.out.1 ac.out N.out og og hrel.out.2.2.1,fun h=>by omega⟩);case measure=>simp[intOf];omega
   ·go_wp2_with (at_builtin;refine zlk U9 rfl _ _ rfl rfl z rfl rfl (oh J) I ?_;intro Q R j n O);go_roundw;(case rel=>rw[zlc .u32 L ((q+K)%1000000000).toNat _ og] at j;exact⟨k+1,_,(q+K)/1000000000,by omega,by go_num,rfl,by omega,by omega,j,m.trans n,by rw[H];simp[hrel.out.1],zma hrel.out.2.1 og,zpf (y:=0) hrel.out.1 ac.out (by rw[zmj l];rfl) og og hrel.out.2.2.1,fun h=>by omega⟩);case measure=>simp[intOf];omega
  ·rcases D k r.length with l|l
   ·obtain⟨bb,ob,rfl,_,_,t⟩:=(V.below m Z) (M5 (j:=k) l);obtain⟨C,N,al,an,ao⟩:=W4 (j:=k) M.out.1 t l;clear t;go_wp2_with (at_builtin;refine zlk U9 rfl _ _ rfl rfl z rfl rfl (oh J) I ?_;intro Q R j n O);go_roundw;(case rel=>rw[zlc .u32 L ((q+C)%1000000000).toNat _ og] at j;exact⟨k+1,_,(q+C)/1000000000,by omega,by go_num,rfl,by omega,by omega,j,m.trans n,by rw[H];simp[hrel.out.1],zma hrel.out.2.1 og,zpf (x:=0) hrel.out.1 (by rw[zmj o];rfl) N.out og og hrel.out.2.2.1,fun h=>by omega⟩);case measure=>simp[intOf];omega
   ·have ah:f ((val L:Int)+q*pw k=x+y):=(by have:=hrel.out.2.2.1;rw[zki o,zki l,S.out.2,M.out.2] at this;exact this);rcases Int.lt_or_le 0 q with aB|aC
    ·have av:k<=g:=by
      rcases D g k with h|h
      ·have:=hrel.out.2.2.2 h;omega
      ·exact h
     go_wp2_with (at_builtin;refine zlk U9 rfl _ _ rfl rfl z rfl rfl (oh J) I ?_;intro Q R j n O);go_roundw;(case rel=>rw[zlc .u32 L (q%1000000000).toNat _ og] at j;refine⟨k+1,_,q/1000000000,by omega,by go_num,rfl,by omega,by omega,j,m.trans n,by rw[H];simp[hrel.out.1],zma hrel.out.2.1 og,zpf (x:=0) (y:=0) hrel.out.1 (by rw[zmj o];rfl) (by rw[zmj l];rfl) og og hrel.out.2.2.1,fun h=>⟨by omega,?_⟩⟩;rw[zny,hrel.out.1,show(q%1000000000).toNat=1 from by omega,show k=g from by omega,zsi,zpy];omega);case measure=>simp[intOf];omega
    ·obtain rfl:q=0:=og
     have hfin:f (A9 (x+y)=L):=by
      have U:val L=x+y:=oh ah;rw[f,<-U];refine zug hrel.out.2.1 ?_;rcases D g k with h|h
      ·exact .inr (by rw[hrel.out.1,show k-1=g from by omega];exact(hrel.out.2.2.2 h).2)
      ·rcases Nat.eq_zero_or_pos k with T|T
       ·exact .inl (List.eq_nil_of_length_eq_zero (by rw[hrel.out.1];exact T))
       ·exact .inr (by rw[hrel.out.1,U];exact ag.out (k-1) og)
     go_wp2;go_ret;refine⟨⟨_,rfl,?_⟩,m⟩;unfold IsN;rw[hfin.out];exact Own.isL z
theorem zqx {w:u} {x y:Nat} {lo:Nat} (ha:IsN w lo hi b x) (ab:IsN w lo' s G y) (ae:hi<=w.heap.size) (af:s<=w.heap.size) (t:(A9 x).length<=4294967296) (W:(A9 y).length<=4294967296):
 F E 82 #[b,G] w fun e w'=>(∃v,e= .returned v/\IsN w' w.heap.size w'.heap.size v (x*y))/\p w.heap.size w w':=by
 obtain⟨A,c,rfl,_,_,Q⟩:=ha;obtain⟨B,d,rfl,_,_,aa⟩:=ab;generalize T:A9 x=a at*;generalize U:A9 y=g at*;have O:f (Lo a/\val a=x):=(by rw[f,<-T];exact⟨M4 x,R7 x⟩);have P:f (Lo g/\val g=y):=(by rw[f,<-U];exact⟨M4 y,R7 y⟩);clear T U;go_in;go_wp2_with (at_make;refine ztq U9 rfl _ _ rfl (a.length+g.length) rfl rfl rfl rfl og ?_;intro l aD J ag ac Y)
 go_loopw [6] (fun i wr=>∃k:Nat,∃L:List Nat,k<=a.length/\i= .int .i64 (k:Int)/\Row wr l 140 (C8 .u32 L)/\p l w wr/\f (wr.heap.size=l+1)/\
  f (L.length=a.length+g.length/\Lo L/\(∀j,k+g.length<=j->L.getD j 0=0)/\val L=val (a.take k)*val g)) (fun i _=>a.length-(intOf i).toNat)
 case atStart=>exact⟨0,_,M _,rfl,ag,ac,Y,by simp,zrw _,fun j _=>by rw[List.getD_eq_getElem?_getD,List.getElem?_replicate];split<;>rfl,by rw[ynv,Nat.zero_mul];exact zzz (fun x t=>(List.mem_replicate.1 t).2)⟩
 case round=>
  obtain⟨k,L,ay,rfl,hr,n,o,hrel⟩:=hrel;have r:p w.heap.size w wr:=(by have:=J.out;subst this;exact n);rcases D k a.length with V|ar
  ·obtain⟨ba,oa,rfl,_,_,_⟩:=Q (M5 (j:=k) V);have C:=hrel;clear hrel;obtain⟨aG,rfl⟩:=nm (wr:u);go_wp2
   go_loopw [7,8] (fun Z i N=>∃j:Nat,∃m:List Nat,∃h:Int,j<=g.length/\i= .int .i64 (j:Int)/\Z= .int .u64 h/\0<=h/\h<=999999999/\Row N l 140 (C8 .u32 m)/\p l w N/\f (N.heap.size=l+1)/\
    f (m.length=a.length+g.length/\Lo m/\(∀j,k+g.length<=j->m.getD j 0=0)/\(val m:Int)+h*pw (k+j)=val L+((a.getD k 0:Nat):Int)*pw k*val (g.take j))) (fun _ i _=>g.length-(intOf i).toNat)
   case atStart=>exact⟨0,L,0,M _,rfl,rfl,by omega,by omega,hr,n,o,C.out.1,C.out.2.1,C.out.2.2.1,by simp[val]⟩
   case round=>
    clear hr n r o;obtain⟨j,m,h,au,rfl,rfl,ad,aq,hr,n,o,hrel⟩:=hrel;have r:p w.heap.size w wr:=(by have:=J.out;subst this;exact n);have H:f (k+g.length<m.length):=(by rw[hrel.out.1];unfold f;omega);rcases D j g.length with S|av
    ·obtain⟨x,t,ah,ai,az⟩:=W4 (j:=k) O.out.1 (Q.below r ae).at_ V;obtain⟨bb,ob,rfl,_,_,R⟩:=(aa.below r af) (M5 (j:=j) S);obtain⟨y,W,aj,ak,aC⟩:=W4 (j:=j) P.out.1 R S;clear R;obtain⟨z,X,al,Y,an⟩:=hr.lo hrel.out.2.1 (i:=k+j) (oh H);have ao:=hr.frozen (k+j);have K:=zpq ah ai aj ak;have aA:=K.1;have aB:=K.2;clear K;go_wp2;go_quiet (fail);go_wp2;go_roundw
     case rel=>
      refine⟨j+1,m.set (k+j) ((h+z+x*y)%1000000000).toNat,(h+z+x*y)/1000000000,by omega,by go_num,rfl,by omega,by omega,(hr.drewN _).setNum (k+j) _ _ og,(below_drewN n _).setCell (I _) _,
       by have:=o.out;simpa[f,World.setCell] using this,by rw[List.length_set];exact hrel.out.1,W5 hrel.out.2.1 og,fun i hi=>by rw[getD_set_ne og];exact hrel.out.2.2.1 i hi,?_⟩
      rw[<-t.out];exact yjl (oh H) W.out X.out (t:=h+z+x*y) (c:=h) (c':=(h+z+x*y)/1000000000) (r:=(h+z+x*y)%1000000000) og og og (by rw[t.out];exact hrel.out.2.2.2)
     case measure=>simp[intOf];omega
    ·obtain rfl:j=g.length:=og;obtain⟨z,X,al,an⟩:=hr.num (i:=k+g.length) H.out;have ao:=hr.frozen (k+g.length);go_wp2;go_roundw
     case rel=>
      exact⟨k+1,m.set (k+g.length) h.toNat,by omega,by go_num,hr.setNum (k+g.length) _ _ og,n.setCell (I _) _,
       by have:=o.out;simpa[f,World.setCell] using this,by rw[List.length_set];exact hrel.out.1,W5 hrel.out.2.1 og,fun i hi=>by rw[getD_set_ne og];exact hrel.out.2.2.1 i og,
       yjk rfl H.out rfl (hrel.out.2.2.1 _ (I _)) ad C.out.2.2.2 hrel.out.2.2.2⟩
     case measure=>simp[intOf];omega
  ·obtain rfl:k=a.length:=og;have q:f (Row wr l 140 (C8 .u32 L)/\val L=x*y/\L.length=a.length+g.length/\Lo L):=⟨hr,by have:=hrel.out.2.2.2;rw[zki (I _),O.out.2,P.out.2] at this;exact this,hrel.out.1,hrel.out.2.1⟩;clear hr hrel;go_wp2_with fail;rw[<-q.out.2.2.1];refine(ylt _ _ L wr l (l+1) q.out.2.2.2 (I _) (by have:=q.out.2.2.1;unfold maxLen;omega) q.out.1.sv).mono ?_;rintro e aE ⟨⟨v,rfl,hv⟩,rfl⟩;go_wp2_with fail;go_ret;refine⟨⟨_,rfl,?_⟩,r⟩;rw[<-q.out.2.1];exact hv.wide (oh J) (oh o)
def WrN (w:u) (base:Nat) (v:q) (n:Nat):Prop:=(v= .slice none 0 0/\n=0)\/∃g cap a,v= .slice (some ⟨g,0,none⟩) (A9 n).length cap/\base<=g/\Row w g 140 a/\a.take (A9 n).length=C8 .u32 (A9 n)/\(A9 n).length<=cap/\cap<=maxLen
theorem zz1436 {d:Type} {a c:List d} {n:Nat} (h:a.take n=c):∀(j:Nat) (x:d),c[j]? =some x->a[j]? =some x:=by
 intro j x b;rw[<-h,List.getElem?_take] at b;split at b
 ·exact b
 ·cases b
theorem WrN.isN {w:u} {base:Nat} {n:Nat} (h:WrN w base v n):IsN w base w.heap.size v n:=by
 rcases h with⟨rfl,rfl⟩|⟨g,cap,i,rfl,c,hr,d,a,b⟩
 ·exact IsN.zero
 ·exact⟨_,cap,rfl,a,b,fun _=>⟨g,0,rfl,c,hr.lt,fun j f e=>by rw[Nat.zero_add,hr.cell];exact zz1436 d j f e⟩⟩
theorem WrN.setFar {w:u} {base:Nat} {n:Nat} (h:WrN w base v n) {p:Addr} (i:p.block<base) (a:q):WrN (w.setCell p a) base v n:=by
 rcases h with h|⟨g,cap,b,rfl,e,hr,f,c,d⟩
 ·exact .inl h
 ·exact .inr ⟨g,cap,b,rfl,e,hr.far og a,f,c,d⟩
theorem WrN.mono {w:u} {base a:Nat} {n:Nat} (h:WrN w base v n) (f:a<=base):WrN w a v n:=by
 rcases h with h|⟨g,cap,b,rfl,i,hr,e,c,d⟩
 ·exact .inl h
 ·exact .inr ⟨g,cap,b,rfl,by omega,hr,e,c,d⟩
theorem Own.wr {w:u} {base:Nat} {A:Option Addr} {len c m:Nat} (h:Own w base 140 (.slice A len c) (C8 .u32 l)) (a:m<=l.length) (e:A9 (val l)=l.take m):WrN w base (.slice A m c) (val l):=by
 have b:(A9 (val l)).length=m:=(by rw[e,List.length_take,Nat.min_eq_left a]);rcases h.2 with⟨hv,d⟩|⟨g,cap,i,hv,j,n,d,k,p,f⟩
 ·have o:l=[]:=cel_nil_iff.1 (List.eq_nil_of_length_eq_zero d);subst o;simp only[Value.slice.injEq] at hv;obtain⟨rfl,_,rfl⟩:=hv;simp at a;subst a;exact .inl ⟨rfl,rfl⟩
 ·simp only[Value.slice.injEq] at hv;obtain⟨rfl,_,rfl⟩:=hv;rw[zmh] at d f;refine .inr ⟨g,c,i.toList,by rw[b],j,?_,?_,by rw[b];omega,k⟩
  ·unfold Row;simpa using n
  ·rw[b,e,zxj,<-f,Nat.mul_one,List.take_take,Nat.min_eq_left a]
theorem ylo {w:u} {x y:Nat} {lo:Nat} (ha:IsN w lo hi b x) (au:IsN w lo' s G y) (av:hi<=w.heap.size) (ay:s<=w.heap.size) (O:y<=x) (aI:(A9 x).length<=4294967296):
 F E 86 #[b,G] w fun e w'=>(∃v,e= .returned v/\WrN w' w.heap.size v (x-y))/\p w.heap.size w w':=by
 have ar:=W9 O;obtain⟨A,c,rfl,_,_,ao⟩:=ha;obtain⟨B,d,rfl,_,_,aq⟩:=au;generalize aa:A9 x=a at*;generalize ab:A9 y=r at*;have J:f (Lo a/\val a=x):=(by rw[f,<-aa];exact⟨M4 x,R7 x⟩);have K:f (Lo r/\val r=y):=(by rw[f,<-ab];exact⟨M4 y,R7 y⟩);have aj:=i O;clear aa ab O;generalize X:w.heap.size=bs at*;have ai:=i X;clear X;go_in;go_wp2
 go_loopw [5,6,7] (fun v al Q wr=>∃(k:Nat) (L:List Nat) (q:Int),k<=a.length/\Q= .int .i64 (k:Int)/\al= .int .i64 q/\0<=q/\q<=1/\Own wr bs 140 v (C8 .u32 L)/\p bs w wr/\
  f (L.length=k/\Lo L/\(val L:Int)=val (a.take k)-val (r.take k)+q*pw k)) (fun _ _ Q _=>a.length-(intOf Q).toNat)
 case atStart=>exact⟨0,[],0,by omega,rfl,rfl,by omega,by omega,Own.nil _ _ _,Below.refl _ _,rfl,zvw,by simp[val]⟩
 case round=>
  obtain⟨k,L,q,aD,rfl,rfl,aG,aH,n,j,hrel⟩:=hrel;have z:bs<=wr.heap.size:=(by have:=j.size;have:=ai.out;omega);have aE:k<=4294967297:=og;have C:f ((C8 .u32 L).length<=4294967297):=(by rw[f,zmh,hrel.out.1];omega);rcases D k a.length with N|N
  ·obtain⟨ba,oa,rfl,_,_,Y⟩:=(ao.below j av) (M5 (j:=k) N);obtain⟨o,I,aJ,aK,aL⟩:=W4 (j:=k) J.out.1 Y N;clear Y;rcases D k r.length with t|t
   ·obtain⟨bb,ob,rfl,_,_,Z⟩:=(aq.below j ay) (M5 (j:=k) t);obtain⟨T,ad,aM,aN,aO⟩:=W4 (j:=k) K.out.1 Z t;clear Z;rcases Int.lt_or_le (o-q-T) 0 with aA|aB
    ·go_wp2_with (at_builtin;refine zlk U9 rfl _ _ rfl rfl n rfl rfl (oh C) z ?_;intro R S g l P);go_roundw;(case rel=>rw[zlc .u32 L (o-q-T+1000000000).toNat _ og] at g;exact⟨k+1,_,1,by omega,by go_num,rfl,by omega,by omega,g,j.trans l,by rw[H];simp[hrel.out.1],zma hrel.out.2.1 og,zys hrel.out.1 I.out ad.out og og hrel.out.2.2⟩);case measure=>simp[intOf];omega
    ·go_wp2_with (at_builtin;refine zlk U9 rfl _ _ rfl rfl n rfl rfl (oh C) z ?_;intro R S g l P);go_roundw;(case rel=>rw[zlc .u32 L (o-q-T).toNat _ og] at g;exact⟨k+1,_,0,by omega,by go_num,rfl,by omega,by omega,g,j.trans l,by rw[H];simp[hrel.out.1],zma hrel.out.2.1 og,zys hrel.out.1 I.out ad.out og og hrel.out.2.2⟩);case measure=>simp[intOf];omega
   ·rcases Int.lt_or_le (o-q) 0 with aA|aB
    ·go_wp2_with (at_builtin;refine zlk U9 rfl _ _ rfl rfl n rfl rfl (oh C) z ?_;intro R S g l P);go_roundw;(case rel=>rw[zlc .u32 L (o-q+1000000000).toNat _ og] at g;exact⟨k+1,_,1,by omega,by go_num,rfl,by omega,by omega,g,j.trans l,by rw[H];simp[hrel.out.1],zma hrel.out.2.1 og,zys (y:=0) hrel.out.1 I.out (by rw[zmj t];rfl) og og hrel.out.2.2⟩);case measure=>simp[intOf];omega
    ·go_wp2_with (at_builtin;refine zlk U9 rfl _ _ rfl rfl n rfl rfl (oh C) z ?_;intro R S g l P);go_roundw;(case rel=>rw[zlc .u32 L (o-q).toNat _ og] at g;exact⟨k+1,_,0,by omega,by go_num,rfl,by omega,by omega,g,j.trans l,by rw[H];simp[hrel.out.1],zma hrel.out.2.1 og,zys (y:=0) hrel.out.1 I.out (by rw[zmj t];rfl) og og hrel.out.2.2⟩);case measure=>simp[intOf];omega
  ·obtain rfl:k=a.length:=og;have hv:f (val L=x-y):=(by have h:=ymx (L:=L) (b:=r) (bw:=q) hrel.out.1 rfl ar hrel.out.2.1 og (by rw[J.out.2,K.out.2];exact aj.out) (by rw[zki (l:=L) (Nat.le_of_eq hrel.out.1)];exact hrel.out.2.2);rw[J.out.2,K.out.2] at h;exact h);have hlo:=i hrel.out.2.1;obtain⟨ae,an,aC,M,V,W⟩:=n.sl;subst aC;rw[zmh] at M;obtain⟨U,af,ag,ah⟩:=X7 n M V W;clear n hrel M V W;rw[zmh] at U⊢;go_wp2_with fail;refine(ylu ae an L wr bs wr.heap.size hlo.out af.out ag.out ah.out).mono ?_;rintro e aP ⟨⟨m,rfl,az,ac⟩,rfl⟩;have ak:=i ac;clear ac;go_wp2_with fail;go_ret;refine⟨⟨_,rfl,?_⟩,j⟩;rw[<-hv.out];exact Own.wr U.out az ak.out
theorem yln {w:u} {x y:Nat} {lo:Nat} (ha:IsN w lo hi b x) (a:IsN w lo' s G y) (g:hi<=w.heap.size) (h:s<=w.heap.size) (j:y<=x) (l:(A9 x).length<=4294967296):
 F E 86 #[b,G] w fun e w'=>(∃v,e= .returned v/\IsN w' w.heap.size w'.heap.size v (x-y))/\p w.heap.size w w':=
 (ylo ha a g h j l).mono fun e w' ⟨⟨v,c,hv⟩,k⟩=>⟨⟨v,c,hv.isN⟩,k⟩
theorem zz1384 (A B:Option Addr) (c d:Nat) (a b:List Nat) (w:u) (lo hi lo' s:Nat) (ha:Lo a) (C:Lo b) (N:a.length<=maxLen) (P:b.length<=maxLen) (L:SV w lo hi A (C8 .u32 a)) (M:SV w lo' s B (C8 .u32 b))
 (r:Int) (l:a.length<b.length->r= -1) (m:b.length<a.length->r=1) (J:a.length=b.length->r=X6 (val a) (val b)):
 F E 85 #[.slice A a.length c,.slice B b.length d] w fun e w'=>e= .returned (.int .i64 r)/\Dr w w':=by
 unfold maxLen at N P;have t:=i ha;clear ha;have v:=i C;clear C;have z:=i J;clear J;rcases Nat.lt_trichotomy a.length b.length with h|h|h
 ·have g:=i (l h);clear l m;go_in;go_wp2;go_ret;exact⟨J0 g.out.symm,Dr.refl w⟩
 ·have g:=i (z.out h);clear l m z;have U:(((a.length:Int)) !=(b.length:Int))=false:=(by simp[h]);have j:=i h;have K:a.length<=b.length:=og;have T:b.length<=a.length:=og;clear h;go_in;go_wp2;go_loopw [5] (fun q wr=>∃k:Nat,k<=a.length/\q= .int .i64 ((k:Int)-1)/\Dr w wr/\f (a.drop k=b.drop k)) (fun q _=>(intOf q+1).toNat);case atStart=>exact⟨a.length,I _,rfl,Dr.refl w,by rw[List.drop_length,j.out,List.drop_length];rfl⟩
  case round=>
   obtain⟨k,H,rfl,⟨n,rfl⟩,hd⟩:=hrel;rcases k with _|k
   ·go_wp2;go_ret;refine⟨J0 ?_,(Dr.refl w).drewN n⟩;have:=hd.out;simp only[List.drop_zero] at this;rw[g.out,zzn (by rw[this])]
   ·obtain⟨ba,oa,rfl,_,_,D⟩:=L (M5 H);obtain⟨bb,ob,rfl,_,_,G⟩:=M (M5 (O H K));obtain⟨x,o,V,W⟩:=znn (j:=k) D og;obtain⟨y,p,X,Y⟩:=znn (j:=k) G og;clear D G;rw[show(((k+1:Nat):Int)-1)=(k:Int) from by omega];go_wp2;go_quiet (fail);go_wp2
    ·go_ret;refine⟨J0 ?_,((Dr.refl w).drewN n).drewN _⟩;have Q:x<y:=(by assumption);rw[g.out,zqz (zzw t.out v.out j.out og hd.out (znu o p))]
    ·go_quiet (fail);go_wp2
     ·go_ret;refine⟨J0 ?_,(((Dr.refl w).drewN n).drewN _).drewN _⟩;have Q:y<x:=(by assumption);rw[g.out,ztm (zzw v.out t.out j.out.symm og hd.out.symm (znu o p))]
     ·go_roundw;(case rel=>have R:y<=x:=(by assumption);have S:x<=y:=(by assumption);exact⟨k,by omega,rfl,⟨_,rfl⟩,i (ygv j.out og hd.out (znu o p))⟩);case measure=>simp[intOf]
 ·have g:=i (m h);clear l m;go_in;go_wp2;go_ret;exact⟨J0 g.out.symm,Dr.refl w⟩
theorem zwm {w:u} {x y lo:Nat} (ha:IsN w lo hi b x) (a:IsN w lo' s G y):
 F E 85 #[b,G] w fun e w'=>e= .returned (.int .i64 (X6 x y))/\Dr w w':=by
 have f:=ha.length_le;have g:=a.length_le;obtain⟨A,c,rfl,_,_,i⟩:=ha;obtain⟨B,d,rfl,_,_,j⟩:=a;refine zz1384 A B c d (A9 x) (A9 y) w _ _ _ _ (M4 x) (M4 y) f g i j _ ?_ ?_ ?_
 ·intro h;exact zqz (zyq h)
 ·intro h;exact ztm (zyq h)
 ·intro _;rw[R7,R7]
section
variable {P : Program} {w : u} {ops : Array Oper} {o : Oper} {a : Act} {K : Act → u → Prop} {Q : Exit → Act → u → Prop} {t e : J} {z : q} {bytes base : Nat} {y : Prop}
theorem ywv {k:IntKind} (P:Program) {t e:J} {bytes:Nat} (b:ElT P t e (.int k 0) bytes) (L:Int) (n:Nat) (i:L=(n:Int)) (j:n*(bytes+1)<=140737488355328):
 ∃c:Array q,c=(C8 k (List.replicate n 0)).toArray/\∀w:u,(Instr.makeSlice t (.int .i64 L) (.int .i64 L)).run P w= .ok (.slice (some ⟨w.heap.size,0,none⟩) n n) (w.alloc (.cells c e)):=by obtain⟨a,d,f,g,m⟩:=b.info;rw[Nat.mul_add,Nat.mul_one] at j;have b2:a.bytes*n<=281474976710656:=(by rw[m,Nat.mul_comm];omega);have l:(a.bytes:Int)*(n:Int)<=281474976710656:=(by have h:((a.bytes*n:Nat):Int)<=281474976710656:=og;rwa[Int.natCast_mul] at h);refine⟨_,rfl,fun w=> ?_⟩;have hr:=run_make (P:=P) w t e a (.int k 0) b.und d f .i64 .i64 n n og (Int.le_refl _) l og;simp only[Int.toNat_natCast] at hr;(have o:(C8 k (List.replicate n 0)).toArray=madeCells (Value.int k 0).cells (n*a.size):=by apply Array.ext';rw[g,Nat.mul_one];show _=(madeCells #[.int k 0] n).toList;rw[toList_madeCells_one];simp[C8]);rw[i,o];exact hr
theorem zz1418 (d:ElT P t e z bytes) (u:o.guard=none) (s x:Operand) (D:o.op= .call {callee:= .builtin .append,args:= #[s,x],argTypes:= #[t,t]})
 (E:a.eval s=v) (i:Own w base e v xs) {lo:Nat} {A:Option Addr} {m c:Nat} {news:List q} (I:a.eval x= .slice A m c) (C:news.length=m) (hr:SV w lo hi A news)
 (j:∀M∈news,M.oneCell'=true) (n:(xs.length+m)*(bytes+1)<=140737488355328) (g:base<=w.heap.size)
 (h:∀b w',Own w' base e b (xs++news)->p base w w'->w.heap.size<=w'.heap.size->K (a.put o.dst b) w'):
 if Region.wanted o (yielded ops a.tmps)=true then Oper.wp P o a w K Q else y:=by
 obtain⟨L,hi,J,F,r⟩:=d.info
 rw[Nat.mul_add,Nat.mul_one] at n
 have G:Region.wanted o (yielded ops a.tmps)=true:=by simp[Region.wanted,u]
 rw[if_pos G]
 refine yof w s x t D base e L z 1 bytes d.und hi J F r d.zc og v xs.length xs E i lo _ A m c news I og hr j (by unfold maxLen;omega) og g fun b w' l f _=>
  h b w' (by unfold Own;rw[H,C];exact l) ((Below.refl _ _).grown f g (fun k B=>(World.ownsRow.lt i k B).1)) f.size
end
theorem ygt (h:Lo l) {n:Nat} (c:l.length<=k+n):val (l.drop k)<pw n:=by have a:=zmf (zvv h k);have b:pw (l.drop k).length<=pw n:=zwi (by rw[List.length_drop];omega);omega
theorem ynu (R k:Nat):val ((A9 R).drop k)=R/pw k:=by
 rcases D (A9 R).length k with h|h
 ·rw[List.drop_eq_nil_of_le og,zpy,Nat.div_eq_of_lt (lim_len_le.1 og)]
 ·have a:=zqm (A9 R) k h;rw[R7] at a;have b:=zmf (zmy (M4 R) k);rw[List.length_take,Nat.min_eq_left h] at b;conv=>rhs;rw[a]
  rw[Nat.add_mul_div_left _ _ (znw k),Nat.div_eq_of_lt b,Nat.zero_add]
theorem top_le {B n:Nat}:(A9 B).getD n 0*pw n<=B:=by rw[zrv];have a:=Nat.div_mul_le_self B (pw n);have b:=N (pw n) (Nat.mod_le (B/pw n) 1000000000);omega
theorem yeb {B n:Nat} (d:(A9 B).length=n+1):1<=(A9 B).getD n 0:=by rw[zrv];have b:pw n<=B:=lim_len_lt.1 og;have a:B<pw (n+1):=lim_len_le.1 og;rw[zkg] at a;have c:B/pw n<1000000000:=(by rw[Nat.div_lt_iff_lt_mul (znw n)];exact a);rw[Nat.mod_eq_of_lt c];exact Nat.div_pos b (znw n)
theorem yuu {R B n:Nat} (e:(A9 B).length=n+1) (c:R<B*1000000000) {d:Nat} (hd:d=999999999\/d=R/pw n/(A9 B).getD n 0):R<(d+1)*B:=by
 rcases hd with rfl|rfl
 ·rw[Nat.mul_comm];exact c
 ·have j:=yeb e;have f:=Nat.lt_div_mul_add (a:=R/pw n) (b:=(A9 B).getD n 0) og;have g:=Nat.lt_div_mul_add (a:=R) (b:=pw n) (znw n);generalize R/pw n/(A9 B).getD n 0=d at*;generalize i:R/pw n=l at*;have b:l+1<=(d+1)*(A9 B).getD n 0:=(by rw[Nat.add_mul,Nat.one_mul];omega);have a:=N (pw n) b;have h:=Nat.mul_le_mul_left (d+1) (top_le (B:=B) (n:=n));rw[Nat.add_mul,Nat.one_mul] at a;rw[Nat.mul_assoc] at a;omega
theorem yvx {R B n:Nat} (d:(A9 B).length=n+1) (c:R<B*1000000000):(A9 R).length<=n+2/\R/pw n<1000000000000000000:=by have b:B<pw (n+1):=lim_len_le.1 og;have a:R<pw (n+2):=(by rw[show n+2=(n+1)+1 from rfl,zkg,Nat.mul_comm];exact Nat.lt_of_lt_of_le c (N _ (Nat.le_of_lt b)));refine⟨lim_len_le.2 a,?_⟩;rw[Nat.div_lt_iff_lt_mul (znw n)];rw[show n+2=(n+1)+1 from rfl,zkg,zkg] at a;omega
theorem yvv {R n q:Nat} (h:q=val ((A9 R).drop j)) (b:j=n\/(j=(A9 R).length/\j<=n)):q=R/pw n:=by
 rcases b with rfl|⟨rfl,a⟩
 ·rw[h,ynu]
 ·rw[h,List.drop_length,zpy,Nat.div_eq_of_lt (lim_len_le.1 a)]
theorem yrh {a R:Nat}:val (a::A9 R)=a+1000000000*R:=by rw[zsi,R7]
theorem yrg {a R B:Nat} (ha:a<1000000000) (b:R<B):a+1000000000*R<B*1000000000:=og
theorem ysf {R B d:Nat} (h:R<B*d):1<=d/\R<(d-1+1)*B:=by
 rcases d with _|d
 ·simp at h
 ·exact⟨by omega,by rw[Nat.add_sub_cancel,Nat.mul_comm];exact h⟩
theorem ysg {R B d:Nat} (c:d*B<=R) (a:R<(d+1)*B):R-d*B<B/\R-d*B=R%B/\d=R/B:=by
 have e:0<B:=by
  rcases Nat.eq_zero_or_pos B with h|h
  ·subst h;simp at a
  ·exact h
 have b:R/B=d:=Nat.div_eq_of_lt_le c a;rw[Nat.add_mul,Nat.one_mul] at a;exact⟨by omega,by rw[Nat.mod_eq_sub_mul_div,b,Nat.mul_comm],b.symm⟩
theorem yyi {A Q:List Nat} {B R d a:Nat} (b:k<A.length) (c:k<Q.length) (h:val (A.drop (k+1))=B*val (Q.drop (k+1))+R) (g:A.getD k 0+1000000000*R=a) (f:d*B<=a):
 val (A.drop k)=B*val ((Q.set k d).drop k)+(a-d*B):=by rw[zsj b,h,ygu c];have e:B*(d+1000000000*val (Q.drop (k+1)))=d*B+1000000000*(B*val (Q.drop (k+1))):=(by grind);rw[e,Nat.mul_add];omega
theorem ysn (X k:Nat):A9 (val ((A9 X).drop k))=(A9 X).drop k:=by
 apply zug (zvv (M4 X) k);rcases D k (A9 X).length with h|h
 ·right;rw[List.length_drop,ynu,Nat.le_div_iff_mul_le (znw k),<-zwh];exact lim_len_lt.1 og
 ·exact .inl (List.drop_eq_nil_of_le h)
def bs (l:List Nat):ByteArray:=⟨(l.map UInt8.ofNat).toArray⟩

theorem Own.row {w:u} {base:Nat} {e:J} (h:Own w base e v xs) (j:xs≠[]):
 ∃g sp cap,v= .slice (some ⟨g,0,none⟩) xs.length cap/\base<=g/\Row w g e (xs++sp)/\xs.length<=cap/\cap<=maxLen:=by
 rcases h.2 with⟨_,b⟩|⟨g,cap,a,hv,d,i,b,f,k,c⟩
 ·exact absurd (List.eq_nil_of_length_eq_zero b) j
 ·refine⟨g,a.toList.drop xs.length,cap,hv,d,?_,b,f⟩;unfold Row;rw[Nat.mul_one] at c
  have e:xs++List.drop xs.length a.toList=a.toList:=by
   conv=>lhs;lhs;rw[<-c]
   exact List.take_append_drop _ _
  rw[e];exact i
theorem Row.numS {w:u} {g:Nat} {t:J} {k:IntKind} {sp:List q} (h:Row w g t (C8 k l++sp)) {i:Nat} (hi:i<l.length):
 ∃x:Int,f (x=(l.getD i 0:Nat))/\0<=x/\w.cell? ⟨g,i,none⟩=some (.int k x):=by refine⟨_,rfl,by omega,?_⟩;rw[h.cell,List.getElem?_append_left (by rw[zmh];exact hi),zpl hi]
theorem Row.setS {w:u} {g:Nat} {t:J} {k:IntKind} {sp:List q} (h:Row w g t (C8 k l++sp)) (a n:Nat) (hi:a<l.length) (x:Int) (b:x=(n:Int)):
 Row (w.setCell ⟨g,a,none⟩ (.int k x)) g t (C8 k (l.set a n)++sp):=by subst b;rw[yff,<-List.set_append_left _ _ (by rw[zmh];exact hi)];exact h.set_ a _
end Go.Proofs.YtlhhbccgfkhflaaGreatDoor
