/-
 The contract of package simplex's Next,where d c has a b.
-/
import Derived.Test.YtdgilbgdkmhcmaaGreatDoorProofSimplexDuals22
import Derived.Test.YtdgilbgdkmhcmaaGreatDoorProofSimplexDuals13
namespace Go.Proofs.YtdgilbgdkmhcmaaGreatDoor
open Go.RowKit Go.Shelf
open Go.RowKit
set_option linter.unusedVariables false
set_option maxRecDepth 100000
set_option maxHeartbeats 8000000
open _root_.Go.Lib renaming hid → i
open _root_.And renaming intro → e
open _root_.Go renaming World → f, Value → b, undef → d
variable {W : f} {k : Nat}
attribute [local go_sem] Oper.semAt_some
set_option linter.unusedVariables false
theorem yxx {fn:Func} {s0 h i j:Tmp} {o p q r:Int} {tmps:Array b} {w:f} {a c e g:Nat} (hr:fn.results= #[.cell s0 3,.cell h 3,.cell i 3,.cell j 40])
 (s:tmps.getD s0 d= .pointer (some ⟨a,0,none⟩)) (t:tmps.getD h d= .pointer (some ⟨c,0,none⟩)) (u:tmps.getD i d= .pointer (some ⟨e,0,none⟩)) (v:tmps.getD j d= .pointer (some ⟨g,0,none⟩))
 (A:Row w a 3 [.int .i64 o]) (B:Row w c 3 [.int .i64 p]) (C:Row w e 3 [.int .i64 q]) (D:Row w g 40 [.int .i64 r]):
 (results fn tmps).run Tryz.prog w= .ok (.tuple #[.int .i64 o,.int .i64 p,.int .i64 q,.int .i64 r]) w:=by have x:tmps[s0]?.getD d= .pointer (some ⟨a,0,none⟩):=(by simpa using s);have y:tmps[h]?.getD d= .pointer (some ⟨c,0,none⟩):=(by simpa using t);have b2:tmps[i]?.getD d= .pointer (some ⟨e,0,none⟩):=(by simpa using u);have z:tmps[j]?.getD d= .pointer (some ⟨g,0,none⟩):=(by simpa using v);have k:=A.cell 0;have l:=B.cell 0;have m:=C.cell 0;have n:=D.cell 0;simp at k l m n;simp[results,hr,x,y,b2,z,asAddr,go_sem,k,l,m,n]
structure NxI (w:f) (S:Nat->Prop) (lo0 lo g:Nat) (L:Lay) (m n:Nat) (sc:Nat->Nat) (top:Nat) (B:Nat) (t:TB) (W:f):Prop where
 bel:Below w.heap.size w W
 bxr:Row W B 88 [.pointer (some ⟨g,0,none⟩)]
 r1:Row W (w.heap.size+1) 3 [.int .i64 0]
 r2:Row W (w.heap.size+2) 3 [.int .i64 0]
 r3:Row W (w.heap.size+3) 3 [.int .i64 0]
 r4:Row W (w.heap.size+4) 40 [.int .i64 0]
 sch:N7 W S lo0 lo g L m n sc top t 0 (-1) 0
structure NxR (w:f) (r c:Nat) (W:f):Prop where
 bel:Below w.heap.size w W
 r1:Row W (w.heap.size+1) 3 [.int .i64 (r:Int)]
 r2:Row W (w.heap.size+2) 3 [.int .i64 (c:Int)]
 r3:Row W (w.heap.size+3) 3 [.int .i64 0]
 r4:Row W (w.heap.size+4) 40 [.int .i64 0]
section
variable {w X Y : f} {S : Nat → Prop} {lo0 lo g m n top B r c : Nat} {L : Lay} {sc : Nat → Nat} {t : TB} {row : Option Nat}
theorem NxI.stays (h:NxI w S lo0 lo g L m n sc top B t X) (hg:X.grownBy Y row) (hr:∀x,row=some x->w.heap.size<=x/\∃b:Obj,X.heap[x]? =some b/\b.isCells=false):NxI w S lo0 lo g L m n sc top B t Y:=
 ⟨h.bel.grown hg h.bel.size fun c a=>(hr c a).1,h.bxr.stays hg fun x a=>(hr x a).2,h.r1.stays hg fun x a=>(hr x a).2,h.r2.stays hg fun x a=>(hr x a).2,h.r3.stays hg fun x a=>(hr x a).2,h.r4.stays hg fun x a=>(hr x a).2,h.sch.stays hg fun x a=>(hr x a).2⟩
theorem NxR.stays (h:NxR w r c X) (hg:X.grownBy Y row) (hr:∀x,row=some x->w.heap.size<=x/\∃b:Obj,X.heap[x]? =some b/\b.isCells=false):NxR w r c Y:=
 ⟨h.bel.grown hg h.bel.size fun d a=>(hr d a).1,h.r1.stays hg fun x a=>(hr x a).2,h.r2.stays hg fun x a=>(hr x a).2,h.r3.stays hg fun x a=>(hr x a).2,h.r4.stays hg fun x a=>(hr x a).2⟩
theorem zvw {A:f} {B:Nat} (h:Below B A W) (c:B<=k) (a:b):Below B A (W.setCell ⟨k,0,none⟩ a):=h.setCell (p:=⟨k,0,none⟩) c a
theorem Row.farN {c:Nat} {a:TypeId} {e:List b} (h:Row W k a e) (f:k≠c) (d:b):Row (W.setCell ⟨c,0,none⟩ d) k a e:=h.far f d
theorem NxI.put4 (h:NxI w S lo0 lo g L m n sc top B t X) (r c:Nat):NxR w r c ((((X.setCell ⟨w.heap.size+1,0,none⟩ (.int .i64 (r:Int))).setCell ⟨w.heap.size+2,0,none⟩ (.int .i64 (c:Int))).setCell ⟨w.heap.size+3,0,none⟩ (.int .i64 0)).setCell ⟨w.heap.size+4,0,none⟩ (.int .i64 0)):=
 ⟨zvw (zvw (zvw (zvw h.bel og _) og _) og _) og _,(((h.r1.set_ 0 _).farN og _).farN og _).farN og _,(((h.r2.farN og _).set_ 0 _).farN og _).farN og _,(((h.r3.farN og _).farN og _).set_ 0 _).farN og _,(((h.r4.farN og _).farN og _).farN og _).set_ 0 _⟩
end
theorem yvb {w:f} {p v H F B z A:Option Addr} {m n u y I G C O J P K M r c0:Nat} {N:Bool} {bas oth:List Nat} {R:List (List Rat)} {b c:List Rat} {vq:Rat}
 (az:IsS 1 IsIV w (C2 w) (.slice p m u) (bas.map fun(x:Nat)=>(x:Int))) (aD:IsS 1 IsIV w (C2 w) (.slice v n y) (oth.map fun(x:Nat)=>(x:Int))) (hr:IsM w (C2 w) (.slice H m I) (E9 R)) (aE:IsV w (C2 w) (.slice F m G) (C0 b)) (hc:IsV w (C2 w) (.slice B n C) (C0 c)) (hv:IsQ w (C2 w) (.agg #[.bool N,.slice z O J,.slice A P K]) vq) (av:Bru w)
 (lb:bas.length=m) (lo:oth.length=n) (aJ:R.length=m) (aI:b.length=m) (aH:c.length=n) (aK:∀r∈R,r.length=n) (aB:m<=40) (aC:n<=40) (aA:∀x∈bas++oth,x<m+n) (a0:(bas++oth).Nodup) (aL:∀r∈R,∀q∈r,Sz q 1024) (sb:∀q∈b,Sz q 1024) (sc:∀q∈c,Sz q 1024) (aM:Sz vq 1024) (a9:p=none->u=0) (bd:v=none->y=0) (a1:∀q∈b,0<=q)
 (hI:TInv M m n (zlh R b c vq bas oth m n)) (ay:∀a4,a4<m->0<=(zlh R b c vq bas oth m n).A a4 n) (hF:(A9 (K0 M (m+1))).length<=100000) (E:Z9 m n (zlh R b c vq bas oth m n)=some c0) (ac:zlg m n (zlh R b c vq bas oth m n) c0=some r):
 Calls Tryz.prog 39 #[.agg #[.slice p m u,.slice v n y,.slice H m I,.slice F m G,.slice B n C,.bool N,.slice z O J,.slice A P K]] w fun j w'=>j= .returned (.tuple #[.int .i64 (r:Int),.int .i64 (c0:Int),.int .i64 0,.int .i64 0])/\Below w.heap.size w w':=by
 have aR:Hid (∀W:f,Below w.heap.size w W->Calls Tryz.prog 83 #[.agg #[.slice p m u,.slice v n y,.slice H m I,.slice F m G,.slice B n C,.bool N,.slice z O J,.slice A P K]] W fun j w'=>j= .returned (.int .i64 0)/\Below W.heap.size W w'):=fun W l=>
  yxr ((IsS.stb IsIV.stb).to az (F7 l)) ((IsS.stb IsIV.stb).to aD (F7 l)) (IsM.stb.to hr (F7 l)) (IsV.stb.to aE (F7 l)) (IsV.stb.to hc (F7 l)) (IsQ.stb.to hv (F7 l)) (Bru.next av l) lb lo aJ aI aH aK aB aC aA a0 aL sb sc aM a9 bd a1
 obtain⟨t,aG⟩:=nm (zlh R b c vq bas oth m n);have au:Hid (∀W:f,Below w.heap.size w W->Calls Tryz.prog 56 #[.agg #[.slice p m u,.slice v n y,.slice H m I,.slice F m G,.slice B n C,.bool N,.slice z O J,.slice A P K]] W fun j w'=>(∃g S L,j= .returned (.pointer (some ⟨g,0,none⟩))/\N7 w' S W.heap.size w'.heap.size g L m n (zly R b bas m) (zkd c vq) t 0 (-1) 0)/\Below W.heap.size W w'):=fun W l=>(by rw[aG];exact yhp ((IsS.stb IsIV.stb).to az (F7 l)) ((IsS.stb IsIV.stb).to aD (F7 l)) (IsM.stb.to hr (F7 l)) (IsV.stb.to aE (F7 l)) (IsV.stb.to hc (F7 l)) (IsQ.stb.to hv (F7 l)) (Bru.next av l) lb lo aJ aI aH aK og og aA aL sb sc aM);rw[<-aG] at hI ay E ac;obtain⟨Q,bh,aQ⟩:=G6 (e hI (e ay (e E ac))) hF (e aB aC);obtain⟨bf,a2⟩:=nm (zly R b bas m);obtain⟨top,a3⟩:=nm (zkd c vq);rw[<-a2,<-a3] at au;clear az aD hr aE hc hv av lb lo aJ aI aH aK aB aC aA a0 aL sb sc aM a9 bd a1 hI ay hF E ac aG a2 a3;have bF:=zqc;have bG:=ykd;obtain⟨bA,bw,aX,be,a5,a6,a7,a8,bC⟩:=ydf w #[.slice p m u,.slice v n y,.slice H m I,.slice F m G,.slice B n C,.bool N,.slice z O J,.slice A P K] #[.int .i64 0] #[.int .i64 0] #[.int .i64 0] #[.int .i64 0] 59 3 3 3 40;obtain⟨d0,af,ag,ah,ai,aj,ak,al⟩:=Z0 be;have aS:=hs8 d0 af ag ah ai aj ak al;obtain⟨a,B0⟩:=C4 (e a5 (e a6 (e a7 a8))) aX;clear be a5 a6 a7 a8 aX;refine(callsIn_wide (n:=3)).1 ?_;refine callsIn_of_wp_marks Tryz.func39 rfl trivial ?_ rfl;simp only[Tryz.ntmps39,List.size_toArray,List.length_cons,List.length_nil,Nat.reduceAdd,Nat.reduceSub,Array.replicate_succ,Array.replicate_zero,List.push_toArray,List.append_toArray,List.nil_append,List.cons_append];refine wpIn_wide.2 ?_;go_wp2_with fail;clear bw d0 af ag ah ai aj ak al;refine(aR.out bA B0.out).mono ?_;rintro j ao ⟨rfl,U⟩;have ar:=nB B0 U;have a:=i (e (a.out.1.next U) (e (a.out.2.1.next U) (e (a.out.2.2.1.next U) (a.out.2.2.2.next U))));obtain⟨d0,af,ag,ah,ai,aj,ak,al⟩:=aS.out ao U;clear U aS aR;go_wp2_with fail;clear d0 af ag ah ai aj ak al;refine(au.out ao ar.out).mono ?_;rintro j aq ⟨⟨g,S,L,rfl,aW⟩,aa⟩;have aT:=i aW;have aN:=nB ar aa;have a:=i (e (a.out.1.next aa) (e (a.out.2.1.next aa) (e (a.out.2.2.1.next aa) (a.out.2.2.2.next aa))));clear aW aa au;go_wp2_with fail;refine(yii aq g).mono ?_;rintro j bg ⟨rfl,V,aY⟩;have S3:=i (aT.out.next V);have ad:=nB aN V;obtain⟨a,aO⟩:=C4 (e (a.out.1.next V) (e (a.out.2.1.next V) (e (a.out.2.2.1.next V) (a.out.2.2.2.next V)))) aY;obtain⟨ae,aZ⟩:=nm (aq.heap.size);rw[<-aZ] at aO⊢;have bB:Hid (w.heap.size+4<bg.heap.size):=a.out.2.2.2.lt;clear V aY aZ aT aN ar;go_wp2_with fail;refine(wpIn_wide (n:=3)).1 ?_
 refine ylm (σ:=TB) rfl og (gf:=126) (lb:= #[.pointer (some ⟨ae,0,none⟩)]) rfl trivial (enters_of Tryz.func126 kr rfl)
  (yij (σ:=TB) (fun t=>t) 2 og (S:=S) (lo0:=ao.heap.size) (lo:=aq.heap.size) (g:=g) (m:=m) (n:=n) (top:=top) (M:=M) (B:=ae) (L:=L) (sc:=bf) (w:=bg) (oh aQ) (oh aQ) bh.out) (Below.refl _ _) (fun s vs hv=>by obtain⟨r,c,_,_,rfl⟩:=hv;rfl)
  (fun s W=>s=t/\NxI w S ao.heap.size aq.heap.size g L m n bf top ae t W)
  (fun _ _=>False)
  (fun k W=>k= .ret/\NxR w r c0 W) ?hI (fun _ _ _ _ h=>h.elim) ?hIx ?hRd ?hfin ⟨t,rfl,⟨ad.out,aO.out,a.out.1,a.out.2.1,a.out.2.2.1,a.out.2.2.2,S3.out⟩⟩
  (fun vs=>{tmps:= #[.agg #[.slice p m u,.slice v n y,.slice H m I,.slice F m G,.slice B n C,.bool N,.slice z O J,.slice A P K],.pointer (some ⟨w.heap.size,0,none⟩),.pointer (some ⟨w.heap.size+1,0,none⟩),.pointer (some ⟨w.heap.size+2,0,none⟩),.pointer (some ⟨w.heap.size+3,0,none⟩),.pointer (some ⟨w.heap.size+4,0,none⟩),.int .i64 0,.pointer (some ⟨g,0,none⟩),vs.getD 0 d,vs.getD 1 d,.agg #[.slice p m u,.slice v n y,.slice H m I,.slice F m G,.slice B n C,.bool N,.slice z O J,.slice A P K],.int .i64 0,.int .i64 0,.bool false,d,.agg #[.slice p m u,.slice v n y,.slice H m I,.slice F m G,.slice B n C,.bool N,.slice z O J,.slice A P K],.pointer (some ⟨g,0,none⟩),.pointer (some ⟨g,0,none⟩),.func (.func 126) #[] #[.pointer (some ⟨ae,0,none⟩)],vs.getD 0 d,vs.getD 1 d,d,d,d,d,d,d,d,d,d,d],defers:=[]}) ?hassign ?hbody (fun D s W _ h=>h.elim) ?hstop
 (case hI=>rintro s X Y row ⟨rfl,h⟩ hg hr;exact⟨rfl,h.stays hg fun x j=>⟨by have:=(hr x j).1;have:=ad.out.size;omega,(hr x j).2⟩⟩);(case hIx=>rintro k X Y row ⟨rfl,h⟩ hg hr;exact⟨rfl,h.stays hg fun x j=>⟨by have:=(hr x j).1;have:=ad.out.size;omega,(hr x j).2⟩⟩);case hRd=>rintro s W ⟨rfl,h⟩;exact⟨⟨_,_,_,h.sch⟩,Q.out.1,Q.out.2.1,h.bxr⟩
 case hfin=>
  rintro s X Y ⟨rfl,h⟩ ⟨bE,_,_,hf⟩;rcases hf with⟨T,_⟩|⟨bm,T,aU,_⟩
  ·rw[Q.out.2.2.1] at T;exact nomatch T
  ·rw[Q.out.2.2.1] at T;injection T with T;subst T;rw[Q.out.2.2.2] at aU;exact nomatch aU
 (case hassign=>rintro bx s vs X bD ⟨r,c,_,_,rfl⟩ bu;gi_wp2;exact bu);(case hbody=>rintro bx s vs X ac bv ⟨rfl,o⟩ ⟨bM,bm,E,an,rfl⟩;rw[Q.out.2.2.1] at E;injection E with E;subst E;rw[Q.out.2.2.2] at an;injection an with an;subst an;have bi:=i o;have bH:=o.r1.frozen 0;have bI:=o.r2.frozen 0;have bJ:=o.r3.frozen 0;have bK:=o.r4.frozen 0;have bp:=o.r1.cell 0;have bq:=o.r2.cell 0;have br:=o.r3.cell 0;have bt:=o.r4.cell 0;simp at bp bq br bt;clear o ac bv;gi_wp2;have Z:=bi.out;refine⟨((((KeepsOthers.setCell _ _ _).trans (KeepsOthers.setCell _ _ _)).trans (KeepsOthers.setCell _ _ _)).trans (KeepsOthers.setCell _ _ _)).from _,rfl,Z.put4 _ _⟩);case hstop=>rintro D k W hD ⟨rfl,h⟩ aV;obtain⟨bj,aP⟩:=C4 h aV;have bL:=ad.out.size;clear h aV;gi_wp2;refine⟨by simp,.inl ⟨_,_,rfl,run_takeDeferred aP.out,?_⟩⟩;have Z:=bj.out.stays (grownBy_putObj' W D (.deferred none)) (fun x j=>by cases j;exact⟨by omega,_,aP.out,rfl⟩);exact⟨_,yxx rfl rfl rfl rfl rfl Z.r1 Z.r2 Z.r3 Z.r4,rfl,Z.bel⟩
theorem zyp {a:List Int} (h:∀x∈a,x.natAbs<=1000000):∀q∈O8 a,Sz q 1024:=by intro q b;obtain⟨x,c,rfl⟩:=List.mem_map.1 b;exact(yir (by have:=h x c;omega) og og).le og
theorem good_ex4:Good exQ 1024:=by
 refine⟨rfl,?_,?_,zyp (by decide),zyp (by decide),by decide,by decide⟩
 ·intro row hr;simp only[exQ,List.mem_cons,List.not_mem_nil,or_false] at hr;rcases hr with rfl|rfl<;>rfl
 ·intro row hr;simp only[exQ,List.mem_cons,List.not_mem_nil,or_false] at hr;rcases hr with rfl|rfl
  ·exact zyp (by decide)
  ·exact zyp (by decide)
theorem fine_ex4:FineP exQ 2 8:=
 ⟨good_ex4,by decide,by decide,by decide+kernel,by decide+kernel,by decide+kernel⟩
theorem yqe:Z9 2 2 (zqo exQ)=some 0:=by decide+kernel
theorem ytr:zlg 2 2 (zqo exQ) 0=some 0:=by decide+kernel
theorem yws:∀a,a<2->0<=(zqo exQ).A a 2:=by decide+kernel
theorem fac_ex4:(A9 (K0 (8*2) (exQ.B.length+1)*2)).length<=1/\(A9 (K0 (8*2) (exQ.B.length+1))).length<=100000:=by
 constructor
 ·exact lim_len_le.2 (by decide+kernel)
 ·exact Nat.le_trans (lim_len_le (k:=1).2 (by decide+kernel)) og
theorem yqn:exQ.A=[[1,1],[1,3]]/\exQ.B=[4,6]/\exQ.C=[3,2]/\O8 [4,0]=[4,0]/\O8 [3,0]=[3,0]/\zkq 12 1=12:=by decide+kernel
theorem zxf {j:Type} {g:List j} (h:g.length=2):∃a c,g=[a,c]:=by
 match g,h with
 |[a,c],_=>exact⟨a,c,rfl⟩
theorem ymo {s:Sol} (h:zlb exQ k s):s=⟨1,E7 (zkq 12 1),C0 (O8 [4,0]),C0 (O8 [3,0]),[]⟩:=by
 obtain⟨v,w,x,z,A,y⟩:=yqn;unfold zlb at h;rw[v,w,x] at h;rw[z,A,y];rcases h with⟨X,Y,B,rfl,hc,_⟩|⟨Y,rfl,hc,_⟩|⟨X,E,rfl,hc,_⟩
 ·obtain⟨f,g,rfl⟩:=zxf hc.x.len;obtain⟨a,b,rfl⟩:=zxf hc.y.len;have c:=hc.x.le 0 [1,1] rfl;have i:=hc.x.le 1 [1,3] rfl;have j:=hc.x.nn f (by simp);have l:=hc.x.nn g (by simp);have m:=hc.y.ge 0 (by decide);have b2:=hc.y.ge 1 (by decide);have n:=hc.y.nn a (by simp);have o:=hc.y.nn b (by simp);have d:=hc.vx;have e:=hc.vy;simp[L3,zpu,zpg,C3] at c i m b2 d e;have p:g=0:=(by grind);have q:b=0:=(by grind);subst p q;have r:f=4:=(by grind);have t:a=3:=(by grind);have u:B=12:=(by grind);subst r t u;rfl
 ·obtain⟨a,b,rfl⟩:=zxf hc.y.len;have n:=hc.y.nn a (by simp);have o:=hc.y.nn b (by simp);have e:=hc.vy;simp[L3,zpu] at e;exfalso;grind
 ·obtain⟨C,D,rfl⟩:=zxf hc.z.len;have c:=hc.z.le [1,1] (by simp);have j:=hc.z.nn C (by simp);have l:=hc.z.nn D (by simp);have d:=hc.up;simp[L3,zpu] at c d;exfalso;grind
theorem yxz {fn:Func} {slot t:Tmp} {x:Int} {R:Ending->f->Prop} {a:Act} {w:f} {g:Nat} {c e i j k l m n:b} (hr:fn.results= #[.cell slot 59,.tmp t]) (ha:a.tmps.getD slot d= .pointer (some ⟨g,0,none⟩)) (B:a.tmps.getD t d= .int .i64 x) (hd:a.defers=[])
 (h:Row w g 59 [c,e,i,j,k,l,m,n]) (z:R (.returned (.tuple #[.agg #[c,e,i,j,k,l,m,n],.int .i64 x])) w):bodyPost Tryz.prog fn R .ret a w:=by refine bodyPost_ret (v:= .tuple #[.agg #[c,e,i,j,k,l,m,n],.int .i64 x]) ?_ hd z;obtain⟨o,p,q,r,s,u,v,y⟩:=Z0 h;have A:a.tmps[slot]?.getD d= .pointer (some ⟨g,0,none⟩):=(by simpa using ha);have C:a.tmps[t]?.getD d= .int .i64 x:=(by simpa using B);simp[results,hr,A,C,asAddr,go_sem,o,p,q,r,s,u,v,y]
theorem yly {w:f} {aj:b} {a:ProgQ} (aG:IsP w (C2 w) aj (O7 a)) (W:Bru w) (G:Good a 1024):
 Calls Tryz.prog 41 #[aj] w fun c w'=>(∃d,c= .returned (.tuple #[d,.int .i64 0])/\zyu a a.B.length a.C.length w (.returned d) w')/\Below w.heap.size w w':=by
 obtain⟨A,T,B,U,C,V,rfl,k,l,o⟩:=aG;(have af:(O7 a).A.length=a.B.length:=by show(E9 a.A).length=_;unfold E9;rw[List.length_map,G.rows]);have ag:(O7 a).B.length=a.B.length:=Z5 _;have ah:(O7 a).C.length=a.C.length:=Z5 _;rw[af] at k⊢;rw[ag] at l⊢;rw[ah] at o⊢;obtain⟨n,J⟩:=nm (a.C.length);obtain⟨m,I⟩:=nm (a.B.length);rw[<-I] at k l⊢;rw[<-J] at o⊢;obtain⟨al,ao,aq,an,Q,R⟩:=hd6 k l o W G (e J I);have aE:Hid (IsP w (C2 w) (.agg #[.slice A m T,.slice B m U,.slice C n V]) (O7 a)):=zsx k l o;obtain⟨bf,aH,X,N,ai,aT⟩:=zko w #[.slice A m T,.slice B m U,.slice C n V] #[.slice none 0 0,.slice none 0 0,.slice none 0 0,.slice none 0 0,.slice none 0 0,.bool false,.slice none 0 0,.slice none 0 0] 32 59;obtain⟨ar,S,B0⟩:=G6 N ai X;have aU:=zqc;obtain⟨K,L,M⟩:=C5 N;clear k l o W G J I af ag ah N ai X;go_in;go_wp2_with fail;clear aH K L M;have z:=B0.out;refine(yif (IsP.stb.to aE.out (F7 z)) (Bru.next an.out z)).mono ?_;rw[ydt Q.out];rintro c ak ⟨rfl,E⟩;have h:=C9 z E;obtain⟨K,L,M⟩:=C5 (Row.next ar.out E);have O:=i E;clear z E;go_wp2_with fail;clear K L M;refine(yke (p:=a) (IsM.stb.to al.out (F7 h)) (IsV.stb.to ao.out (F7 h)) (IsV.stb.to aq.out (F7 h)) Q.out R.out.2.symm R.out.1.symm).mono ?_;rintro c j ⟨⟨aA,aB,aI,aJ,aM,aN,aK,aL,aC,aD,aQ,au,aR,aO,ay,aS,aP,rfl,Y,Z,aa,ac,ad,ae⟩,H⟩;obtain⟨P,F⟩:=C4 (C9 h H) (Row.next (Row.next S.out O.out) H);have av:=i h.size;have bd:w.heap.size+1<ak.heap.size:=(Row.next S.out O.out).lt;have g:=i (e Y (e Z (e aa (e ac (e ad ae)))));obtain⟨d0,aV,aW,aX,aY,aZ,a0,a1⟩:=Z0 F.out;obtain⟨a2,a3,a4,a5,a6,a7,a8,a9⟩:=zzp F.out;clear Y Z aa ac ad ae H h;go_wp2_with fail;refine yxz Tryz.results41 rfl rfl rfl (Row.put8 F.out _ _ _ _ _ _ _ _) ?_;have same:∀p q r s t u v y:b,L2 (G4 ak.heap.size j) (G4 w.heap.size (put8 j (w.heap.size+1) p q r s t u v y)) j (put8 j (w.heap.size+1) p q r s t u v y):=fun p q r s t u v y az D=>⟨⟨Nat.le_trans av.out D.1,by rw[yby];exact D.2⟩,fun be=>World.cell?_of_block ((zun j (w.heap.size+1) p q r s t u v y).block az D.2 (fun c=>by have:=D.1;injection c with c;omega))⟩;refine⟨⟨_,rfl,aA,aB,aI,aJ,aM,aN,aK,aL,aC,aD,aQ,au,aR,aO,ay,aS,aP,rfl,?_,?_,?_,?_,?_,?_⟩,?_⟩
 ·exact(IsS.stb IsIV.stb).to g.out.1 (same _ _ _ _ _ _ _ _)
 ·exact(IsS.stb IsIV.stb).to g.out.2.1 (same _ _ _ _ _ _ _ _)
 ·exact IsM.stb.to g.out.2.2.1 (same _ _ _ _ _ _ _ _)
 ·exact IsV.stb.to g.out.2.2.2.1 (same _ _ _ _ _ _ _ _)
 ·exact IsV.stb.to g.out.2.2.2.2.1 (same _ _ _ _ _ _ _ _)
 ·exact IsQ.stb.to g.out.2.2.2.2.2 (same _ _ _ _ _ _ _ _)
 ·exact P.out.grown (zun j (w.heap.size+1) _ _ _ _ _ _ _ _) P.out.size (fun x c=>by cases c;omega)
def IsI (w:f) (S:Nat->Prop) (a:b) (n:Nat):Prop:=a= .int .i64 (n:Int)
theorem IsI.stb:Stb IsI:=fun _ _ _ _ _ _ h _=>h
abbrev IsIs:f->(Nat->Prop)->b->List Nat->Prop:=IsS 1 IsI
theorem IsIs.stb:Stb IsIs:=IsS.stb IsI.stb
theorem ymd {w:f} {Q R:b} {a e:List Nat} (ha:IsIs w (C2 w) Q a) (K:IsIs w (C2 w) R e):
 Calls Tryz.prog 44 #[Q,R] w fun j w'=>j= .returned (.bool (decide (a=e)))/\Below w.heap.size w w':=by
 obtain⟨D,E⟩:=C4 ha K;obtain⟨A,Y,_,rfl,lA,O,_⟩:=ha;obtain⟨B,Z,_,rfl,lB,P,_⟩:=K;unfold maxLen at O P;obtain⟨d,s⟩:=nm (a.length);obtain⟨C,t⟩:=nm (e.length);rw[<-s] at D lA⊢;rw[<-t] at E lB⊢;obtain⟨n,p⟩:=C4 s t;clear s t;have ac:d<=9223372036854775807:=(by omega);have ad:C<=9223372036854775807:=(by omega);clear lA O lB P;by_cases r:d=C;(case neg=>have T:((d:Int) !=(C:Int))=true:=bne_iff_ne.2 og;have g:Hid (decide (a=e)=false):=decide_eq_false (fun j=>r (by rw[n.out,p.out,j]));clear r;go_in;go_wp2_with fail;go_ret;exact⟨by show Ending.returned (.bool _)=_;rw[g.out],Below.refl _ _⟩);subst r;have T:((d:Int) !=(d:Int))=false:=(by simp);go_in;go_wp2_with fail;go_loopw [5] (fun z wr=>∃k:Nat,k<=d/\z= .int .i64 (k:Int)/\Below w.heap.size w wr/\Hid (∀c,c<k->a[c]? =e[c]?)) (fun z _=>d-(intOf z).toNat);case atStart=>exact⟨0,Nat.zero_le _,rfl,Below.refl _ _,fun c q=>by omega⟩
 case round=>
  obtain⟨k,af,rfl,l,hrel⟩:=hrel;have o:=i l;have F:=i hrel.out;clear hrel;rcases Nat.lt_or_ge k d with N|ae
  ·obtain⟨x,u⟩:=zmx (l:=a) (j:=k) (by rw[<-n.out];exact N);obtain⟨y,v⟩:=zmx (l:=e) (j:=k) (by rw[<-p.out];exact N);obtain⟨ba,oa,ea,rfl,_,L,_,I⟩:=IsS.get (IsIs.stb.to D.out (F7 l)) og u;obtain⟨bb,ob,eb,rfl,_,M,_,d0⟩:=IsS.get (IsIs.stb.to E.out (F7 l)) og v;have V:ea= .int .i64 (x:Int):=L;have W:eb= .int .i64 (y:Int):=M;subst V W;have X:wr.cell? ⟨ba,oa+k,none⟩=some (.int .i64 (x:Int)):=(by simpa using I 0 (.int .i64 (x:Int)) rfl);have aa:wr.cell? ⟨bb,ob+k,none⟩=some (.int .i64 (y:Int)):=(by simpa using d0 0 (.int .i64 (y:Int)) rfl);obtain⟨G,H⟩:=C4 u v;clear u v L M I d0 l;by_cases m:x=y
   ·have U:(((x:Int)) !=(y:Int))=false:=(by simp[m]);have S:=i m;clear m;go_wp2_with fail;go_quiet (fail);go_wp2_with fail;go_roundw
    case rel=>
     refine⟨k+1,by omega,by go_num,?_,fun c q=> ?_⟩
     ·exact C9 o.out (Dr.below ⟨_,rfl⟩ _)
     ·rcases Nat.lt_or_ge c k with h|h
      ·exact F.out c h
      ·obtain rfl:c=k:=(by omega);rw[G.out,H.out,S.out]
    case measure=>simp[intOf];omega
   ·have U:(((x:Int)) !=(y:Int))=true:=bne_iff_ne.2 og;have g:Hid (decide (a=e)=false):=decide_eq_false (fun j=>m (by have J:=G.out;rw[j,H.out] at J;exact(Option.some.inj J).symm));clear m;go_wp2_with fail;go_quiet (fail);go_wp2_with fail;go_ret;exact⟨by show Ending.returned (.bool _)=_;rw[g.out],C9 o.out (Dr.below ⟨_,rfl⟩ _)⟩
  ·obtain rfl:k=d:=(by omega);have g:Hid (decide (a=e)=true):=decide_eq_true (yhd (by rw[<-n.out,<-p.out]) (fun c q=>F.out c (by rw[n.out];exact q)));clear l;go_wp2_with fail;go_ret;exact⟨by show Ending.returned (.bool _)=_;rw[g.out],o.out⟩
end Go.Proofs.YtdgilbgdkmhcmaaGreatDoor
