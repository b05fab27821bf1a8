/-
 The contract of package simplex's newMaker.
-/
import Derived.Test.YtdgilbgdkmhcmaaGreatDoorProofSimplexDuals11
namespace Go.Proofs.YtdgilbgdkmhcmaaGreatDoor
open Go.RowKit
set_option linter.unusedVariables false
set_option maxRecDepth 100000
set_option maxHeartbeats 8000000
open _root_.Go.Lib renaming hid → b
open _root_.Nat renaming le_refl → o, le_trans → f, lt_of_lt_of_le → s, lt_or_ge → a, zero_le → C
open _root_.And renaming intro → j
open _root_.Go.World renaming block_lt_of_cell? → A
open _root_.Go renaming World → i, Calls → l
open _root_.Go.RowKit renaming Below → e, Hid → c
open _root_.Go.Proofs.Tryz renaming prog → k
variable {L : Lay} {M g lo lo0 m n top : Nat} {S : Nat → Prop} {B steps : Int} {d h p q r u v : Value} {sc : Nat → Nat} {t : TB}
theorem yya {fn:Func} {slot:Tmp} {R:Ending->i->Prop} {a:Act} {w:i} {b c d e f:Value} (hr:fn.results= #[.cell slot 103]) (ha:a.tmps.getD slot undef= .pointer (some ⟨g,0,none⟩)) (hd:a.defers=[])
 (h:Row w g 103 [b,c,d,e,f]) (p:R (.returned (.agg #[b,c,d,e,f])) w):bodyPost k fn R .ret a w:=by refine bodyPost_ret (v:= .agg #[b,c,d,e,f]) ?_ hd p;have j:w.cell? ⟨g,0,none⟩=some b:=h.cell 0;have l:w.cell? ⟨g,1,none⟩=some c:=h.cell 1;have m:w.cell? ⟨g,2,none⟩=some d:=h.cell 2;have n:w.cell? ⟨g,3,none⟩=some e:=h.cell 3;have o:w.cell? ⟨g,4,none⟩=some f:=h.cell 4;have q:a.tmps[slot]?.getD undef= .pointer (some ⟨g,0,none⟩):=(by simpa using ha);simp[results,hr,q,asAddr,go_sem,j,l,m,n,o]
theorem yus {w:i} {st row:Int} (h:N7 w S lo0 lo g L m n sc top t st B steps):
 l k 61 #[.pointer (some ⟨g,0,none⟩),.int .i64 row] w fun X w'=>(∃bs C mk,X= .returned (.agg #[.int .i64 (n:Int),.int .i64 (m:Int),.func (.func 134) #[] #[.pointer (some ⟨bs,0,none⟩),.pointer (some ⟨mk,0,none⟩)],.func (.func 139) #[] #[.pointer (some ⟨bs,0,none⟩),.pointer (some ⟨C,0,none⟩),.pointer (some ⟨mk,0,none⟩)],.func (.func 141) #[] #[.pointer (some ⟨bs,0,none⟩),.pointer (some ⟨mk,0,none⟩)]])/\
  (w.heap.size<=bs/\w.heap.size<=C/\w.heap.size<=mk)/\w'.cell? ⟨bs,0,none⟩=some (.pointer (some ⟨g,0,none⟩))/\w'.cell? ⟨C,0,none⟩=some (.int .i64 row)/\w'.cell? ⟨mk,0,none⟩=some (.int .i64 (n:Int))/\w'.cell? ⟨mk,1,none⟩=some (.int .i64 (m:Int)))/\e w.heap.size w w':=by
 obtain⟨aa,ai,ac,aj,D,ae,ad,af,-,⟨P,Q,-,-,-⟩,-,-,-⟩:=h.open;have Z:c (g<w.heap.size):=h.g_lt;clear h;obtain⟨a,Y,v,H,R,T,J⟩:=zvz w #[.pointer (some ⟨g,0,none⟩)] #[.int .i64 row] #[.int .i64 0,.int .i64 0,.nilFunc,.nilFunc,.nilFunc] 88 3 103;obtain⟨B0,U,V,W⟩:=X6 v H R T;have p:=b J.out;have M:a.cell? ⟨w.heap.size,0,none⟩=some (.pointer (some ⟨g,0,none⟩)):=H.cell 0;have N:=B9 v P;have O:=B9 v Q;clear v H R T J P Q;go_in;go_wp2_with fail;have A:=zmp M N O
 go_region_held3 (SH.mk _ A).s
  (exact A.out _ bel)
  (fail)
 have ah:a.heap.size≠w.heap.size+1+1:=oh p;obtain⟨K,u⟩:=nm ((a.alloc (.cells #[.int .i64 (n:Int),.int .i64 (m:Int),.nilFunc,.nilFunc,.nilFunc] 103)).drew);have f:Row K a.heap.size 103 [.int .i64 (n:Int),.int .i64 (m:Int),.nilFunc,.nilFunc,.nilFunc]:=(by rw[u];exact Row.drew (heap_alloc_new a _));have y:e a.heap.size a K:=(by rw[u];exact bel);rw[<-u];obtain⟨I,z⟩:=C4 f y;have d:=nR W y;have m0:=f.cell 0;have ak:=f.cell 1;have al:=f.cell 2;have an:=f.cell 3;have ao:=f.cell 4;have aq:=f.frozen 2;have ar:=f.frozen 3;have au:=f.frozen 4;have r0:=d.out.cell 0;have r1:=d.out.cell 1;have r2:=d.out.cell 2;have r3:=d.out.cell 3;have r4:=d.out.cell 4;have av:=d.out.frozen 0;have ay:=d.out.frozen 1;have az:=d.out.frozen 2;have q3:=d.out.frozen 3;have aA:=d.out.frozen 4;clear u f y M N O A Y;have ag:∀(fn:Fn) (first cap:Array Value) (w:i),(Instr.makeFunc fn first cap).run k w= .ok (.func fn first cap) w:=fun _ _ _ _=>rfl;go_wp2_with fail;have G:w.heap.size+1+1≠a.heap.size:=oh p;have j:a.heap.size≠w.heap.size+1+1:=oh p;have E:w.heap.size≠a.heap.size:=oh p;have r:w.heap.size≠w.heap.size+1+1:=og;have F:w.heap.size+1≠a.heap.size:=oh p;have s:w.heap.size+1≠w.heap.size+1+1:=og;have x:w.heap.size<=a.heap.size:=oh p;have q:w.heap.size<=w.heap.size+1+1:=og;exact yya Tryz.results61 rfl rfl ((((((((d.out.far (p:=⟨a.heap.size,2,none⟩) G _).far (p:=⟨a.heap.size,3,none⟩) G _).far (p:=⟨a.heap.size,4,none⟩) G _).set_ 0 _).set_ 1 _).set_ 2 _).set_ 3 _).set_ 4 _) ⟨⟨_,_,_,rfl,⟨o _,Nat.le_succ _,x⟩,(((((((((Row.next U.out z.out).far (p:=⟨a.heap.size,2,none⟩) E _).far (p:=⟨a.heap.size,3,none⟩) E _).far (p:=⟨a.heap.size,4,none⟩) E _).far (p:=⟨w.heap.size+1+1,0,none⟩) r _).far (p:=⟨w.heap.size+1+1,1,none⟩) r _).far (p:=⟨w.heap.size+1+1,2,none⟩) r _).far (p:=⟨w.heap.size+1+1,3,none⟩) r _).far (p:=⟨w.heap.size+1+1,4,none⟩) r _).cell 0,(((((((((Row.next V.out z.out).far (p:=⟨a.heap.size,2,none⟩) F _).far (p:=⟨a.heap.size,3,none⟩) F _).far (p:=⟨a.heap.size,4,none⟩) F _).far (p:=⟨w.heap.size+1+1,0,none⟩) s _).far (p:=⟨w.heap.size+1+1,1,none⟩) s _).far (p:=⟨w.heap.size+1+1,2,none⟩) s _).far (p:=⟨w.heap.size+1+1,3,none⟩) s _).far (p:=⟨w.heap.size+1+1,4,none⟩) s _).cell 0,((((((((I.out.set_ 2 _).set_ 3 _).set_ 4 _).far (p:=⟨w.heap.size+1+1,0,none⟩) j _).far (p:=⟨w.heap.size+1+1,1,none⟩) j _).far (p:=⟨w.heap.size+1+1,2,none⟩) j _).far (p:=⟨w.heap.size+1+1,3,none⟩) j _).far (p:=⟨w.heap.size+1+1,4,none⟩) j _).cell 0,((((((((I.out.set_ 2 _).set_ 3 _).set_ 4 _).far (p:=⟨w.heap.size+1+1,0,none⟩) j _).far (p:=⟨w.heap.size+1+1,1,none⟩) j _).far (p:=⟨w.heap.size+1+1,2,none⟩) j _).far (p:=⟨w.heap.size+1+1,3,none⟩) j _).far (p:=⟨w.heap.size+1+1,4,none⟩) j _).cell 1⟩,(((((((((C9 B0.out z.out).setCell (p:=⟨a.heap.size,2,none⟩) x _).setCell (p:=⟨a.heap.size,3,none⟩) x _).setCell (p:=⟨a.heap.size,4,none⟩) x _).setCell (p:=⟨w.heap.size+1+1,0,none⟩) q _).setCell (p:=⟨w.heap.size+1+1,1,none⟩) q _).setCell (p:=⟨w.heap.size+1+1,2,none⟩) q _).setCell (p:=⟨w.heap.size+1+1,3,none⟩) q _).setCell (p:=⟨w.heap.size+1+1,4,none⟩) q _)⟩
theorem yts {w:i} {n m:Int} {s:Sol} (hc:∀j:i,e w.heap.size w j->l k 134 #[d,h] j (zob j s)):
 l k 62 #[.agg #[.int .i64 n,.int .i64 m,.func (.func 134) #[] #[d,h],.func (.func 139) #[] #[p,q,r],.func (.func 141) #[] #[u,v]],.int .i64 1] w (zob w s):=by have E:=b hc;clear hc;obtain⟨D,J,x,f,z,t⟩:=zko w #[.int .i64 n,.int .i64 m,.func (.func 134) #[] #[d,h],.func (.func 139) #[] #[p,q,r],.func (.func 141) #[] #[u,v]] #[.int .i64 0,.bool false,.slice none 0 0,.slice none 0 0,.slice none 0 0,.slice none 0 0,.slice none 0 0] 103 39;obtain⟨B0,g⟩:=C4 x z;have o:=b t.out;have G:=f.cell 2;have H:=f.cell 3;have I:=f.cell 4;clear x f z t;go_in;go_wp2_with fail;clear J;refine(E.out D B0.out).mono ?_;rintro U ag ⟨⟨af,rfl,hv⟩,y⟩;have F:=b hv;obtain⟨K,ad,L,ae,A,a,B,M,C,N,rfl,_,_,_,_⟩:=id hv;have c:=b y;obtain⟨d0,O,P,Q,R,S,T⟩:=W5 (Row.next g.out c.out);obtain⟨V,W,X,Y,Z,aa,ac⟩:=zkv (Row.next g.out c.out);clear hv y G H I;go_wp2_with fail;exact zlk Tryz.results62 rfl rfl (Row.pt7 (Row.next g.out c.out) _ _ _ _ _ _ _) (zlj (lo:=D.heap.size) F.out (C9 B0.out c.out) (oh o) (oh o))
theorem ytt {w:i} {n m:Int} {s:Sol} (hc:∀j:i,e w.heap.size w j->l k 139 #[p,q,r] j (zob j s)):
 l k 62 #[.agg #[.int .i64 n,.int .i64 m,.func (.func 134) #[] #[d,h],.func (.func 139) #[] #[p,q,r],.func (.func 141) #[] #[u,v]],.int .i64 2] w (zob w s):=by have E:=b hc;clear hc;obtain⟨D,J,x,f,z,t⟩:=zko w #[.int .i64 n,.int .i64 m,.func (.func 134) #[] #[d,h],.func (.func 139) #[] #[p,q,r],.func (.func 141) #[] #[u,v]] #[.int .i64 0,.bool false,.slice none 0 0,.slice none 0 0,.slice none 0 0,.slice none 0 0,.slice none 0 0] 103 39;obtain⟨B0,g⟩:=C4 x z;have o:=b t.out;have G:=f.cell 2;have H:=f.cell 3;have I:=f.cell 4;clear x f z t;go_in;go_wp2_with fail;clear J;refine(E.out D B0.out).mono ?_;rintro U ag ⟨⟨af,rfl,hv⟩,y⟩;have F:=b hv;obtain⟨K,ad,L,ae,A,a,B,M,C,N,rfl,_,_,_,_⟩:=id hv;have c:=b y;obtain⟨d0,O,P,Q,R,S,T⟩:=W5 (Row.next g.out c.out);obtain⟨V,W,X,Y,Z,aa,ac⟩:=zkv (Row.next g.out c.out);clear hv y G H I;go_wp2_with fail;exact zlk Tryz.results62 rfl rfl (Row.pt7 (Row.next g.out c.out) _ _ _ _ _ _ _) (zlj (lo:=D.heap.size) F.out (C9 B0.out c.out) (oh o) (oh o))
theorem ytu {w:i} {n m:Int} {s:Sol} (hc:∀j:i,e w.heap.size w j->l k 141 #[u,v] j (zob j s)):
 l k 62 #[.agg #[.int .i64 n,.int .i64 m,.func (.func 134) #[] #[d,h],.func (.func 139) #[] #[p,q,r],.func (.func 141) #[] #[u,v]],.int .i64 3] w (zob w s):=by have E:=b hc;clear hc;obtain⟨D,J,x,f,z,t⟩:=zko w #[.int .i64 n,.int .i64 m,.func (.func 134) #[] #[d,h],.func (.func 139) #[] #[p,q,r],.func (.func 141) #[] #[u,v]] #[.int .i64 0,.bool false,.slice none 0 0,.slice none 0 0,.slice none 0 0,.slice none 0 0,.slice none 0 0] 103 39;obtain⟨B0,g⟩:=C4 x z;have o:=b t.out;have G:=f.cell 2;have H:=f.cell 3;have I:=f.cell 4;clear x f z t;go_in;go_wp2_with fail;clear J;refine(E.out D B0.out).mono ?_;rintro U ag ⟨⟨af,rfl,hv⟩,y⟩;have F:=b hv;obtain⟨K,ad,L,ae,A,a,B,M,C,N,rfl,_,_,_,_⟩:=id hv;have c:=b y;obtain⟨d0,O,P,Q,R,S,T⟩:=W5 (Row.next g.out c.out);obtain⟨V,W,X,Y,Z,aa,ac⟩:=zkv (Row.next g.out c.out);clear hv y G H I;go_wp2_with fail;exact zlk Tryz.results62 rfl rfl (Row.pt7 (Row.next g.out c.out) _ _ _ _ _ _ _) (zlj (lo:=D.heap.size) F.out (C9 B0.out c.out) (oh o) (oh o))
theorem zxq {w:i} {st:Int} (h:N7 w S lo0 lo g L m n sc top t st B steps) (hI:TInv M m n t) (a5:Bru w) (cE:m<=100) (cF:n<=100) (hF:(A9 (K0 M (m+1))).length<=100000) (a7:ScOk sc top):
 l k 137 #[.pointer (some ⟨g,0,none⟩),.int .i64 (n:Int)] w fun s w'=>(∃br,s= .returned br/\zpd w w' br (I9 n 0 (fun _=>0) (fun r=>t.bas.getD r 0) (fun r=>G9 (t.A r n) 1 t.d (sc (t.bas.getD r 0))) m))/\e w.heap.size w w':=by
 obtain⟨al,bw,aS,aT,H⟩:=hd5 h a5 a7 (hI.sz hF og) hI;obtain⟨cc,cI,cj,cO,D,a1,cl,cq,⟨-,-,hD,a8⟩,⟨aA,bQ,-,P,aB⟩,-,⟨Q,R,ad⟩,-⟩:=h.open;obtain⟨aX,aZ⟩:=C4 (IsK.stb.to hD (F6 (T:=C2 w) h.sn_lt)) (IsK.stb.to a8 (F6 (T:=C2 w) h.sn_lt));obtain⟨key,aK⟩:=nm (fun r=>t.bas.getD r 0);obtain⟨X,aD⟩:=nm (fun r=>G9 (t.A r n) 1 t.d (sc (t.bas.getD r 0)));obtain⟨J,aE⟩:∃J:Nat->Rat,J=fun _=>0:=⟨_,rfl⟩;rw[<-aK,<-aD,<-aE];obtain⟨ak,bG,aV⟩:=G6 aK aD aE;have aI:=h.caps;have b0:m<=L.bc/\L.bc<=9223372036854775807/\n<=L.oc/\L.oc<=9223372036854775807/\m+n<=L.sp/\L.sp<=9223372036854775807:=(by unfold maxLen at aI;omega);obtain⟨cT,cU,q3,cV,cW,cX⟩:=b0;have T:∀K,K<m+2->L4 m n K<=L.cp K/\L.cp K<=9223372036854775807:=fun K b1=>(by have:=h.cap K b1;unfold maxLen at this;exact this);have r1:m<=L.cp m:=(by have:=(T m og).1;rwa[U5] at this);have r2:L.cp m<=9223372036854775807:=(T m og).2;have r3:n<=L.cp (m+1):=(by have:=(T (m+1) og).1;rwa[X8] at this);have r4:L.cp (m+1)<=9223372036854775807:=(T (m+1) og).2;obtain⟨cN,aJ⟩:=nm (L.ba);rw[<-aJ] at aA;have bB:=b aJ;obtain⟨cR,aL⟩:=nm ((A9 t.d).length);obtain⟨lt,E⟩:=nm ((A9 top).length);have aR:=b aL;rw[<-aL] at aX Q;rw[<-E] at aZ ad;have N:=b (j P (j aB (j Q (j R ad))));have aW:=aA;have bJ:c (g<w.heap.size):=h.g_lt;clear h a5 a7 hI hD a8 aK aD aE aI T aJ aL E hF P aB Q R ad aA bQ;have cn:=R4;go_in;go_wp2_with fail;refine(zys w (n:=n) og).mono ?_;rintro s c5 ⟨⟨c2,rfl,bM,ah,zka⟩,aG⟩;obtain⟨bt,bO,rfl⟩:=ah.slice;have ar:(C0 (List.replicate n (0:Rat))).length=n:=(by rw[zow,List.length_replicate]);rw[ar] at ah⊢;obtain⟨bL,bI,bu⟩:=G6 ah zka aG;have b9:=B9 aG aW;clear ah zka aG ar aW;go_wp2_with fail;clear b9;go_loopw [17,6,7] (fun aN _ _ wr=>∃(d:Nat) (v:Nat->Prop),d<=m/\aN= .int .i64 (d:Int)/\e w.heap.size w wr/\OwnS 3 37 IsR wr w.heap.size v (.slice bt n bO) (C0 (I9 n 0 J key X d))/\c (∀p,v p->w.heap.size<=p)) (fun aN _ _ _=>m-(intOf aN).toNat);case atStart=>exact⟨0,bM,C _,rfl,bu.out,by rw[ztp,aV.out,ycl];exact bL.out,bI.out⟩
 case round=>
  obtain⟨d,v,aI,rfl,be,bj,aC⟩:=hrel;obtain⟨q,Z⟩:=C4 be bj;clear be bj;rcases a d m with E|cx
  ·have I:=b (al.out.next q.out);obtain⟨b8,a6⟩:=I.out.basW og;have bZ:=bB.out.trans b8;subst bZ;have a2:=a6.el d E;have au:t.bas.getD d 0=key d:=(by rw[ak.out]);have cm:wr.cell? ⟨L.bb,d,none⟩=some (.int .i64 ((key d:Nat):Int)):=(by rw[<-au];exact a2);have ag:key d∈t.bas++t.oth:=(by rw[<-au];exact(List.mem_append.2 (.inl (Y3 (by rw[H.out.bl];exact E)))));have cD:key d<m+n:=H.out.lt _ ag;obtain⟨b4,-,ch,cM,a3,nS⟩:=I.out.scl _ ag;have P:=B9 q.out N.out.1;have aB:=B9 q.out N.out.2.1;have Q:=B9 q.out N.out.2.2.1;have R:=B9 q.out N.out.2.2.2.1;have ad:=B9 q.out N.out.2.2.2.2;rw[b4] at R;rw[I.out.hv m og (by rw[U5];omega)] at P;have cB:(0:Int)<=(d:Int):=og;have cC:(d:Int)<(m:Int):=og;have cG:(0:Int)<=((key d:Nat):Int):=og;have cH:((key d:Nat):Int)<(m:Int)+(n:Int):=og;have V:c (d+1<=m):=E;have bV:c (∀r,r<d->key r≠key d):=fun r cy s=>(by have bP:t.bas.getD r 0=t.bas.getD d 0:=(by rw[ak.out] at s;exact s);have:=(znw (List.nodup_append.1 H.out.dist).1 (by rw[H.out.bl];omega) (by rw[H.out.bl];omega) bP);omega);have aY:=b (IsK.stb.to nS (F6 (T:=C2 wr) fun p y=>I.out.sn_lt p (.inl y)));obtain⟨cS,bi⟩:=nm ((A9 (sc (key d))).length);rw[<-bi] at a3 aY;have bC:=b ag;clear a2 a6 au nS bi ag;by_cases af:key d<n
   ·have bU:decide (((key d:Nat):Int)<(n:Int))=true:=decide_eq_true og;have Y:=b af;obtain⟨ao,rfl,a9,bd,ct,cu,ae,c9,da,db,u0,u1,u2⟩:=zqq Z.out (zml _ _ _ _ _ _) (j:=key d-0) og;have av:=ae ((key d-0)*3);have ay:=ae ((key d-0)*3+1);have az:=ae ((key d-0)*3+2);have W:=b (j a9 bd);obtain⟨cg,cL,ck,cQ,-,aa,ac,a0,aq⟩:=I.out.el (l:=m) (j:=d) og (by rw[U5];exact E);rw[zsz] at aa ac aq;have O:=b aq;obtain⟨z,aM⟩:=nm (t.A d n);rw[<-aM] at aa ac O;have aU:=b aM;obtain⟨cr,bf⟩:=nm (decide (z<0));obtain⟨ar,bg⟩:=nm ((A9 z.natAbs).length);obtain⟨cs,bh⟩:=nm ((A9 1).length);rw[<-bf] at aa O;rw[<-bg] at ac O;rw[<-bh] at a0 O;obtain⟨U,aH⟩:=nm (key d-0);rw[<-aH] at u0 u1 u2 av ay az;have bA:=b aH;have b7:IntKind.i64.wrap (((key d:Nat):Int)-(0:Int))=(U:Int):=(by rw[IntKind.wrap_i64];omega);have cz:(0:Int)<=(U:Int):=og;have cA:(U:Int)<(n:Int):=og;have bH:c (U<n):=oH;obtain⟨G,aj⟩:=C4 (j u0 (j u1 u2)) (j av (j ay az));have bx:c (Bru wr):=(by have a4:e w.heap.size w wr:=q.out;exact Bru.next bw.out a4);have bY:U=key d:=og;clear b7 aH;subst bY;clear aq aM bf bg bh a9 bd ae af u0 u1 u2 av ay az;go_wp2_with fail;obtain⟨bv,bK,ca⟩:=G6 Q (IsK.stb.to aX.out (F7 q.out)) (IsK.stb.to aZ.out (F7 q.out));have an:=zmq P aa ac a0 R a3;have bF:c (L.sb≠ao):=(by rw[c];have a4:=W.out.1;obtain⟨_,_,_,_,bR,_⟩:=al.out.scl (key d) bC.out;have bT:=A w _ bR;simp at bT;omega);have aO:g≠ao:=zkb W bJ;have ai:L.bk m≠ao:=(by have:=W.out;have:=I.out.tab.sep m og (by rw[U5];omega);have:=al.out.tab.hlo;omega);have bD:=hpE (key d) an (nA aO (nA ai (nA ai (nA ai (nA aO (nZ (bF.out)))))));clear aO ai
    go_region_held3 (SH.mk _ an).s
     (first|exact an.out _ bel|exact bD.out _ bel _ _ _)
     (first
       |(go_at_call 136;(with_reducible refine Calls.mono (zmh _) ?_);rintro s aP ⟨⟨c3,rfl,bp⟩,cv⟩;have F:=bW wr aP;have bN:=b (zrq bp);obtain⟨cd,cJ,rfl,_,_,_⟩:=id bp)
       |(go_at_call 135;(with_reducible refine Calls.mono (zrv (z:=z) (u:=1) (d:=t.d) (dn:=sc (key d)) (B9 F.out (show wr.cell? ⟨g,8,none⟩=some (.slice D (A9 t.d).length a1) by rw[<-aR.out];exact bv.out)) (show NumS aP (C2 aP) (.slice D (A9 t.d).length a1) t.d by rw[<-aR.out];exact IsK.stb.next bK.out F.out) (IsQ.stb.next O.out F.out) bN.out (IsK.stb.next aY.out F.out) (Bru.next bx.out F.out) (by rw[aU.out];exact zrx (aT.out.1 _ _ og (o _))) (by rw[Y5];simp) aT.out.2 (aS.out.sl _) H.out.d0 (aS.out.sp _)) ?_);rintro s aQ ⟨⟨c4,rfl,bq⟩,cw⟩;have u:=bW wr aQ;have bE:=b bq;obtain⟨cY,cf,cK,cb,cP,rfl,_,_,_⟩:=K6 bq;have cZ:=B9 u.out G.out.1;have c0:=B9 u.out G.out.2.1;have c1:=B9 u.out G.out.2.2;have c6:=H8 u.out G.out.1 aj.out.1;have c7:=H8 u.out G.out.2.1 aj.out.2.1;have c8:=H8 u.out G.out.2.2 aj.out.2.2))
    go_wp2_with fail;go_roundw
    case rel=>
     have hst:=OwnS.step IsR.stb (T:=fun p=>v p\/(wr.heap.size<=p/\p<aQ.heap.size)) Z.out u.out (fun p h=> .inl h) (fun p h=>h);have bX:=IsQ.stb.to bE.out (F6 (T:=fun p=>v p\/(wr.heap.size<=p/\p<aQ.heap.size)) fun p h=> .inr ⟨f F.out.size h.1,h.2⟩);have bm:=zqr hst (zml _ _ _ _ _ _) bH.out bX;(have b3:G9 z 1 t.d (sc (key d))=X d:=by rw[bG.out];show G9 z 1 t.d (sc (key d))=G9 (t.A d n) 1 t.d (sc (t.bas.getD d 0));rw[aU.out,ak.out]);have b5:(I9 n 0 J key X d).set (key d) (G9 z 1 t.d (sc (key d)))=I9 n 0 J key X (d+1):=(by rw[b3];have s:=ztn (N:=n) (off:=0) (b0:=J) (key:=key) (X:=X) (k:=d) (oh Y) (oh Y) bV.out (by rw[aV.out]);rw[s,<-bA.out]);rw[b5] at bm
     exact⟨d+1,_,V.out,by go_num,(C9 q.out u.out).grown (zlt (H7 _ _)) (f q.out.size u.out.size) (fun x s=>by cases s;exact W.out.1),bm,fun p y=>by
      rcases y with y|y
      ·exact aC.out p y
      ·exact f q.out.size y.1⟩
    case measure=>simp[intOf];have:=V.out;omega
   ·have bU:decide (((key d:Nat):Int)<(n:Int))=false:=decide_eq_false og;have Y:=b af;clear af;go_wp2_with fail;go_roundw;(case rel=>exact⟨d+1,v,V.out,by go_num,q.out,by rw[zto (oh Y)];exact Z.out,aC.out⟩);case measure=>simp[intOf];have:=V.out;omega
  ·obtain rfl:d=m:=og;go_wp2_with fail;go_ret;exact⟨⟨_,rfl,v,Z.out,aC.out⟩,q.out⟩
theorem ybl {w:i} {st:Int} (h:N7 w S lo0 lo g L m n sc top t st B steps) (hI:TInv M m n t) (a9:Bru w) (cL:m<=100) (cM:n<=100) (hF:(A9 (K0 M (m+1))).length<=100000) (be:ScOk sc top):
 l k 138 #[.pointer (some ⟨g,0,none⟩),.int .i64 (n:Int),.int .i64 (m:Int)] w fun r w'=>(∃bx,r= .returned bx/\zpd w w' bx (I9 m n (fun _=>0) (fun u=>t.oth.getD u 0) (fun u=>G9 (t.A m u) (sc (t.oth.getD u 0)) t.d top) n))/\e w.heap.size w w':=by
 obtain⟨av,bE,au,aA,I⟩:=hd5 h a9 be (hI.sz hF og) hI;obtain⟨cr,cQ,cv,cV,D,a5,cw,cz,⟨-,-,hD,bf⟩,⟨b4,aJ,-,aK,T⟩,-,⟨U,V,R⟩,-⟩:=h.open;obtain⟨a1,a3⟩:=C4 (IsK.stb.to hD (F6 (T:=C2 w) h.sn_lt)) (IsK.stb.to bf (F6 (T:=C2 w) h.sn_lt));obtain⟨key,aS⟩:=nm (fun u=>t.oth.getD u 0);obtain⟨X,aM⟩:=nm (fun u=>G9 (t.A m u) (sc (t.oth.getD u 0)) t.d top);obtain⟨K,aN⟩:∃K:Nat->Rat,K=fun _=>0:=⟨_,rfl⟩;rw[<-aS,<-aM,<-aN];obtain⟨ar,bM,aZ⟩:=G6 aS aM aN;have aQ:=h.caps;have cd:m<=L.bc/\L.bc<=9223372036854775807/\n<=L.oc/\L.oc<=9223372036854775807/\m+n<=L.sp/\L.sp<=9223372036854775807:=(by unfold maxLen at aQ;omega);obtain⟨c0,c1,q3,c2,c3,c4⟩:=cd;have W:∀O,O<m+2->L4 m n O<=L.cp O/\L.cp O<=9223372036854775807:=fun O cf=>(by have:=h.cap O cf;unfold maxLen at this;exact this);have r1:m<=L.cp m:=(by have:=(W m og).1;rwa[U5] at this);have r2:L.cp m<=9223372036854775807:=(W m og).2;have r3:n<=L.cp (m+1):=(by have:=(W (m+1) og).1;rwa[X8] at this);have r4:L.cp (m+1)<=9223372036854775807:=(W (m+1) og).2;obtain⟨cU,aR⟩:=nm (L.oa);rw[<-aR] at aJ;have bH:=b aR;obtain⟨cY,aT⟩:=nm ((A9 t.d).length);obtain⟨lt,F⟩:=nm ((A9 top).length);have aY:=b aT;rw[<-aT] at a1 U;rw[<-F] at a3 R;have P:=b (j aK (j T (j U (j V R))));have a0:=aJ;have bP:c (g<w.heap.size):=h.g_lt;clear h a9 be hI hD bf aS aM aN aQ W aR aT F hF aK T U V R b4 aJ;have cy:=R4;go_in;go_wp2_with fail;refine(zys w (n:=m) og).mono ?_;rintro r dc ⟨⟨c9,rfl,bX,ak,zka⟩,aO⟩;obtain⟨bA,bZ,rfl⟩:=ak.slice;have ag:(C0 (List.replicate m (0:Rat))).length=m:=(by rw[zow,List.length_replicate]);rw[ag] at ak⊢;obtain⟨bT,bO,bB⟩:=G6 ak zka aO;have cm:=B9 aO a0;clear ak zka aO ag a0;go_wp2_with fail;clear cm;go_loopw [19,8,9] (fun aV _ _ wr=>∃(d:Nat) (v:Nat->Prop),d<=n/\aV= .int .i64 (d:Int)/\e w.heap.size w wr/\OwnS 3 37 IsR wr w.heap.size v (.slice bA m bZ) (C0 (I9 m n K key X d))/\c (∀p,v p->w.heap.size<=p)) (fun aV _ _ _=>n-(intOf aV).toNat);case atStart=>exact⟨0,bX,C _,rfl,bB.out,by rw[ztp,aZ.out,ycl];exact bT.out,bO.out⟩
 case round=>
  obtain⟨d,v,aQ,rfl,bi,br,aL⟩:=hrel;obtain⟨q,ac⟩:=C4 bi br;clear bi br;rcases a d n with F|cE
  ·have J:=b (av.out.next q.out);obtain⟨ck,bd⟩:=J.out.othW og;have cc:=bH.out.trans ck;subst cc;have a6:=bd.el d F;have aE:t.oth.getD d 0=key d:=(by rw[ar.out]);have cx:wr.cell? ⟨L.ob,d,none⟩=some (.int .i64 ((key d:Nat):Int)):=(by rw[<-aE];exact a6);have aj:key d∈t.bas++t.oth:=(by rw[<-aE];exact(List.mem_append.2 (.inr (Y3 (by rw[I.out.ol];exact F)))));have cK:key d<m+n:=I.out.lt _ aj;obtain⟨ch,-,cu,cT,a7,nS⟩:=J.out.scl _ aj;have aK:=B9 q.out P.out.1;have T:=B9 q.out P.out.2.1;have U:=B9 q.out P.out.2.2.1;have V:=B9 q.out P.out.2.2.2.1;have R:=B9 q.out P.out.2.2.2.2;rw[ch] at V;rw[J.out.hv (m+1) og (by rw[X8];omega)] at T;have cI:(0:Int)<=(d:Int):=og;have cJ:(d:Int)<(n:Int):=og;have cO:(0:Int)<=((key d:Nat):Int):=og;have cP:((key d:Nat):Int)<(m:Int)+(n:Int):=og;have Y:c (d+1<=n):=F;have ca:c (∀al,al<d->key al≠key d):=fun al cF r=>(by have b0:t.oth.getD al 0=t.oth.getD d 0:=(by rw[ar.out] at r;exact r);have:=(znw (List.nodup_append.1 I.out.dist).2.1 (by rw[I.out.ol];omega) (by rw[I.out.ol];omega) b0);omega);have a2:=b (IsK.stb.to nS (F6 (T:=C2 wr) fun p E=>J.out.sn_lt p (.inl E)));obtain⟨cZ,bq⟩:=nm ((A9 (sc (key d))).length);rw[<-bq] at a7 a2;have bI:=b aj;clear a6 bd aE nS bq aj;by_cases ai:n<=key d
   ·have b9:decide (((key d:Nat):Int)>=(n:Int))=true:=decide_eq_true og;have aa:=b ai;obtain⟨aC,rfl,bg,bh,cA,cB,ah,dh,di,dj,u0,u1,u2⟩:=zqq ac.out (zml _ _ _ _ _ _) (j:=key d-n) og;have aG:=ah ((key d-n)*3);have aH:=ah ((key d-n)*3+1);have aI:=ah ((key d-n)*3+2);have Z:=b (j bg bh);obtain⟨bU,cl,bV,cn,-,ae,af,a4,aD⟩:=J.out.el (l:=(m+1)) (j:=d) og (by rw[X8];exact F);rw[yat] at ae af aD;have Q:=b aD;obtain⟨z,aU⟩:=nm (-(t.A m d));rw[<-aU] at ae af Q;have aB:=b aU;obtain⟨b1,bj⟩:=nm (decide (z<0));obtain⟨ag,bm⟩:=nm ((A9 z.natAbs).length);obtain⟨b3,bp⟩:=nm ((A9 1).length);rw[<-bj] at ae Q;rw[<-bm] at af Q;rw[<-bp] at a4 Q;obtain⟨N,aP⟩:=nm (key d-n);rw[<-aP] at u0 u1 u2 aG aH aI;have bG:=b aP;have cN:IntKind.i64.wrap (((key d:Nat):Int)-(n:Int))=(N:Int):=(by rw[IntKind.wrap_i64];omega);have cG:(0:Int)<=(N:Int):=og;have cH:(N:Int)<(m:Int):=og;have bN:c (N<m):=oH;obtain⟨H,aq⟩:=C4 (j u0 (j u1 u2)) (j aG (j aH aI));have bF:c (Bru wr):=(by have a8:e w.heap.size w wr:=q.out;exact Bru.next bE.out a8);clear aD aU bj bm bp aP bg bh ah ai u0 u1 u2 aG aH aI;go_wp2_with fail;obtain⟨bD,bQ,bR⟩:=G6 U (IsK.stb.to a1.out (F7 q.out)) (IsK.stb.to a3.out (F7 q.out));have ay:=hs7 T ae af a4 V a7 R;have bL:c (L.sb≠aC):=(by rw[c];have a8:=Z.out.1;obtain⟨_,_,_,_,b5,_⟩:=av.out.scl (key d) bI.out;have b7:=A w _ b5;simp at b7;omega);have an:g≠aC:=zkb Z bP;have ao:L.bk (m+1)≠aC:=(by have:=Z.out;have:=J.out.tab.sep (m+1) og (by rw[X8];omega);have:=av.out.tab.hlo;omega);have bJ:=hpE N ay (nA an (nA ao (nA ao (nA ao (nA an (nA (bL.out) (nZ an)))))));clear an ao;obtain⟨y,bw⟩:=nm (-z);have az:=b bw;clear bw;have bC:c (∀ad:i,e wr.heap.size wr ad->l k 131 #[.agg #[.bool b1,.slice bU ag cl,.slice bV b3 cn]] ad (Y0 ad ((y:Int):Rat))):=fun ad b8=>zqn (IsQ.stb.next Q.out b8) (by rw[aB.out,Rat.intCast_neg];exact(aA.out.1 m d (o _) og).neg) (by rw[az.out,Rat.intCast_neg])
    go_region_held3 (SH.mk _ ay).s
     (first|exact ay.out _ bel|exact bJ.out _ bel _ _ _)
     (first
       |(go_at_call 131;(with_reducible refine Calls.mono (bC.out _ bel) ?_);rintro r aW ⟨⟨da,rfl,bu⟩,cC⟩;have G:=bW wr aW;have bY:=b (IsQ.stb.old bu);obtain⟨cs,cR,Q3,cW,rfl⟩:=zkh bu)
       |(go_at_call 135;(with_reducible refine Calls.mono (zrv (z:=y) (u:=sc (key d)) (d:=t.d) (dn:=top) (B9 G.out (show wr.cell? ⟨g,8,none⟩=some (.slice D (A9 t.d).length a5) by rw[<-aY.out];exact bD.out)) (show NumS aW (C2 aW) (.slice D (A9 t.d).length a5) t.d by rw[<-aY.out];exact IsK.stb.next bQ.out G.out) bY.out (IsK.stb.next a2.out G.out) (IsK.stb.next bR.out G.out) (Bru.next bF.out G.out) (by rw[az.out,aB.out,Int.natAbs_neg,Int.natAbs_neg];exact zrx (aA.out.1 m d (o _) og)) (au.out.sl _) aA.out.2 au.out.tl I.out.d0 au.out.tp) ?_);rintro r aX ⟨⟨db,rfl,bv⟩,cD⟩;have s:=bW wr aX;have bK:=b bv;obtain⟨c5,ct,cS,cq,cX,rfl,_,_,_⟩:=K6 bv;have c6:=B9 s.out H.out.1;have c7:=B9 s.out H.out.2.1;have c8:=B9 s.out H.out.2.2;have dd:=H8 s.out H.out.1 aq.out.1;have de:=H8 s.out H.out.2.1 aq.out.2.1;have df:=H8 s.out H.out.2.2 aq.out.2.2))
    go_wp2_with fail;go_roundw
    case rel=>
     have hst:=OwnS.step IsR.stb (T:=fun p=>v p\/(wr.heap.size<=p/\p<aX.heap.size)) ac.out s.out (fun p h=> .inl h) (fun p h=>h);have cb:=IsQ.stb.to bK.out (F6 (T:=fun p=>v p\/(wr.heap.size<=p/\p<aX.heap.size)) fun p h=> .inr ⟨f G.out.size h.1,h.2⟩);have bt:=zqr hst (zml _ _ _ _ _ _) bN.out cb;(have cg:G9 y (sc (key d)) t.d top=X d:=by rw[bM.out];show G9 y (sc (key d)) t.d top=G9 (t.A m d) (sc (t.oth.getD d 0)) t.d top;rw[az.out,aB.out,ar.out,Int.neg_neg]);have cj:(I9 m n K key X d).set N (G9 y (sc (key d)) t.d top)=I9 m n K key X (d+1):=(by rw[cg];have r:=ztn (N:=m) (off:=n) (b0:=K) (key:=key) (X:=X) (k:=d) (oh aa) (oh aa) ca.out (by rw[aZ.out]);rw[r,<-bG.out]);rw[cj] at bt
     exact⟨d+1,_,Y.out,by go_num,(C9 q.out s.out).grown (zlt (H7 _ _)) (f q.out.size s.out.size) (fun x r=>by cases r;exact Z.out.1),bt,fun p E=>by
      rcases E with E|E
      ·exact aL.out p E
      ·exact f q.out.size E.1⟩
    case measure=>simp[intOf];have:=Y.out;omega
   ·have b9:decide (((key d:Nat):Int)>=(n:Int))=false:=decide_eq_false og;have aa:=b ai;clear ai;go_wp2_with fail;go_roundw;(case rel=>exact⟨d+1,v,Y.out,by go_num,q.out,by rw[zto (oh aa)];exact ac.out,aL.out⟩);case measure=>simp[intOf];have:=Y.out;omega
  ·obtain rfl:d=n:=og;go_wp2_with fail;go_ret;exact⟨⟨_,rfl,v,ac.out,aL.out⟩,q.out⟩
theorem ytw {w:i} {bs mk:Nat} {st:Int} (h:N7 w S lo0 lo g L m n sc top t st B steps) (hI:TInv M m n t) (bV:Bru w) (b1:m<=100) (b3:n<=100) (hF:(A9 (K0 M (m+1))).length<=100000) (bX:ScOk sc top) (bx:w.cell? ⟨bs,0,none⟩=some (.pointer (some ⟨g,0,none⟩))) (bA:w.cell? ⟨mk,0,none⟩=some (.int .i64 (n:Int))) (bB:w.cell? ⟨mk,1,none⟩=some (.int .i64 (m:Int))):
 l k 134 #[.pointer (some ⟨bs,0,none⟩),.pointer (some ⟨mk,0,none⟩)] w (zob w ⟨1,E7 (G9 (t.A m n) 1 t.d top),C0 (I9 n 0 (fun _=>0) (fun ai=>t.bas.getD ai 0) (fun ai=>G9 (t.A ai n) 1 t.d (sc (t.bas.getD ai 0))) m),C0 (I9 m n (fun _=>0) (fun aj=>t.oth.getD aj 0) (fun aj=>G9 (t.A m aj) (sc (t.oth.getD aj 0)) t.d top) n),[]⟩):=by
 obtain⟨aI,cf,al,aG,aH,Y⟩:=hd6 h bV bX hI hF (j b1 b3);have Q:c (bs<w.heap.size/\mk<w.heap.size/\mk<w.heap.size):=⟨A w _ bx,A w _ bA,A w _ bB⟩;obtain⟨bD,bt⟩:=nm (I9 n 0 (fun _=>0) (fun ai=>t.bas.getD ai 0) (fun ai=>G9 (t.A ai n) 1 t.d (sc (t.bas.getD ai 0))) m);rw[<-bt];have bh:=b bt;obtain⟨bE,bu⟩:=nm (I9 m n (fun _=>0) (fun aj=>t.oth.getD aj 0) (fun aj=>G9 (t.A m aj) (sc (t.oth.getD aj 0)) t.d top) n);rw[<-bu];have bi:=b bu;obtain⟨q,bv⟩:=nm (G9 (t.A m n) 1 t.d top);rw[<-bv];obtain⟨cg,bL⟩:=C4 bv (hI.sz hF og);obtain⟨cj,cH,cl,cI,D,cN,cm,cu,⟨-,bZ,hD,bY⟩,-,⟨be,bf,bq⟩,⟨bU,-,bp⟩,-⟩:=h.open;obtain⟨aM,ch,bO⟩:=G6 (IsQ.stb.to bZ (F6 (T:=C2 w) h.sn_lt)) (IsK.stb.to hD (F6 (T:=C2 w) h.sn_lt)) (IsK.stb.to bY (F6 (T:=C2 w) h.sn_lt));obtain⟨z,bw⟩:=nm (t.A m n);have bM:=b bw;rw[<-bw] at be bf aM;obtain⟨cJ,b5⟩:=nm (decide (z<0));obtain⟨cK,b7⟩:=nm ((A9 z.natAbs).length);obtain⟨cL,b8⟩:=nm ((A9 1).length);obtain⟨lt,b0⟩:=nm ((A9 top).length);rw[<-b5] at be aM;rw[<-b7] at bf aM;rw[<-b8] at bq aM;rw[<-b0] at bp bO;clear h hI bV b1 b3 hF bX bt bu bv bZ hD bY bw b5 b7 b8 b0;have cO:=R4;obtain⟨C,cF,X,b9,bN⟩:=K7 w #[.int .i64 0,.bool false,.slice none 0 0,.slice none 0 0,.slice none 0 0,.slice none 0 0,.slice none 0 0] 39;obtain⟨B0,R⟩:=C4 X b9;have H:=b bN.out;have bP:=B9 X bx;have cs:=B9 X bA;have ct:=B9 X bB;have cw:=B9 X be;have cx:=B9 X bf;have cy:=B9 X bq;have bT:=B9 X bU;have cv:=B9 X bp;obtain⟨cd,ah⟩:=C4 bT (j bP (j cs ct));have cr:=nQ aM X;obtain⟨cc,cn⟩:=C4 (IsK.stb.next ch.out X) (IsK.stb.next bO.out X);have aE:=nU cf X;clear X b9 bN bx bA bB be bf bq bU bp bT;go_in;go_wp2_with fail;clear cF;have bg:=hs5 bP cw cx cy cv;have bJ:=b fun p (y:e C.heap.size C p)=>zmh p
 go_region_held3 (SH.mk _ bg).s
  (exact bg.out _ bel)
  (first
    |(go_at_call 136;(with_reducible refine Calls.mono (bJ.out _ bel) ?_);rintro u ag ⟨⟨cQ,rfl,b4⟩,cP⟩;have cq:=b (zrq b4);obtain⟨ck,cG,rfl,_,_,_⟩:=id b4;have bK:c (∀p:i,e ag.heap.size ag p->l k 135 #[.pointer (some ⟨g,0,none⟩),.agg #[.bool cJ,.slice cj cK cH,.slice cl cL cI],.slice ck (A9 1).length cG,.slice cm lt cu] p (Y0 p q)):=fun p y=>by rw[cg.out,<-bM.out];exact zrv (B9 (show e C.heap.size C p from bel) cd.out) (IsK.stb.next cc.out bel) (IsQ.stb.next cr.out bel) (IsK.stb.next cq.out y) (IsK.stb.next cn.out bel) (Bru.next aE.out bel) (by rw[bM.out];exact zrx (bL.out.1 _ _ (o _) (o _))) (by rw[Y5];simp) bL.out.2 al.out.tl aG.out.d0 al.out.tp)
    |(go_at_call 135;(with_reducible refine Calls.mono (bK.out _ bel) ?_);rintro u ak ⟨⟨cR,rfl,ar⟩,br⟩;have cM:=b (IsQ.stb.old ar);obtain⟨bG,bm,bC,bj,bF,rfl,_,_,_⟩:=K6 ar;(first|(have a6:Row ak ag.heap.size 37 [.bool false,.slice none 0 0,.slice none 0 0]:=(Row.next (heap_alloc_new ag zsi) bel:Row ak _ _ _);obtain⟨cz,cA,cB⟩:=C5 a6;obtain⟨cC,cD,cE⟩:=H5 a6)|(have a6:Row ak C.heap.size 37 [.bool false,.slice none 0 0,.slice none 0 0]:=(Row.next (heap_alloc_new (World.drew C) zsi) bel:Row ak _ _ _);obtain⟨cz,cA,cB⟩:=C5 a6;obtain⟨cC,cD,cE⟩:=H5 a6)|skip)))
 all_goals first
  |(have hF:=yfe (wB:=C) (X:=ag) (g:=ag.heap.size) ar bel bel bel (yhf (o:=zsi) bel) (Below.size bel) rfl;obtain⟨G,ay,U,aC,aB,aD⟩:=hF)
  |(have hF:=yfe (wB:=C) (X:=(World.drew C)) (g:=C.heap.size) ar bel bel bel (yhf (o:=zsi) bel) (Below.size bel) rfl;obtain⟨G,ay,U,aC,aB,aD⟩:=hF)
  |(have hF:=yqr (wB:=C) ar bel (Below.size bel);obtain⟨G,ay,U,aC,aB,aD⟩:=hF)
 all_goals clear bg bJ bK
 all_goals first
  |(have aq:c (Row G ag.heap.size 37 _):=aC
    try unfold put3 at ay
    try rw[ay]
    obtain⟨aa,v⟩:=C4 aB U
    have P:c (C.heap.size<=ag.heap.size):=aD
    obtain⟨a9,az⟩:=nm ((A9 q.num.natAbs).length)
    obtain⟨bd,aA⟩:=nm ((A9 q.den).length)
    rw[<-az,<-aA] at aq aa
    have aO:=B9 U ah.out.1
    have aP:=B9 U ah.out.2.1
    have aQ:=B9 U ah.out.2.2
    obtain⟨r0,r1,r2⟩:=C5 aq.out
    go_wp2_with fail
    have Z:=zmq aO aP aQ r0 r1 r2
    have aL:c (∀p:i,e G.heap.size G p->∀a r I d u J K,(pt7 p w.heap.size a r I d u J K).cell? ⟨bs,0,none⟩=some (.pointer (some ⟨g,0,none⟩))/\(pt7 p w.heap.size a r I d u J K).cell? ⟨mk,0,none⟩=some (.int .i64 (n:Int))/\(pt7 p w.heap.size a r I d u J K).cell? ⟨mk,1,none⟩=some (.int .i64 (m:Int))/\(pt7 p w.heap.size a r I d u J K).cell? ⟨ag.heap.size,0,none⟩=some (.bool bG)/\(pt7 p w.heap.size a r I d u J K).cell? ⟨ag.heap.size,1,none⟩=some (.slice bm a9 bC)/\(pt7 p w.heap.size a r I d u J K).cell? ⟨ag.heap.size,2,none⟩=some (.slice bj bd bF)):=fun p y a r I d u J K=>(fun h=>⟨Y4 h.1 (zky Q H P) _ _ _ _ _ _ _,Y4 h.2.1 (zky Q H P) _ _ _ _ _ _ _,Y4 h.2.2.1 (zky Q H P) _ _ _ _ _ _ _,Y4 h.2.2.2.1 (zky Q H P) _ _ _ _ _ _ _,Y4 h.2.2.2.2.1 (zky Q H P) _ _ _ _ _ _ _,Y4 h.2.2.2.2.2 (zky Q H P) _ _ _ _ _ _ _⟩) (Z.out p y)
    have aJ:c (∀p:i,e G.heap.size G p->l k 137 #[.pointer (some ⟨g,0,none⟩),.int .i64 (n:Int)] p (fun u w'=>(∃F,u= .returned F/\IsV w' (G4 C.heap.size w') F (C0 bD))/\e p.heap.size p w')):=fun p y=>by
     have E:=zxq (((aI.out.next B0.out).next v.out).next y) aG.out (Bru.next (Bru.next aE.out v.out) y) Y.out.1 Y.out.2 aH.out al.out
     rw[<-bh.out] at E
     refine E.mono ?_
     rintro u w' ⟨⟨F,rfl,aN,V,ae⟩,x⟩
     have W:=f v.out.size y.size
     refine⟨⟨F,rfl,OwnS.isS IsR.stb V (fun r T=>⟨f W (ae r T),by obtain⟨_,_,_,_,ad⟩:=V;exact(ad r T).1⟩) (fun r E ac=>⟨f W E,ac⟩)⟩,x⟩
    have aK:c (∀p:i,e G.heap.size G p->l k 138 #[.pointer (some ⟨g,0,none⟩),.int .i64 (n:Int),.int .i64 (m:Int)] p (fun u w'=>(∃F,u= .returned F/\IsV w' (G4 C.heap.size w') F (C0 bE))/\e p.heap.size p w')):=fun p y=>by
     have E:=ybl (((aI.out.next B0.out).next v.out).next y) aG.out (Bru.next (Bru.next aE.out v.out) y) Y.out.1 Y.out.2 aH.out al.out
     rw[<-bi.out] at E
     refine E.mono ?_
     rintro u w' ⟨⟨F,rfl,aN,V,ae⟩,x⟩
     have W:=f v.out.size y.size
     refine⟨⟨F,rfl,OwnS.isS IsR.stb V (fun r T=>⟨f W (ae r T),by obtain⟨_,_,_,_,ad⟩:=V;exact(ad r T).1⟩) (fun r E ac=>⟨f W E,ac⟩)⟩,x⟩
    clear aC aB U aD ar br r0 r1 r2 az aA
    go_region_held3 (SH.mk _ Z).s
     (first|((with_reducible show World.cell? (World.setCell _ _ _) _=_/\_);exact aL.out _ bel _ _ _ _ _ _ _)|exact Z.out _ bel)
     (first
       |(go_at_call 137;(with_reducible refine Calls.mono (aJ.out _ bel) ?_);rintro u a7 ⟨⟨ca,rfl,au⟩,a4⟩;have N:=bW G a7;have an:=b au;obtain⟨bH,bQ,rfl,_⟩:=T4 au;obtain⟨d0,aR,aS,aT,aU,aV,aW⟩:=W5 (Row.next (Row.next R.out v.out) N.out);obtain⟨aX,aY,aZ,a0,a1,a2,a3⟩:=zkv (Row.next (Row.next R.out v.out) N.out))
       |(go_at_call 138;(with_reducible refine Calls.mono (aK.out _ bel) ?_);rintro u a8 ⟨⟨cb,rfl,av⟩,a5⟩;have O:=bW G a8;have ao:=b av;obtain⟨bI,bR,rfl,_⟩:=T4 av;obtain⟨d0,aR,aS,aT,aU,aV,aW⟩:=W5 (Row.next (Row.next R.out v.out) O.out);obtain⟨aX,aY,aZ,a0,a1,a2,a3⟩:=zkv (Row.next (Row.next R.out v.out) O.out)))
    all_goals
     go_wp2_with fail
     first
      |exact zlk Tryz.results134 rfl rfl (Row.pt7 (Row.next (Row.next R.out v.out) O.out) _ _ _ _ _ _ _) (zlj (lo:=C.heap.size) (zmr (IsQ.stb.to aa.out fun r x=>⟨⟨x.1.1,s x.1.2 O.out.size⟩,fun af=>O.out.cell (p:=⟨r,af,none⟩) x.1.2⟩) (IsV.stb.to an.out (V7 a5)) (ao.out) zlv) (C9 (C9 B0.out v.out) O.out) (o _) (oh H))
      |exact zlk Tryz.results134 rfl rfl (Row.pt7 (Row.next (Row.next R.out v.out) N.out) _ _ _ _ _ _ _) (zlj (lo:=C.heap.size) (zmr (IsQ.stb.to aa.out fun r x=>⟨⟨x.1.1,s x.1.2 N.out.size⟩,fun af=>N.out.cell (p:=⟨r,af,none⟩) x.1.2⟩) (an.out) (IsV.stb.to ao.out (V7 a4)) zlv) (C9 (C9 B0.out v.out) N.out) (o _) (oh H)))
  |(have aq:c (Row G C.heap.size 37 _):=aC
    try unfold put3 at ay
    try rw[ay]
    obtain⟨aa,v⟩:=C4 aB U
    have P:c (C.heap.size<=C.heap.size):=aD
    obtain⟨a9,az⟩:=nm ((A9 q.num.natAbs).length)
    obtain⟨bd,aA⟩:=nm ((A9 q.den).length)
    rw[<-az,<-aA] at aq aa
    have aO:=B9 U ah.out.1
    have aP:=B9 U ah.out.2.1
    have aQ:=B9 U ah.out.2.2
    obtain⟨r0,r1,r2⟩:=C5 aq.out
    go_wp2_with fail
    have Z:=zmq aO aP aQ r0 r1 r2
    have aL:c (∀p:i,e G.heap.size G p->∀a r I d u J K,(pt7 p w.heap.size a r I d u J K).cell? ⟨bs,0,none⟩=some (.pointer (some ⟨g,0,none⟩))/\(pt7 p w.heap.size a r I d u J K).cell? ⟨mk,0,none⟩=some (.int .i64 (n:Int))/\(pt7 p w.heap.size a r I d u J K).cell? ⟨mk,1,none⟩=some (.int .i64 (m:Int))/\(pt7 p w.heap.size a r I d u J K).cell? ⟨C.heap.size,0,none⟩=some (.bool bG)/\(pt7 p w.heap.size a r I d u J K).cell? ⟨C.heap.size,1,none⟩=some (.slice bm a9 bC)/\(pt7 p w.heap.size a r I d u J K).cell? ⟨C.heap.size,2,none⟩=some (.slice bj bd bF)):=fun p y a r I d u J K=>(fun h=>⟨Y4 h.1 (zky Q H P) _ _ _ _ _ _ _,Y4 h.2.1 (zky Q H P) _ _ _ _ _ _ _,Y4 h.2.2.1 (zky Q H P) _ _ _ _ _ _ _,Y4 h.2.2.2.1 (zky Q H P) _ _ _ _ _ _ _,Y4 h.2.2.2.2.1 (zky Q H P) _ _ _ _ _ _ _,Y4 h.2.2.2.2.2 (zky Q H P) _ _ _ _ _ _ _⟩) (Z.out p y)
    have aJ:c (∀p:i,e G.heap.size G p->l k 137 #[.pointer (some ⟨g,0,none⟩),.int .i64 (n:Int)] p (fun u w'=>(∃F,u= .returned F/\IsV w' (G4 C.heap.size w') F (C0 bD))/\e p.heap.size p w')):=fun p y=>by
     have E:=zxq (((aI.out.next B0.out).next v.out).next y) aG.out (Bru.next (Bru.next aE.out v.out) y) Y.out.1 Y.out.2 aH.out al.out
     rw[<-bh.out] at E
     refine E.mono ?_
     rintro u w' ⟨⟨F,rfl,aN,V,ae⟩,x⟩
     have W:=f v.out.size y.size
     refine⟨⟨F,rfl,OwnS.isS IsR.stb V (fun r T=>⟨f W (ae r T),by obtain⟨_,_,_,_,ad⟩:=V;exact(ad r T).1⟩) (fun r E ac=>⟨f W E,ac⟩)⟩,x⟩
    have aK:c (∀p:i,e G.heap.size G p->l k 138 #[.pointer (some ⟨g,0,none⟩),.int .i64 (n:Int),.int .i64 (m:Int)] p (fun u w'=>(∃F,u= .returned F/\IsV w' (G4 C.heap.size w') F (C0 bE))/\e p.heap.size p w')):=fun p y=>by
     have E:=ybl (((aI.out.next B0.out).next v.out).next y) aG.out (Bru.next (Bru.next aE.out v.out) y) Y.out.1 Y.out.2 aH.out al.out
     rw[<-bi.out] at E
     refine E.mono ?_
     rintro u w' ⟨⟨F,rfl,aN,V,ae⟩,x⟩
     have W:=f v.out.size y.size
     refine⟨⟨F,rfl,OwnS.isS IsR.stb V (fun r T=>⟨f W (ae r T),by obtain⟨_,_,_,_,ad⟩:=V;exact(ad r T).1⟩) (fun r E ac=>⟨f W E,ac⟩)⟩,x⟩
    clear aC aB U aD ar br r0 r1 r2 az aA
    go_region_held3 (SH.mk _ Z).s
     (first|((with_reducible show World.cell? (World.setCell _ _ _) _=_/\_);exact aL.out _ bel _ _ _ _ _ _ _)|exact Z.out _ bel)
     (first
       |(go_at_call 137;(with_reducible refine Calls.mono (aJ.out _ bel) ?_);rintro u a7 ⟨⟨ca,rfl,au⟩,a4⟩;have N:=bW G a7;have an:=b au;obtain⟨bH,bQ,rfl,_⟩:=T4 au;obtain⟨d0,aR,aS,aT,aU,aV,aW⟩:=W5 (Row.next (Row.next R.out v.out) N.out);obtain⟨aX,aY,aZ,a0,a1,a2,a3⟩:=zkv (Row.next (Row.next R.out v.out) N.out))
       |(go_at_call 138;(with_reducible refine Calls.mono (aK.out _ bel) ?_);rintro u a8 ⟨⟨cb,rfl,av⟩,a5⟩;have O:=bW G a8;have ao:=b av;obtain⟨bI,bR,rfl,_⟩:=T4 av;obtain⟨d0,aR,aS,aT,aU,aV,aW⟩:=W5 (Row.next (Row.next R.out v.out) O.out);obtain⟨aX,aY,aZ,a0,a1,a2,a3⟩:=zkv (Row.next (Row.next R.out v.out) O.out)))
    all_goals
     go_wp2_with fail
     first
      |exact zlk Tryz.results134 rfl rfl (Row.pt7 (Row.next (Row.next R.out v.out) O.out) _ _ _ _ _ _ _) (zlj (lo:=C.heap.size) (zmr (IsQ.stb.to aa.out fun r x=>⟨⟨x.1.1,s x.1.2 O.out.size⟩,fun af=>O.out.cell (p:=⟨r,af,none⟩) x.1.2⟩) (IsV.stb.to an.out (V7 a5)) (ao.out) zlv) (C9 (C9 B0.out v.out) O.out) (o _) (oh H))
      |exact zlk Tryz.results134 rfl rfl (Row.pt7 (Row.next (Row.next R.out v.out) N.out) _ _ _ _ _ _ _) (zlj (lo:=C.heap.size) (zmr (IsQ.stb.to aa.out fun r x=>⟨⟨x.1.1,s x.1.2 N.out.size⟩,fun af=>N.out.cell (p:=⟨r,af,none⟩) x.1.2⟩) (an.out) (IsV.stb.to ao.out (V7 a4)) zlv) (C9 (C9 B0.out v.out) N.out) (o _) (oh H)))
  |(have aq:c (Row G ak.heap.size 37 _):=aC
    try unfold put3 at ay
    try rw[ay]
    obtain⟨aa,v⟩:=C4 aB U
    have P:c (C.heap.size<=ak.heap.size):=aD
    obtain⟨a9,az⟩:=nm ((A9 q.num.natAbs).length)
    obtain⟨bd,aA⟩:=nm ((A9 q.den).length)
    rw[<-az,<-aA] at aq aa
    have aO:=B9 U ah.out.1
    have aP:=B9 U ah.out.2.1
    have aQ:=B9 U ah.out.2.2
    obtain⟨r0,r1,r2⟩:=C5 aq.out
    go_wp2_with fail
    have Z:=zmq aO aP aQ r0 r1 r2
    have aL:c (∀p:i,e G.heap.size G p->∀a r I d u J K,(pt7 p w.heap.size a r I d u J K).cell? ⟨bs,0,none⟩=some (.pointer (some ⟨g,0,none⟩))/\(pt7 p w.heap.size a r I d u J K).cell? ⟨mk,0,none⟩=some (.int .i64 (n:Int))/\(pt7 p w.heap.size a r I d u J K).cell? ⟨mk,1,none⟩=some (.int .i64 (m:Int))/\(pt7 p w.heap.size a r I d u J K).cell? ⟨ak.heap.size,0,none⟩=some (.bool bG)/\(pt7 p w.heap.size a r I d u J K).cell? ⟨ak.heap.size,1,none⟩=some (.slice bm a9 bC)/\(pt7 p w.heap.size a r I d u J K).cell? ⟨ak.heap.size,2,none⟩=some (.slice bj bd bF)):=fun p y a r I d u J K=>(fun h=>⟨Y4 h.1 (zky Q H P) _ _ _ _ _ _ _,Y4 h.2.1 (zky Q H P) _ _ _ _ _ _ _,Y4 h.2.2.1 (zky Q H P) _ _ _ _ _ _ _,Y4 h.2.2.2.1 (zky Q H P) _ _ _ _ _ _ _,Y4 h.2.2.2.2.1 (zky Q H P) _ _ _ _ _ _ _,Y4 h.2.2.2.2.2 (zky Q H P) _ _ _ _ _ _ _⟩) (Z.out p y)
    have aJ:c (∀p:i,e G.heap.size G p->l k 137 #[.pointer (some ⟨g,0,none⟩),.int .i64 (n:Int)] p (fun u w'=>(∃F,u= .returned F/\IsV w' (G4 C.heap.size w') F (C0 bD))/\e p.heap.size p w')):=fun p y=>by
     have E:=zxq (((aI.out.next B0.out).next v.out).next y) aG.out (Bru.next (Bru.next aE.out v.out) y) Y.out.1 Y.out.2 aH.out al.out
     rw[<-bh.out] at E
     refine E.mono ?_
     rintro u w' ⟨⟨F,rfl,aN,V,ae⟩,x⟩
     have W:=f v.out.size y.size
     refine⟨⟨F,rfl,OwnS.isS IsR.stb V (fun r T=>⟨f W (ae r T),by obtain⟨_,_,_,_,ad⟩:=V;exact(ad r T).1⟩) (fun r E ac=>⟨f W E,ac⟩)⟩,x⟩
    have aK:c (∀p:i,e G.heap.size G p->l k 138 #[.pointer (some ⟨g,0,none⟩),.int .i64 (n:Int),.int .i64 (m:Int)] p (fun u w'=>(∃F,u= .returned F/\IsV w' (G4 C.heap.size w') F (C0 bE))/\e p.heap.size p w')):=fun p y=>by
     have E:=ybl (((aI.out.next B0.out).next v.out).next y) aG.out (Bru.next (Bru.next aE.out v.out) y) Y.out.1 Y.out.2 aH.out al.out
     rw[<-bi.out] at E
     refine E.mono ?_
     rintro u w' ⟨⟨F,rfl,aN,V,ae⟩,x⟩
     have W:=f v.out.size y.size
     refine⟨⟨F,rfl,OwnS.isS IsR.stb V (fun r T=>⟨f W (ae r T),by obtain⟨_,_,_,_,ad⟩:=V;exact(ad r T).1⟩) (fun r E ac=>⟨f W E,ac⟩)⟩,x⟩
    clear aC aB U aD ar br r0 r1 r2 az aA
    go_region_held3 (SH.mk _ Z).s
     (first|((with_reducible show World.cell? (World.setCell _ _ _) _=_/\_);exact aL.out _ bel _ _ _ _ _ _ _)|exact Z.out _ bel)
     (first
       |(go_at_call 137;(with_reducible refine Calls.mono (aJ.out _ bel) ?_);rintro u a7 ⟨⟨ca,rfl,au⟩,a4⟩;have N:=bW G a7;have an:=b au;obtain⟨bH,bQ,rfl,_⟩:=T4 au;obtain⟨d0,aR,aS,aT,aU,aV,aW⟩:=W5 (Row.next (Row.next R.out v.out) N.out);obtain⟨aX,aY,aZ,a0,a1,a2,a3⟩:=zkv (Row.next (Row.next R.out v.out) N.out))
       |(go_at_call 138;(with_reducible refine Calls.mono (aK.out _ bel) ?_);rintro u a8 ⟨⟨cb,rfl,av⟩,a5⟩;have O:=bW G a8;have ao:=b av;obtain⟨bI,bR,rfl,_⟩:=T4 av;obtain⟨d0,aR,aS,aT,aU,aV,aW⟩:=W5 (Row.next (Row.next R.out v.out) O.out);obtain⟨aX,aY,aZ,a0,a1,a2,a3⟩:=zkv (Row.next (Row.next R.out v.out) O.out)))
    all_goals
     go_wp2_with fail
     first
      |exact zlk Tryz.results134 rfl rfl (Row.pt7 (Row.next (Row.next R.out v.out) O.out) _ _ _ _ _ _ _) (zlj (lo:=C.heap.size) (zmr (IsQ.stb.to aa.out fun r x=>⟨⟨x.1.1,s x.1.2 O.out.size⟩,fun af=>O.out.cell (p:=⟨r,af,none⟩) x.1.2⟩) (IsV.stb.to an.out (V7 a5)) (ao.out) zlv) (C9 (C9 B0.out v.out) O.out) (o _) (oh H))
      |exact zlk Tryz.results134 rfl rfl (Row.pt7 (Row.next (Row.next R.out v.out) N.out) _ _ _ _ _ _ _) (zlj (lo:=C.heap.size) (zmr (IsQ.stb.to aa.out fun r x=>⟨⟨x.1.1,s x.1.2 N.out.size⟩,fun af=>N.out.cell (p:=⟨r,af,none⟩) x.1.2⟩) (an.out) (IsV.stb.to ao.out (V7 a4)) zlv) (C9 (C9 B0.out v.out) N.out) (o _) (oh H)))
end Go.Proofs.YtdgilbgdkmhcmaaGreatDoor
