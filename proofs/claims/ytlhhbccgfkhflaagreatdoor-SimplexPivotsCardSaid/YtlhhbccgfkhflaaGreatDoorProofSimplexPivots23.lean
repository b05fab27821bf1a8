/-
 The contract of the reference's Over:long division.
-/
import Derived.Test.YtlhhbccgfkhflaaGreatDoorProofSimplexPivots22
namespace Go.Proofs.YtlhhbccgfkhflaaGreatDoor
open Go.RowKit
set_option linter.unusedVariables false
set_option maxRecDepth 100000
set_option maxHeartbeats 8000000
open _root_.Go.Lib renaming hid → c
open _root_.Nat renaming le_refl → b, le_trans → p, lt_or_ge → r, zero_le → m
open _root_.Go.RowKit.Below renaming refl → g
open _root_.Go.World renaming size_alloc → d
open _root_.Go.RowKit renaming Below → f, Hid → e
variable {N base n : Nat} {l : List Nat} {v i j o : Value} {a wr : World} {k : Array Value}
theorem ydx (w:World) (n:Int) (j:0<=n) (m:n<=999999999):
 Calls Tryz.prog 182 #[.int .u32 n] w fun e w'=>(∃v,e= .returned v/\IsN w' w.heap.size w'.heap.size v n.toNat)/\f w.heap.size w w':=by obtain⟨a,rfl⟩:=Int.eq_ofNat_of_zero_le j;have h:=ybp .u32 w 140 [a] (by simp[maxLen]);have k:IsL .u32 (w.alloc (.cells #[.int .u32 (a:Int)] 140)) w.heap.size (w.heap.size+1) (.slice (some ⟨w.heap.size,0,none⟩) 1 1) [a]:=h;have i:=c k;go_in;go_wp2_with fail;refine(zzj i.out (by intro x l;simp at l;omega)).mono ?_;rintro e o ⟨⟨v,rfl,hv⟩,rfl⟩;go_wp2_with fail;go_ret;refine⟨⟨_,rfl,?_⟩,(g _ _).alloc (b _) _⟩;rw[d,Int.toNat_natCast];have e:val [a]=a:=(by simp[val]);rw[e] at hv;exact hv
theorem IsN.upB {w w':World} {lo:Nat} (h:IsN w lo w.heap.size v n) (a:f w.heap.size w w'):IsN w' 0 w'.heap.size v n:=(h.below a (b _)).wide (m _) a.size
theorem yyk (w:World) (x:Int) (n:Nat) (h:x=(n:Int)):Own (w.alloc (.cells #[.int .u32 x] 140)) w.heap.size 140 (.slice (some ⟨w.heap.size,0,none⟩) 1 1) (C8 .u32 [n]):=by subst h;refine⟨by simp[C8],.inr ⟨w.heap.size,1,#[.int .u32 (n:Int)],rfl,b _,heap_alloc_new w _,by simp[C8],by unfold maxLen;omega,rfl,by simp[C8]⟩⟩
def Wl (w:World) (base:Nat) (A:Option Addr) (b:List Nat):Prop:=b≠[]->∃a sp,A=some ⟨a,0,none⟩/\base<=a/\Row w a 140 (C8 .u32 b++sp)
theorem WrN.wl {w:World} (h:WrN w base v n):∃A cap,v= .slice A (A9 n).length cap/\(A9 n).length<=cap/\cap<=maxLen/\Wl w base A (A9 n):=by
 rcases h with⟨rfl,rfl⟩|⟨c,cap,a,rfl,f,hr,g,d,e⟩
 ·exact⟨none,0,by rw[N6];rfl,by rw[N6];exact b _,m _,fun h=>absurd N6 h⟩
 ·refine⟨_,cap,rfl,d,e,fun _=>⟨c,a.drop (A9 n).length,rfl,f,?_⟩⟩;rw[<-g,List.take_append_drop];exact hr
theorem Wl.isL {w:World} {A:Option Addr} {a:List Nat} {b:Nat} (h:Wl w base A a) (e:a.length<=b) (f:b<=maxLen):IsL .u32 w base w.heap.size (.slice A a.length b) a:=by refine⟨A,b,rfl,e,f,fun i=> ?_⟩;obtain⟨d,sp,rfl,g,hr⟩:=h (by rintro rfl;exact i rfl);refine⟨d,0,rfl,g,hr.lt,fun j k c=> ?_⟩;rw[Nat.zero_add,hr.cell,List.getElem?_append_left (List.getElem?_eq_some_iff.1 c).1];exact c
def OverSt (a c:World) (N:Nat) (l:List Nat) (e g:Value):Prop:=∃(b lo d:Nat),e= .slice (some ⟨b,0,none⟩) N N/\Row c b 140 (C8 .u32 (List.replicate N 0))/\a.heap.size<=b/\IsL .u32 c lo d g l/\(b<lo\/d<=b)/\a.heap.size<=lo/\d<=c.heap.size/\f a.heap.size a c
theorem OverSt.both (c:k=(C8 .u32 (List.replicate N 0)).toArray):OverSt a (a.alloc (.cells k 140)).drew N [] (.slice (some ⟨a.heap.size,0,none⟩) N N) (.slice none 0 0):=by
 subst c;refine⟨a.heap.size,a.heap.size+1,a.heap.size+1,rfl,?_,b _,IsL.nil,.inl og,by omega,?_,?_⟩
 ·exact heap_alloc_new a _
 ·show _<=(a.alloc _).heap.size;rw[d];omega
 ·exact below_drewN ((g _ a).alloc (b _) _) 1
theorem OverSt.makeFirst (j:k=(C8 .u32 (List.replicate N 0)).toArray) (h:Own wr (a.alloc (.cells k 140)).drew.heap.size 140 o ([]++C8 .u32 l)) (e:f (a.alloc (.cells k 140)).drew.heap.size (a.alloc (.cells k 140)).drew wr):
 OverSt a wr N l (.slice (some ⟨a.heap.size,0,none⟩) N N) o:=by subst j;have c:(a.alloc (.cells (C8 .u32 (List.replicate N 0)).toArray 140)).drew.heap.size=a.heap.size+1:=d _ _;have i:f a.heap.size a (a.alloc (.cells (C8 .u32 (List.replicate N 0)).toArray 140)).drew:=below_drewN ((g _ a).alloc (b _) _) 1;rw[List.nil_append] at h;refine⟨a.heap.size,_,_,rfl,?_,b _,Own.isL h,.inl (by rw[c];omega),by rw[c];omega,b _,i.trans (e.mono (by rw[c];omega))⟩;exact(e.block a.heap.size (by rw[c];omega)).trans (heap_alloc_new a _)
theorem OverSt.appFirst (i:k=(C8 .u32 (List.replicate N 0)).toArray) (e:Own wr a.drew.heap.size 140 o ([]++C8 .u32 l)) (h:f a.drew.heap.size a.drew wr):
 OverSt a (wr.alloc (.cells k 140)) N l (.slice (some ⟨wr.heap.size,0,none⟩) N N) o:=by subst i;rw[List.nil_append] at e;have c:f a.heap.size a wr:=(below_drewN (g _ a) 1).trans h;refine⟨wr.heap.size,a.heap.size,wr.heap.size,rfl,heap_alloc_new wr _,c.size,?_,.inr (b _),b _,by rw[d];omega,c.alloc c.size _⟩;exact(Own.isL e).below ((g _ wr).alloc (b _) _) (b _)
theorem zz1387 {w:World} {x y:Nat} (ha:IsN w 0 w.heap.size i x) (h:IsN w 0 w.heap.size j y) (a:x<y):
 Calls Tryz.prog 145 #[i,j] w fun e w'=>(∃q k,e= .returned (.tuple #[q,k])/\IsN w' w.heap.size w'.heap.size q (x/y)/\IsN w' 0 w'.heap.size k (x%y))/\f w.heap.size w w':=by obtain⟨b,l⟩:=C5 ha h;obtain⟨A,n,rfl,_,_,_⟩:=ha;obtain⟨B,d,rfl,_,_,_⟩:=h;rw[Nat.div_eq_of_lt a,Nat.mod_eq_of_lt a];have m:=c (zqz a);go_in;go_wp2_with fail;refine(zwm b.out l.out).mono ?_;rw[m.out];rintro e o ⟨rfl,q,rfl⟩;go_wp2_with fail;go_ret2;exact⟨⟨_,_,rfl,IsN.zero,b.out.drewN q⟩,below_drewN (g _ _) q⟩
theorem zz1385 {w:World} {x y:Nat} (ha:IsN w 0 w.heap.size i x) (b3:IsN w 0 w.heap.size j y) (Y:y<=x) (dt:0<y) (eV:(A9 x).length<=2000000000):
 Calls Tryz.prog 145 #[i,j] w fun F w'=>(∃q cH,F= .returned (.tuple #[q,cH])/\IsN w' w.heap.size w'.heap.size q (x/y)/\IsN w' 0 w'.heap.size cH (x%y))/\f w.heap.size w w':=by
 obtain⟨aH,aI⟩:=C5 ha b3;have eB:1<=(A9 y).length:=(by have:=lim_nil_iff (n:=y);omega);have ds:=W9 Y;obtain⟨A,dO,rfl,_,_,_⟩:=ha;obtain⟨B,d,rfl,_,_,bP⟩:=b3;have eM:0<=X6 x y:=(by unfold X6;rw[if_neg og];split<;>omega);generalize cw:X6 x y=sg at*;have cT:=c cw;obtain⟨bb,ob,rfl,_,_,cc⟩:=bP (M5 (j:=(A9 y).length-1) og);obtain⟨ah,dm,eP,eQ,cx⟩:=W4 (j:=(A9 y).length-1) (M4 y) cc og;have eR:1<=ah:=(by have:=yeb (B:=y) (n:=(A9 y).length-1) og;have:=dm.out;omega);have et:1<=1000000000/(ah+1):=(by rw[Int.le_ediv_iff_mul_le og];omega);have eu:1000000000/(ah+1)<=500000000:=(by apply Int.ediv_le_of_le_mul og;omega);have cy:∀q,(w.drewN q).cell? ⟨bb,ob+((A9 y).length-1),none⟩=some (.int .u32 ah):=fun _=>cx;obtain⟨bL,aa,dM⟩:=G0 cy Y ds;clear cc cx cy cw Y;go_in;go_wp2_with fail;refine(zwm aH.out aI.out).mono ?_;rw[cT.out];rintro F cI ⟨rfl,q,rfl⟩;have c8:=bL.out q;go_wp2_with fail;generalize hF:1000000000/(ah+1)=C at*;clear hF;refine(ydx (w.drewN q) C og og).mono ?_;rintro F cI ⟨⟨e3,rfl,hf⟩,b4⟩;have az:f w.heap.size w cI:=(below_drewN (g _ w) q).trans b4;obtain⟨aK,bA,bB,bD⟩:=X7 (hf.wide (lo':=0) (m _) (b _)) (aH.out.upB az) (aI.out.upB az) az;have a7:e ((A9 C.toNat).length<=1):=lim_len_le.2 (by rw[zur];omega);clear hf b4 c8 bL az;go_wp2_with fail;refine(zqx bA.out aK.out (b _) (b _) og (oh a7)).mono ?_;rintro F cJ ⟨⟨e1,rfl,cA⟩,aq⟩;obtain⟨bq,aL,bC,bE⟩:=X7 (cA.wide (lo':=0) (m _) (b _)) (aK.out.upB aq) (bB.out.upB aq) (below_trans' bD.out aq);clear cA aq bA aK bB;go_wp2_with fail;refine(zqx bC.out aL.out (b _) (b _) og (oh a7)).mono ?_;rintro F a ⟨⟨e2,rfl,cB⟩,ar⟩;obtain⟨al,br,bH,aJ⟩:=X7 (cB.wide (lo':=0) (m _) (b _)) (bq.out.upB ar) (aL.out.upB ar) (below_trans' bE.out ar);clear cB ar bq aL bC;obtain⟨X,ab⟩:=nm (x*C.toNat);obtain⟨t,ac⟩:=nm (y*C.toNat);rw[<-ab] at br;rw[<-ac] at al;have ed:0<t:=(by rw[ac];exact Nat.mul_pos dt og);have b1:t<=X:=(by rw[ab,ac];exact Nat.mul_le_mul_right _ aa.out);have eC:(A9 X).length<=2000000001:=(by rw[ab];have:=zyp x C.toNat;have:=a7.out;omega);have eH:=W9 b1;have eE:1<=(A9 t).length:=(by have:=lim_nil_iff (n:=t);omega);obtain⟨cN,bx⟩:=C5 ab ac;have df:e (A9 C.toNat=[C.toNat]):=ztd og og;have aM:=bH.out;unfold IsN at aM;rw[df.out] at aM;obtain⟨dI,dR,rfl,_,_,ck⟩:=aM;obtain⟨aT,aU,rfl,_,da,ch⟩:=ck (by simp[C8]);have cj:=ch 0 (.int .u32 C) (by simp[C8];omega);simp only[List.length_cons,List.length_nil,Nat.zero_add] at*;have aN:=c (And.intro da cj);obtain⟨dG,aR,rfl,c5,ej,bO⟩:=br.out;obtain⟨dJ,dQ,rfl,ek,em,aW⟩:=al.out;obtain⟨b2,eX,rfl,_,ei,b9⟩:=aW (M5 (j:=(A9 t).length-1) og);obtain⟨G,b0,dW,dX,dZ⟩:=W4 (j:=(A9 t).length-1) (M4 t) b9 og;obtain⟨ak,dK⟩:=C5 bO aW;have dY:1<=G:=(by have:=yeb (B:=t) (n:=(A9 t).length-1) og;have:=b0.out;omega);generalize cn:(A9 X).length=l at*;generalize cq:(A9 t).length=n at*;obtain⟨O,S⟩:=C5 cn cq;clear ab ac ch cj b9 bO aW cn cq ck bP b1 bH;go_wp2_with fail;go_cut [4,5] (fun dA aD dF=>OverSt a dF (l-n+1) ((A9 X).drop (l-n+1)) dA aD)
 case first=>
  have u1:IntKind.i64.wrap ((l:Int)-(n:Int))=(l:Int)-(n:Int):=IntWalk.i64_in _ og;have u2:IntKind.i64.wrap ((l:Int)-(n:Int)+1)=(l:Int)-(n:Int)+1:=IntWalk.i64_in _ og;obtain⟨k,cF,eD⟩:=ywv Tryz.prog U9 ((l:Int)-(n:Int)+1) (l-n+1) og og;have aQ:=c cF;clear cF;have u3:0<=(l:Int)-(n:Int)+1:=og;have u4:(l:Int)-(n:Int)+1<=(l:Int):=og;have u5:((l:Int)-(n:Int)+1).toNat=l-n+1:=og;have cg:((C8 .u32 (A9 X)).drop (l-n+1)).length=l-(l-n+1):=(by rw[List.length_drop,zmh,O.out]);have a4:∀bp∈(C8 .u32 (A9 X)).drop (l-n+1),bp.oneCell'=true:=fun bp dn=>yap _ _ bp (List.mem_of_mem_drop dn);have bF:=c (And.intro cg a4);obtain⟨ba,oa,rfl,_,c4,_⟩:=ak.out (M5 (j:=0) (by rw[O.out];omega));have hcut:SV a 0 a.heap.size (if aR=l-n+1 then some ⟨ba,oa,none⟩ else(some ⟨ba,oa,none⟩:Option Addr).map (fun x=>x.add (l-n+1))) ((C8 .u32 (A9 X)).drop (l-n+1)):=ak.out.cut (by rw[zmh,O.out];exact c5);clear cg a4;by_cases a3:aR=l-n+1
  ·rw[if_pos a3] at hcut;have aG:=c hcut;clear hcut;subst a3;have cr:(A9 X).drop (l-n+1)=[]:=List.drop_eq_nil_of_le (by rw[O.out];omega);have cQ:=c cr;clear cr;go_region_law (fail)
   all_goals
    go_wp2_with fail
    go_meet
    rw[cQ.out]
    exact OverSt.both aQ.out
  ·rw[if_neg a3] at hcut;simp only[Option.map_some,Addr.add_lit] at hcut;have aG:=c hcut;clear hcut;go_region_law ((refine zz1418 (lo:=0) (hi:=a.heap.size) (v:= .slice none 0 0) (xs:=[]) (A:=some ⟨ba,oa+(l-n+1),none⟩) (m:=l-(l-n+1)) (c:=aR-(l-n+1)) U9 rfl (.tmp 52) (.tmp 59) rfl (by simp[Act.eval,Act.put]) (Own.nil _ _ _) (by simp[Act.eval,Act.put]) bF.out.1 (by first|(with_reducible exact aG.out.drew)|(with_reducible exact(aG.out.alloc (b _) _).drew)) bF.out.2 (by simp only[List.length_nil];omega) (b _) ?_;intro o wr cs ad eN))
   all_goals
    go_wp2_with fail
    go_meet
    first
     |(with_reducible exact OverSt.makeFirst aQ.out (by rw[yfe];exact cs) ad)
     |(with_reducible exact OverSt.appFirst aQ.out (by rw[yfe];exact cs) ad)
 case rest=>
  obtain⟨E,lo,N,rfl,H,bQ,bT,aC,aB,ae,I⟩:=hcut;have bV:e (val ((A9 X).drop (l-n+1))<t):=(by have W:=ygt (M4 X) (k:=l-n+1) (n:=n-1) (by rw[O.out];omega);have aV:pw (n-1)<=t:=lim_len_lt.1 (by rw[S.out];omega);unfold e;omega);have bU:IsN wc lo N u5 (val ((A9 X).drop (l-n+1))):=(by unfold IsN;rw[ysn];exact bT);have dL:=c ak.out;clear bT aH aI bD bE;go_wp2_with fail
  go_loopw [5,9] (fun aD bn wr=>∃(v:Nat) (M:List Nat) (R lo N:Nat),v<=l-n+1/\bn= .int .i64 ((v:Int)-1)/\Row wr E 140 (C8 .u32 M)/\IsN wr lo N aD R/\(E<lo\/N<=E)/\a.heap.size<=lo/\N<=wr.heap.size/\f a.heap.size a wr/\
   e (M.length=l-n+1/\Lo M/\R<t/\val ((A9 X).drop v)=t*val (M.drop v)+R/\(v<l-n+1->WrN wr (E+1) aD R))) (fun _ bn _=>(intOf bn+1).toNat)
  case atStart=>exact⟨l-n+1,_,_,lo,N,b _,zrp og,H,bU,aC,aB,ae,I,by simp,zrw _,bV.out,by rw[show(List.replicate (l-n+1) 0).drop (l-n+1)=[] from by simp,zpy,Nat.mul_zero,Nat.zero_add],fun h=>absurd h (Nat.lt_irrefl _)⟩
  case round=>
   clear H bU aC aB ae I bV;obtain⟨v,M,R,lo,N,ez,rfl,H,aX,aC,aB,ae,I,hrel⟩:=hrel;rcases v with _|v
   ·obtain⟨aE,aS,rfl,eo,c6,Z⟩:=(hrel.out.2.2.2.2 og).wl;have K:=c (hrel.out);have eA:e (∀s,(A9 R).getD s 0=(A9 R).getD s 0):=fun _=>rfl;have dT:e ((A9 R).length=(A9 R).length/\Lo (A9 R)):=⟨rfl,M4 R⟩;have bX:(A9 R).length<=n:=(by rw[<-S.out];exact W9 (Nat.le_of_lt hrel.out.2.2.1));clear hrel aX aC aB ae;go_wp2_with fail;have dp:(0:Int)<=C-1:=og
    go_loopw [13,14] (fun dz bm aj=>∃(u:Nat) (L:List Nat) (Q:Int),u<=L.length/\bm= .int .i64 ((u:Int)-1)/\dz= .int .u64 Q/\0<=Q/\Q<=C-1/\Wl aj (E+1) aE L/\Row aj E 140 (C8 .u32 M)/\f a.heap.size a aj/\
     e (L.length=(A9 R).length/\Lo L/\(∀s,s<u->L.getD s 0=(A9 R).getD s 0)/\(val ((A9 R).drop u):Int)=val (L.drop u)*C+Q)) (fun _ bm _=>(intOf bm+1).toNat)
    case atStart=>exact⟨(A9 R).length,A9 R,0,b _,rfl,rfl,Int.le_refl _,dp,Z,H,I,rfl,M4 R,fun _ _=>rfl,by simp[val]⟩
    case round=>
     clear Z H I;obtain⟨u,L,Q,N,rfl,rfl,cu,cv,Z,H,I,hrel⟩:=hrel;rcases u with _|u
     ·have a6:=yml og cu cv hrel.out.2.2.2;rw[R7] at a6;have c7:L.length<=aS:=(by have:=hrel.out.1;omega);have hr:IsL .u32 wr (E+1) wr.heap.size (.slice aE L.length aS) L:=Z.isL c7 c6;rw[hrel.out.1] at hr;have J:IsL .u32 wr E (E+1) (.slice (some ⟨E,0,none⟩) (l-n+1) (l-n+1)) M:=(by have:=H.sv;exact⟨_,_,by rw[K.out.1],by rw[K.out.1];exact b _,by unfold maxLen;omega,this⟩);obtain⟨cS,cR⟩:=C5 hr J;have c0:=H.lt;have cP:=c a6;have an:=c hrel.out.2.1;have cf:=ygp (a:=x) (b:=y) (q:=val M) (u:=R) (f:=C.toNat) og (by rw[<-bx.out];exact K.out.2.2.1) (by have:=K.out.2.2.2.1;rw[List.drop_zero,List.drop_zero,R7] at this;rw[<-cN.out,<-bx.out,this];omega);have bG:=c cf;clear cf a6 hr J H Z hrel;go_wp2_with fail;refine(zzj cR.out K.out.2.1).mono ?_;rintro F cJ ⟨⟨dC,rfl,dq⟩,rfl⟩;go_wp2_with fail;refine(zzj cS.out an.out).mono ?_;rintro F cJ ⟨⟨o,rfl,dr⟩,rfl⟩;go_wp2_with fail;go_ret2;refine⟨⟨dC,o,rfl,?_,?_⟩,aJ.out.trans (I.mono aJ.out.size)⟩
      ·rw[<-bG.out.1];exact dq.wide (by have:=aJ.out.size;omega) c0
      ·rw[<-bG.out.2,<-cP.out.1];exact dr.wide (m _) (b _)
     ·have P:((u+1:Nat):Int)-1=(u:Int):=og;rw[P];clear P;obtain⟨bM,sp,rfl,dc,a8⟩:=Z (by rintro rfl;simp at N);obtain⟨z,ag,bh,cE⟩:=a8.numS (i:=u) og;have dv:z<=999999999:=(by have:=zpc hrel.out.2.1 u;have:=ag.out;omega);have dx:=a8.frozen u;have J:=ymk cu cv bh dv;have dh:=J.1;have eI:=J.2.1;have di:=J.2.2.1;have dj:=J.2.2.2;clear J;have db:wr.cell? ⟨aT,aU,none⟩=some (.int .u32 C):=(I.cell (p:=⟨aT,aU,none⟩) aN.out.1).trans aN.out.2;have dd:u<(A9 R).length:=(by have:=hrel.out.1;omega);have dS:(C==0)=false:=beq_eq_false_iff_ne.2 og;have ev:(wr.setCell ⟨bM,u,none⟩ (.int .u32 ((Q*1000000000+z)/C))).cell? ⟨aT,aU,none⟩=some (.int .u32 C):=(by rw[World.cell?_setCell_other _ _ _ _ (by have:=aN.out.1;simp only[ne_eq,Addr.mk.injEq,not_and];omega)];exact db);go_wp2;go_roundw;(case rel=>refine⟨u,L.set u ((Q*1000000000+z)/C).toNat,(Q*1000000000+z)%C,by rw[List.length_set];omega,rfl,rfl,di,dj,fun _=>⟨bM,sp,rfl,dc,a8.setS u _ og _ og⟩,H.far (by simp only;omega) _,I.setCell (by simp only;omega) _,?_⟩;have dw:z=((A9 R).getD u 0:Nat):=(by rw[<-hrel.out.2.2.1 u (Nat.lt_succ_self _)];exact ag.out);refine⟨by rw[List.length_set];exact hrel.out.1,W5 hrel.out.2.1 og,fun s cl=> ?_,ymn dd hrel.out.1 dw dh hrel.out.2.2.2⟩;rw[getD_set_ne og];exact hrel.out.2.2.1 s og);case measure=>simp[intOf]
   ·have P:((v+1:Nat):Int)-1=(v:Int):=og;rw[P];clear P;have bN:=(ak.out.below I (b _));obtain⟨ba,oa,cZ,_,c4,cb⟩:=bN (M5 (j:=v) (by rw[O.out];omega));subst cZ;obtain⟨T,c2,ee,eg,eh⟩:=W4 (j:=v) (M4 X) cb (by rw[O.out];omega);have cL:=c aX;have bX:e ((A9 R).length<=n):=(by rw[<-S.out];exact W9 (Nat.le_of_lt hrel.out.2.2.1));obtain⟨aE,aS,rfl,en,ep,bZ⟩:=aX;have bw:=c bZ;have dV:=bX.out;clear cb bN bZ;go_wp2_with (at_builtin;refine yej U9 rfl _ _ rfl rfl (yyk wr T T.toNat og) rfl (zmh _ _) (bw.out.alloc ae _) (yap _ _) (by simp only[zmh,List.length_cons,List.length_nil];omega) (by simp) ?_;intro dB ai ct b5 du);have bR:IsL .u32 ai wr.heap.size ai.heap.size dB (T.toNat::A9 R):=(by have:=ct;rw[<-yqh] at this;exact Own.isL this);have cm:Lo (T.toNat::A9 R):=lo_cons.2 ⟨by omega,M4 R⟩;have aA:f wr.heap.size wr ai:=((g _ wr).alloc (b _) _).trans b5;obtain⟨bv,an⟩:=C5 bR cm;clear ct b5 du bR cm cL bw;refine(zzj bv.out an.out).mono ?_;rw[yrh];have aY:=yrg (a:=T.toNat) (R:=R) (B:=t) og hrel.out.2.2.1;have c1:e ((A9 X).getD v 0+1000000000*R=T.toNat+1000000000*R):=(by have:=c2.out;unfold e;omega);generalize T.toNat+1000000000*R=D at*;have bd:=yvx (R:=D) (B:=t) (n:=n-1) (by rw[S.out];omega) aY;have dU:(A9 D).length<=n+1:=(by have:=bd.1;omega);have bY:=c bd.2;have cM:=c aY;clear bd aY bv an;rintro F e8 ⟨⟨e0,rfl,cz⟩,rfl⟩;have aP:=c cz;obtain⟨dH,dP,rfl,_,_,cY⟩:=cz;have K:=c (hrel.out);clear hrel;go_wp2_with fail;go_loop [10,11] (fun dy bi=>∃(s q:Nat),s<=(A9 D).length/\dy= .int .u64 (q:Int)/\bi= .int .i64 ((s:Int)-1)/\(n-1<=s\/s=(A9 D).length)/\e (q=val ((A9 D).drop s))) (fun _ bi=>(intOf bi+1).toNat);case atStart=>exact⟨(A9 D).length,0,b _,rfl,rfl,.inr rfl,by rw[e,List.drop_length];rfl⟩
    case round=>
     obtain⟨s,q,cl,rfl,rfl,de,J⟩:=hrel;rcases r (n-1) s with ey|ew
     ·rcases s with _|s
      ·omega
      ·have P:((s+1:Nat):Int)-1=(s:Int):=og;rw[P];clear P;obtain⟨dN,eY,rfl,_,_,ca⟩:=cY (M5 (j:=s) cl);obtain⟨z,ag,bh,eW,cE⟩:=W4 (j:=s) (M4 D) ca og;clear ca;have eK:q<=999999999:=(by have W:=ygt (M4 D) (k:=s+1) (n:=1) og;rw[zur,<-J.out] at W;omega);go_wp2;go_round;(case rel=>refine⟨s,q*1000000000+z.toNat,by omega,by go_num,by go_num,.inl og,?_⟩;have W:=zsj (l:=A9 D) (k:=s) og;have:=J.out;have:=ag.out;unfold e;omega);case measure=>simp[intOf]
     ·have bf:e (q=D/pw (n-1)):=yvv J.out og;have eJ:q<1000000000000000000:=(by rw[bf.out];exact bY.out);have dk:0<=(q:Int)/G:=Int.ediv_nonneg og og;have ec:(G==0)=false:=beq_eq_false_iff_ne.2 og
      have hg:e (∀d:Nat,(d=999999999\/(d:Int)=(q:Int)/G)->D<(d+1)*t):=by
       intro d hd;refine yuu (n:=n-1) (by rw[S.out];omega) cM.out ?_;rcases hd with hd|hd
       ·exact .inl hd
       ·right;rw[<-bf.out];have:=b0.out;rw[this] at hd;exact_mod_cast hd
      have eF:¬n<=s:=og;have eG:(n:Int)-1>(s:Int)-1:=og;have eL:(q:Int)/G<1000000000000000000:=Int.ediv_lt_of_lt_mul og (by have:=Int.mul_le_mul_of_nonneg_left (a:=1) (b:=G) (c:=1000000000000000000) og og;omega);have eT:IntKind.u64.wrap ((q:Int)/G)=(q:Int)/G:=IntWalk.u64_in _ og
      have hst:e (∃d0:Nat,d0<=999999999/\D<(d0+1)*t/\((q:Int)/G<=999999999->(q:Int)/G=d0)/\(999999999<(q:Int)/G->d0=999999999)):=by
       by_cases be:(q:Int)/G<=999999999
       ·obtain⟨d0,cd⟩:=Int.eq_ofNat_of_zero_le dk;exact⟨d0,by omega,hg.out d0 (.inr cd.symm),fun _=>cd,fun h=>by omega⟩
       ·exact⟨999999999,b _,hg.out _ (.inl rfl),fun h=>absurd h be,fun _=>rfl⟩
      have V:=c (I.trans (aA.mono I.size));clear hg bY bf de;by_cases be:(q:Int)/G<=999999999
      all_goals
       go_wp2
       go_loopw [12] (fun bj aj=>∃d:Nat,bj= .int .u64 (d:Int)/\d<=999999999/\f ai.heap.size ai aj/\e (D<(d+1)*t)) (fun bj _=>(intOf bj).toNat)
       case atStart=>
        obtain⟨d0,W,aV,cW,cX⟩:=hst.out
        first
         |exact⟨d0,by rw[cW be],W,g _ _,aV⟩
         |exact⟨d0,by rw[cX og];rfl,W,g _ _,aV⟩
       case round=>
        clear hst
        obtain⟨d,rfl,er,au,c9⟩:=hrel
        have eS:IntKind.u32.wrap (d:Int)=(d:Int):=IntWalk.u32_in _ og
        obtain⟨bt,cU⟩:=C5 (al.out.upB (V.out.trans (au.mono (V.out.size)))) (aP.out.upB au)
        go_wp2_with fail
        refine(ydx wr (d:Int) og og).mono ?_
        rintro F e9 ⟨⟨e6,rfl,U⟩,aZ⟩
        rw[Int.toNat_natCast] at U
        have bJ:=c U
        clear U
        go_wp2_with fail
        refine(zqx (bt.out.upB aZ) bJ.out (b _) (b _) (by rw[S.out];omega) (by have:=lim_len_le (n:=d) (k:=1);rw[zur] at this;omega)).mono ?_
        rintro F dD ⟨⟨e4,rfl,af⟩,b7⟩
        have aO:=c (af.wide (lo':=0) (m _) (b _))
        have av:=below_trans' au (below_trans' aZ b7)
        clear af bJ
        go_wp2_with fail
        refine(zwm aO.out (aP.out.upB av)).mono ?_
        rintro F fa ⟨rfl,cG,rfl⟩
        rcases r D (t*d) with a9|Y
        ·rw[ztm a9]
         clear aO
         have a5:=ysf a9
         have a4:=a5.1
         have cO:=c a5.2
         clear a5 a9
         have eU:IntKind.u64.wrap ((d:Int)-1)=(d:Int)-1:=IntWalk.u64_in _ og
         go_wp2_with fail
         go_roundw
         case rel=>
          exact⟨d-1,by go_num,by omega,below_drewN av _,cO.out⟩
         case measure=>simp[intOf];omega
        ·have eO:X6 (t*d) D<=0:=by unfold X6;split<;>(try split)<;>omega
         generalize X6 (t*d) D=eZ at*
         have a1:=below_drewN av cG
         obtain⟨bu,aa⟩:=C5 (al.out.upB (V.out.trans (a1.mono (V.out.size)))) Y
         clear aO au av aZ b7 bt cU Y
         go_wp2_with fail
         refine(ydx (dD.drewN cG) (d:Int) og og).mono ?_
         rintro F fb ⟨⟨e7,rfl,U⟩,a0⟩
         rw[Int.toNat_natCast] at U
         have bK:=c U
         clear U
         go_wp2_with fail
         refine(zqx (bu.out.upB a0) bK.out (b _) (b _) (by rw[S.out];omega) (by have:=lim_len_le (n:=d) (k:=1);rw[zur] at this;omega)).mono ?_
         rintro F cK ⟨⟨e5,rfl,af⟩,ad⟩
         have bI:=c (af.wide (lo':=0) (m _) (b _))
         have ay:=below_trans' a1 (below_trans' a0 ad)
         clear af bK
         go_wp2_with fail
         refine(ylo (aP.out.upB ay) bI.out (b _) (b _) aa.out og).mono ?_
         rintro F dE ⟨⟨o,rfl,cD⟩,b8⟩
         have cV:=c cD
         have a2:=below_trans' ay b8
         have bg:Row dE E 140 (C8 .u32 M):=((aA.trans (a2.mono aA.size)).block E H.lt).trans H
         obtain⟨z,ag,bh,cE⟩:=bg.num (i:=v) (by rw[K.out.1];omega)
         have dx:=bg.frozen v
         have ao:E<cK.heap.size:=Nat.lt_of_lt_of_le H.lt (p aA.size ay.size)
         have c3:=V.out.trans (a2.mono V.out.size)
         clear cD b8 a2 ay bI bu a0 ad a1
         go_wp2_with fail
         go_roundw
         case rel=>
          have hd:=ysg (R:=D) (B:=t) (d:=d) (by rw[Nat.mul_comm];exact aa.out) c9.out
          have cC:=cV.out.setFar (p:=⟨E,v,none⟩) ao (.int .u32 (d:Int))
          refine⟨v,M.set v d,D-t*d,cK.heap.size,_,by omega,by go_num,bg.setNum v d _ rfl,cC.isN,.inl ao,p bQ (Nat.le_of_lt ao),b _,c3.setCell bQ _,?_⟩
          refine⟨by rw[List.length_set];exact K.out.1,W5 K.out.2.1 og,by rw[Nat.mul_comm];exact hd.1,?_,fun _=>cC.mono ao⟩
          rw[Nat.mul_comm t d]
          exact yyi (by rw[O.out];omega) (by rw[K.out.1];omega) K.out.2.2.2.1 c1.out (by rw[Nat.mul_comm];exact aa.out)
         case measure=>simp[intOf]
theorem ydr {w:World} {x y:Nat} (ha:IsN w 0 w.heap.size i x) (a:IsN w 0 w.heap.size j y) (e:0<y) (d:(A9 x).length<=2000000000):
 Calls Tryz.prog 145 #[i,j] w fun c w'=>(∃q b,c= .returned (.tuple #[q,b])/\IsN w' w.heap.size w'.heap.size q (x/y)/\IsN w' 0 w'.heap.size b (x%y))/\f w.heap.size w w':=by
 rcases r x y with h|h
 ·exact zz1387 ha a h
 ·exact zz1385 ha a h e d
theorem zz1386 {w:World} {x y:Nat} (ha:IsN w 0 w.heap.size i x) (k:IsN w 0 w.heap.size j y) (t:0<y) (s:(A9 x).length<=2000000000):
 Calls Tryz.prog 145 #[i,j] w fun h w'=>(∃q a,h= .returned (.tuple #[q,a])/\IsN w' 0 w'.heap.size q (x/y)/\IsN w' 0 w'.heap.size a (x%y))/\f w.heap.size w w':=
 (ydr ha k t s).mono fun h w' ⟨⟨q,a,l,n,hr⟩,o⟩=>⟨⟨q,a,l,n.wide (m _) (b _),hr⟩,o⟩
theorem ywk {a:Nat} (h:0<a):1<=(A9 a).length:=by have:=lim_nil_iff (n:=a);omega
theorem ylg {w:World} {x y:Nat} (ha:IsN w 0 w.heap.size i x) (t:IsN w 0 w.heap.size j y) (J:(A9 x).length<=2000000000) (K:(A9 y).length<=2000000000):
 Calls Tryz.prog 141 #[i,j] w fun o w'=>(∃v,o= .returned v/\IsN w' 0 w'.heap.size v (Nat.gcd x y))/\f w.heap.size w w':=by
 obtain⟨E,F⟩:=C5 ha t;obtain⟨A,P,rfl,_,_,_⟩:=ha;obtain⟨B,d,rfl,_,_,_⟩:=t;go_in;go_wp2_with fail;go_loopw [0,1] (fun M l wr=>∃X a:Nat,IsN wr 0 wr.heap.size M X/\IsN wr 0 wr.heap.size l a/\f w.heap.size w wr/\e (Nat.gcd X a=Nat.gcd x y/\(A9 X).length<=2000000000/\(A9 a).length<=2000000000)) (fun _ l wr=>numOf wr l);case atStart=>exact⟨x,y,E.out,F.out,g _ _,rfl,J,K⟩
 case round=>
  obtain⟨X,a,r,s,z,hrel⟩:=hrel;obtain⟨m,k⟩:=C5 r s;obtain⟨O,Q,rfl,_,_,_⟩:=r;obtain⟨C,H,rfl,_,_,_⟩:=s;rcases Nat.eq_zero_or_pos a with b|b
  ·have I:(A9 a).length=0:=(by rw[b,N6];rfl);have G:e (X=Nat.gcd x y):=(by have:=hrel.out.1;rw[b,Nat.gcd_zero_right] at this;exact this);clear hrel b;go_wp2_with fail;go_ret;refine⟨⟨_,rfl,?_⟩,z⟩;rw[<-G.out];exact m.out
  ·have I:=ywk b;have h:=c b;clear b;go_wp2_with fail;refine(zz1386 m.out k.out h.out hrel.out.2.1).mono ?_;rintro o N ⟨⟨q,L,rfl,_,hr⟩,u⟩;obtain⟨n,D⟩:=C5 hr (k.out.up u);clear hr;go_wp2_with fail;go_roundw;(case rel=>refine⟨a,X%a,D.out,n.out,zrg z u,?_,hrel.out.2.2,p (W9 (Nat.le_of_lt (Nat.mod_lt _ h.out))) hrel.out.2.2⟩;rw[<-hrel.out.1,Nat.gcd_comm X a,Nat.gcd_rec a X,Nat.gcd_comm]);case measure=>show numOf N L<numOf wr (.slice C (A9 a).length H);rw[zuo n.out,zuo k.out];exact Nat.mod_lt _ h.out
end Go.Proofs.YtlhhbccgfkhflaaGreatDoor
