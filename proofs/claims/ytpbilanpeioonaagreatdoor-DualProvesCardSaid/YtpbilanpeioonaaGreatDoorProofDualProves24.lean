/-
 The contract of the reference's Over:long division.
-/
import Derived.Test.YtpbilanpeioonaaGreatDoorProofDualProves23
import Derived.Deep.DeepCutAuto
namespace Go.Proofs.YtpbilanpeioonaaGreatDoor
open Go.RowKit
set_option linter.unusedVariables false
set_option maxRecDepth 100000
set_option maxHeartbeats 8000000
open _root_.Go.Lib renaming hid → c
open _root_.Nat renaming le_refl → e, le_trans → f, lt_or_ge → D, zero_le → u
open _root_.Go.RowKit.Below renaming refl → s
open _root_.Go.World renaming size_alloc → d
open _root_.Go renaming World → o, Calls → m
open _root_.Go.RowKit renaming Below → g, Hid → b
open _root_.Go.Proofs.Tryz renaming prog → k
variable {N base n : Nat} {l : List Nat} {i j q : Rat} {v p r C : Value} {a wr : o} {t : Array Value}
theorem yfj (w:o) (n:Int) (i:0<=n) (p:n<=999999999):
 m k 181 #[.int .u32 n] w fun b w'=>(∃v,b= .returned v/\IsN w' w.heap.size w'.heap.size v n.toNat)/\g w.heap.size w w':=by obtain⟨a,rfl⟩:=Int.eq_ofNat_of_zero_le i;have h:=ydk .u32 w 118 [a] (by simp[maxLen]);have j:IsL .u32 (w.alloc (.cells #[.int .u32 (a:Int)] 118)) w.heap.size (w.heap.size+1) (.slice (some ⟨w.heap.size,0,none⟩) 1 1) [a]:=h;have f:=c j;go_in;go_wp2_with fail;refine(yas f.out (by intro x l;simp at l;omega)).mono ?_;rintro b q ⟨⟨v,rfl,hv⟩,rfl⟩;go_wp2_with fail;go_ret;refine⟨⟨_,rfl,?_⟩,(s _ _).alloc (e _) _⟩;rw[d,Int.toNat_natCast];have b:val [a]=a:=(by simp[val]);rw[b] at hv;exact hv
theorem IsN.upB {w w':o} {b:Nat} (h:IsN w b w.heap.size v n) (a:g w.heap.size w w'):IsN w' 0 w'.heap.size v n:=(h.below a (e _)).wide (u _) a.size
theorem zz1352 (w:o) (x:Int) (n:Nat) (h:x=(n:Int)):Own (w.alloc (.cells #[.int .u32 x] 118)) w.heap.size 118 (.slice (some ⟨w.heap.size,0,none⟩) 1 1) (E7 .u32 [n]):=by subst h;refine⟨by simp[E7],.inr ⟨w.heap.size,1,#[.int .u32 (n:Int)],rfl,e _,heap_alloc_new w _,by simp[E7],by unfold maxLen;omega,rfl,by simp[E7]⟩⟩
def Wl (w:o) (base:Nat) (A:Option Addr) (b:List Nat):Prop:=b≠[]->∃a sp,A=some ⟨a,0,none⟩/\base<=a/\Row w a 118 (E7 .u32 b++sp)
theorem WrN.wl {w:o} (h:WrN w base v n):∃A cap,v= .slice A (A9 n).length cap/\(A9 n).length<=cap/\cap<=maxLen/\Wl w base A (A9 n):=by
 rcases h with⟨rfl,rfl⟩|⟨b,cap,a,rfl,f,hr,g,c,d⟩
 ·exact⟨none,0,by rw[O7];rfl,by rw[O7];exact e _,u _,fun h=>absurd O7 h⟩
 ·refine⟨_,cap,rfl,c,d,fun _=>⟨b,a.drop (A9 n).length,rfl,f,?_⟩⟩;rw[<-g,List.take_append_drop];exact hr
theorem Wl.isL {w:o} {A:Option Addr} {a:List Nat} {b:Nat} (h:Wl w base A a) (e:a.length<=b) (f:b<=maxLen):IsL .u32 w base w.heap.size (.slice A a.length b) a:=by refine⟨A,b,rfl,e,f,fun i=> ?_⟩;obtain⟨d,sp,rfl,g,hr⟩:=h (by rintro rfl;exact i rfl);refine⟨d,0,rfl,g,hr.lt,fun j k c=> ?_⟩;rw[Nat.zero_add,hr.cell,List.getElem?_append_left (List.getElem?_eq_some_iff.1 c).1];exact c
def OverSt (a c:o) (N:Nat) (l:List Nat) (f h:Value):Prop:=∃(b e d:Nat),f= .slice (some ⟨b,0,none⟩) N N/\Row c b 118 (E7 .u32 (List.replicate N 0))/\a.heap.size<=b/\IsL .u32 c e d h l/\(b<e\/d<=b)/\a.heap.size<=e/\d<=c.heap.size/\g a.heap.size a c
theorem OverSt.both (b:t=(E7 .u32 (List.replicate N 0)).toArray):OverSt a (a.alloc (.cells t 118)).drew N [] (.slice (some ⟨a.heap.size,0,none⟩) N N) (.slice none 0 0):=by
 subst b;refine⟨a.heap.size,a.heap.size+1,a.heap.size+1,rfl,?_,e _,IsL.nil,.inl og,by omega,?_,?_⟩
 ·exact heap_alloc_new a _
 ·show _<=(a.alloc _).heap.size;rw[d];omega
 ·exact below_drewN ((s _ a).alloc (e _) _) 1
theorem OverSt.makeFirst (i:t=(E7 .u32 (List.replicate N 0)).toArray) (f:Own wr (a.alloc (.cells t 118)).drew.heap.size 118 C ([]++E7 .u32 l)) (c:g (a.alloc (.cells t 118)).drew.heap.size (a.alloc (.cells t 118)).drew wr):
 OverSt a wr N l (.slice (some ⟨a.heap.size,0,none⟩) N N) C:=by subst i;have b:(a.alloc (.cells (E7 .u32 (List.replicate N 0)).toArray 118)).drew.heap.size=a.heap.size+1:=d _ _;have h:g a.heap.size a (a.alloc (.cells (E7 .u32 (List.replicate N 0)).toArray 118)).drew:=below_drewN ((s _ a).alloc (e _) _) 1;rw[List.nil_append] at f;refine⟨a.heap.size,_,_,rfl,?_,e _,Own.isL f,.inl (by rw[b];omega),by rw[b];omega,e _,h.trans (c.mono (by rw[b];omega))⟩;exact(c.block a.heap.size (by rw[b];omega)).trans (heap_alloc_new a _)
theorem OverSt.appFirst (h:t=(E7 .u32 (List.replicate N 0)).toArray) (c:Own wr a.drew.heap.size 118 C ([]++E7 .u32 l)) (f:g a.drew.heap.size a.drew wr):
 OverSt a (wr.alloc (.cells t 118)) N l (.slice (some ⟨wr.heap.size,0,none⟩) N N) C:=by subst h;rw[List.nil_append] at c;have b:g a.heap.size a wr:=(below_drewN (s _ a) 1).trans f;refine⟨wr.heap.size,a.heap.size,wr.heap.size,rfl,heap_alloc_new wr _,b.size,?_,.inr (e _),e _,by rw[d];omega,b.alloc b.size _⟩;exact(Own.isL c).below ((s _ wr).alloc (e _) _) (e _)
theorem zz1430 {w:o} {x y:Nat} (ha:IsN w 0 w.heap.size p x) (f:IsN w 0 w.heap.size r y) (a:x<y):
 m k 148 #[p,r] w fun e w'=>(∃q h,e= .returned (.tuple #[q,h])/\IsN w' w.heap.size w'.heap.size q (x/y)/\IsN w' 0 w'.heap.size h (x%y))/\g w.heap.size w w':=by obtain⟨b,i⟩:=C7 ha f;obtain⟨A,l,rfl,_,_,_⟩:=ha;obtain⟨B,d,rfl,_,_,_⟩:=f;rw[Nat.div_eq_of_lt a,Nat.mod_eq_of_lt a];have j:=c (zqu a);go_in;go_wp2_with fail;refine(zxu b.out i.out).mono ?_;rw[j.out];rintro e n ⟨rfl,q,rfl⟩;go_wp2_with fail;go_ret2;exact⟨⟨_,_,rfl,IsN.zero,b.out.drewN q⟩,below_drewN (s _ _) q⟩
theorem zz1428 {w:o} {x y:Nat} (ha:IsN w 0 w.heap.size p x) (b8:IsN w 0 w.heap.size r y) (ab:y<=x) (dx:0<y) (eZ:(A9 x).length<=2000000000):
 m k 148 #[p,r] w fun I w'=>(∃q cL,I= .returned (.tuple #[q,cL])/\IsN w' w.heap.size w'.heap.size q (x/y)/\IsN w' 0 w'.heap.size cL (x%y))/\g w.heap.size w w':=by
 obtain⟨aK,aL⟩:=C7 ha b8;have eF:1<=(A9 y).length:=(by have:=lim_nil_iff (n:=y);omega);have dw:=Y5 ab;obtain⟨A,dS,rfl,_,_,_⟩:=ha;obtain⟨B,d,rfl,_,_,bU⟩:=b8;have eQ:0<=V8 x y:=(by unfold V8;rw[if_neg og];split<;>omega);generalize cA:V8 x y=sg at*;have cX:=c cA;obtain⟨bb,ob,rfl,_,_,ch⟩:=bU (N0 (j:=(A9 y).length-1) og);obtain⟨ak,dr,eT,eU,cB⟩:=X7 (j:=(A9 y).length-1) (M5 y) ch og;have eV:1<=ak:=(by have:=yfo (B:=y) (n:=(A9 y).length-1) og;have:=dr.out;omega);have ey:1<=1000000000/(ak+1):=(by rw[Int.le_ediv_iff_mul_le og];omega);have ez:1000000000/(ak+1)<=500000000:=(by apply Int.ediv_le_of_le_mul og;omega);have cC:∀q,(w.drewN q).cell? ⟨bb,ob+((A9 y).length-1),none⟩=some (.int .u32 ak):=fun _=>cB;obtain⟨bP,ad,dQ⟩:=H7 cC ab dw;clear ch cB cC cA ab;go_in;go_wp2_with fail;refine(zxu aK.out aL.out).mono ?_;rw[cX.out];rintro I cM ⟨rfl,q,rfl⟩;have dc:=bP.out q;go_wp2_with fail;generalize hF:1000000000/(ak+1)=F at*;clear hF;refine(yfj (w.drewN q) F og og).mono ?_;rintro I cM ⟨⟨e7,rfl,hf⟩,b9⟩;have aC:g w.heap.size w cM:=(below_drewN (s _ w) q).trans b9;obtain⟨aN,bE,bF,bH⟩:=U2 (hf.wide (lo':=0) (u _) (e _)) (aK.out.upB aC) (aL.out.upB aC) aC;have bd:b ((A9 F.toNat).length<=1):=lim_len_le.2 (by rw[zvy];omega);clear hf b9 dc bP aC;go_wp2_with fail;refine(zsh bE.out aN.out (e _) (e _) og (oh bd)).mono ?_;rintro I cN ⟨⟨e5,rfl,cE⟩,av⟩;obtain⟨bv,aO,bG,bI⟩:=U2 (cE.wide (lo':=0) (u _) (e _)) (aN.out.upB av) (bF.out.upB av) (below_trans' bH.out av);clear cE av bE aN bF;go_wp2_with fail;refine(zsh bG.out aO.out (e _) (e _) og (oh bd)).mono ?_;rintro I a ⟨⟨e6,rfl,cF⟩,ay⟩;obtain⟨aq,bw,bL,aM⟩:=U2 (cF.wide (lo':=0) (u _) (e _)) (bv.out.upB ay) (aO.out.upB ay) (below_trans' bI.out ay);clear cF ay bv aO bG;obtain⟨X,ae⟩:=nm (x*F.toNat);obtain⟨l,af⟩:=nm (y*F.toNat);rw[<-ae] at bw;rw[<-af] at aq;have ei:0<l:=(by rw[af];exact Nat.mul_pos dx og);have b7:l<=X:=(by rw[ae,af];exact Nat.mul_le_mul_right _ ad.out);have eG:(A9 X).length<=2000000001:=(by rw[ae];have:=zzt x F.toNat;have:=bd.out;omega);have eL:=Y5 b7;have eI:1<=(A9 l).length:=(by have:=lim_nil_iff (n:=l);omega);obtain⟨cR,bD⟩:=C7 ae af;have dk:b (A9 F.toNat=[F.toNat]):=zvq og og;have aP:=bL.out;unfold IsN at aP;rw[dk.out] at aP;obtain⟨dM,dV,rfl,_,_,cq⟩:=aP;obtain⟨aW,aX,rfl,_,de,cm⟩:=cq (by simp[E7]);have cn:=cm 0 (.int .u32 F) (by simp[E7];omega);simp only[List.length_cons,List.length_nil,Nat.zero_add] at*;have aQ:=c (And.intro de cn);obtain⟨dK,aU,rfl,c9,eo,bT⟩:=bw.out;obtain⟨dN,dU,rfl,ep,er,aZ⟩:=aq.out;obtain⟨b2,e1,rfl,_,en,cd⟩:=aZ (N0 (j:=(A9 l).length-1) og);obtain⟨J,b5,ec,ed,eg⟩:=X7 (j:=(A9 l).length-1) (M5 l) cd og;obtain⟨ao,dO⟩:=C7 bT aZ;have ee:1<=J:=(by have:=yfo (B:=l) (n:=(A9 l).length-1) og;have:=b5.out;omega);generalize ct:(A9 X).length=i at*;generalize cu:(A9 l).length=n at*;obtain⟨S,U⟩:=C7 ct cu;clear ae af cm cn cd bT aZ ct cu cq bU b7 bL;go_wp2_with fail;go_cut [4,5] (fun dE aH dJ=>OverSt a dJ (i-n+1) ((A9 X).drop (i-n+1)) dE aH)
 case first=>
  have u1:IntKind.i64.wrap ((i:Int)-(n:Int))=(i:Int)-(n:Int):=IntWalk.i64_in _ og;have u2:IntKind.i64.wrap ((i:Int)-(n:Int)+1)=(i:Int)-(n:Int)+1:=IntWalk.i64_in _ og;obtain⟨t,cJ,eH⟩:=yyj k W5 ((i:Int)-(n:Int)+1) (i-n+1) og og;have aT:=c cJ;clear cJ;have u3:0<=(i:Int)-(n:Int)+1:=og;have u4:(i:Int)-(n:Int)+1<=(i:Int):=og;have u5:((i:Int)-(n:Int)+1).toNat=i-n+1:=og;have cl:((E7 .u32 (A9 X)).drop (i-n+1)).length=i-(i-n+1):=(by rw[List.length_drop,zmp,S.out]);have a7:∀bu∈(E7 .u32 (A9 X)).drop (i-n+1),bu.oneCell'=true:=fun bu ds=>yck _ _ bu (List.mem_of_mem_drop ds);have bJ:=c (And.intro cl a7);obtain⟨ba,oa,rfl,_,c8,_⟩:=ao.out (N0 (j:=0) (by rw[S.out];omega));have hcut:SV a 0 a.heap.size (if aU=i-n+1 then some ⟨ba,oa,none⟩ else(some ⟨ba,oa,none⟩:Option Addr).map (fun x=>x.add (i-n+1))) ((E7 .u32 (A9 X)).drop (i-n+1)):=ao.out.cut (by rw[zmp,S.out];exact c9);clear cl a7;by_cases a6:aU=i-n+1
  ·rw[if_pos a6] at hcut;have aJ:=c hcut;clear hcut;subst a6;have cv:(A9 X).drop (i-n+1)=[]:=List.drop_eq_nil_of_le (by rw[S.out];omega);have cU:=c cv;clear cv;go_region_law (fail)
   all_goals
    go_wp2_with fail
    go_meet
    rw[cU.out]
    exact OverSt.both aT.out
  ·rw[if_neg a6] at hcut;simp only[Option.map_some,Addr.add_lit] at hcut;have aJ:=c hcut;clear hcut;go_region_law ((refine zz1463 (lo:=0) (hi:=a.heap.size) (v:= .slice none 0 0) (xs:=[]) (A:=some ⟨ba,oa+(i-n+1),none⟩) (m:=i-(i-n+1)) (c:=aU-(i-n+1)) W5 rfl (.tmp 52) (.tmp 59) rfl (by simp[Act.eval,Act.put]) (Own.nil _ _ _) (by simp[Act.eval,Act.put]) bJ.out.1 (by first|(with_reducible exact aJ.out.drew)|(with_reducible exact(aJ.out.alloc (e _) _).drew)) bJ.out.2 (by simp only[List.length_nil];omega) (e _) ?_;intro C wr cw ag eR))
   all_goals
    go_wp2_with fail
    go_meet
    first
     |(with_reducible exact OverSt.makeFirst aT.out (by rw[yhh];exact cw) ag)
     |(with_reducible exact OverSt.appFirst aT.out (by rw[yhh];exact cw) ag)
 case rest=>
  obtain⟨H,Y,Q,rfl,K,bV,bY,aG,aE,ah,L⟩:=hcut;have b0:b (val ((A9 X).drop (i-n+1))<l):=(by have aa:=yiu (M5 X) (k:=i-n+1) (n:=n-1) (by rw[S.out];omega);have aY:pw (n-1)<=l:=lim_len_lt.1 (by rw[U.out];omega);unfold b;omega);have bZ:IsN wc Y Q u5 (val ((A9 X).drop (i-n+1))):=(by unfold IsN;rw[yua];exact bY);have dP:=c ao.out;clear bY aK aL bH bI;go_wp2_with fail
  go_loopw [5,9] (fun aH bt wr=>∃(E:Nat) (P:List Nat) (R Y Q:Nat),E<=i-n+1/\bt= .int .i64 ((E:Int)-1)/\Row wr H 118 (E7 .u32 P)/\IsN wr Y Q aH R/\(H<Y\/Q<=H)/\a.heap.size<=Y/\Q<=wr.heap.size/\g a.heap.size a wr/\
   b (P.length=i-n+1/\Lo P/\R<l/\val ((A9 X).drop E)=l*val (P.drop E)+R/\(E<i-n+1->WrN wr (H+1) aH R))) (fun _ bt _=>(intOf bt+1).toNat)
  case atStart=>exact⟨i-n+1,_,_,Y,Q,e _,zsz og,K,bZ,aG,aE,ah,L,by simp,ztd _,b0.out,by rw[show(List.replicate (i-n+1) 0).drop (i-n+1)=[] from by simp,zqz,Nat.mul_zero,Nat.zero_add],fun h=>absurd h (Nat.lt_irrefl _)⟩
  case round=>
   clear K bZ aG aE ah L b0;obtain⟨E,P,R,Y,Q,eD,rfl,K,a0,aG,aE,ah,L,hrel⟩:=hrel;rcases E with _|E
   ·obtain⟨aI,aV,rfl,eu,da,ac⟩:=(hrel.out.2.2.2.2 og).wl;have N:=c (hrel.out);have eE:b (∀j,(A9 R).getD j 0=(A9 R).getD j 0):=fun _=>rfl;have dX:b ((A9 R).length=(A9 R).length/\Lo (A9 R)):=⟨rfl,M5 R⟩;have b1:(A9 R).length<=n:=(by rw[<-U.out];exact Y5 (Nat.le_of_lt hrel.out.2.2.1));clear hrel a0 aG aE ah;go_wp2_with fail;have dt:(0:Int)<=F-1:=og
    go_loopw [13,14] (fun dD br an=>∃(v:Nat) (O:List Nat) (rs:Int),v<=O.length/\br= .int .i64 ((v:Int)-1)/\dD= .int .u64 rs/\0<=rs/\rs<=F-1/\Wl an (H+1) aI O/\Row an H 118 (E7 .u32 P)/\g a.heap.size a an/\
     b (O.length=(A9 R).length/\Lo O/\(∀j,j<v->O.getD j 0=(A9 R).getD j 0)/\(val ((A9 R).drop v):Int)=val (O.drop v)*F+rs)) (fun _ br _=>(intOf br+1).toNat)
    case atStart=>exact⟨(A9 R).length,A9 R,0,e _,rfl,rfl,Int.le_refl _,dt,ac,K,L,rfl,M5 R,fun _ _=>rfl,by simp[val]⟩
    case round=>
     clear ac K L;obtain⟨v,O,rs,Q,rfl,rfl,cy,cz,ac,K,L,hrel⟩:=hrel;rcases v with _|v
     ·have a9:=yod og cy cz hrel.out.2.2.2;rw[T7] at a9;have db:O.length<=aV:=(by have:=hrel.out.1;omega);have hr:IsL .u32 wr (H+1) wr.heap.size (.slice aI O.length aV) O:=ac.isL db da;rw[hrel.out.1] at hr;have M:IsL .u32 wr H (H+1) (.slice (some ⟨H,0,none⟩) (i-n+1) (i-n+1)) P:=(by have:=K.sv;exact⟨_,_,by rw[N.out.1],by rw[N.out.1];exact e _,by unfold maxLen;omega,this⟩);obtain⟨cW,cV⟩:=C7 hr M;have c4:=K.lt;have cT:=c a9;have ar:=c hrel.out.2.1;have ck:=yis (a:=x) (b:=y) (q:=val P) (u:=R) (f:=F.toNat) og (by rw[<-bD.out];exact N.out.2.2.1) (by have:=N.out.2.2.2.1;rw[List.drop_zero,List.drop_zero,T7] at this;rw[<-cR.out,<-bD.out,this];omega);have bK:=c ck;clear ck a9 hr M K ac hrel;go_wp2_with fail;refine(yas cV.out N.out.2.1).mono ?_;rintro I cN ⟨⟨dG,rfl,du⟩,rfl⟩;go_wp2_with fail;refine(yas cW.out ar.out).mono ?_;rintro I cN ⟨⟨C,rfl,dv⟩,rfl⟩;go_wp2_with fail;go_ret2;refine⟨⟨dG,C,rfl,?_,?_⟩,aM.out.trans (L.mono aM.out.size)⟩
      ·rw[<-bK.out.1];exact du.wide (by have:=aM.out.size;omega) c4
      ·rw[<-bK.out.2,<-cT.out.1];exact dv.wide (u _) (e _)
     ·have T:((v+1:Nat):Int)-1=(v:Int):=og;rw[T];clear T;obtain⟨bQ,sp,rfl,dh,bf⟩:=ac (by rintro rfl;simp at Q);obtain⟨z,aj,bn,cI⟩:=bf.numS (i:=v) og;have dz:z<=999999999:=(by have:=zpr hrel.out.2.1 v;have:=aj.out;omega);have dB:=bf.frozen v;have M:=yoc cy cz bn dz;have dm:=M.1;have eM:=M.2.1;have dn:=M.2.2.1;have dp:=M.2.2.2;clear M;have df:wr.cell? ⟨aW,aX,none⟩=some (.int .u32 F):=(L.cell (p:=⟨aW,aX,none⟩) aQ.out.1).trans aQ.out.2;have di:v<(A9 R).length:=(by have:=hrel.out.1;omega);have dW:(F==0)=false:=beq_eq_false_iff_ne.2 og;have eA:(wr.setCell ⟨bQ,v,none⟩ (.int .u32 ((rs*1000000000+z)/F))).cell? ⟨aW,aX,none⟩=some (.int .u32 F):=(by rw[World.cell?_setCell_other _ _ _ _ (by have:=aQ.out.1;simp only[ne_eq,Addr.mk.injEq,not_and];omega)];exact df);go_wp2;go_roundw;(case rel=>refine⟨v,O.set v ((rs*1000000000+z)/F).toNat,(rs*1000000000+z)%F,by rw[List.length_set];omega,rfl,rfl,dn,dp,fun _=>⟨bQ,sp,rfl,dh,bf.setS v _ og _ og⟩,K.far (by simp only;omega) _,L.setCell (by simp only;omega) _,?_⟩;have dA:z=((A9 R).getD v 0:Nat):=(by rw[<-hrel.out.2.2.1 v (Nat.lt_succ_self _)];exact aj.out);refine⟨by rw[List.length_set];exact hrel.out.1,X8 hrel.out.2.1 og,fun j cr=> ?_,yof di hrel.out.1 dA dm hrel.out.2.2.2⟩;rw[zoi og];exact hrel.out.2.2.1 j og);case measure=>simp[intOf]
   ·have T:((E+1:Nat):Int)-1=(E:Int):=og;rw[T];clear T;have bR:=(ao.out.below L (e _));obtain⟨ba,oa,c3,_,c8,cg⟩:=bR (N0 (j:=E) (by rw[S.out];omega));subst c3;obtain⟨V,c6,ej,ek,em⟩:=X7 (j:=E) (M5 X) cg (by rw[S.out];omega);have cP:=c a0;have b1:b ((A9 R).length<=n):=(by rw[<-U.out];exact Y5 (Nat.le_of_lt hrel.out.2.2.1));obtain⟨aI,aV,rfl,et,ev,b4⟩:=a0;have bC:=c b4;have dZ:=b1.out;clear cg bR b4;go_wp2_with (at_builtin;refine yfz W5 rfl _ _ rfl rfl (zz1352 wr V V.toNat og) rfl (zmp _ _) (bC.out.alloc ah _) (yck _ _) (by simp only[zmp,List.length_cons,List.length_nil];omega) (by simp) ?_;intro dF al cx ca dy);have bX:IsL .u32 al wr.heap.size al.heap.size dF (V.toNat::A9 R):=(by have:=cx;rw[<-yru] at this;exact Own.isL this);have cs:Lo (V.toNat::A9 R):=lo_cons.2 ⟨by omega,M5 R⟩;have aD:g wr.heap.size wr al:=((s _ wr).alloc (e _) _).trans ca;obtain⟨bB,ar⟩:=C7 bX cs;clear cx ca dy bX cs cP bC;refine(yas bB.out ar.out).mono ?_;rw[ysx];have a1:=ysw (a:=V.toNat) (R:=R) (B:=l) og hrel.out.2.2.1;have c5:b ((A9 X).getD E 0+1000000000*R=V.toNat+1000000000*R):=(by have:=c6.out;unfold b;omega);generalize V.toNat+1000000000*R=G at*;have bh:=yxj (R:=G) (B:=l) (n:=n-1) (by rw[U.out];omega) a1;have dY:(A9 G).length<=n+1:=(by have:=bh.1;omega);have b3:=c bh.2;have cQ:=c a1;clear bh a1 bB ar;rintro I fa ⟨⟨e4,rfl,cD⟩,rfl⟩;have aS:=c cD;obtain⟨dL,dT,rfl,_,_,c2⟩:=cD;have N:=c (hrel.out);clear hrel;go_wp2_with fail;go_loop [10,11] (fun dC bp=>∃(j q:Nat),j<=(A9 G).length/\dC= .int .u64 (q:Int)/\bp= .int .i64 ((j:Int)-1)/\(n-1<=j\/j=(A9 G).length)/\b (q=val ((A9 G).drop j))) (fun _ bp=>(intOf bp+1).toNat);case atStart=>exact⟨(A9 G).length,0,e _,rfl,rfl,.inr rfl,by rw[b,List.drop_length];rfl⟩
    case round=>
     obtain⟨j,q,cr,rfl,rfl,dj,M⟩:=hrel;rcases D (n-1) j with eC|eB
     ·rcases j with _|j
      ·omega
      ·have T:((j+1:Nat):Int)-1=(j:Int):=og;rw[T];clear T;obtain⟨dR,e2,rfl,_,_,cf⟩:=c2 (N0 (j:=j) cr);obtain⟨z,aj,bn,e0,cI⟩:=X7 (j:=j) (M5 G) cf og;clear cf;have eO:q<=999999999:=(by have aa:=yiu (M5 G) (k:=j+1) (n:=1) og;rw[zvy,<-M.out] at aa;omega);go_wp2;go_round;(case rel=>refine⟨j,q*1000000000+z.toNat,by omega,by go_num,by go_num,.inl og,?_⟩;have aa:=ztn (l:=A9 G) (k:=j) og;have:=M.out;have:=aj.out;unfold b;omega);case measure=>simp[intOf]
     ·have bj:b (q=G/pw (n-1)):=yxh M.out og;have eN:q<1000000000000000000:=(by rw[bj.out];exact b3.out);have dq:0<=(q:Int)/J:=Int.ediv_nonneg og og;have eh:(J==0)=false:=beq_eq_false_iff_ne.2 og
      have be:b (∀d:Nat,(d=999999999\/(d:Int)=(q:Int)/J)->G<(d+1)*l):=by
       intro d hd;refine yvt (n:=n-1) (by rw[U.out];omega) cQ.out ?_;rcases hd with hd|hd
       ·exact .inl hd
       ·right;rw[<-bj.out];have:=b5.out;rw[this] at hd;exact_mod_cast hd
      have eJ:¬n<=j:=og;have eK:(n:Int)-1>(j:Int)-1:=og;have eP:(q:Int)/J<1000000000000000000:=Int.ediv_lt_of_lt_mul og (by have:=Int.mul_le_mul_of_nonneg_left (a:=1) (b:=J) (c:=1000000000000000000) og og;omega);have eX:IntKind.u64.wrap ((q:Int)/J)=(q:Int)/J:=IntWalk.u64_in _ og
      have hst:b (∃d0:Nat,d0<=999999999/\G<(d0+1)*l/\((q:Int)/J<=999999999->(q:Int)/J=d0)/\(999999999<(q:Int)/J->d0=999999999)):=by
       by_cases bi:(q:Int)/J<=999999999
       ·obtain⟨d0,cj⟩:=Int.eq_ofNat_of_zero_le dq;exact⟨d0,by omega,be.out d0 (.inr cj.symm),fun _=>cj,fun h=>by omega⟩
       ·exact⟨999999999,e _,be.out _ (.inl rfl),fun h=>absurd h bi,fun _=>rfl⟩
      have Z:=c (L.trans (aD.mono L.size));clear be b3 bj dj;by_cases bi:(q:Int)/J<=999999999
      all_goals
       go_wp2
       go_loopw [12] (fun bq an=>∃d:Nat,bq= .int .u64 (d:Int)/\d<=999999999/\g al.heap.size al an/\b (G<(d+1)*l)) (fun bq _=>(intOf bq).toNat)
       case atStart=>
        obtain⟨d0,aa,aY,c0,c1⟩:=hst.out
        first
         |exact⟨d0,by rw[c0 bi],aa,s _ _,aY⟩
         |exact⟨d0,by rw[c1 og];rfl,aa,s _ _,aY⟩
       case round=>
        clear hst
        obtain⟨d,rfl,ew,az,dd⟩:=hrel
        have eW:IntKind.u32.wrap (d:Int)=(d:Int):=IntWalk.u32_in _ og
        obtain⟨bx,cY⟩:=C7 (aq.out.upB (Z.out.trans (az.mono (Z.out.size)))) (aS.out.upB az)
        go_wp2_with fail
        refine(yfj wr (d:Int) og og).mono ?_
        rintro I fb ⟨⟨vs,rfl,W⟩,a2⟩
        rw[Int.toNat_natCast] at W
        have bN:=c W
        clear W
        go_wp2_with fail
        refine(zsh (bx.out.upB a2) bN.out (e _) (e _) (by rw[U.out];omega) (by have:=lim_len_le (n:=d) (k:=1);rw[zvy] at this;omega)).mono ?_
        rintro I dH ⟨⟨vp,rfl,ai⟩,cb⟩
        have aR:=c (ai.wide (lo':=0) (u _) (e _))
        have aA:=below_trans' az (below_trans' a2 cb)
        clear ai bN
        go_wp2_with fail
        refine(zxu aR.out (aS.out.upB aA)).mono ?_
        rintro I fc ⟨rfl,cK,rfl⟩
        rcases D G (l*d) with bg|ab
        ·rw[zsj bg]
         clear aR
         have a8:=ytq bg
         have a7:=a8.1
         have cS:=c a8.2
         clear a8 bg
         have eY:IntKind.u64.wrap ((d:Int)-1)=(d:Int)-1:=IntWalk.u64_in _ og
         go_wp2_with fail
         go_roundw
         case rel=>
          exact⟨d-1,by go_num,by omega,below_drewN aA _,cS.out⟩
         case measure=>simp[intOf];omega
        ·have eS:V8 (l*d) G<=0:=by unfold V8;split<;>(try split)<;>omega
         generalize V8 (l*d) G=e3 at*
         have a4:=below_drewN aA cK
         obtain⟨bA,ad⟩:=C7 (aq.out.upB (Z.out.trans (a4.mono (Z.out.size)))) ab
         clear aR az aA a2 cb bx cY ab
         go_wp2_with fail
         refine(yfj (dH.drewN cK) (d:Int) og og).mono ?_
         rintro I fe ⟨⟨e9,rfl,W⟩,a3⟩
         rw[Int.toNat_natCast] at W
         have bO:=c W
         clear W
         go_wp2_with fail
         refine(zsh (bA.out.upB a3) bO.out (e _) (e _) (by rw[U.out];omega) (by have:=lim_len_le (n:=d) (k:=1);rw[zvy] at this;omega)).mono ?_
         rintro I cO ⟨⟨e8,rfl,ai⟩,ag⟩
         have bM:=c (ai.wide (lo':=0) (u _) (e _))
         have aB:=below_trans' a4 (below_trans' a3 ag)
         clear ai bO
         go_wp2_with fail
         refine(ynj (aS.out.upB aB) bM.out (e _) (e _) ad.out og).mono ?_
         rintro I dI ⟨⟨C,rfl,cH⟩,cc⟩
         have cZ:=c cH
         have a5:=below_trans' aB cc
         have bm:Row dI H 118 (E7 .u32 P):=((aD.trans (a5.mono aD.size)).block H K.lt).trans K
         obtain⟨z,aj,bn,cI⟩:=bm.num (i:=E) (by rw[N.out.1];omega)
         have dB:=bm.frozen E
         have au:H<cO.heap.size:=Nat.lt_of_lt_of_le K.lt (f aD.size aB.size)
         have c7:=Z.out.trans (a5.mono Z.out.size)
         clear cH cc a5 aB bM bA a3 ag a4
         go_wp2_with fail
         go_roundw
         case rel=>
          have hd:=ytr (R:=G) (B:=l) (d:=d) (by rw[Nat.mul_comm];exact ad.out) dd.out
          have cG:=cZ.out.setFar (p:=⟨H,E,none⟩) au (.int .u32 (d:Int))
          refine⟨E,P.set E d,G-l*d,cO.heap.size,_,by omega,by go_num,bm.setNum E d _ rfl,cG.isN,.inl au,f bV (Nat.le_of_lt au),e _,c7.setCell bV _,?_⟩
          refine⟨by rw[List.length_set];exact N.out.1,X8 N.out.2.1 og,by rw[Nat.mul_comm];exact hd.1,?_,fun _=>cG.mono au⟩
          rw[Nat.mul_comm l d]
          exact yzz (by rw[S.out];omega) (by rw[N.out.1];omega) N.out.2.2.2.1 c5.out (by rw[Nat.mul_comm];exact ad.out)
         case measure=>simp[intOf]
theorem yfb {w:o} {x y:Nat} (ha:IsN w 0 w.heap.size p x) (a:IsN w 0 w.heap.size r y) (e:0<y) (d:(A9 x).length<=2000000000):
 m k 148 #[p,r] w fun c w'=>(∃q b,c= .returned (.tuple #[q,b])/\IsN w' w.heap.size w'.heap.size q (x/y)/\IsN w' 0 w'.heap.size b (x%y))/\g w.heap.size w w':=by
 rcases D x y with h|h
 ·exact zz1430 ha a h
 ·exact zz1428 ha a h e d
theorem zz1429 {w:o} {x y:Nat} (ha:IsN w 0 w.heap.size p x) (i:IsN w 0 w.heap.size r y) (v:0<y) (t:(A9 x).length<=2000000000):
 m k 148 #[p,r] w fun h w'=>(∃q a,h= .returned (.tuple #[q,a])/\IsN w' 0 w'.heap.size q (x/y)/\IsN w' 0 w'.heap.size a (x%y))/\g w.heap.size w w':=
 (yfb ha i v t).mono fun h w' ⟨⟨q,a,j,l,hr⟩,n⟩=>⟨⟨q,a,j,l.wide (u _) (e _),hr⟩,n⟩
theorem yxv {a:Nat} (h:0<a):1<=(A9 a).length:=by have:=lim_nil_iff (n:=a);omega
theorem ynb {w:o} {x y:Nat} (ha:IsN w 0 w.heap.size p x) (C:IsN w 0 w.heap.size r y) (M:(A9 x).length<=2000000000) (N:(A9 y).length<=2000000000):
 m k 81 #[p,r] w fun t w'=>(∃v,t= .returned v/\IsN w' 0 w'.heap.size v (Nat.gcd x y))/\g w.heap.size w w':=by
 obtain⟨H,I⟩:=C7 ha C;obtain⟨A,S,rfl,_,_,_⟩:=ha;obtain⟨B,d,rfl,_,_,_⟩:=C;go_in;go_wp2_with fail;go_loopw [0,1] (fun P j wr=>∃X a:Nat,IsN wr 0 wr.heap.size P X/\IsN wr 0 wr.heap.size j a/\g w.heap.size w wr/\b (Nat.gcd X a=Nat.gcd x y/\(A9 X).length<=2000000000/\(A9 a).length<=2000000000)) (fun _ j wr=>numOf wr j);case atStart=>exact⟨x,y,H.out,I.out,s _ _,rfl,M,N⟩
 case round=>
  obtain⟨X,a,u,z,E,hrel⟩:=hrel;obtain⟨l,i⟩:=C7 u z;obtain⟨R,T,rfl,_,_,_⟩:=u;obtain⟨F,K,rfl,_,_,_⟩:=z;rcases Nat.eq_zero_or_pos a with e|e
  ·have L:(A9 a).length=0:=(by rw[e,O7];rfl);have J:b (X=Nat.gcd x y):=(by have:=hrel.out.1;rw[e,Nat.gcd_zero_right] at this;exact this);clear hrel e;go_wp2_with fail;go_ret;refine⟨⟨_,rfl,?_⟩,E⟩;rw[<-J.out];exact l.out
  ·have L:=yxv e;have h:=c e;clear e;go_wp2_with fail;refine(zz1429 l.out i.out h.out hrel.out.2.1).mono ?_;rintro t Q ⟨⟨q,O,rfl,_,hr⟩,D⟩;obtain⟨n,G⟩:=C7 hr (i.out.up D);clear hr;go_wp2_with fail;go_roundw;(case rel=>refine⟨a,X%a,G.out,n.out,zst E D,?_,hrel.out.2.2,f (Y5 (Nat.le_of_lt (Nat.mod_lt _ h.out))) hrel.out.2.2⟩;rw[<-hrel.out.1,Nat.gcd_comm X a,Nat.gcd_rec a X,Nat.gcd_comm]);case measure=>show numOf Q O<numOf wr (.slice F (A9 a).length K);rw[zvv n.out,zvv i.out];exact Nat.mod_lt _ h.out
theorem yyc (w:o):NumS (w.alloc (.cells #[.int .u32 1] 118)) (I8 w.heap.size (w.alloc (.cells #[.int .u32 1] 118))) (.slice (some ⟨w.heap.size,0,none⟩) 1 1) 1:=by have h:=ydk .u32 w 118 [1] (by unfold maxLen;decide);unfold NumS;rw[zkv];exact IsL.isK h fun c a b=>⟨a,by rw[d];exact b⟩
theorem zzv {w:o} {d:Nat} {neg:Bool} {q:Rat} (ha:IsN w 0 w.heap.size p n) (j:IsN w 0 w.heap.size r d) (aa:d≠0) (L:(A9 n).length<=2000000) (hd:(A9 d).length<=2000000) (z:q=mkRat (sg neg n) d):m k 73 #[.bool neg,p,r] w (L5 w q):=by
 obtain⟨S,T,I,H⟩:=U2 ha j L hd;obtain⟨A,X,rfl,_,_,_⟩:=ha;obtain⟨B,Y,rfl,_,_,_⟩:=j;clear L hd;obtain⟨l,ab,K,O,J⟩:=J7 w #[.bool false,.slice none 0 0,.slice none 0 0] 37;obtain⟨h,u⟩:=C7 (O) (K);have P:b (w.heap.size+1<=l.heap.size):=c (Nat.le_of_eq J.out.symm);clear O K;obtain⟨af,aj,ao⟩:=C4 h.out;obtain⟨aC,aH,aL⟩:=F6 h.out;obtain⟨D,E⟩:=C7 (IsN.next S.out u.out) (IsN.next T.out u.out);by_cases i:n=0
 ·have Z:=zun i;have U:b (q=0):=(by rw[b,z,i,zyb,Rat.zero_mkRat]);clear i z;obtain⟨d0,av,ay⟩:=C4 (Row.alloc h.out (.cells #[.int .u32 1] 118));obtain⟨az,aA,aB⟩:=F6 (Row.alloc h.out (.cells #[.int .u32 1] 118));go_in;go_wp2_with fail;rw[U.out];refine T6 Tryz.results73 rfl rfl (Row.put3 (Row.alloc h.out _) _ _ _) (zmv (n:=0) (d:=1) (by rw[yaq,O7,zkv]) (yrh u.out _) (e _) (yeh (S:=I8 (w.heap.size+1) _)) (yyc l) og (oh J))
 ·have Z:=zou i;obtain⟨t,y⟩:=nm (Nat.gcd n d);have V:b (E9 q=⟨neg,A9 (n/t),A9 (d/t)⟩):=(by rw[b,z,y];exact zxr i aa);have G:b (0<t):=(by rw[b,y];exact Nat.gcd_pos_of_pos_right _ og);have R:=c y;clear i y z;go_in;go_wp2_with fail;clear ab;refine((show m k 81 #[.slice A (A9 n).length X,.slice B (A9 d).length Y] l (fun x w'=>(∃v,x= .returned v/\IsN w' 0 w'.heap.size v t)/\g l.heap.size l w') from by rw[R.out];exact ynb D.out E.out (f I.out og) (f H.out og))).mono ?_;rintro x C ⟨⟨aS,rfl,hv⟩,j⟩;have F:=c (hv);obtain⟨ac,aP,rfl,_,_,_⟩:=id hv;obtain⟨ag,ak,aq⟩:=C4 (uR C h);obtain⟨aD,aI,aM⟩:=F6 (uR C h);go_wp2_with fail;refine(yfb (uN C D) F.out G.out (f I.out og)).mono ?_;rintro x s ⟨⟨aT,aU,rfl,M,_⟩,j⟩;have W:=c (N5 M (uS C P));obtain⟨ad,aQ,rfl,_,_,_⟩:=id M;obtain⟨ah,al,ar⟩:=C4 (uR s h);obtain⟨aE,aJ,aN⟩:=F6 (uR s h);go_wp2_with fail;refine(yfb (uN s E) (uN s F) G.out (f H.out og)).mono ?_;rintro x a ⟨⟨aV,aW,rfl,N,_⟩,j⟩;have Q:=c (N5 N (uS s P));obtain⟨ae,aR,rfl,_,_,_⟩:=id N;obtain⟨ai,an,au⟩:=C4 (uR a h);obtain⟨aG,aK,aO⟩:=F6 (uR a h);go_wp2_with fail;refine T6 Tryz.results73 rfl rfl (Row.put3 (uR a h) _ _ _) (zmv V.out (uB a u) og (uF a W) Q.out og og)
theorem ynk {w:o} (ha:IsQ w (C6 w) p i) (t:IsQ w (C6 w) r j) (B:Sz i 100000) (C:Sz j 100000) (hc:q=i*j):m k 21 #[p,r] w (L5 w q):=by
 have af:=c ha;obtain⟨N,F,J,H,L,rfl,aj,aW,aU⟩:=G4 ha;have ag:=c t;obtain⟨O,G,K,I,M,rfl,ak,aX,aV⟩:=G4 t;obtain⟨E,aS⟩:∃E:Bool,(!(N==O))=E:=⟨_,rfl⟩;obtain⟨x,D⟩:=nm (i.num.natAbs*j.num.natAbs);obtain⟨d,hd⟩:=nm (i.den*j.den);have al:b (q=mkRat (sg E x) d):=(by rw[b,hc,<-aS,D,hd];exact(yoz aj.out ak.out).symm);obtain⟨an,ai⟩:=C7 D hd;have ah:b (d≠0):=(by rw[b,hd];exact Nat.mul_ne_zero i.den_nz j.den_nz);have ar:b ((A9 x).length<=2000000):=(by rw[b,D];exact f (zoc B.1 C.1) og);have aq:b ((A9 d).length<=2000000):=(by rw[b,hd];exact f (zoc B.2 C.2) og);obtain⟨Q,R⟩:=C7 B C;clear ha t hc B C D hd;obtain⟨n,aT,A,ra,ad,ac,ao⟩:=znd w #[.bool N,.slice F (A9 i.num.natAbs).length J,.slice H (A9 i.den).length L] #[.bool O,.slice G (A9 j.num.natAbs).length K,.slice I (A9 j.den).length M] #[.bool false,.slice none 0 0,.slice none 0 0] 37 37 37;have S:=nQ af A;have y:=c (ra);have T:=nQ ag A;obtain⟨z,l,ay⟩:=H7 (ad) (ac) (A);have P:b (w.heap.size+3<=n.heap.size):=c (Nat.le_of_eq ao.out.symm);clear ra ad ac A;obtain⟨az,aC,aG⟩:=C4 y.out;obtain⟨aJ,aM,aP⟩:=C4 z.out;obtain⟨a3,a7,be⟩:=C4 l.out;obtain⟨bi,bp,bu⟩:=F6 l.out;go_in;go_wp2_with fail;clear aT
 go_region_held3 (fun w'=>w'.cell? ⟨w.heap.size,0,none⟩=some (.bool N)/\w'.cell? ⟨w.heap.size,1,none⟩=some (.slice F (A9 i.num.natAbs).length J)/\w'.cell? ⟨w.heap.size,2,none⟩=some (.slice H (A9 i.den).length L)/\w'.cell? ⟨w.heap.size+1,0,none⟩=some (.bool O)/\w'.cell? ⟨w.heap.size+1,1,none⟩=some (.slice G (A9 j.num.natAbs).length K)/\w'.cell? ⟨w.heap.size+1,2,none⟩=some (.slice I (A9 j.den).length M))
  (first
    |exact⟨az,aC,aG,aJ,aM,aP⟩
    |exact⟨aA,aD,aH,aK,aN,aQ⟩
    |exact⟨aB,aE,aI,aL,aO,aR⟩
    |exact⟨U,V,W,X,Y,Z⟩
    |exact⟨W6 U og,W6 V og,W6 W og,W6 X og,W6 Y og,W6 Z og⟩)
  (first
    |(go_at_call 72;have hc:=(show m k 72 #[.slice F (A9 i.num.natAbs).length J,.slice G (A9 j.num.natAbs).length K] (World.drew n) (fun s w'=>(∃v,s= .returned v/\IsN w' (World.heap (World.drew n)).size w'.heap.size v x)/\g (World.heap (World.drew n)).size (World.drew n) w') from by rw[an.out];exact zsh (F7 (zku (uQ n.drew S))) (F7 (zku (uQ n.drew T))) (e _) (e _) (f Q.out.1 og) (f R.out.1 og));(with_reducible refine hc.mono ?_);clear hc;rintro s h ⟨⟨bE,rfl,hv⟩,t⟩;have av:=c (N5 hv (uS n.drew P));obtain⟨aZ,bx,rfl,_,_,_⟩:=id hv;obtain⟨aA,aD,aH⟩:=C4 (uR h y);obtain⟨aK,aN,aQ⟩:=C4 (uR h z);obtain⟨a4,a8,bf⟩:=C4 (uR h l);obtain⟨bj,bq,bv⟩:=F6 (uR h l))
    |(go_at_call 72;have hc:=(show m k 72 #[.slice H (A9 i.den).length L,.slice I (A9 j.den).length M] h (fun s w'=>(∃v,s= .returned v/\IsN w' (World.heap h).size w'.heap.size v d)/\g (World.heap h).size h w') from by rw[ai.out];exact zsh (F7 (zlc (uQ h S))) (F7 (zlc (uQ h T))) (e _) (e _) (f Q.out.2 og) (f R.out.2 og));(with_reducible refine hc.mono ?_);clear hc;rintro s u ⟨⟨bF,rfl,aa⟩,t⟩;have ae:=c (N5 aa (uS h P));obtain⟨a0,bA,rfl,_,_,_⟩:=id aa;obtain⟨aB,aE,aI⟩:=C4 (uR u y);obtain⟨aL,aO,aR⟩:=C4 (uR u z);obtain⟨a5,a9,bg⟩:=C4 (uR u l);obtain⟨bm,br,bw⟩:=F6 (uR u l))
    |(go_at_call 73;have hc:=zzv (neg:=E) (F7 (IsK.stb.old (uF u av))) (F7 (IsK.stb.old ae.out)) ah.out ar.out aq.out al.out;(with_reducible refine hc.mono ?_);clear hc;rintro s a ⟨⟨bG,rfl,ab⟩,t⟩;have au:=c (IsQ.stb.le ab (uS u P));obtain⟨bD,a1,bB,aY,bC,rfl,_,_,_⟩:=G4 ab;obtain⟨U,V,W⟩:=C4 (uR a y);obtain⟨X,Y,Z⟩:=C4 (uR a z);obtain⟨a2,a6,bd⟩:=C4 (uR a l);obtain⟨bh,bn,bt⟩:=F6 (uR a l)))
 go_wp2_with fail;refine T6 Tryz.results21 rfl rfl (Row.put3 (uR a l) _ _ _) (zlu au.out (uB a ay) og og)
theorem ymw {w:o} (ha:IsQ w (C6 w) p i) (B:IsQ w (C6 w) r j) (aa:Sz i 100000) (ab:Sz j 100000) (hc:q=i+j):m k 20 #[p,r] w (L5 w q):=by
 have bt:=c ha;obtain⟨A,az,aM,af,ak,rfl,bA,cl,cj⟩:=G4 ha;have bu:=c B;obtain⟨I,aA,aN,ag,al,rfl,bB,cm,ck⟩:=G4 B;obtain⟨x,au⟩:=nm (i.num.natAbs*j.den);obtain⟨y,av⟩:=nm (j.num.natAbs*i.den);obtain⟨d,hd⟩:=nm (i.den*j.den);have aD:b (∀(neg:Bool) (n:Nat),sg neg n=sg A x+sg I y->q=mkRat (sg neg n) d):=fun neg n h=>(by rw[hc,hd];exact(yer bA.out bB.out (by rw[h,au,av])).symm);obtain⟨bC,bD,bv⟩:=H7 au av hd;have aC:b (d≠0):=(by rw[b,hd];exact Nat.mul_ne_zero i.den_nz j.den_nz);have ai:b ((A9 x).length<=200000):=(by rw[b,au];exact zoc aa.1 ab.2);have aj:b ((A9 y).length<=200000):=(by rw[b,av];exact zoc ab.1 aa.2);have aI:b ((A9 d).length<=2000000):=(by rw[b,hd];exact f (zoc aa.2 ab.2) og);obtain⟨aE,aG⟩:=C7 aa ab;clear ha B hc aa ab au av hd;obtain⟨N,cc,ao,ra,bq,bp,bE⟩:=znd w #[.bool A,.slice az (A9 i.num.natAbs).length aM,.slice af (A9 i.den).length ak] #[.bool I,.slice aA (A9 j.num.natAbs).length aN,.slice ag (A9 j.den).length al] #[.bool false,.slice none 0 0,.slice none 0 0] 37 37 37;have aJ:=nQ bt ao;have G:=c (ra);have aK:=nQ bu ao;obtain⟨H,t,aL⟩:=H7 (bq) (bp) (ao);have L:b (w.heap.size+3<=N.heap.size):=c (Nat.le_of_eq bE.out.symm);clear ra bq bp ao;obtain⟨cs,bI,bN⟩:=C4 G.out;obtain⟨cw,bU,b0⟩:=C4 H.out;obtain⟨cA,cE,cI⟩:=C4 t.out;obtain⟨cM,cQ,cU⟩:=F6 t.out;go_in;go_wp2_with fail;clear cc
 go_region_held3 (fun w'=>w'.cell? ⟨w.heap.size,1,none⟩=some (.slice az (A9 i.num.natAbs).length aM)/\w'.cell? ⟨w.heap.size,2,none⟩=some (.slice af (A9 i.den).length ak)/\w'.cell? ⟨w.heap.size+1,1,none⟩=some (.slice aA (A9 j.num.natAbs).length aN)/\w'.cell? ⟨w.heap.size+1,2,none⟩=some (.slice ag (A9 j.den).length al))
  (first
    |exact⟨bI,bN,bU,b0⟩
    |exact⟨bL,bQ,bX,b3⟩
    |exact⟨bM,bR,bY,b4⟩
    |exact⟨bJ,bO,bT,bZ⟩)
  (first
    |(go_at_call 72;have hc:=(show m k 72 #[.slice az (A9 i.num.natAbs).length aM,.slice ag (A9 j.den).length al] (World.drew N) (fun l w'=>(∃v,l= .returned v/\IsN w' (World.heap (World.drew N)).size w'.heap.size v x)/\g (World.heap (World.drew N)).size (World.drew N) w') from by rw[bC.out];exact zsh (F7 (zku (uQ N.drew aJ))) (F7 (zlc (uQ N.drew aK))) (e _) (e _) (f aE.out.1 og) (f aG.out.2 og));(with_reducible refine hc.mono ?_);clear hc;rintro l J ⟨⟨c2,rfl,hv⟩,B⟩;have X:=c (N5 hv (uS N.drew L));obtain⟨U,ad,rfl,_,_,_⟩:=id hv;obtain⟨ct,bL,bQ⟩:=C4 (uR J G);obtain⟨cx,bX,b3⟩:=C4 (uR J H);obtain⟨cB,cF,cJ⟩:=C4 (uR J t);obtain⟨cN,cR,cV⟩:=F6 (uR J t))
    |(go_at_call 72;have hc:=(show m k 72 #[.slice aA (A9 j.num.natAbs).length aN,.slice af (A9 i.den).length ak] J (fun l w'=>(∃v,l= .returned v/\IsN w' (World.heap J).size w'.heap.size v y)/\g (World.heap J).size J w') from by rw[bD.out];exact zsh (F7 (zku (uQ J aK))) (F7 (zlc (uQ J aJ))) (e _) (e _) (f aG.out.1 og) (f aE.out.2 og));(with_reducible refine hc.mono ?_);clear hc;rintro l K ⟨⟨c3,rfl,bi⟩,B⟩;have Y:=c (N5 bi (uS J L));obtain⟨V,ae,rfl,_,_,_⟩:=id bi;obtain⟨cu,bM,bR⟩:=C4 (uR K G);obtain⟨cy,bY,b4⟩:=C4 (uR K H);obtain⟨cC,cG,cK⟩:=C4 (uR K t);obtain⟨cO,cS,cW⟩:=F6 (uR K t))
    |(go_at_call 72;have hc:=(show m k 72 #[.slice af (A9 i.den).length ak,.slice ag (A9 j.den).length al] K (fun l w'=>(∃v,l= .returned v/\IsN w' (World.heap K).size w'.heap.size v d)/\g (World.heap K).size K w') from by rw[bv.out];exact zsh (F7 (zlc (uQ K aJ))) (F7 (zlc (uQ K aK))) (e _) (e _) (f aE.out.2 og) (f aG.out.2 og));(with_reducible refine hc.mono ?_);clear hc;rintro l a ⟨⟨c4,rfl,bj⟩,B⟩;have aB:=c (N5 bj (uS K L));obtain⟨cq,cY,rfl,_,_,_⟩:=id bj;obtain⟨bH,bJ,bO⟩:=C4 (uR a G);obtain⟨cv,bT,bZ⟩:=C4 (uR a H);obtain⟨cz,cD,cH⟩:=C4 (uR a t);obtain⟨cL,cP,cT⟩:=F6 (uR a t)))
 rcases(by cases A<;>cases I<;>simp:(A==I)=true\/(A==I)=false) with aT|aT
 ·have ah:b (I=A):=(by unfold b;cases A<;>cases I<;>simp at aT⊢);obtain⟨n,C⟩:=nm (x+y);have S:b (q=mkRat (sg A n) d):=aD.out _ _ (by rw[ah.out,C,yfe]);have R:b ((A9 n).length<=2000000):=(by rw[b,C];exact f (yfm ai.out aj.out) og);have Q:=c C;clear C;go_wp2_with fail
  go_region_held3 (fun w'=>w'.cell? ⟨w.heap.size,0,none⟩=some (.bool A))
   (first
     |exact bH
     |exact an
     |exact Z
     |exact W6 Z og)
   (first
     |(go_at_call 74;have hc:=(show m k 74 #[.slice U (A9 x).length ad,.slice V (A9 y).length ae] (World.drew a) (fun l w'=>(∃v,l= .returned v/\IsN w' (World.heap (World.drew a)).size w'.heap.size v n)/\g (World.heap (World.drew a)).size (World.drew a) w') from by rw[Q.out];exact zz1437 (F7 (IsK.stb.old (uF a.drew X))) (F7 (IsK.stb.old (uF a.drew Y))) (e _) (e _) (f ai.out og) (f aj.out og));(with_reducible refine hc.mono ?_);clear hc;rintro l O ⟨⟨c5,rfl,bm⟩,B⟩;have T:=c (N5 bm (uS a.drew L));obtain⟨cr,cZ,rfl,_,_,_⟩:=id bm;obtain⟨an,aV,aX⟩:=C4 (uR O G);obtain⟨aP,aZ,a1⟩:=C4 (uR O H);obtain⟨a3,a5,a7⟩:=C4 (uR O t);obtain⟨a9,be,bg⟩:=F6 (uR O t))
     |(go_at_call 73;have hc:=zzv (neg:=A) (F7 (IsK.stb.old T.out)) (F7 (IsK.stb.old (uF O aB))) aC.out R.out aI.out S.out;(with_reducible refine hc.mono ?_);clear hc;rintro l P ⟨⟨br,rfl,M⟩,B⟩;have W:=c (IsQ.stb.le M (uS O L));obtain⟨c1,aU,bn,cn,c0,rfl,_,_,_⟩:=G4 M;obtain⟨Z,aW,aY⟩:=C4 (uR P G);obtain⟨aQ,a0,a2⟩:=C4 (uR P H);obtain⟨a4,a6,a8⟩:=C4 (uR P t);obtain⟨bd,bf,bh⟩:=F6 (uR P t)))
  go_wp2_with fail;refine T6 Tryz.results20 rfl rfl (Row.put3 (uR P t) _ _ _) (zlu W.out (uB P aL) og og)
 ·have ah:b (I= !A):=(by unfold b;cases A<;>cases I<;>simp at aT⊢);rcases D x y with ar|aq
  ·have bx:=c ar;obtain⟨n,C⟩:=nm (y-x);have S:b (q=mkRat (sg I n) d):=aD.out _ _ (by rw[ah.out,C,sg_sub' (Nat.le_of_lt ar)];simp);have R:b ((A9 n).length<=2000000):=(by rw[b,C];exact f (Y5 (Nat.sub_le _ _)) (f aj.out og));obtain⟨Q,aH⟩:=C7 C (zqu ar);clear C ar;go_wp2_with fail;refine((show m k 75 #[.slice U (A9 x).length ad,.slice V (A9 y).length ae] a (fun l w'=>l= .returned (.int .i64 (-1))/\g a.heap.size a w') from by rw[<-aH.out];exact(zxu (F7 (IsK.stb.old (uF a X))) (F7 (IsK.stb.old (uF a Y)))).mono fun l w' ⟨aS,hd⟩=>⟨aS,hd.below _⟩)).mono ?_;rintro l z ⟨rfl,B⟩;obtain⟨an,aV,aX⟩:=C4 (uR z G);obtain⟨aP,aZ,a1⟩:=C4 (uR z H);obtain⟨a3,a5,a7⟩:=C4 (uR z t);obtain⟨a9,be,bg⟩:=F6 (uR z t);go_wp2_with fail
   go_region_held3 (fun w'=>w'.cell? ⟨w.heap.size+1,0,none⟩=some (.bool I))
    (first
      |exact aP
      |exact aQ
      |exact aR
      |exact W6 aR og)
    (first
      |(go_at_call 76;have hc:=(show m k 76 #[.slice V (A9 y).length ae,.slice U (A9 x).length ad] (World.drew z) (fun l w'=>(∃v,l= .returned v/\IsN w' (World.heap (World.drew z)).size w'.heap.size v n)/\g (World.heap (World.drew z)).size (World.drew z) w') from by rw[Q.out];exact yni (F7 (IsK.stb.old (uF z.drew Y))) (F7 (IsK.stb.old (uF z.drew X))) (e _) (e _) (Nat.le_of_lt bx.out) (f aj.out og));(with_reducible refine hc.mono ?_);clear hc;rintro l E ⟨⟨br,rfl,M⟩,B⟩;have T:=c (N5 M (uS z.drew L));obtain⟨aU,bn,rfl,_,_,_⟩:=id M;obtain⟨Z,aW,aY⟩:=C4 (uR E G);obtain⟨aQ,a0,a2⟩:=C4 (uR E H);obtain⟨a4,a6,a8⟩:=C4 (uR E t);obtain⟨bd,bf,bh⟩:=F6 (uR E t))
      |(go_at_call 73;have hc:=zzv (neg:=I) (F7 (IsK.stb.old T.out)) (F7 (IsK.stb.old (uF E aB))) aC.out R.out aI.out S.out;(with_reducible refine hc.mono ?_);clear hc;rintro l F ⟨⟨ch,rfl,ac⟩,B⟩;have W:=c (IsQ.stb.le ac (uS E L));obtain⟨cg,bG,cd,bF,cf,rfl,_,_,_⟩:=G4 ac;obtain⟨aO,bK,bP⟩:=C4 (uR F G);obtain⟨aR,bV,b1⟩:=C4 (uR F H);obtain⟨b5,b7,b8⟩:=C4 (uR F t);obtain⟨b9,ca,cb⟩:=F6 (uR F t)))
   go_wp2_with fail;refine T6 Tryz.results20 rfl rfl (Row.put3 (uR F t) _ _ _) (zlu W.out (uB F aL) og og)
  ·have bw:=c aq;obtain⟨n,C⟩:=nm (x-y);have S:b (q=mkRat (sg A n) d):=aD.out _ _ (by rw[ah.out,C,yff aq]);have R:b ((A9 n).length<=2000000):=(by rw[b,C];exact f (Y5 (Nat.sub_le _ _)) (f ai.out og));have Q:=c C
   obtain⟨ay,hr,cX⟩:∃ay,ay=V8 x y/\0<=ay:=by
    refine⟨_,rfl,?_⟩;rcases D y x with h|h
    ·rw[zsj h];omega
    ·rw[zwg (Nat.le_antisymm h aq)];omega
   have aH:=c hr;clear C aq hr;go_wp2_with fail;refine((show m k 75 #[.slice U (A9 x).length ad,.slice V (A9 y).length ae] a (fun l w'=>l= .returned (.int .i64 ay)/\g a.heap.size a w') from by rw[aH.out];exact(zxu (F7 (IsK.stb.old (uF a X))) (F7 (IsK.stb.old (uF a Y)))).mono fun l w' ⟨aS,hd⟩=>⟨aS,hd.below _⟩)).mono ?_;rintro l z ⟨rfl,B⟩;obtain⟨an,aV,aX⟩:=C4 (uR z G);obtain⟨aP,aZ,a1⟩:=C4 (uR z H);obtain⟨a3,a5,a7⟩:=C4 (uR z t);obtain⟨a9,be,bg⟩:=F6 (uR z t);go_wp2_with fail
   go_region_held3 (fun w'=>w'.cell? ⟨w.heap.size,0,none⟩=some (.bool A))
    (first
      |exact an
      |exact Z
      |exact aO
      |exact W6 aO og)
    (first
      |(go_at_call 76;have hc:=(show m k 76 #[.slice U (A9 x).length ad,.slice V (A9 y).length ae] (World.drew z) (fun l w'=>(∃v,l= .returned v/\IsN w' (World.heap (World.drew z)).size w'.heap.size v n)/\g (World.heap (World.drew z)).size (World.drew z) w') from by rw[Q.out];exact yni (F7 (IsK.stb.old (uF z.drew X))) (F7 (IsK.stb.old (uF z.drew Y))) (e _) (e _) bw.out (f ai.out og));(with_reducible refine hc.mono ?_);clear hc;rintro l E ⟨⟨br,rfl,M⟩,B⟩;have T:=c (N5 M (uS z.drew L));obtain⟨aU,bn,rfl,_,_,_⟩:=id M;obtain⟨Z,aW,aY⟩:=C4 (uR E G);obtain⟨aQ,a0,a2⟩:=C4 (uR E H);obtain⟨a4,a6,a8⟩:=C4 (uR E t);obtain⟨bd,bf,bh⟩:=F6 (uR E t))
      |(go_at_call 73;have hc:=zzv (neg:=A) (F7 (IsK.stb.old T.out)) (F7 (IsK.stb.old (uF E aB))) aC.out R.out aI.out S.out;(with_reducible refine hc.mono ?_);clear hc;rintro l F ⟨⟨ch,rfl,ac⟩,B⟩;have W:=c (IsQ.stb.le ac (uS E L));obtain⟨cg,bG,cd,bF,cf,rfl,_,_,_⟩:=G4 ac;obtain⟨aO,bK,bP⟩:=C4 (uR F G);obtain⟨aR,bV,b1⟩:=C4 (uR F H);obtain⟨b5,b7,b8⟩:=C4 (uR F t);obtain⟨b9,ca,cb⟩:=F6 (uR F t)))
   go_wp2_with fail;refine T6 Tryz.results20 rfl rfl (Row.put3 (uR F t) _ _ _) (zlu W.out (uB F aL) og og)
end Go.Proofs.YtpbilanpeioonaaGreatDoor
