/-
 The contract of the reference's Over:long division.
-/
import Derived.Test.YtdgilbgdkmhcmaaGreatDoorProofSimplexDuals03
import Derived.Deep.DeepCutAuto
namespace Go.Proofs.YtdgilbgdkmhcmaaGreatDoor
open Go.RowKit
set_option linter.unusedVariables false
set_option maxRecDepth 100000
set_option maxHeartbeats 8000000
open _root_.Go.Lib renaming hid → c
open _root_.Nat renaming le_refl → b, le_trans → k, lt_or_ge → u, zero_le → t
open _root_.Go.RowKit.Below renaming refl → p
open _root_.Go.World renaming size_alloc → d
open _root_.Go renaming World → i, Calls → o
open _root_.Go.RowKit renaming Below → f, Hid → e
open _root_.Go.Proofs.Tryz renaming prog → m
variable {N base n : Nat} {S : Nat → Prop} {l : List Nat} {v g j s : Value} {a wr : i} {r : Array Value}
theorem yca (w:i) (n:Int) (j:0<=n) (q:n<=999999999):
 o m 180 #[.int .u32 n] w fun e w'=>(∃v,e= .returned v/\IsN w' w.heap.size w'.heap.size v n.toNat)/\f w.heap.size w w':=by obtain⟨a,rfl⟩:=Int.eq_ofNat_of_zero_le j;have h:=yaf .u32 w 115 [a] (by simp[maxLen]);have k:IsL .u32 (w.alloc (.cells #[.int .u32 (a:Int)] 115)) w.heap.size (w.heap.size+1) (.slice (some ⟨w.heap.size,0,none⟩) 1 1) [a]:=h;have g:=c k;go_in;go_wp2_with fail;refine(zxy g.out (by intro x l;simp at l;omega)).mono ?_;rintro e r ⟨⟨v,rfl,hv⟩,rfl⟩;go_wp2_with fail;go_ret;refine⟨⟨_,rfl,?_⟩,(p _ _).alloc (b _) _⟩;rw[d,Int.toNat_natCast];have e:val [a]=a:=(by simp[val]);rw[e] at hv;exact hv
theorem IsN.upB {w w':i} {c:Nat} (h:IsN w c w.heap.size v n) (a:f w.heap.size w w'):IsN w' 0 w'.heap.size v n:=(h.below a (b _)).wide (t _) a.size
theorem yvu (w:i) (x:Int) (n:Nat) (h:x=(n:Int)):Own (w.alloc (.cells #[.int .u32 x] 115)) w.heap.size 115 (.slice (some ⟨w.heap.size,0,none⟩) 1 1) (C8 .u32 [n]):=by subst h;refine⟨by simp[C8],.inr ⟨w.heap.size,1,#[.int .u32 (n:Int)],rfl,b _,heap_alloc_new w _,by simp[C8],by unfold maxLen;omega,rfl,by simp[C8]⟩⟩
def Wl (w:i) (base:Nat) (A:Option Addr) (b:List Nat):Prop:=b≠[]->∃a sp,A=some ⟨a,0,none⟩/\base<=a/\Row w a 115 (C8 .u32 b++sp)
theorem WrN.wl {w:i} (h:WrN w base v n):∃A cap,v= .slice A (A9 n).length cap/\(A9 n).length<=cap/\cap<=maxLen/\Wl w base A (A9 n):=by
 rcases h with⟨rfl,rfl⟩|⟨c,cap,a,rfl,f,hr,g,d,e⟩
 ·exact⟨none,0,by rw[N5];rfl,by rw[N5];exact b _,t _,fun h=>absurd N5 h⟩
 ·refine⟨_,cap,rfl,d,e,fun _=>⟨c,a.drop (A9 n).length,rfl,f,?_⟩⟩;rw[<-g,List.take_append_drop];exact hr
theorem Wl.isL {w:i} {A:Option Addr} {a:List Nat} {b:Nat} (h:Wl w base A a) (e:a.length<=b) (f:b<=maxLen):IsL .u32 w base w.heap.size (.slice A a.length b) a:=by refine⟨A,b,rfl,e,f,fun j=> ?_⟩;obtain⟨d,sp,rfl,g,hr⟩:=h (by rintro rfl;exact j rfl);refine⟨d,0,rfl,g,hr.lt,fun k l c=> ?_⟩;rw[Nat.zero_add,hr.cell,List.getElem?_append_left (List.getElem?_eq_some_iff.1 c).1];exact c
def OverSt (a c:i) (N:Nat) (l:List Nat) (g h:Value):Prop:=∃(b e d:Nat),g= .slice (some ⟨b,0,none⟩) N N/\Row c b 115 (C8 .u32 (List.replicate N 0))/\a.heap.size<=b/\IsL .u32 c e d h l/\(b<e\/d<=b)/\a.heap.size<=e/\d<=c.heap.size/\f a.heap.size a c
theorem OverSt.both (c:r=(C8 .u32 (List.replicate N 0)).toArray):OverSt a (a.alloc (.cells r 115)).drew N [] (.slice (some ⟨a.heap.size,0,none⟩) N N) (.slice none 0 0):=by
 subst c;refine⟨a.heap.size,a.heap.size+1,a.heap.size+1,rfl,?_,b _,IsL.nil,.inl og,by omega,?_,?_⟩
 ·exact heap_alloc_new a _
 ·show _<=(a.alloc _).heap.size;rw[d];omega
 ·exact below_drewN ((p _ a).alloc (b _) _) 1
theorem OverSt.makeFirst (i:r=(C8 .u32 (List.replicate N 0)).toArray) (g:Own wr (a.alloc (.cells r 115)).drew.heap.size 115 s ([]++C8 .u32 l)) (e:f (a.alloc (.cells r 115)).drew.heap.size (a.alloc (.cells r 115)).drew wr):
 OverSt a wr N l (.slice (some ⟨a.heap.size,0,none⟩) N N) s:=by subst i;have c:(a.alloc (.cells (C8 .u32 (List.replicate N 0)).toArray 115)).drew.heap.size=a.heap.size+1:=d _ _;have h:f a.heap.size a (a.alloc (.cells (C8 .u32 (List.replicate N 0)).toArray 115)).drew:=below_drewN ((p _ a).alloc (b _) _) 1;rw[List.nil_append] at g;refine⟨a.heap.size,_,_,rfl,?_,b _,Own.isL g,.inl (by rw[c];omega),by rw[c];omega,b _,h.trans (e.mono (by rw[c];omega))⟩;exact(e.block a.heap.size (by rw[c];omega)).trans (heap_alloc_new a _)
theorem OverSt.appFirst (h:r=(C8 .u32 (List.replicate N 0)).toArray) (e:Own wr a.drew.heap.size 115 s ([]++C8 .u32 l)) (g:f a.drew.heap.size a.drew wr):
 OverSt a (wr.alloc (.cells r 115)) N l (.slice (some ⟨wr.heap.size,0,none⟩) N N) s:=by subst h;rw[List.nil_append] at e;have c:f a.heap.size a wr:=(below_drewN (p _ a) 1).trans g;refine⟨wr.heap.size,a.heap.size,wr.heap.size,rfl,heap_alloc_new wr _,c.size,?_,.inr (b _),b _,by rw[d];omega,c.alloc c.size _⟩;exact(Own.isL e).below ((p _ wr).alloc (b _) _) (b _)
theorem yyi {w:i} {x y:Nat} (ha:IsN w 0 w.heap.size g x) (h:IsN w 0 w.heap.size j y) (a:x<y):
 o m 147 #[g,j] w fun e w'=>(∃q k,e= .returned (.tuple #[q,k])/\IsN w' w.heap.size w'.heap.size q (x/y)/\IsN w' 0 w'.heap.size k (x%y))/\f w.heap.size w w':=by obtain⟨b,l⟩:=C4 ha h;obtain⟨A,r,rfl,_,_,_⟩:=ha;obtain⟨B,d,rfl,_,_,_⟩:=h;rw[Nat.div_eq_of_lt a,Nat.mod_eq_of_lt a];have n:=c (zqu a);go_in;go_wp2_with fail;refine(ybs b.out l.out).mono ?_;rw[n.out];rintro e s ⟨rfl,q,rfl⟩;go_wp2_with fail;go_ret2;exact⟨⟨_,_,rfl,IsN.zero,b.out.drewN q⟩,below_drewN (p _ _) q⟩
theorem yyg {w:i} {x y:Nat} (ha:IsN w 0 w.heap.size g x) (b9:IsN w 0 w.heap.size j y) (ac:y<=x) (dy:0<y) (e0:(A9 x).length<=2000000000):
 o m 147 #[g,j] w fun I w'=>(∃q cM,I= .returned (.tuple #[q,cM])/\IsN w' w.heap.size w'.heap.size q (x/y)/\IsN w' 0 w'.heap.size cM (x%y))/\f w.heap.size w w':=by
 obtain⟨aL,aM⟩:=C4 ha b9;have eG:1<=(A9 y).length:=(by have:=lim_nil_iff (n:=y);omega);have dx:=U1 ac;obtain⟨A,dT,rfl,_,_,_⟩:=ha;obtain⟨B,d,rfl,_,_,bV⟩:=b9;have eR:0<=T7 x y:=(by unfold T7;rw[if_neg og];split<;>omega);generalize cB:T7 x y=sg at*;have cY:=c cB;obtain⟨bb,ob,rfl,_,_,cj⟩:=bV (L8 (j:=(A9 y).length-1) og);obtain⟨al,ds,eU,eV,cC⟩:=T8 (j:=(A9 y).length-1) (L6 y) cj og;have eW:1<=al:=(by have:=yce (B:=y) (n:=(A9 y).length-1) og;have:=ds.out;omega);have ez:1<=1000000000/(al+1):=(by rw[Int.le_ediv_iff_mul_le og];omega);have eA:1000000000/(al+1)<=500000000:=(by apply Int.ediv_le_of_le_mul og;omega);have cD:∀q,(w.drewN q).cell? ⟨bb,ob+((A9 y).length-1),none⟩=some (.int .u32 al):=fun _=>cC;obtain⟨bQ,ae,dR⟩:=G6 cD ac dx;clear cj cC cD cB ac;go_in;go_wp2_with fail;refine(ybs aL.out aM.out).mono ?_;rw[cY.out];rintro I cN ⟨rfl,q,rfl⟩;have dd:=bQ.out q;go_wp2_with fail;generalize hF:1000000000/(al+1)=F at*;clear hF;refine(yca (w.drewN q) F og og).mono ?_;rintro I cN ⟨⟨e8,rfl,hf⟩,ca⟩;have aD:f w.heap.size w cN:=(below_drewN (p _ w) q).trans ca;obtain⟨aO,bF,bG,bI⟩:=X6 (hf.wide (lo':=0) (t _) (b _)) (aL.out.upB aD) (aM.out.upB aD) aD;have be:e ((A9 F.toNat).length<=1):=lim_len_le.2 (by rw[ztj];omega);clear hf ca dd bQ aD;go_wp2_with fail;refine(ztl bF.out aO.out (b _) (b _) og (oh be)).mono ?_;rintro I cO ⟨⟨e6,rfl,cF⟩,ay⟩;obtain⟨bw,aP,bH,bJ⟩:=X6 (cF.wide (lo':=0) (t _) (b _)) (aO.out.upB ay) (bG.out.upB ay) (below_trans' bI.out ay);clear cF ay bF aO bG;go_wp2_with fail;refine(ztl bH.out aP.out (b _) (b _) og (oh be)).mono ?_;rintro I a ⟨⟨e7,rfl,cG⟩,az⟩;obtain⟨ar,bx,bM,aN⟩:=X6 (cG.wide (lo':=0) (t _) (b _)) (bw.out.upB az) (aP.out.upB az) (below_trans' bJ.out az);clear cG az bw aP bH;obtain⟨X,af⟩:=nm (x*F.toNat);obtain⟨C,ag⟩:=nm (y*F.toNat);rw[<-af] at bx;rw[<-ag] at ar;have ej:0<C:=(by rw[ag];exact Nat.mul_pos dy og);have b8:C<=X:=(by rw[af,ag];exact Nat.mul_le_mul_right _ ae.out);have eH:(A9 X).length<=2000000001:=(by rw[af];have:=zxd x F.toNat;have:=be.out;omega);have eM:=U1 b8;have eJ:1<=(A9 C).length:=(by have:=lim_nil_iff (n:=C);omega);obtain⟨cS,bE⟩:=C4 af ag;have dm:e (A9 F.toNat=[F.toNat]):=zqk og og;have aQ:=bM.out;unfold IsN at aQ;rw[dm.out] at aQ;obtain⟨dN,dW,rfl,_,_,cr⟩:=aQ;obtain⟨aX,aY,rfl,_,df,cn⟩:=cr (by simp[C8]);have cq:=cn 0 (.int .u32 F) (by simp[C8];omega);simp only[List.length_cons,List.length_nil,Nat.zero_add] at*;have aR:=c (And.intro df cq);obtain⟨dL,aV,rfl,da,ep,bU⟩:=bx.out;obtain⟨dO,dV,rfl,er,et,a0⟩:=ar.out;obtain⟨b2,e2,rfl,_,eo,cf⟩:=a0 (L8 (j:=(A9 C).length-1) og);obtain⟨J,b7,ed,ee,eh⟩:=T8 (j:=(A9 C).length-1) (L6 C) cf og;obtain⟨aq,dP⟩:=C4 bU a0;have eg:1<=J:=(by have:=yce (B:=C) (n:=(A9 C).length-1) og;have:=b7.out;omega);generalize cu:(A9 X).length=l at*;generalize cv:(A9 C).length=n at*;obtain⟨S,U⟩:=C4 cu cv;clear af ag cn cq cf bU a0 cu cv cr bV b8 bM;go_wp2_with fail;go_cut [4,5] (fun dF aI dK=>OverSt a dK (l-n+1) ((A9 X).drop (l-n+1)) dF aI)
 case first=>
  have u1:IntKind.i64.wrap ((l:Int)-(n:Int))=(l:Int)-(n:Int):=IntWalk.i64_in _ og;have u2:IntKind.i64.wrap ((l:Int)-(n:Int)+1)=(l:Int)-(n:Int)+1:=IntWalk.i64_in _ og;obtain⟨r,cK,eI⟩:=yty m U0 ((l:Int)-(n:Int)+1) (l-n+1) og og;have aU:=c cK;clear cK;have u3:0<=(l:Int)-(n:Int)+1:=og;have u4:(l:Int)-(n:Int)+1<=(l:Int):=og;have u5:((l:Int)-(n:Int)+1).toNat=l-n+1:=og;have cm:((C8 .u32 (A9 X)).drop (l-n+1)).length=l-(l-n+1):=(by rw[List.length_drop,zlr,S.out]);have a8:∀bv∈(C8 .u32 (A9 X)).drop (l-n+1),bv.oneCell'=true:=fun bv dt=>zzf _ _ bv (List.mem_of_mem_drop dt);have bK:=c (And.intro cm a8);obtain⟨ba,oa,rfl,_,c9,_⟩:=aq.out (L8 (j:=0) (by rw[S.out];omega));have hcut:SV a 0 a.heap.size (if aV=l-n+1 then some ⟨ba,oa,none⟩ else(some ⟨ba,oa,none⟩:Option Addr).map (fun x=>x.add (l-n+1))) ((C8 .u32 (A9 X)).drop (l-n+1)):=aq.out.cut (by rw[zlr,S.out];exact da);clear cm a8;by_cases a7:aV=l-n+1
  ·rw[if_pos a7] at hcut;have aK:=c hcut;clear hcut;subst a7;have cw:(A9 X).drop (l-n+1)=[]:=List.drop_eq_nil_of_le (by rw[S.out];omega);have cV:=c cw;clear cw;go_region_law (fail)
   all_goals
    go_wp2_with fail
    go_meet
    rw[cV.out]
    exact OverSt.both aU.out
  ·rw[if_neg a7] at hcut;simp only[Option.map_some,Addr.add_lit] at hcut;have aK:=c hcut;clear hcut;go_region_law ((refine yzp (lo:=0) (hi:=a.heap.size) (v:= .slice none 0 0) (xs:=[]) (A:=some ⟨ba,oa+(l-n+1),none⟩) (m:=l-(l-n+1)) (c:=aV-(l-n+1)) U0 rfl (.tmp 52) (.tmp 59) rfl (by simp[Act.eval,Act.put]) (Own.nil _ _ _) (by simp[Act.eval,Act.put]) bK.out.1 (by first|(with_reducible exact aK.out.drew)|(with_reducible exact(aK.out.alloc (b _) _).drew)) bK.out.2 (by simp only[List.length_nil];omega) (b _) ?_;intro s wr cx ah eS))
   all_goals
    go_wp2_with fail
    go_meet
    first
     |(with_reducible exact OverSt.makeFirst aU.out (by rw[ydh];exact cx) ah)
     |(with_reducible exact OverSt.appFirst aU.out (by rw[ydh];exact cx) ah)
 case rest=>
  obtain⟨H,Y,Q,rfl,K,bX,bZ,aH,aG,ai,L⟩:=hcut;have b1:e (val ((A9 X).drop (l-n+1))<C):=(by have aa:=yev (L6 X) (k:=l-n+1) (n:=n-1) (by rw[S.out];omega);have aZ:pw (n-1)<=C:=lim_len_lt.1 (by rw[U.out];omega);unfold e;omega);have b0:IsN wc Y Q u5 (val ((A9 X).drop (l-n+1))):=(by unfold IsN;rw[ypp];exact bZ);have dQ:=c aq.out;clear bZ aL aM bI bJ;go_wp2_with fail
  go_loopw [5,9] (fun aI bu wr=>∃(E:Nat) (P:List Nat) (R Y Q:Nat),E<=l-n+1/\bu= .int .i64 ((E:Int)-1)/\Row wr H 115 (C8 .u32 P)/\IsN wr Y Q aI R/\(H<Y\/Q<=H)/\a.heap.size<=Y/\Q<=wr.heap.size/\f a.heap.size a wr/\
   e (P.length=l-n+1/\Lo P/\R<C/\val ((A9 X).drop E)=C*val (P.drop E)+R/\(E<l-n+1->WrN wr (H+1) aI R))) (fun _ bu _=>(intOf bu+1).toNat)
  case atStart=>exact⟨l-n+1,_,_,Y,Q,b _,zqf og,K,b0,aH,aG,ai,L,by simp,zql _,b1.out,by rw[show(List.replicate (l-n+1) 0).drop (l-n+1)=[] from by simp,zpa,Nat.mul_zero,Nat.zero_add],fun h=>absurd h (Nat.lt_irrefl _)⟩
  case round=>
   clear K b0 aH aG ai L b1;obtain⟨E,P,R,Y,Q,eE,rfl,K,a1,aH,aG,ai,L,hrel⟩:=hrel;rcases E with _|E
   ·obtain⟨aJ,aW,rfl,ev,db,ad⟩:=(hrel.out.2.2.2.2 og).wl;have N:=c (hrel.out);have eF:e (∀v,(A9 R).getD v 0=(A9 R).getD v 0):=fun _=>rfl;have dY:e ((A9 R).length=(A9 R).length/\Lo (A9 R)):=⟨rfl,L6 R⟩;have b3:(A9 R).length<=n:=(by rw[<-U.out];exact U1 (Nat.le_of_lt hrel.out.2.2.1));clear hrel a1 aH aG ai;go_wp2_with fail;have du:(0:Int)<=F-1:=og
    go_loopw [13,14] (fun dE bt ao=>∃(D:Nat) (O:List Nat) (rs:Int),D<=O.length/\bt= .int .i64 ((D:Int)-1)/\dE= .int .u64 rs/\0<=rs/\rs<=F-1/\Wl ao (H+1) aJ O/\Row ao H 115 (C8 .u32 P)/\f a.heap.size a ao/\
     e (O.length=(A9 R).length/\Lo O/\(∀v,v<D->O.getD v 0=(A9 R).getD v 0)/\(val ((A9 R).drop D):Int)=val (O.drop D)*F+rs)) (fun _ bt _=>(intOf bt+1).toNat)
    case atStart=>exact⟨(A9 R).length,A9 R,0,b _,rfl,rfl,Int.le_refl _,du,ad,K,L,rfl,L6 R,fun _ _=>rfl,by simp[val]⟩
    case round=>
     clear ad K L;obtain⟨D,O,rs,Q,rfl,rfl,cz,cA,ad,K,L,hrel⟩:=hrel;rcases D with _|D
     ·have bd:=yjy og cz cA hrel.out.2.2.2;rw[N8] at bd;have dc:O.length<=aW:=(by have:=hrel.out.1;omega);have hr:IsL .u32 wr (H+1) wr.heap.size (.slice aJ O.length aW) O:=ad.isL dc db;rw[hrel.out.1] at hr;have M:IsL .u32 wr H (H+1) (.slice (some ⟨H,0,none⟩) (l-n+1) (l-n+1)) P:=(by have:=K.sv;exact⟨_,_,by rw[N.out.1],by rw[N.out.1];exact b _,by unfold maxLen;omega,this⟩);obtain⟨cX,cW⟩:=C4 hr M;have c5:=K.lt;have cU:=c bd;have au:=c hrel.out.2.1;have cl:=yer (a:=x) (b:=y) (q:=val P) (u:=R) (f:=F.toNat) og (by rw[<-bE.out];exact N.out.2.2.1) (by have:=N.out.2.2.2.1;rw[List.drop_zero,List.drop_zero,N8] at this;rw[<-cS.out,<-bE.out,this];omega);have bL:=c cl;clear cl bd hr M K ad hrel;go_wp2_with fail;refine(zxy cW.out N.out.2.1).mono ?_;rintro I cO ⟨⟨dH,rfl,dv⟩,rfl⟩;go_wp2_with fail;refine(zxy cX.out au.out).mono ?_;rintro I cO ⟨⟨s,rfl,dw⟩,rfl⟩;go_wp2_with fail;go_ret2;refine⟨⟨dH,s,rfl,?_,?_⟩,aN.out.trans (L.mono aN.out.size)⟩
      ·rw[<-bL.out.1];exact dv.wide (by have:=aN.out.size;omega) c5
      ·rw[<-bL.out.2,<-cU.out.1];exact dw.wide (t _) (b _)
     ·have T:((D+1:Nat):Int)-1=(D:Int):=og;rw[T];clear T;obtain⟨bR,sp,rfl,di,bf⟩:=ad (by rintro rfl;simp at Q);obtain⟨z,ak,bp,cJ⟩:=bf.numS (i:=D) og;have dA:z<=999999999:=(by have:=znu hrel.out.2.1 D;have:=ak.out;omega);have dC:=bf.frozen D;have M:=yjx cz cA bp dA;have dn:=M.1;have eN:=M.2.1;have dp:=M.2.2.1;have dq:=M.2.2.2;clear M;have dh:wr.cell? ⟨aX,aY,none⟩=some (.int .u32 F):=(L.cell (p:=⟨aX,aY,none⟩) aR.out.1).trans aR.out.2;have dj:D<(A9 R).length:=(by have:=hrel.out.1;omega);have dX:(F==0)=false:=beq_eq_false_iff_ne.2 og;have eB:(wr.setCell ⟨bR,D,none⟩ (.int .u32 ((rs*1000000000+z)/F))).cell? ⟨aX,aY,none⟩=some (.int .u32 F):=(by rw[World.cell?_setCell_other _ _ _ _ (by have:=aR.out.1;simp only[ne_eq,Addr.mk.injEq,not_and];omega)];exact dh);go_wp2;go_roundw;(case rel=>refine⟨D,O.set D ((rs*1000000000+z)/F).toNat,(rs*1000000000+z)%F,by rw[List.length_set];omega,rfl,rfl,dp,dq,fun _=>⟨bR,sp,rfl,di,bf.setS D _ og _ og⟩,K.far (by simp only;omega) _,L.setCell (by simp only;omega) _,?_⟩;have dB:z=((A9 R).getD D 0:Nat):=(by rw[<-hrel.out.2.2.1 D (Nat.lt_succ_self _)];exact ak.out);refine⟨by rw[List.length_set];exact hrel.out.1,R3 hrel.out.2.1 og,fun v cs=> ?_,yka dj hrel.out.1 dB dn hrel.out.2.2.2⟩;rw[getD_set_ne og];exact hrel.out.2.2.1 v og);case measure=>simp[intOf]
   ·have T:((E+1:Nat):Int)-1=(E:Int):=og;rw[T];clear T;have bT:=(aq.out.below L (b _));obtain⟨ba,oa,c4,_,c9,ch⟩:=bT (L8 (j:=E) (by rw[S.out];omega));subst c4;obtain⟨V,c7,ek,em,en⟩:=T8 (j:=E) (L6 X) ch (by rw[S.out];omega);have cQ:=c a1;have b3:e ((A9 R).length<=n):=(by rw[<-U.out];exact U1 (Nat.le_of_lt hrel.out.2.2.1));obtain⟨aJ,aW,rfl,eu,ew,b5⟩:=a1;have bD:=c b5;have ec:=b3.out;clear ch bT b5;go_wp2_with (at_builtin;refine yco U0 rfl _ _ rfl rfl (yvu wr V V.toNat og) rfl (zlr _ _) (bD.out.alloc ai _) (zzf _ _) (by simp only[zlr,List.length_cons,List.length_nil];omega) (by simp) ?_;intro dG an cy cb dz);have bY:IsL .u32 an wr.heap.size an.heap.size dG (V.toNat::A9 R):=(by have:=cy;rw[<-ynl] at this;exact Own.isL this);have ct:Lo (V.toNat::A9 R):=lo_cons.2 ⟨by omega,L6 R⟩;have aE:f wr.heap.size wr an:=((p _ wr).alloc (b _) _).trans cb;obtain⟨bC,au⟩:=C4 bY ct;clear cy cb dz bY ct cQ bD;refine(zxy bC.out au.out).mono ?_;rw[yon];have a2:=yom (a:=V.toNat) (R:=R) (B:=C) og hrel.out.2.2.1;have c6:e ((A9 X).getD E 0+1000000000*R=V.toNat+1000000000*R):=(by have:=c7.out;unfold e;omega);generalize V.toNat+1000000000*R=G at*;have bh:=ysw (R:=G) (B:=C) (n:=n-1) (by rw[U.out];omega) a2;have dZ:(A9 G).length<=n+1:=(by have:=bh.1;omega);have b4:=c bh.2;have cR:=c a2;clear bh a2 bC au;rintro I fb ⟨⟨e5,rfl,cE⟩,rfl⟩;have aT:=c cE;obtain⟨dM,dU,rfl,_,_,c3⟩:=cE;have N:=c (hrel.out);clear hrel;go_wp2_with fail;go_loop [10,11] (fun dD bq=>∃(v q:Nat),v<=(A9 G).length/\dD= .int .u64 (q:Int)/\bq= .int .i64 ((v:Int)-1)/\(n-1<=v\/v=(A9 G).length)/\e (q=val ((A9 G).drop v))) (fun _ bq=>(intOf bq+1).toNat);case atStart=>exact⟨(A9 G).length,0,b _,rfl,rfl,.inr rfl,by rw[e,List.drop_length];rfl⟩
    case round=>
     obtain⟨v,q,cs,rfl,rfl,dk,M⟩:=hrel;rcases u (n-1) v with eD|eC
     ·rcases v with _|v
      ·omega
      ·have T:((v+1:Nat):Int)-1=(v:Int):=og;rw[T];clear T;obtain⟨dS,e3,rfl,_,_,cg⟩:=c3 (L8 (j:=v) cs);obtain⟨z,ak,bp,e1,cJ⟩:=T8 (j:=v) (L6 G) cg og;clear cg;have eP:q<=999999999:=(by have aa:=yev (L6 G) (k:=v+1) (n:=1) og;rw[ztj,<-M.out] at aa;omega);go_wp2;go_round;(case rel=>refine⟨v,q*1000000000+z.toNat,by omega,by go_num,by go_num,.inl og,?_⟩;have aa:=zqy (l:=A9 G) (k:=v) og;have:=M.out;have:=ak.out;unfold e;omega);case measure=>simp[intOf]
     ·have bj:e (q=G/pw (n-1)):=ysu M.out og;have eO:q<1000000000000000000:=(by rw[bj.out];exact b4.out);have dr:0<=(q:Int)/J:=Int.ediv_nonneg og og;have ei:(J==0)=false:=beq_eq_false_iff_ne.2 og
      have hg:e (∀d:Nat,(d=999999999\/(d:Int)=(q:Int)/J)->G<(d+1)*C):=by
       intro d hd;refine yrs (n:=n-1) (by rw[U.out];omega) cR.out ?_;rcases hd with hd|hd
       ·exact .inl hd
       ·right;rw[<-bj.out];have:=b7.out;rw[this] at hd;exact_mod_cast hd
      have eK:¬n<=v:=og;have eL:(n:Int)-1>(v:Int)-1:=og;have eQ:(q:Int)/J<1000000000000000000:=Int.ediv_lt_of_lt_mul og (by have:=Int.mul_le_mul_of_nonneg_left (a:=1) (b:=J) (c:=1000000000000000000) og og;omega);have eY:IntKind.u64.wrap ((q:Int)/J)=(q:Int)/J:=IntWalk.u64_in _ og
      have hst:e (∃d0:Nat,d0<=999999999/\G<(d0+1)*C/\((q:Int)/J<=999999999->(q:Int)/J=d0)/\(999999999<(q:Int)/J->d0=999999999)):=by
       by_cases bi:(q:Int)/J<=999999999
       ·obtain⟨d0,ck⟩:=Int.eq_ofNat_of_zero_le dr;exact⟨d0,by omega,hg.out d0 (.inr ck.symm),fun _=>ck,fun h=>by omega⟩
       ·exact⟨999999999,b _,hg.out _ (.inl rfl),fun h=>absurd h bi,fun _=>rfl⟩
      have Z:=c (L.trans (aE.mono L.size));clear hg b4 bj dk;by_cases bi:(q:Int)/J<=999999999
      all_goals
       go_wp2
       go_loopw [12] (fun br ao=>∃d:Nat,br= .int .u64 (d:Int)/\d<=999999999/\f an.heap.size an ao/\e (G<(d+1)*C)) (fun br _=>(intOf br).toNat)
       case atStart=>
        obtain⟨d0,aa,aZ,c1,c2⟩:=hst.out
        first
         |exact⟨d0,by rw[c1 bi],aa,p _ _,aZ⟩
         |exact⟨d0,by rw[c2 og];rfl,aa,p _ _,aZ⟩
       case round=>
        clear hst
        obtain⟨d,rfl,ey,aA,de⟩:=hrel
        have eX:IntKind.u32.wrap (d:Int)=(d:Int):=IntWalk.u32_in _ og
        obtain⟨bA,cZ⟩:=C4 (ar.out.upB (Z.out.trans (aA.mono (Z.out.size)))) (aT.out.upB aA)
        go_wp2_with fail
        refine(yca wr (d:Int) og og).mono ?_
        rintro I fc ⟨⟨vs,rfl,W⟩,a3⟩
        rw[Int.toNat_natCast] at W
        have bO:=c W
        clear W
        go_wp2_with fail
        refine(ztl (bA.out.upB a3) bO.out (b _) (b _) (by rw[U.out];omega) (by have:=lim_len_le (n:=d) (k:=1);rw[ztj] at this;omega)).mono ?_
        rintro I dI ⟨⟨vp,rfl,aj⟩,cc⟩
        have aS:=c (aj.wide (lo':=0) (t _) (b _))
        have aB:=below_trans' aA (below_trans' a3 cc)
        clear aj bO
        go_wp2_with fail
        refine(ybs aS.out (aT.out.upB aB)).mono ?_
        rintro I fe ⟨rfl,cL,rfl⟩
        rcases u G (C*d) with bg|ac
        ·rw[ztq bg]
         clear aS
         have a9:=ypg bg
         have a8:=a9.1
         have cT:=c a9.2
         clear a9 bg
         have eZ:IntKind.u64.wrap ((d:Int)-1)=(d:Int)-1:=IntWalk.u64_in _ og
         go_wp2_with fail
         go_roundw
         case rel=>
          exact⟨d-1,by go_num,by omega,below_drewN aB _,cT.out⟩
         case measure=>simp[intOf];omega
        ·have eT:T7 (C*d) G<=0:=by unfold T7;split<;>(try split)<;>omega
         generalize T7 (C*d) G=e4 at*
         have a5:=below_drewN aB cL
         obtain⟨bB,ae⟩:=C4 (ar.out.upB (Z.out.trans (a5.mono (Z.out.size)))) ac
         clear aS aA aB a3 cc bA cZ ac
         go_wp2_with fail
         refine(yca (dI.drewN cL) (d:Int) og og).mono ?_
         rintro I ff ⟨⟨fa,rfl,W⟩,a4⟩
         rw[Int.toNat_natCast] at W
         have bP:=c W
         clear W
         go_wp2_with fail
         refine(ztl (bB.out.upB a4) bP.out (b _) (b _) (by rw[U.out];omega) (by have:=lim_len_le (n:=d) (k:=1);rw[ztj] at this;omega)).mono ?_
         rintro I cP ⟨⟨e9,rfl,aj⟩,ah⟩
         have bN:=c (aj.wide (lo':=0) (t _) (b _))
         have aC:=below_trans' a5 (below_trans' a4 ah)
         clear aj bP
         go_wp2_with fail
         refine(yye (aT.out.upB aC) bN.out (b _) (b _) ae.out og).mono ?_
         rintro I dJ ⟨⟨s,rfl,cI⟩,cd⟩
         have c0:=c cI
         have a6:=below_trans' aC cd
         have bm:Row dJ H 115 (C8 .u32 P):=((aE.trans (a6.mono aE.size)).block H K.lt).trans K
         obtain⟨z,ak,bp,cJ⟩:=bm.num (i:=E) (by rw[N.out.1];omega)
         have dC:=bm.frozen E
         have av:H<cP.heap.size:=Nat.lt_of_lt_of_le K.lt (k aE.size aC.size)
         have c8:=Z.out.trans (a6.mono Z.out.size)
         clear cI cd a6 aC bN bB a4 ah a5
         go_wp2_with fail
         go_roundw
         case rel=>
          have hd:=yph (R:=G) (B:=C) (d:=d) (by rw[Nat.mul_comm];exact ae.out) de.out
          have cH:=c0.out.setFar (p:=⟨H,E,none⟩) av (.int .u32 (d:Int))
          refine⟨E,P.set E d,G-C*d,cP.heap.size,_,by omega,by go_num,bm.setNum E d _ rfl,cH.isN,.inl av,k bX (Nat.le_of_lt av),b _,c8.setCell bX _,?_⟩
          refine⟨by rw[List.length_set];exact N.out.1,R3 N.out.2.1 og,by rw[Nat.mul_comm];exact hd.1,?_,fun _=>cH.mono av⟩
          rw[Nat.mul_comm C d]
          exact yvt (by rw[S.out];omega) (by rw[N.out.1];omega) N.out.2.2.2.1 c6.out (by rw[Nat.mul_comm];exact ae.out)
         case measure=>simp[intOf]
theorem ybt {w:i} {x y:Nat} (ha:IsN w 0 w.heap.size g x) (a:IsN w 0 w.heap.size j y) (e:0<y) (d:(A9 x).length<=2000000000):
 o m 147 #[g,j] w fun c w'=>(∃q b,c= .returned (.tuple #[q,b])/\IsN w' w.heap.size w'.heap.size q (x/y)/\IsN w' 0 w'.heap.size b (x%y))/\f w.heap.size w w':=by
 rcases u x y with h|h
 ·exact yyi ha a h
 ·exact yyg ha a h e d
theorem yyh {w:i} {x y:Nat} (ha:IsN w 0 w.heap.size g x) (l:IsN w 0 w.heap.size j y) (z:0<y) (v:(A9 x).length<=2000000000):
 o m 147 #[g,j] w fun h w'=>(∃q a,h= .returned (.tuple #[q,a])/\IsN w' 0 w'.heap.size q (x/y)/\IsN w' 0 w'.heap.size a (x%y))/\f w.heap.size w w':=
 (ybt ha l z v).mono fun h w' ⟨⟨q,a,n,r,hr⟩,s⟩=>⟨⟨q,a,n,r.wide (t _) (b _),hr⟩,s⟩
theorem yti {a:Nat} (h:0<a):1<=(A9 a).length:=by have:=lim_nil_iff (n:=a);omega
theorem yix {w:i} {x y:Nat} (ha:IsN w 0 w.heap.size g x) (C:IsN w 0 w.heap.size j y) (M:(A9 x).length<=2000000000) (N:(A9 y).length<=2000000000):
 o m 78 #[g,j] w fun t w'=>(∃v,t= .returned v/\IsN w' 0 w'.heap.size v (Nat.gcd x y))/\f w.heap.size w w':=by
 obtain⟨H,I⟩:=C4 ha C;obtain⟨A,S,rfl,_,_,_⟩:=ha;obtain⟨B,d,rfl,_,_,_⟩:=C;go_in;go_wp2_with fail;go_loopw [0,1] (fun P n wr=>∃X a:Nat,IsN wr 0 wr.heap.size P X/\IsN wr 0 wr.heap.size n a/\f w.heap.size w wr/\e (Nat.gcd X a=Nat.gcd x y/\(A9 X).length<=2000000000/\(A9 a).length<=2000000000)) (fun _ n wr=>numOf wr n);case atStart=>exact⟨x,y,H.out,I.out,p _ _,rfl,M,N⟩
 case round=>
  obtain⟨X,a,u,z,E,hrel⟩:=hrel;obtain⟨r,l⟩:=C4 u z;obtain⟨R,T,rfl,_,_,_⟩:=u;obtain⟨F,K,rfl,_,_,_⟩:=z;rcases Nat.eq_zero_or_pos a with b|b
  ·have L:(A9 a).length=0:=(by rw[b,N5];rfl);have J:e (X=Nat.gcd x y):=(by have:=hrel.out.1;rw[b,Nat.gcd_zero_right] at this;exact this);clear hrel b;go_wp2_with fail;go_ret;refine⟨⟨_,rfl,?_⟩,E⟩;rw[<-J.out];exact r.out
  ·have L:=yti b;have h:=c b;clear b;go_wp2_with fail;refine(yyh r.out l.out h.out hrel.out.2.1).mono ?_;rintro t Q ⟨⟨q,O,rfl,_,hr⟩,D⟩;obtain⟨s,G⟩:=C4 hr (l.out.up D);clear hr;go_wp2_with fail;go_roundw;(case rel=>refine⟨a,X%a,G.out,s.out,zpz E D,?_,hrel.out.2.2,k (U1 (Nat.le_of_lt (Nat.mod_lt _ h.out))) hrel.out.2.2⟩;rw[<-hrel.out.1,Nat.gcd_comm X a,Nat.gcd_rec a X,Nat.gcd_comm]);case measure=>show numOf Q O<numOf wr (.slice F (A9 a).length K);rw[ztc s.out,ztc l.out];exact Nat.mod_lt _ h.out
theorem ytp (w:i):NumS (w.alloc (.cells #[.int .u32 1] 115)) (G4 w.heap.size (w.alloc (.cells #[.int .u32 1] 115))) (.slice (some ⟨w.heap.size,0,none⟩) 1 1) 1:=by have h:=yaf .u32 w 115 [1] (by unfold maxLen;decide);unfold NumS;rw[Y5];exact IsL.isK h fun c a b=>⟨a,by rw[d];exact b⟩
theorem ytq {w:i} {d:Nat} {neg:Bool} {q:Rat} (ha:IsN w 0 w.heap.size g n) (p:IsN w 0 w.heap.size j d) (aa:d≠0) (L:(A9 n).length<=2000000) (hd:(A9 d).length<=2000000) (z:q=mkRat (sg neg n) d):o m 70 #[.bool neg,g,j] w (Y0 w q):=by
 obtain⟨S,T,I,H⟩:=X6 ha p L hd;obtain⟨A,X,rfl,_,_,_⟩:=ha;obtain⟨B,Y,rfl,_,_,_⟩:=p;clear L hd;obtain⟨r,ac,K,O,J⟩:=K7 w #[.bool false,.slice none 0 0,.slice none 0 0] 37;obtain⟨h,u⟩:=C4 (O) (K);have P:e (w.heap.size+1<=r.heap.size):=c (Nat.le_of_eq J.out.symm);clear O K;obtain⟨ag,ak,aq⟩:=C5 h.out;obtain⟨aD,aI,aM⟩:=H5 h.out;obtain⟨D,E⟩:=C4 (IsN.next S.out u.out) (IsN.next T.out u.out);by_cases l:n=0
 ·have Z:=ygx l;have U:e (q=0):=(by rw[e,z,l,zya,Rat.zero_mkRat]);clear l z;obtain⟨d0,ay,az⟩:=C5 (Row.alloc h.out (.cells #[.int .u32 1] 115));obtain⟨aA,aB,aC⟩:=H5 (Row.alloc h.out (.cells #[.int .u32 1] 115));go_in;go_wp2_with fail;rw[U.out];refine Y6 Tryz.results70 rfl rfl (Row.put3 (Row.alloc h.out _) _ _ _) (zmw (n:=0) (d:=1) (by rw[zxv,N5,Y5]) (yna u.out _) (b _) (yay (S:=G4 (w.heap.size+1) _)) (ytp r) og (oh J))
 ·have Z:=ygw l;obtain⟨t,y⟩:=nm (Nat.gcd n d);have V:e (E7 q=⟨neg,A9 (n/t),A9 (d/t)⟩):=(by rw[e,z,y];exact zva l aa);have G:e (0<t):=(by rw[e,y];exact Nat.gcd_pos_of_pos_right _ og);have R:=c y;clear l y z;go_in;go_wp2_with fail;clear ac;refine((show o m 78 #[.slice A (A9 n).length X,.slice B (A9 d).length Y] r (fun x w'=>(∃v,x= .returned v/\IsN w' 0 w'.heap.size v t)/\f r.heap.size r w') from by rw[R.out];exact yix D.out E.out (k I.out og) (k H.out og))).mono ?_;rintro x C ⟨⟨aT,rfl,hv⟩,p⟩;have F:=c (hv);obtain⟨ad,aQ,rfl,_,_,_⟩:=id hv;obtain⟨ah,al,ar⟩:=C5 (uR C h);obtain⟨aE,aJ,aN⟩:=H5 (uR C h);go_wp2_with fail;refine(ybt (uN C D) F.out G.out (k I.out og)).mono ?_;rintro x s ⟨⟨aU,aV,rfl,M,_⟩,p⟩;have W:=c (X7 M (uS C P));obtain⟨ae,aR,rfl,_,_,_⟩:=id M;obtain⟨ai,an,au⟩:=C5 (uR s h);obtain⟨aG,aK,aO⟩:=H5 (uR s h);go_wp2_with fail;refine(ybt (uN s E) (uN s F) G.out (k H.out og)).mono ?_;rintro x a ⟨⟨aW,aX,rfl,N,_⟩,p⟩;have Q:=c (X7 N (uS s P));obtain⟨af,aS,rfl,_,_,_⟩:=id N;obtain⟨aj,ao,av⟩:=C5 (uR a h);obtain⟨aH,aL,aP⟩:=H5 (uR a h);go_wp2_with fail;refine Y6 Tryz.results70 rfl rfl (Row.put3 (uR a h) _ _ _) (zmw V.out (uB a u) og (uF a W) Q.out og og)
theorem yjj {w:i} {g o:Nat} {T:Nat->Prop} {a:Value} (h:∀x,S x->x≠g/\T x):L2 S T w (w.setCell ⟨g,o,none⟩ a):=fun x b=>⟨(h x b).2,fun d=>World.cell?_setCell_other _ _ _ _ (fun c=>(h x b).1 (by cases c;rfl))⟩
theorem zxx {w:i} {q D:Rat} (h:IsQ w S v q) (j:∀g,S g->g<w.heap.size) (O:D= -q):o m 24 #[v] w (zvr S w D):=by
 subst O;have ah:(A9 q.num.natAbs).length<=9223372036854775807:=zxb (I7 (IsK.stb.to (K6 h).choose_spec.choose_spec.choose_spec.choose_spec.choose_spec.2.2.1.out (F6 j)));obtain⟨neg,A,l,B,n,rfl,K,J,I⟩:=K6 h;have hr:=yiw q;rw[show E7 q=⟨neg,A9 q.num.natAbs,A9 q.den⟩ from by rw[K.out];rfl] at hr;obtain⟨U,aj,r,E,x,W⟩:=zko w #[.bool neg,.slice A (A9 q.num.natAbs).length l,.slice B (A9 q.den).length n] #[.bool false,.slice none 0 0,.slice none 0 0] 37 37;have T:=IsK.stb.to J.out (zpo (S:=S) r j);have L:=IsK.stb.to I.out (zpo (S:=S) r j);obtain⟨X,Y,Z⟩:=C5 E;obtain⟨ae,af,ag⟩:=H5 E;obtain⟨ak,al,an⟩:=C5 x;obtain⟨aa,ac,ad⟩:=H5 x;obtain⟨C,H,G,F⟩:=X6 x r T L;have hfin:∀s:Bool,E7 (-q)=⟨s,A9 q.num.natAbs,A9 q.den⟩->zvr S w (-q) (.returned (.agg #[.bool s,.slice A (A9 q.num.natAbs).length l,.slice B (A9 q.den).length n])) (put3 (U.setCell ⟨w.heap.size,0,none⟩ (.bool s)) (w.heap.size+1) (.bool s) (.slice A (A9 q.num.natAbs).length l) (.slice B (A9 q.den).length n)):=fun s P=>(by have Q:=IsK.stb.to G.out (yjj (g:=w.heap.size) (o:=0) (a:= .bool s) (T:=S) fun g a=>⟨by have:=j g a;omega,a⟩);have R:=IsK.stb.to F.out (yjj (g:=w.heap.size) (o:=0) (a:= .bool s) (T:=S) fun g a=>⟨by have:=j g a;omega,a⟩);exact⟨⟨_,rfl,yag P (IsK.stb.to Q (zox fun g a=>⟨by have:=j g a;omega,a⟩)) (IsK.stb.to R (zox fun g a=>⟨by have:=j g a;omega,a⟩))⟩,zrb (H.out.setCell (p:=⟨w.heap.size,0,none⟩) (b _) _) og _ _ _⟩);obtain⟨y,z,V⟩:=G6 hfin hr j;have ai:w.heap.size≠w.heap.size+1:=og;cases neg with
 |true=>go_in;go_wp2_with fail;refine Y6 Tryz.results24 rfl rfl (Row.put3 (Row.far C.out (p:=⟨w.heap.size,0,none⟩) (by show w.heap.size+1≠w.heap.size;omega) _) _ _ _) (y.out false (by rw[z.out];rfl))
 |false=>go_in;go_wp2_with fail;refine Y6 Tryz.results24 rfl rfl (Row.put3 (Row.far C.out (p:=⟨w.heap.size,0,none⟩) (by show w.heap.size+1≠w.heap.size;omega) _) _ _ _) (y.out _ ?_);rw[z.out];congr 1;rw[Bool.eq_iff_iff];have M:= @yba q;have N:= @lim_nil_iff q.num.natAbs;simp;rw[<-M,<-N];omega
theorem yjd {w:i} {h l O:Rat} (ha:IsQ w (C2 w) g h) (s:IsQ w (C2 w) j l) (A:Sz h 100000) (B:Sz l 100000) (hc:O=h*l):o m 20 #[g,j] w (Y0 w O):=by
 have ag:=c ha;obtain⟨M,E,I,G,K,rfl,ak,aX,aV⟩:=K6 ha;have ah:=c s;obtain⟨N,F,J,H,L,rfl,al,aY,aW⟩:=K6 s;obtain⟨D,aT⟩:∃D:Bool,(!(M==N))=D:=⟨_,rfl⟩;obtain⟨x,C⟩:=nm (h.num.natAbs*l.num.natAbs);obtain⟨d,hd⟩:=nm (h.den*l.den);have an:e (O=mkRat (sg D x) d):=(by rw[e,hc,<-aT,C,hd];exact(zz1361 ak.out al.out).symm);obtain⟨ao,aj⟩:=C4 C hd;have ai:e (d≠0):=(by rw[e,hd];exact Nat.mul_ne_zero h.den_nz l.den_nz);have au:e ((A9 x).length<=2000000):=(by rw[e,C];exact k (zqw A.1 B.1) og);have ar:e ((A9 d).length<=2000000):=(by rw[e,hd];exact k (zqw A.2 B.2) og);obtain⟨Q,R⟩:=C4 A B;clear ha s hc A B C hd;obtain⟨q,aU,z,ra,ae,ad,aq⟩:=zvz w #[.bool M,.slice E (A9 h.num.natAbs).length I,.slice G (A9 h.den).length K] #[.bool N,.slice F (A9 l.num.natAbs).length J,.slice H (A9 l.den).length L] #[.bool false,.slice none 0 0,.slice none 0 0] 37 37 37;have S:=nQ ag z;have u:=c (ra);have T:=nQ ah z;obtain⟨y,p,az⟩:=G6 (ae) (ad) (z);have P:e (w.heap.size+3<=q.heap.size):=c (Nat.le_of_eq aq.out.symm);clear ra ae ad z;obtain⟨aA,aD,aH⟩:=C5 u.out;obtain⟨aK,aN,aQ⟩:=C5 y.out;obtain⟨a4,a8,bf⟩:=C5 p.out;obtain⟨bj,br,bw⟩:=H5 p.out;go_in;go_wp2_with fail;clear aU
 go_region_held3 (fun w'=>w'.cell? ⟨w.heap.size,0,none⟩=some (.bool M)/\w'.cell? ⟨w.heap.size,1,none⟩=some (.slice E (A9 h.num.natAbs).length I)/\w'.cell? ⟨w.heap.size,2,none⟩=some (.slice G (A9 h.den).length K)/\w'.cell? ⟨w.heap.size+1,0,none⟩=some (.bool N)/\w'.cell? ⟨w.heap.size+1,1,none⟩=some (.slice F (A9 l.num.natAbs).length J)/\w'.cell? ⟨w.heap.size+1,2,none⟩=some (.slice H (A9 l.den).length L))
  (first
    |exact⟨aA,aD,aH,aK,aN,aQ⟩
    |exact⟨aB,aE,aI,aL,aO,aR⟩
    |exact⟨aC,aG,aJ,aM,aP,aS⟩
    |exact⟨U,V,W,X,Y,Z⟩
    |exact⟨zne U og,zne V og,zne W og,zne X og,zne Y og,zne Z og⟩)
  (first
    |(go_at_call 69;have hc:=(show o m 69 #[.slice E (A9 h.num.natAbs).length I,.slice F (A9 l.num.natAbs).length J] (World.drew q) (fun r w'=>(∃v,r= .returned v/\IsN w' (World.heap (World.drew q)).size w'.heap.size v x)/\f (World.heap (World.drew q)).size (World.drew q) w') from by rw[ao.out];exact ztl (I7 (znd (uQ q.drew S))) (I7 (znd (uQ q.drew T))) (b _) (b _) (k Q.out.1 og) (k R.out.1 og));(with_reducible refine hc.mono ?_);clear hc;rintro r n ⟨⟨bG,rfl,hv⟩,s⟩;have ay:=c (X7 hv (uS q.drew P));obtain⟨a0,bB,rfl,_,_,_⟩:=id hv;obtain⟨aB,aE,aI⟩:=C5 (uR n u);obtain⟨aL,aO,aR⟩:=C5 (uR n y);obtain⟨a5,a9,bg⟩:=C5 (uR n p);obtain⟨bm,bt,bx⟩:=H5 (uR n p))
    |(go_at_call 69;have hc:=(show o m 69 #[.slice G (A9 h.den).length K,.slice H (A9 l.den).length L] n (fun r w'=>(∃v,r= .returned v/\IsN w' (World.heap n).size w'.heap.size v d)/\f (World.heap n).size n w') from by rw[aj.out];exact ztl (I7 (zuo (uQ n S))) (I7 (zuo (uQ n T))) (b _) (b _) (k Q.out.2 og) (k R.out.2 og));(with_reducible refine hc.mono ?_);clear hc;rintro r t ⟨⟨bH,rfl,aa⟩,s⟩;have af:=c (X7 aa (uS n P));obtain⟨a1,bC,rfl,_,_,_⟩:=id aa;obtain⟨aC,aG,aJ⟩:=C5 (uR t u);obtain⟨aM,aP,aS⟩:=C5 (uR t y);obtain⟨a6,bd,bh⟩:=C5 (uR t p);obtain⟨bp,bu,bA⟩:=H5 (uR t p))
    |(go_at_call 70;have hc:=ytq (neg:=D) (I7 (IsK.stb.old (uF t ay))) (I7 (IsK.stb.old af.out)) ai.out au.out ar.out an.out;(with_reducible refine hc.mono ?_);clear hc;rintro r a ⟨⟨bI,rfl,ac⟩,s⟩;have av:=c (IsQ.stb.le ac (uS t P));obtain⟨bF,a2,bD,aZ,bE,rfl,_,_,_⟩:=K6 ac;obtain⟨U,V,W⟩:=C5 (uR a u);obtain⟨X,Y,Z⟩:=C5 (uR a y);obtain⟨a3,a7,be⟩:=C5 (uR a p);obtain⟨bi,bq,bv⟩:=H5 (uR a p)))
 go_wp2_with fail;refine Y6 Tryz.results20 rfl rfl (Row.put3 (uR a p) _ _ _) (zvd av.out (uB a az) og og)
end Go.Proofs.YtdgilbgdkmhcmaaGreatDoor
