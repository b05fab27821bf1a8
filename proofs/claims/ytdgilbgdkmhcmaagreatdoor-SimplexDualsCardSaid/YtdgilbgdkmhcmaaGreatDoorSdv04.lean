/-
 The contract of package long's Div.
-/
import Derived.Test.YtdgilbgdkmhcmaaGreatDoorSdv03
import Derived.IntWalk
namespace Go.Proofs.YtdgilbgdkmhcmaaGreatDoor
open Go.RowKit
set_option linter.unusedVariables false
set_option maxRecDepth 100000
set_option maxHeartbeats 8000000
open _root_.Go.Lib renaming hid → j
open _root_.Nat renaming le_refl → t, le_trans → H, lt_or_ge → u, zero_le → I
open _root_.List renaming getD_eq_getElem?_getD → D, getElem?_eq_getElem → E
open _root_.And renaming intro → C
open _root_.Go renaming World → f, Calls → s
open _root_.Go.RowKit renaming Below → o, Hid → e
open _root_.Go.Proofs.Tryz renaming prog → p
variable {S c hi G i k lo lo' m n : Nat} {l : List Nat} {v r F : Value}
theorem ypf (a off i h:Nat) (e b S:List Nat) (B:Option Addr) (c d m:Nat) (v:List Nat) (w:f) (lo hi:Nat) (y:e.length=off) (r:i=m+3) (q:h=m+2) (hv:Lo v) (n:Lo b) (A:v.length=m+2) (o:b.length=m+3) (x:m<=8589934592)
 (t:e.length<=8589934592) (hc:m+3<=c) (z:1<=v.getD (m+1) 0) (u:val b<val v*1000000000) (hr:Row w a 115 (C8 .u32 (e++b++S))) (k:SV w lo hi B (C8 .u32 v)) (l:a<lo\/hi<=a):
 s p 204 #[.slice (some ⟨a,off,none⟩) i c,.slice B h d] w fun j w'=>(∃g,j= .returned (.int .u32 ((val b/val v:Nat):Int))/\Row w' a 115 (C8 .u32 (e++g++S))/\g.length=m+3/\Lo g/\val g=val b%val v)/\Only a w w':=by subst y;subst r;subst q;exact ypi a e b S B c d m v w lo hi hv n A o x t hc z u hr k l
theorem zzo {w:f} {x y:Nat} (ha:IsN w lo hi r x) (a2:IsN w lo' G F y) (a8:hi<=w.heap.size) (a9:G<=w.heap.size) (ac:(A9 x).length<=4294967296) (b7:(A9 y).length<=4294967296) (cx:0<y):
 s p 196 #[r,F] w fun b w'=>(∃q bw,b= .returned (.tuple #[q,bw])/\IsN w' w.heap.size w'.heap.size q (x/y)/\IsN w' w.heap.size w'.heap.size bw (x%y))/\o w.heap.size w w':=by
 obtain⟨P,X⟩:=C4 ha a2;obtain⟨A,c,rfl,bN,cq,cd⟩:=ha;obtain⟨B,d,rfl,bR,cr,aQ⟩:=a2;rcases u x y with ad|ad
 ·have aM:e (x/y=0/\x%y=x):=⟨Nat.div_eq_of_lt ad,Nat.mod_eq_of_lt ad⟩;have aj:e (T7 x y= -1):=zqu ad;go_in;go_wp2_with fail;refine(zrj P.out X.out).mono ?_;rw[aj.out];rintro b bx ⟨rfl,n,rfl⟩;go_wp2_with fail;refine(zph (P.out.drewN n) ac).mono ?_;rintro b ao ⟨⟨v,rfl,hv⟩,U⟩;go_wp2_with fail;go_ret2;refine⟨⟨_,_,rfl,?_,?_⟩,((Below.refl _ w).trans (below_drewN (Below.refl _ _) n)).trans U⟩
  ·rw[aM.out.1];exact IsN.zero
  ·rw[aM.out.2];exact hv
 ·have aj:e (0<=T7 x y):=(by unfold e T7;split<;>(try split)<;>omega);by_cases ak:(A9 y).length=1
  ·obtain⟨bb,ob,rfl,_,_,Z⟩:=aQ (L8 (j:=0) og);obtain⟨aH,b1,cw,b3,b5⟩:=T8 (j:=0) (L6 y) Z og;clear Z;rw[Nat.add_zero] at b5
   have bq:aH=(y:Int):=by
    rw[b1.out];have h:=N8 y;match bU:A9 y,ak with
    |[z],_=>rw[bU] at h;simp[val] at h;simp[h]
   have bB:=j bq;have b4:1<=aH:=og;clear bq;have cc:=j ak;have cl:(A9 y).length<=1:=og;have cm:1<=(A9 y).length:=og;clear ak;go_in;go_wp2_with fail;refine(zrj P.out X.out).mono ?_;generalize T7 x y=sg at*;have b0:=aj.out;rintro b bx ⟨rfl,n,rfl⟩;go_wp2_with fail;refine(yjz (P.out.drewN n) a8 ac b4 b3).mono ?_;rintro b ao ⟨⟨v,cF,rfl,bZ,cv,bY,hv⟩,U⟩;go_wp2_with fail;refine(ybb _ _ bZ og).mono ?_;rintro b aG ⟨⟨cG,rfl,bi⟩,R⟩;go_wp2_with fail;go_ret2;have br:aH.toNat=y:=oh bB;rw[bY.out,br] at bi;rw[br] at hv;have V:o w.heap.size w ao:=(below_drewN (Below.refl _ w) n).trans U;have ae:=V.size;have bt:=R.size;exact⟨⟨_,_,rfl,(hv.below R (t _)).wide (t _) bt,bi.wide ae (t _)⟩,V.trans (R.mono ae)⟩
  ·obtain⟨m,aa⟩:∃m,(A9 y).length=m+2:=(by refine⟨(A9 y).length-2,?_⟩;have:(A9 y).length≠0:=(by rw[ne_eq,lim_nil_iff];omega);omega);obtain⟨k,an⟩:∃k,(A9 x).length=m+2+k:=⟨(A9 x).length-(m+2),by have:=U1 ad;omega⟩;rw[aa] at bR b7;rw[an] at bN ac;have cn:(((m:Int)+2)==1)=false:=beq_eq_false_iff_ne.2 og;obtain⟨bb,ob,rfl,_,_,Z⟩:=aQ (L8 (j:=m+1) og);obtain⟨Y,a3,ck,bO,bQ⟩:=T8 (j:=m+1) (L6 y) Z og;clear Z ak;have bP:1<=Y:=(by have:=yla (L6 y) aa (by rw[N8];exact lim_len_lt.1 og);have:=a3.out;omega);have hF:=yqo (L6 y) aa a3.out bP bO;have bF:=hF.1;have av:=hF.2.1;have aI:=j hF.2.2;clear hF;have aL:e (val (A9 x)*(1000000000/(Y+1)).toNat<pw (m+2+k+1)):=(by have Q:=zpk x;rw[an] at Q;rw[N8,e,X9,Nat.mul_comm 1000000000];exact Nat.lt_of_le_of_lt (Nat.mul_le_mul_left x (show(1000000000/(Y+1)).toNat<=1000000000 by omega)) (Nat.mul_lt_mul_of_pos_right Q og));obtain⟨ar,ai⟩:=C4 an aa;clear an aa;rw[ar.out] at P⊢;rw[ai.out] at X⊢;go_in;go_wp2_with fail;refine(zrj P.out X.out).mono ?_;generalize T7 x y=sg at*;have b0:=aj.out;rintro b bx ⟨rfl,n,rfl⟩;go_wp2_with fail;have aR:0<=1000000000/(Y+1):=og;rw[N8] at aI aL;generalize aS:1000000000/(Y+1)=af at*;have cb:=j aS;clear aS;refine(ykx (P.out.drewN n) a8 (m+2+k+1) og (by rw[ar.out];omega) og aR av aL.out).mono ?_;rintro b ao ⟨⟨L,bC,rfl,bI,M,aT,aU,aV⟩,U⟩;have W:=j (C aT (C aU aV));clear aT aU aV;have V:o w.heap.size w ao:=(below_drewN (Below.refl _ w) n).trans U;have ae:=V.size;have bJ:=M.lt;go_wp2_with fail;refine(ykx (X.out.below V a9) (H a9 ae) (m+2) og (by rw[ai.out];omega) og aR av aI.out).mono ?_;rintro b aG ⟨⟨ag,g,rfl,ch,S,aW,aX,aY⟩,R⟩;have N:=j (C aW (C aX aY));clear aW aX aY;have bg:=M.below R bJ;clear M;have a5:o w.heap.size w aG:=V.trans (R.mono ae);have bt:=a5.size;have cj:=S.lt;go_wp2_with (at_make;refine zsg U0 rfl _ _ rfl (k+1) rfl rfl og og og ?_;intro K b8 bG T al cA);have bK:w.heap.size<=L:=bI;have cf:aG.heap.size<=K:=oh bG;have a4:o w.heap.size w b8:=a5.trans (al.mono og);have O:e (val g=y*af.toNat/\0<val g/\val g<=pw (m+2)/\1<=g.getD (m+1) 0):=by have Q:=N.out.2.2;have bE:pw (m+1)<=y:=lim_len_lt.1 (by rw[ai.out];omega);have aP:y*1<=y*af.toNat:=Nat.mul_le_mul_left y og;refine⟨Q,by omega,?_,yla N.out.2.1 N.out.1 og⟩;have:=zkz N.out.2.1;rw[N.out.1] at this;omega
   go_loopw [12] (fun J wr=>∃(i:Nat) (a l:List Nat),i<=k+1/\J= .int .i64 ((i:Int)-1)/\Row wr L 115 (C8 .u32 a)/\Row wr ag 115 (C8 .u32 g)/\Row wr K 115 (C8 .u32 l)/\o w.heap.size w wr/\
    e (a.length=m+2+k+1/\Lo a/\l.length=k+1/\Lo l/\(∀J,J<i->l.getD J 0=0)/\val (a.drop i)<val g/\val a+val g*val l=x*af.toNat)) (fun J _=>(intOf J+1).toNat)
   case atStart=>
    refine⟨k+1,bC,_,t _,zqf og,bg.below al og,S.below al og,T,a4,W.out.1,W.out.2.1,by simp,zql _,?_,?_,?_⟩
    ·intro J _;rw[D,List.getElem?_replicate];split<;>rfl
    ·rw[O.out.1];exact ypk W.out.1 W.out.2.2 (by have:=zpk x;rw[ar.out] at this;exact this) (lim_len_lt.1 (by rw[ai.out];omega)) og
    ·rw[W.out.2.2,zyn (l:=List.replicate (k+1) 0) (fun x ac=>(List.mem_replicate.1 ac).2),Nat.mul_zero,Nat.add_zero]
   case round=>
    clear bQ bg S T U R al a4;obtain⟨i,a,l,hi,rfl,M,S,T,aC,hrel⟩:=hrel;rcases i with _|i
    ·have az:val a<val g:=(by have:=hrel.out.2.2.2.2.2.1;rw[List.drop_zero] at this;exact this);have aA:val a+val g*val l=x*af.toNat:=hrel.out.2.2.2.2.2.2;rw[O.out.1] at az aA;have a7:=yer og az aA
     have aO:e (val (a.take (m+2))=val a):=by
      have Q:=zpb a (m+2) (by have:=hrel.out.1;omega);rcases Nat.eq_zero_or_pos (val (a.drop (m+2))) with au|au
      ·rw[au,Nat.mul_zero,Nat.add_zero] at Q;exact Q.symm
      ·have:=Nat.mul_le_mul_left (pw (m+2)) au;have bE:=O.out.2.2.1;have aP:=hrel.out.2.2.2.2.2.1;rw[List.drop_zero] at aP;omega
     have aK:=j a7;clear az aA a7;go_wp2_with fail
     have bM:IsL .u32 wr L (L+1) (.slice (some ⟨L,0,none⟩) (m+2) (m+2+k+1)) (a.take (m+2)):=
      ⟨_,_,by rw[List.length_take,Nat.min_eq_left (by have:=hrel.out.1;omega)],by rw[List.length_take];omega,by unfold maxLen;omega,by rw[zwa];exact M.sv.take _⟩
     refine(ylc bM (zlw hrel.out.2.1 _)).mono ?_;rintro b b9 ⟨⟨cH,rfl,bj⟩,rfl⟩;rw[aO.out] at bj;have cg:=M.lt;go_wp2_with fail;refine(yjz bj og (by have:=ytk (zlw hrel.out.2.1 (m+2));rw[aO.out,List.length_take] at this;omega) bF av).mono ?_;rintro b ca ⟨⟨cI,cE,rfl,_,_,_,bm⟩,aB⟩;rw[aK.out.2] at bm;go_wp2_with fail;have bh:=T.below aB T.lt;have bu:=aC.size;have cB:=aB.size;have bL:IsL .u32 ca K (K+1) (.slice (some ⟨K,0,none⟩) (k+1) (k+1)) l:=⟨_,_,by rw[hrel.out.2.2.1],by have:=hrel.out.2.2.1;omega,by unfold maxLen;omega,bh.sv⟩;refine(ylc bL hrel.out.2.2.2.1).mono ?_;rintro b cK ⟨⟨cJ,rfl,bp⟩,rfl⟩;rw[aK.out.1] at bp;have bH:=bh.lt;go_wp2_with fail;go_ret2;exact⟨⟨_,_,rfl,bp.wide og bH,bm.wide bu (t _)⟩,aC.trans (aB.mono bu)⟩
    ·have a6:=yes hrel.out.2.1 (j:=i) (n:=m+2) (by have:=hrel.out.1;omega) O.out.2.2.1 hrel.out.2.2.2.2.2.1;have aJ:=j a6;clear a6;rw[show(((i+1:Nat):Int)-1)=(i:Int) from by omega];have bf:Row wr L 115 (C8 .u32 (a.take i++(a.drop i).take (m+2+1)++a.drop (i+(m+2)+1))):=(by have b:a.take i++(a.drop i).take (m+2+1)++a.drop (i+(m+2)+1)=a:=(by rw[List.append_assoc,show i+(m+2)+1=i+(m+2+1) by omega,<-List.drop_drop,List.take_append_drop,List.take_append_drop]);rw[b];exact M);go_wp2_with fail
     refine(ypf L i _ _ (a.take i) ((a.drop i).take (m+2+1)) (a.drop (i+(m+2)+1)) _ _ _ m g wr ag (ag+1) (by rw[List.length_take];have:=hrel.out.1;omega) og og N.out.2.1 (zlw (zus hrel.out.2.1 _) _) N.out.1
      (by rw[List.length_take,List.length_drop];have:=hrel.out.1;omega) og (by rw[List.length_take];omega) og O.out.2.2.2 aJ.out.1 bf S.sv og).mono ?_
     rintro b b9 ⟨⟨bD,rfl,bV,aZ,a0,a1⟩,ay⟩;have ah:=j (C aZ (C a0 a1));clear aZ a0 a1;have bX:=S.only ay og;have aD:=T.only ay og;have bT:=aC.trans (ay.below bK);have aN:e (val ((a.drop i).take (m+2+1))/val g<1000000000):=Nat.div_lt_of_lt_mul (by have:=aJ.out.1;exact this);generalize bd:val ((a.drop i).take (m+2+1))/val g=aE at*;have bA:=j bd;clear bd;generalize be:(aE:Int)=bv at*;have aq:=j be;clear be;have ct:0<=bv:=oh aq;have cu:bv<=999999999:=zkb aq aN;obtain⟨z,cy,cz,cC⟩:=aD.num (i:=i) (by rw[hrel.out.2.2.1];exact hi);have cD:=aD.frozen i;clear M bf S T;go_wp2;go_roundw
     case rel=>
      have hst:=ypl hrel.out.2.1 (j:=i) (n:=m+2) (M':=bD) (Lq:=l) (by have:=hrel.out.1;omega) O.out.2.2.1 O.out.2.1 hrel.out.2.2.2.2.2.1 ah.out.2.2 ah.out.1 (by rw[hrel.out.2.2.1];exact hi) (hrel.out.2.2.2.2.1 i og) hrel.out.2.2.2.2.2.2;rw[bA.out] at hst;refine⟨i,_,l.set i aE,by omega,rfl,bV.far (by show L≠K;omega) _,bX.far (by show ag≠K;omega) _,aD.setNum i aE _ aq.out.symm,bT.setCell (by show w.heap.size<=K;omega) _,?_,?_,?_,?_,?_,hst.1,hst.2⟩
      ·simp only[List.length_append,List.length_take,List.length_drop,ah.out.1];have:=hrel.out.1;omega
      ·rw[lo_append,lo_append];exact⟨⟨zlw hrel.out.2.1 _,ah.out.2.1⟩,zus hrel.out.2.1 _⟩
      ·rw[List.length_set];exact hrel.out.2.2.1
      ·exact R3 hrel.out.2.2.2.1 aN.out
      ·intro J cs;rw[getD_set_ne og];exact hrel.out.2.2.2.2.1 J og
     case measure=>simp[intOf]
def L9 (l:List Nat):Int:=if 1024<l.length then 4 else if l.any (fun x=>decide (1000000000<=x)) then 3 else if l.getLastD 1=0 then 3 else 0
theorem ydy (h:1024<l.length):L9 l=4:=by unfold L9;rw[if_pos h]
theorem ydw (h:¬1024<l.length) {x:Nat} (b:x∈l) (a:1000000000<=x):L9 l=3:=by unfold L9;rw[if_neg h,if_pos];rw[List.any_eq_true];exact⟨x,b,by simpa using a⟩
theorem zzj (h:¬1024<l.length) (b:Lo l):L9 l=if l.getLastD 1=0 then 3 else 0:=by unfold L9;rw[if_neg h,if_neg];rw[List.any_eq_true];rintro⟨x,c,a⟩;have:=b x c;simp at a;omega
theorem zqb (h:L9 l=0):l.length<=1024/\Lo l/\l=A9 (val l):=by
 unfold L9 at h;split at h
 ·omega
 ·split at h
  ·omega
  ·rename_i f c;split at h
   ·omega
   ·rename_i d
    have b:Lo l:=by
     intro x e;rcases u x 1000000000 with a|a
     ·exact a
     ·exact absurd (List.any_eq_true.2 ⟨x,e,by simpa using a⟩) c
    exact⟨by omega,b,(yas b d).symm⟩
theorem ydx (h:(A9 n).length<=1024):L9 (A9 n)=0:=by rw[zzj og (L6 n),if_neg (ysl n)]
theorem ygm (h:0<l.length):l.getLastD 1=l.getD (l.length-1) 0:=by rw[List.getLastD_eq_getLast?,List.getLast?_eq_getElem?,D,E og];rfl
theorem yfv (h:k<l.length):l.getD k 0∈l:=by rw[D,E h];exact List.getElem_mem h
theorem yhe (h:∀a,a<l.length->l.getD a 0<1000000000):Lo l:=by intro x c;obtain⟨a,b,rfl⟩:=List.getElem_of_mem c;have:=h a b;rw[D,E b] at this;exact this
theorem zri {w:f} (ha:IsL .u32 w lo hi r l):
 s p 188 #[r] w fun o w'=>o= .returned (.int .i64 (L9 l))/\w=w':=by
 obtain⟨A,c,rfl,hc,J,y⟩:=ha;by_cases t:1024<l.length
 ·have a:=j (ydy t);go_in;go_wp2;go_ret;exact⟨H6 a.out.symm,rfl⟩
 ·go_in;go_wp2;go_loop [10] (fun i=>∃k:Nat,k<=l.length/\i= .int .i64 k/\e (∀d,d<k->l.getD d 0<1000000000)) (fun i=>l.length-(intOf i).toNat);case atStart=>exact⟨0,I _,rfl,fun d E=>by omega⟩
  case round=>
   obtain⟨k,K,rfl,q⟩:=hrel;by_cases n:k<l.length
   ·obtain⟨b,off,rfl,_,_,g⟩:=y (L8 (j:=k) n);obtain⟨x,m,F,D⟩:=zmn (j:=k) g n;clear g;rcases Int.lt_or_le x 1000000000 with G|G
    ·go_wp2;go_round
     case rel=>
      refine⟨k+1,n,by go_num,?_⟩;intro d E;rcases u d k with h|h
      ·exact q.out d h
      ·obtain rfl:d=k:=og;have:=m.out;omega
     case measure=>simp[intOf];omega
    ·have a:=j (ydw t (yfv n) (oh m));go_wp2;go_ret;exact⟨H6 a.out.symm,rfl⟩
   ·obtain rfl:k=l.length:=og;have z:=j (zzj t (yhe q.out));clear q;by_cases C:0<l.length
    ·obtain⟨b,off,rfl,_,_,g⟩:=y (L8 (j:=l.length-1) og);obtain⟨x,m,F,D⟩:=zmn (j:=l.length-1) g og;clear g;have B:=j (ygm C);by_cases v:x=0
     ·subst v;have a:e (L9 l=3):=(by unfold e;rw[z.out,if_pos];rw[B.out];have:=m.out;omega);go_wp2;go_ret;exact⟨H6 a.out.symm,rfl⟩
     ·have H:(x==0)=false:=beq_eq_false_iff_ne.2 v;have a:e (L9 l=0):=(by unfold e;rw[z.out,if_neg];rw[B.out];have:=m.out;omega);clear v;go_wp2;go_ret;exact⟨H6 a.out.symm,rfl⟩
    ·have o:l=[]:=List.eq_nil_of_length_eq_zero og;subst o;(have a:e (L9 []=0):=by show L9 []=0;decide);go_wp2;go_ret;exact⟨H6 a.out.symm,rfl⟩
theorem IsL.alloc {k:IntKind} {w:f} (h:IsL k w lo hi v l) (b:hi<=w.heap.size) (a:Obj):IsL k (w.alloc a) lo hi v l:=
 h.below ((Below.refl _ _).alloc (t _) a) b
theorem IsN.alloc {w:f} (h:IsN w lo hi v n) (b:hi<=w.heap.size) (a:Obj):IsN (w.alloc a) lo hi v n:=IsL.alloc h b a
theorem IsL.isN {w:f} (h:IsL .u32 w lo hi v l) (hc:L9 l=0):IsN w lo hi v (val l):=by unfold IsN;rw[<-(zqb hc).2.2];exact h
theorem zwd (hc:L9 l=0):(A9 (val l)).length<=1024:=by rw[<-(zqb hc).2.2];exact(zqb hc).1
theorem yqg {a b:List Nat} (f:a.length=b.length) (h:∀c,c<a.length->a.getD c 0=b.getD c 0):a=b:=by apply List.ext_getElem f;intro c d e;have:=h c d;rw[D,D,E d,E e] at this;exact this
theorem zzb {w:f} {a b:List Nat} (ha:IsL .u32 w lo hi r a) (v:IsL .u32 w lo' G F b):
 s p 76 #[r,F] w fun M w'=>M= .returned (.bool (decide (a=b)))/\Dr w w':=by
 have Q:=ha.length_le;have R:=v.length_le;unfold maxLen at Q R;obtain⟨A,c,rfl,_,_,O⟩:=ha;obtain⟨B,d,rfl,_,_,P⟩:=v;by_cases o:a.length=b.length
 ·have N:a.length<=b.length:=og;have T:b.length<=a.length:=og;have K:=j o;clear o;go_in;go_wp2;go_loopw [5] (fun i wr=>∃k:Nat,k<=a.length/\i= .int .i64 (k:Int)/\Dr w wr/\e (∀g,g<k->a.getD g 0=b.getD g 0)) (fun i _=>a.length-(intOf i).toNat);case atStart=>exact⟨0,I _,rfl,Dr.refl _,fun g S=>by omega⟩
  case round=>
   obtain⟨k,V,rfl,⟨n,rfl⟩,t⟩:=hrel;rcases u k a.length with q|U
   ·obtain⟨ba,oa,rfl,_,_,C⟩:=O (L8 (j:=k) q);obtain⟨bb,ob,rfl,_,_,D⟩:=P (L8 (j:=k) (H q N));obtain⟨x,E,W,X⟩:=zmn (j:=k) C q;obtain⟨y,J,Y,Z⟩:=zmn (j:=k) D og;clear C D;by_cases m:x=y
    ·have z:(x !=y)=false:=(by simp[m]);have L:=j m;clear m;go_wp2;go_quiet (fail);go_wp2;go_roundw
     case rel=>
      refine⟨k+1,by omega,by go_num,⟨_,rfl⟩,fun g S=> ?_⟩;rcases u g k with h|h
      ·exact t.out g h
      ·obtain rfl:g=k:=og;have:=E.out;have:=J.out;have:=L.out;omega
     case measure=>simp[intOf];omega
    ·have z:(x !=y)=true:=bne_iff_ne.2 m;have l:e (decide (a=b)=false):=(by simp only[e,decide_eq_false_iff_not];rintro rfl;have:=E.out;have:=J.out;omega);clear m;go_wp2;go_quiet (fail);go_wp2;go_ret;exact⟨zqt l.out.symm,((Dr.refl w).drewN n).drewN _⟩
   ·obtain rfl:k=a.length:=og;have l:e (decide (a=b)=true):=(by simp only[e,decide_eq_true_eq];exact yqg K.out t.out);go_wp2;go_ret;exact⟨zqt l.out.symm,⟨_,rfl⟩⟩
 ·have z:(((a.length:Int)) !=(b.length:Int))=true:=(by rw[bne_iff_ne];omega);have l:e (decide (a=b)=false):=(by simp only[e,decide_eq_false_iff_not];rintro rfl;exact o rfl);clear o;go_in;go_wp2;go_ret;exact⟨zqt l.out.symm,Dr.refl _⟩
theorem ydc {w X:f} (h:o w.heap.size w X):o w.heap.size w X.drew:=C9 h (Z8 X)
theorem bl {a:Prop} (h:a:=by(repeat(first|exact _root_.Go.RowKit.Below.refl _ _|assumption|refine ydc ?_|refine below_drewN ?_ _|refine C9 ?_ asm));(first|done|fail)):a:=h
theorem uQ (w':f) {w:f} {q:Rat} (h:e (IsQ w (C2 w) v q)) (a:o w.heap.size w w':=by exact bl):IsQ w' (C2 w') v q:=IsQ.stb.next h.out a
theorem uV (w':f) {w:f} {l:List Raw} (h:e (IsV w (C2 w) v l)) (a:o w.heap.size w w':=by exact bl):IsV w' (C2 w') v l:=IsV.stb.next h.out a
theorem uM (w':f) {w:f} {l:List (List Raw)} (h:e (IsM w (C2 w) v l)) (a:o w.heap.size w w':=by exact bl):IsM w' (C2 w') v l:=IsM.stb.next h.out a
theorem uK (w':f) {w:f} {k:IntKind} (h:e (IsK k w (C2 w) v l)) (a:o w.heap.size w w':=by exact bl):IsK k w' (C2 w') v l:=IsK.stb.next h.out a
theorem uF (w':f) {w:f} {k:IntKind} (h:e (IsK k w (G4 n w) v l)) (a:o w.heap.size w w':=by exact bl):IsK k w' (G4 n w') v l:=IsK.stb.fresh h.out a
theorem uN (w':f) {w:f} (h:e (IsN w 0 w.heap.size v n)) (a:o w.heap.size w w':=by exact bl):IsN w' 0 w'.heap.size v n:=IsN.next h.out a
theorem uR (w':f) {w:f} {a:Nat} {b:TypeId} {c:List Value} (h:e (Row w a b c)) (d:o w.heap.size w w':=by exact bl):Row w' a b c:=Row.next h.out d
theorem uB (w':f) {w a:f} (h:e (o w.heap.size w a)) (b:o a.heap.size a w':=by exact bl):o w.heap.size w w':=C9 h.out b
theorem uS (w':f) {w:f} (h:e (n<=w.heap.size)) (a:o w.heap.size w w':=by exact bl):n<=w'.heap.size:=ykc h.out a
theorem uU (w':f) {w:f} (h:e (Bru w)) (a:o w.heap.size w w':=by exact bl):Bru w':=Bru.next h.out a
theorem zqh {w:f} {x:Nat} (ha:IsN w lo hi r x):
 s p 187 #[r] w fun n w'=>n= .returned (.bool (decide (x=1)))/\w=w':=by
 obtain⟨A,c,rfl,hc,_,q⟩:=ha;generalize m:A9 x=l at*;have d:=j m;clear m;by_cases b:l.length=1
 ·obtain⟨ba,oa,rfl,_,_,k⟩:=q (L8 (j:=0) og);obtain⟨y,g,F,B⟩:=zmn (j:=0) k og;clear k
  obtain⟨z,rfl⟩:∃z,l=[z]:=by
   match l,b with
   |[z],_=>exact⟨z,rfl⟩
  simp only[List.getD_cons_zero] at g;rw[Nat.add_zero] at B;by_cases i:y=1
  ·have a:e (decide (x=1)=true):=(by have:=g.out;obtain rfl:z=1:=og;have hv:=N8 x;rw[d.out] at hv;simp[val] at hv;simp[e,hv]);subst i;clear b;go_in;go_wp2;go_ret;exact⟨zqt a.out.symm,rfl⟩
  ·have a:e (decide (x=1)=false):=(by have:=g.out;have hv:=N8 x;rw[d.out] at hv;simp[val] at hv;simp[e];omega);have v:(y==1)=false:=(by simpa using i);clear b;go_in;go_wp2;go_ret;exact⟨zqt a.out.symm,rfl⟩
 ·have v:((l.length:Int)==1)=false:=(by simp;omega);have a:e (decide (x=1)=false):=(by simp only[e,decide_eq_false_iff_not];rintro rfl;have h:=d.out;rw[Y5] at h;subst h;simp at b);go_in;go_wp2;go_ret;exact⟨zqt a.out.symm,rfl⟩
theorem zzr {a:Nat} (c:a%2=1) (b v:Nat):Nat.gcd a (2^b*v)=Nat.gcd a v:=by have h:Nat.Coprime a (2^b):=(by apply Nat.Coprime.pow_right;unfold Nat.Coprime;rw[Nat.gcd_comm,Nat.gcd_rec,c];rfl);exact Nat.Coprime.gcd_mul_left_cancel_right v h.symm
theorem yvo {a b:Nat} (h:a|||b=2^k*(2*m+1)):∃c d,a=2^k*c/\b=2^k*d/\(c%2=1\/d%2=1):=by
 (have g:(a%2^k)|||(b%2^k)=0:=by rw[<-Nat.or_mod_two_pow,h];exact Nat.mul_mod_right _ _);have ha:a%2^k=0:=(by have:=Nat.left_le_or (n:=a%2^k) (m:=b%2^k);omega);have f:b%2^k=0:=(by have:=Nat.right_le_or (n:=a%2^k) (m:=b%2^k);omega);refine⟨a/2^k,b/2^k,?_,?_,?_⟩
 ·rw[Nat.mul_comm,Nat.div_mul_cancel (Nat.dvd_of_mod_eq_zero ha)]
 ·rw[Nat.mul_comm,Nat.div_mul_cancel (Nat.dvd_of_mod_eq_zero f)]
 ·have e:(a|||b).testBit k=true:=(by rw[h,Nat.testBit_eq_decide_div_mod_eq,Nat.mul_div_cancel_left _ (Nat.pow_pos og)];simp);rw[Nat.testBit_or,Nat.testBit_eq_decide_div_mod_eq,Nat.testBit_eq_decide_div_mod_eq] at e;simpa using e
theorem ywu {d:Nat} (h:2^i*(2*c+1)=2^k*d):(d%2=1->d=2*c+1)/\∃f,d=2^f*(2*c+1):=by
 rcases u i k with b|b
 ·exfalso;obtain⟨a,rfl⟩:∃a,k=i+(a+1):=⟨k-i-1,by omega⟩;rw[Nat.pow_add,Nat.mul_assoc] at h;have:=Nat.eq_of_mul_eq_mul_left (Nat.pow_pos og) h;rw[Nat.pow_succ] at this;have g:2^a*2*d=2*(2^a*d):=(by rw[Nat.mul_comm (2^a) 2,Nat.mul_assoc]);omega
 ·obtain⟨a,rfl⟩:∃a,i=k+a:=⟨i-k,by omega⟩;rw[Nat.pow_add,Nat.mul_assoc] at h;have hd:=(Nat.eq_of_mul_eq_mul_left (Nat.pow_pos og) h).symm;refine⟨fun e=> ?_,a,hd⟩;rcases a with _|a
  ·rw[hd];simp
  ·rw[hd,Nat.pow_succ,Nat.mul_comm (2^a) 2,Nat.mul_assoc] at e;omega
theorem ynb {a b:Nat} (h:a|||b=2^k*(2*m+1)) (ha:a=2^i*(2*c+1)):Nat.gcd a b=2^k*Nat.gcd (2*c+1) b:=by
 obtain⟨o,p,e,g,l⟩:=yvo h;have n:(2*c+1)%2=1:=og;have f:=ywu (ha.symm.trans e);rw[e,g,Nat.gcd_mul_left,zzr n];congr 1;rcases l with d|d
 ·rw[f.1 d]
 ·obtain⟨q,j⟩:=f.2;rw[j,Nat.gcd_comm,zzr d,Nat.gcd_comm]
theorem ync {A B e a:Nat} (c:A%2=1) (d:B=2^e*(2*n+1)) (b:Nat.gcd A B=a):
 (2*n+1<A->Nat.gcd (2*n+1) (A-(2*n+1))=a)/\(A<=2*n+1->Nat.gcd A (2*n+1-A)=a):=by
 rw[d,zzr c] at b;refine⟨fun h=> ?_,fun h=> ?_⟩
 ·rw[Nat.gcd_sub_self_right og,Nat.gcd_comm];exact b
 ·rw[Nat.gcd_sub_self_right h];exact b
theorem yzj {x:Nat} (h:x=2^k*(2*m+1)):x/2^k=2*m+1:=by rw[h,Nat.mul_div_cancel_left _ (Nat.pow_pos og)]
theorem yhw {x:Nat} (h:x=2^k*(2*m+1)):2*m+1<=x:=by rw[h];exact Nat.le_mul_of_pos_left _ (Nat.pow_pos og)
theorem ykb {x:Nat} (h:x=2^k*(2*m+1)):(x:Int)/2^k=((2*m+1:Nat):Int):=by have:=yzj h;rw[<-this];simp
theorem ynd (a b:Nat) (w:f) (v:Bru w) (ha:1<=a) (ah:1<=b) (F:a<18446744073709551616) (G:b<18446744073709551616):
 s p 189 #[.int .u64 (a:Int),.int .u64 (b:Int)] w fun c w'=>c= .returned (.int .u64 (Nat.gcd a b:Nat))/\w=w':=by
 have ae:((a:Int)==0)=false:=beq_eq_false_iff_ne.2 og;have af:((b:Int)==0)=false:=beq_eq_false_iff_ne.2 og;have h:=j v;clear v;have aa:=j (bits_or_u64_nat a b F G);have K:e (a|||b<18446744073709551616/\a|||b≠0):=⟨Nat.or_lt_two_pow (n:=64) og og,by have:=Nat.left_le_or (n:=a) (m:=b);omega⟩;have Y:e (Nat.gcd a b<=a):=Nat.le_of_dvd og (Nat.gcd_dvd_left a b);go_in;go_wp2_with fail;rw[aa.out];obtain⟨k,m,aj,J,hc⟩:=ych (a|||b) w h.out K.out.2 K.out.1;have l:=j J;clear J;refine hc.mono ?_;clear hc;rintro c N ⟨rfl,rfl⟩;go_wp2_with fail;obtain⟨au,M,ak,g,H⟩:=ych a w h.out og F;obtain⟨o,ac⟩:=C4 g (ykb g);have an:=yhw g;clear g;refine H.mono ?_;clear H;rintro c N ⟨rfl,rfl⟩;go_wp2_with fail;rw[ac.out];have y:(2*M+1)%2=1:=og;obtain⟨O,hst⟩:=C4 y (ynb l.out o.out);clear y o l;generalize x:2*M+1=C at*;have ad:=j x;have ag:1<=C:=og;clear x;go_loop [0,1] (fun s0 i=>∃(A B:Nat),s0= .int .u64 (A:Int)/\i= .int .u64 (B:Int)/\1<=A/\A<18446744073709551616/\B<18446744073709551616/\e (A%2=1/\Nat.gcd A B=Nat.gcd C b)) (fun s0 i=>(intOf s0).toNat+(intOf i).toNat);case atStart=>exact⟨C,b,rfl,rfl,by omega,by omega,G,O.out,rfl⟩
 case round=>
  obtain⟨A,B,rfl,rfl,T,U,V,hrel⟩:=hrel;rcases Nat.eq_zero_or_pos B with t|t
  ·subst t;have W:e (A=Nat.gcd C b):=(by have:=hrel.out.2;rw[Nat.gcd_zero_right] at this;exact this);have hfin:e (IntKind.u64.wrap ((A:Int)*2^k)=((Nat.gcd a b:Nat):Int)):=(by unfold e;have r:=hst.out;rw[<-W.out,Nat.mul_comm] at r;have S:((A:Int)*2^k)=((A*2^k:Nat):Int):=(by simp);rw[S,<-r,IntKind.wrap_u64];have:=Y.out;omega);go_wp2;go_ret;exact⟨H6 hfin.out,rfl⟩
  ·have al:((B:Int) !=0)=true:=(by rw[bne_iff_ne];omega);go_wp2_with fail;obtain⟨ar,n,ai,d,I⟩:=ych B w h.out og V;have L:=ykb d;have ao:=yhw d;obtain⟨q,R⟩:=C4 (ync hrel.out.1 d hrel.out.2) L;clear L d;refine I.mono ?_;clear I;rintro c N ⟨rfl,rfl⟩;have aq:=R.out;generalize hD:2*n+1=D at*;have P:=j hD;clear hD;have z:1<=D/\D%2=1:=oh P;obtain⟨z,E⟩:=z;have Q:=j E;clear E;rcases u D A with Z|X
   ·go_wp2;go_round;(case rel=>exact⟨D,A-D,rfl,by go_num,by omega,by omega,by omega,Q.out,q.out.1 Z⟩);case measure=>simp[intOf];omega
   ·go_wp2;go_round;(case rel=>exact⟨A,D-A,rfl,by go_num,T,U,by omega,hrel.out.1,q.out.2 X⟩);case measure=>simp[intOf];omega
theorem zvx (a b:Nat) (w:f) (g:Bru w) (i:a<18446744073709551616) (k:b<18446744073709551616):
 s p 189 #[.int .u64 (a:Int),.int .u64 (b:Int)] w fun h w'=>h= .returned (.int .u64 (Nat.gcd a b:Nat))/\w=w':=by
 rcases Nat.eq_zero_or_pos a with d|d
 ·subst d;have c:=j (Nat.gcd_zero_left b);clear g;go_in;go_wp2;go_ret;exact⟨H6 (by rw[c.out]),rfl⟩
 ·rcases Nat.eq_zero_or_pos b with e|e
  ·subst e;have c:=j (Nat.gcd_zero_right a);have l:((a:Int)==0)=false:=beq_eq_false_iff_ne.2 og;clear g;go_in;go_wp2;go_ret;exact⟨H6 (by rw[c.out]),rfl⟩
  ·exact ynd a b w g d e i k
theorem zqz {w:f} {x:Nat} (ha:IsN w lo hi r x) (G:(A9 x).length<=2):
 s p 190 #[r] w fun u w'=>u= .returned (.int .u64 (x:Int))/\w=w':=by
 obtain⟨A,c,rfl,_,_,z⟩:=ha;generalize q:A9 x=l at*;have d:e (Lo l/\val l=x):=(by rw[e,<-q];exact⟨L6 x,N8 x⟩);clear q;have B:e (∀k,1<=k->val (l.drop k)<=999999999):=(by intro k a;have h:=zkz (zus d.out.1 k);have v:pw (l.drop k).length<=pw 1:=zuz (by rw[List.length_drop];omega);rw[ztj] at v;omega);go_in;go_wp2;go_loop [3,4] (fun n i=>∃(k m:Nat),k<=l.length/\n= .int .u64 (m:Int)/\i= .int .i64 ((k:Int)-1)/\e (m=val (l.drop k))) (fun _ i=>((intOf i)+1).toNat);case atStart=>exact⟨l.length,0,t _,rfl,rfl,by rw[e,List.drop_length];rfl⟩
 case round=>
  obtain⟨k,m,a,rfl,rfl,g⟩:=hrel;rcases k with _|k
  ·have hfin:e (m=x):=(by have:=g.out;rw[List.drop_zero,d.out.2] at this;exact this);go_wp2;go_ret;exact⟨H6 (by rw[hfin.out]),rfl⟩
  ·have o:((k+1:Nat):Int)-1=(k:Int):=og;rw[o];clear o;obtain⟨b,off,rfl,_,_,j⟩:=z (L8 (j:=k) a);obtain⟨y,C,H,I,E⟩:=T8 (j:=k) d.out.1 j a;clear j;have F:m<=999999999:=(by have:=g.out;have:=B.out (k+1) og;omega);go_wp2;go_round;(case rel=>refine⟨k,m*1000000000+y.toNat,by omega,by go_num,by go_num,?_⟩;have D:=zqy (l:=l) (k:=k) a;have:=g.out;have:=C.out;unfold e;omega);case measure=>simp[intOf]
theorem zki {a v k:Int} (b:0<=k) (h:a<=v):k*a<=k*v:=Int.mul_le_mul_of_nonneg_left h b
structure LI (g B0:Nat) (d b0 a b w x y z:Int):Prop where
 ea:a=w*d+x*b0
 eb:b=y*d+z*b0
 pat:(1<=w/\x<=0/\y<=0/\1<=z/\w*z-x*y=1)\/(w<=0/\1<=x/\1<=y/\z<=-1/\w*z-x*y= -1)
 aw:0<=a+w
 ax:0<=a+x
 by_:0<=b+y
 bz:0<=b+z
 num:∃A B:Nat,(A:Int)=w*g+x*B0/\(B:Int)=y*g+z*B0/\B<=A/\Nat.gcd A B=Nat.gcd g B0/\(x≠0->B<A/\A<=B0)/\(x=0->A=g/\B=B0)
theorem LI.start {g B0:Nat} {d b0:Int} (ha:0<=d) (a:0<=b0) (h:B0<=g):LI g B0 d b0 d b0 1 0 0 1:=
 ⟨by omega,by omega,.inl ⟨by omega,by omega,by omega,by omega,by omega⟩,by omega,by omega,by omega,by omega,⟨g,B0,by omega,by omega,h,rfl,fun h=>absurd rfl h,fun _=>⟨rfl,rfl⟩⟩⟩
section
variable {g B0 : Nat} {d b0 a b w x y z : Int}
theorem LI.inv (h:LI g B0 d b0 a b w x y z):0<=a/\0<=b/\
 ((1<=w/\x<=0/\y<=0/\1<=z/\d=z*a-x*b/\b0=w*b-y*a)\/(w<=0/\1<=x/\1<=y/\z<=0/\d=x*b-z*a/\b0=y*a-w*b)):=by
 have m:=h.aw;have n:=h.ax;have o:=h.by_;have p:=h.bz;have e:=h.ea;have f:=h.eb;rcases h.pat with⟨i,j,k,l,c⟩|⟨i,j,k,l,c⟩
 ·refine⟨by omega,by omega,.inl ⟨i,j,k,l,?_,?_⟩⟩
  ·have:z*a-x*b=(w*z-x*y)*d:=(by rw[e,f];grind);rw[this,c];omega
  ·have:w*b-y*a=(w*z-x*y)*b0:=(by rw[e,f];grind);rw[this,c];omega
 ·refine⟨by omega,by omega,.inr ⟨i,j,k,by omega,?_,?_⟩⟩
  ·have:x*b-z*a= -(w*z-x*y)*d:=(by rw[e,f];grind);rw[this,c];omega
  ·have:y*a-w*b= -(w*z-x*y)*b0:=(by rw[e,f];grind);rw[this,c];omega
theorem LI.bounds (h:LI g B0 d b0 a b w x y z) (r:d<=999999999999999999) (s:b0<=999999999999999999):0<=a/\a<=999999999999999999/\0<=b/\b<=999999999999999999:=by
 obtain⟨ha,c,q⟩:=h.inv;rcases q with⟨i,j,k,l,m,n⟩|⟨i,j,k,l,m,n⟩
 ·have o:=Int.mul_le_mul_of_nonneg_right l ha;have p:=Int.mul_le_mul_of_nonneg_right i c;have e:=Int.mul_nonneg (show 0<=-x by omega) c;have f:=Int.mul_nonneg (show 0<=-y by omega) ha;rw[Int.neg_mul] at e f;omega
 ·have o:=Int.mul_le_mul_of_nonneg_right j c;have p:=Int.mul_le_mul_of_nonneg_right k ha;have e:=Int.mul_nonneg (show 0<=-z by omega) ha;have f:=Int.mul_nonneg (show 0<=-w by omega) c;rw[Int.neg_mul] at e f;omega
theorem LI.fits (h:LI g B0 d b0 a b w x y z) (o:d<=999999999999999999) (p:b0<=999999999999999999) (L: -999999999<=w/\w<=999999999) (M: -999999999<=x/\x<=999999999) (N: -999999999<=y/\y<=999999999) (O: -999999999<=z/\z<=999999999)
 {q:Int} (i:0<=q) (r:q<=a+w) (s:q<=a+x) (D:q*(b+y)<=a+w):
 -2000000000000000000<=q*y/\q*y<=2000000000000000000/\-2000000000000000000<=q*z/\q*z<=2000000000000000000/\0<=q*b/\q*b<=4000000000000000000:=by
 obtain⟨I,_⟩:=h.bounds o p;have J:=h.bounds o p;obtain⟨ha,f,C⟩:=h.inv;have K:=Int.mul_nonneg i f;rw[Int.mul_add] at D;have A9:∀{u v:Int},0<=u->u<=999999999->0<=v->v<=999999999->u*v<=999999998000000001:=(by intro u v e j c k;have:=Int.mul_le_mul j k c (by omega:(0:Int)<=999999999);omega);rcases C with⟨E,F,G,H,t,A⟩|⟨E,F,G,H,t,A⟩
 ·have e:=Int.mul_le_mul_of_nonneg_right r (show 0<=-y by omega);have j:=Int.mul_nonneg i (show 0<=-y by omega);have c:=Int.mul_le_mul_of_nonneg_right s (show 0<=z by omega);have k:=Int.mul_nonneg i (show 0<=z by omega);have l:=A9 (u:=w) (v:= -y) og og og og;have B:=Int.mul_nonneg (show 0<=w by omega) f;have m:=Int.mul_nonneg (show 0<=-x by omega) f;have n:=Int.mul_nonneg (show 0<=-x by omega) (show 0<=z by omega);simp only[Int.add_mul,Int.mul_neg,Int.neg_mul] at e j c l m n;rw[Int.mul_comm a y] at e;rw[Int.mul_comm a z] at c;omega
 ·have e:=Int.mul_le_mul_of_nonneg_right r (show 0<=y by omega);have j:=Int.mul_nonneg i (show 0<=y by omega);have c:=Int.mul_le_mul_of_nonneg_right s (show 0<=-z by omega);have k:=Int.mul_nonneg i (show 0<=-z by omega);have l:=A9 (u:=x) (v:= -z) og og og og;have B:=Int.mul_nonneg (show 0<=x by omega) f;have m:=Int.mul_nonneg (show 0<=-w by omega) f;have n:=Int.mul_nonneg (show 0<=-w by omega) (show 0<=y by omega);simp only[Int.add_mul,Int.mul_neg,Int.neg_mul] at e c k l m n;rw[Int.mul_comm a y] at e;rw[Int.mul_comm a z] at c;omega
theorem LI.exact (h:LI g B0 d b0 a b w x y z) (m:0<S) (k:d=(g/S:Nat)) (l:b0=(B0/S:Nat)) {q:Int} (K:0<b+y) (L:0<b+z) (i:q=(a+w)/(b+y)) (n:q=(a+x)/(b+z))
 {A B:Nat} (o:(A:Int)=w*g+x*B0) (p:(B:Int)=y*g+z*B0):0<B/\0<=q/\q*B<=A/\(A:Int)<(q+1)*B:=by
 have f:0<=q:=(by rw[i];exact Int.ediv_nonneg h.aw og);have r:q*(b+y)<=a+w:=(by rw[i];exact Int.ediv_mul_le _ og);have s:q*(b+z)<=a+x:=(by rw[n];exact Int.ediv_mul_le _ og);have t:a+w<(q+1)*(b+y):=(by rw[i];exact Int.lt_ediv_add_one_mul_self _ og);have u:a+x<(q+1)*(b+z):=(by rw[n];exact Int.lt_ediv_add_one_mul_self _ og);have c:(0:Int)<S:=og;have lA:d*S<=g:=(by rw[k];have:=Nat.div_mul_le_self g S;exact_mod_cast this);have lB:b0*S<=B0:=(by rw[l];have:=Nat.div_mul_le_self B0 S;exact_mod_cast this);have uA:(g:Int)<(d+1)*S:=(by rw[k];have:=Nat.lt_div_mul_add (a:=g) m;rw[Int.add_mul,Int.one_mul];exact_mod_cast this);have uB:(B0:Int)<(b0+1)*S:=by rw[l];have:=Nat.lt_div_mul_add (a:=B0) m;rw[Int.add_mul,Int.one_mul];exact_mod_cast this
 have key:((a+x)*S<=A/\(A:Int)<(a+w)*S/\(b+y)*S<=B/\(B:Int)<(b+z)*S)\/((a+w)*S<=A/\(A:Int)<(a+x)*S/\(b+z)*S<=B/\(B:Int)<(b+y)*S):=by
  rw[o,p,h.ea,h.eb];rcases h.pat with⟨T,U,V,W,_⟩|⟨T,U,V,W,_⟩
  ·left;have v:=zki (show 0<=w by omega) lA;have C:=zki (show 0<=-x by omega) (Int.le_of_lt uB);have D:=zki (show 0<=w-1 by omega) (Int.le_of_lt uA);have E:=zki (show 0<=-x by omega) lB;have F:=zki (show 0<=-y by omega) (Int.le_of_lt uA);have G:=zki (show 0<=z by omega) lB;have H:=zki (show 0<=z-1 by omega) (Int.le_of_lt uB);have I:=zki (show 0<=-y by omega) lA;refine⟨by grind,by grind,by grind,by grind⟩
  ·right;have v:=zki (show 0<=-w by omega) (Int.le_of_lt uA);have C:=zki (show 0<=x by omega) lB;have D:=zki (show 0<=-w by omega) lA;have E:=zki (show 0<=x-1 by omega) (Int.le_of_lt uB);have F:=zki (show 0<=y by omega) lA;have G:=zki (show 0<=-z by omega) (Int.le_of_lt uB);have H:=zki (show 0<=y-1 by omega) (Int.le_of_lt uA);have I:=zki (show 0<=-z by omega) lB;refine⟨by grind,by grind,by grind,by grind⟩
 rcases key with⟨M,N,e,j⟩|⟨M,N,e,j⟩
 ·have J:(0:Int)<B:=Int.lt_of_lt_of_le (Int.mul_pos K c) e;have O:=zki f (Int.le_of_lt j);have P:=Int.mul_le_mul_of_nonneg_right s (Int.le_of_lt c);have Q:=zki (show 0<=q+1 by omega) e;have R:=Int.mul_le_mul_of_nonneg_right (Int.le_of_lt t) (Int.le_of_lt c);refine⟨by omega,f,by grind,by grind⟩
 ·have J:(0:Int)<B:=Int.lt_of_lt_of_le (Int.mul_pos L c) e;have O:=zki f (Int.le_of_lt j);have P:=Int.mul_le_mul_of_nonneg_right r (Int.le_of_lt c);have Q:=zki (show 0<=q+1 by omega) e;have R:=Int.mul_le_mul_of_nonneg_right (Int.le_of_lt u) (Int.le_of_lt c);refine⟨by omega,f,by grind,by grind⟩
theorem LI.step (h:LI g B0 d b0 a b w x y z) (I:0<S) (G:d=(g/S:Nat)) (H:b0=(B0/S:Nat)) {q:Int} (M:0<b+y) (N:0<b+z) (t:q=(a+w)/(b+y)) (u:q=(a+x)/(b+z)):
 LI g B0 d b0 b (a-q*b) y z (w-q*y) (x-q*z):=by
 obtain⟨A,B,p,j,R,hg,v,L⟩:=h.num;obtain⟨r,l,O,P⟩:=h.exact I G H M N t u p j
 have s:1<=q:=by
  rcases Int.lt_or_le q 1 with k|k
  ·have:q=0:=og;subst this;omega
  ·exact k
 obtain⟨e,rfl⟩:=Int.eq_ofNat_of_zero_le l;have C:e*B<=A:=(by exact_mod_cast O);have Q:A<(e+1)*B:=(by exact_mod_cast P);have D:(e:Int)*(b+y)<=a+w:=(by rw[t];exact Int.ediv_mul_le _ og);have E:(e:Int)*(b+z)<=a+x:=by rw[u];exact Int.ediv_mul_le _ og
 have K:A/B=e:=by
  apply Nat.div_eq_of_lt_le
  ·exact C
  ·exact Q
 have J:A%B=A-e*B:=(by rw[Nat.mod_eq_sub_mul_div,K,Nat.mul_comm]);refine⟨h.eb,?_,?_,by omega,by omega,?_,?_,⟨B,A%B,j,?_,Nat.le_of_lt (Nat.mod_lt _ r),?_,fun _=>⟨Nat.mod_lt _ r,?_⟩,fun k=> ?_⟩⟩
 ·rw[h.ea,h.eb];grind
 ·rcases h.pat with⟨m,n,f,i,o⟩|⟨m,n,f,i,o⟩
  ·have c:=Int.mul_nonneg l (show 0<=-y by omega);have F:=Int.mul_le_mul_of_nonneg_right s (show 0<=z by omega);rw[Int.mul_neg] at c;exact .inr ⟨f,i,by omega,by omega,by grind⟩
  ·have c:=Int.mul_nonneg l (show 0<=-z by omega);have F:=Int.mul_le_mul_of_nonneg_right s (show 0<=y by omega);rw[Int.mul_neg] at c;exact .inl ⟨f,by omega,by omega,by omega,by grind⟩
 ·rw[Int.mul_add] at D;omega
 ·rw[Int.mul_add] at E;omega
 ·rw[J,Int.ofNat_sub C,Int.natCast_mul,p,j];grind
 ·rw[<-hg,Nat.gcd_comm A B,Nat.gcd_rec B A,Nat.gcd_comm]
 ·rcases Int.lt_trichotomy x 0 with c|c|c
  ·have:=v og;omega
  ·have:=L c;omega
  ·have:=v og;omega
 ·rcases h.pat with⟨m,n,f,i,o⟩|⟨m,n,f,i,o⟩<;>omega
end
theorem yhg (c:Program) (w:f) (k:IntKind) (i:Array TypeId) (h:TypeId) (x y z b:Int):∃a,(Builtin.max_ i h #[.int k x,.int k y,.int k z,.int k b]).run c w= .ok (.int k a) w/\x<=a/\y<=a/\z<=a/\b<=a/\(a=x\/a=y\/a=z\/a=b):=by refine⟨_,by simp[Builtin.max_,Builtin.max2];rfl,?_⟩;by_cases d:x<y<;>by_cases e:(if x<y then y else x)<z<;>by_cases g:(if(if x<y then y else x)<z then z else(if x<y then y else x))<b<;>simp[d] at e g⊢<;>simp_all<;>omega
def ycv (g B0:Nat) (d b0:Int) (c:Ending):Prop:=∃w x y z a b:Int,c= .returned (.tuple #[.int .i64 w,.int .i64 x,.int .i64 y,.int .i64 z])/\LI g B0 d b0 a b w x y z/\
 (-999999999<=w/\w<=999999999/\-999999999<=x/\x<=999999999)/\(-999999999<=y/\y<=999999999/\-999999999<=z/\z<=999999999)
theorem yzt (i:f) (g B0 S:Nat) (d b0:Int) (aa:0<S) (n:d=(g/S:Nat)) (o:b0=(B0/S:Nat)) (ag:B0<=g) (H:d<=999999999999999999) (J:b0<=999999999999999999):
 s p 198 #[.int .i64 d,.int .i64 b0] i fun X w'=>ycv g B0 d b0 X/\i=w':=by
 have ac:0<=d:=(by rw[n];exact Int.natCast_nonneg _);have ad:0<=b0:=(by rw[o];exact Int.natCast_nonneg _);obtain⟨V,W⟩:=C4 n o;clear n o;go_in;go_wp2
 go_loop [0,1,4,5,6,7] (fun sa sb al an G ao=>∃a b w x y z:Int,sa= .int .i64 a/\sb= .int .i64 b/\al= .int .i64 w/\an= .int .i64 x/\G= .int .i64 y/\ao= .int .i64 z/\
  (-999999999<=w/\w<=999999999/\-999999999<=x/\x<=999999999)/\(-999999999<=y/\y<=999999999/\-999999999<=z/\z<=999999999)/\e (LI g B0 d b0 a b w x y z)) (fun _ sb _ _ G _=>(intOf sb+intOf G).toNat)
 case atStart=>exact⟨d,b0,1,0,0,1,rfl,rfl,rfl,rfl,rfl,rfl,by omega,by omega,LI.start ac ad ag⟩
 case round=>
  obtain⟨a,b,w,x,y,z,rfl,rfl,rfl,rfl,rfl,rfl,⟨P,Q,R,T⟩,⟨u,v,A,B⟩,hrel⟩:=hrel;obtain⟨aB,aC,aD,aE⟩:=hrel.out.bounds H J;have k:=hrel.out.aw;have q:=hrel.out.ax;have aG:=hrel.out.by_;have aH:=hrel.out.bz;have hfin:e (ycv g B0 d b0 (.returned (.tuple #[.int .i64 w,.int .i64 x,.int .i64 y,.int .i64 z]))):=⟨w,x,y,z,a,b,rfl,hrel.out,⟨P,Q,R,T⟩,⟨u,v,A,B⟩⟩;rcases Int.lt_or_le 0 (b+y) with r|r
  ·rcases Int.lt_or_le 0 (b+z) with K|K
   ·have I:(b+y !=0)=true:=(by rw[bne_iff_ne];omega);have ae:(b+z !=0)=true:=(by rw[bne_iff_ne];omega);by_cases c:(a+w)/(b+y)=(a+x)/(b+z)
    ·have L:0<=(a+w)/(b+y):=Int.ediv_nonneg k og;have M:(a+w)/(b+y)<=a+w:=Int.ediv_le_self _ k;have t:(a+x)/(b+z)<=a+x:=Int.ediv_le_self _ q;have N:(a+w)/(b+y)*(b+y)<=a+w:=Int.ediv_mul_le _ og;have hst:=j (hrel.out.step aa V.out W.out r K rfl c);have af:((a+w)/(b+y) !=(a+x)/(b+z))=false:=(by simp[c]);rw[<-c] at t;have aq:=j c;clear c;obtain⟨ar,au,av,ay,az,aA⟩:=hrel.out.fits H J ⟨P,Q⟩ ⟨R,T⟩ ⟨u,v⟩ ⟨A,B⟩ L M t N;clear N;by_cases O: -999999999<=w-(a+w)/(b+y)*y/\w-(a+w)/(b+y)*y<=999999999/\-999999999<=x-(a+w)/(b+y)*z/\x-(a+w)/(b+y)*z<=999999999
     ·obtain⟨ah,ai,aj,ak⟩:=O;obtain⟨m,Y,C,D,E,F,l⟩:=yhg p i .i64 #[2,2,2,2] 2 (w-(a+w)/(b+y)*y) (-(w-(a+w)/(b+y)*y)) (x-(a+w)/(b+y)*z) (-(x-(a+w)/(b+y)*z));(have Z:m<=999999999:=by rcases l with h|h|h|h<;>omega);clear C D E F l;go_wp2;go_round;(case rel=>exact⟨_,_,_,_,_,_,rfl,rfl,rfl,rfl,rfl,rfl,⟨u,v,A,B⟩,⟨ah,ai,aj,ak⟩,hst.out⟩);case measure=>have aJ:(a+w)%(b+y)<b+y:=Int.emod_lt_of_pos _ r;have aK:(a+w)%(b+y)=a-(a+w)/(b+y)*b+(w-(a+w)/(b+y)*y):=(by have:=Int.emod_def (a+w) (b+y);rw[this];grind);have aI:0<=(a+w)%(b+y):=Int.emod_nonneg _ og;simp[intOf];omega
     ·obtain⟨m,Y,C,D,E,F,l⟩:=yhg p i .i64 #[2,2,2,2] 2 (w-(a+w)/(b+y)*y) (-(w-(a+w)/(b+y)*y)) (x-(a+w)/(b+y)*z) (-(x-(a+w)/(b+y)*z));have Z:1000000000<=m:=og;clear C D E F l O;go_wp2;exact bodyPost_ret (v:= .tuple #[.int .i64 w,.int .i64 x,.int .i64 y,.int .i64 z]) (by simp[results,Tryz.results198,go_sem]) rfl ⟨hfin.out,rfl⟩
    ·have af:((a+w)/(b+y) !=(a+x)/(b+z))=true:=(by simpa using c);have L:0<=(a+w)/(b+y):=Int.ediv_nonneg k og;have M:(a+w)/(b+y)<=a+w:=Int.ediv_le_self _ k;have aL:0<=(a+x)/(b+z):=Int.ediv_nonneg q og;have t:(a+x)/(b+z)<=a+x:=Int.ediv_le_self _ q;clear c;go_wp2;exact bodyPost_ret (v:= .tuple #[.int .i64 w,.int .i64 x,.int .i64 y,.int .i64 z]) (by simp[results,Tryz.results198,go_sem]) rfl ⟨hfin.out,rfl⟩
   ·have U:b+z=0:=og;have I:(b+y !=0)=true:=(by rw[bne_iff_ne];omega);have ae:(b+z !=0)=false:=(by rw[bne_eq_false_iff_eq];exact U);clear U;go_wp2;exact bodyPost_ret (v:= .tuple #[.int .i64 w,.int .i64 x,.int .i64 y,.int .i64 z]) (by simp[results,Tryz.results198,go_sem]) rfl ⟨hfin.out,rfl⟩
  ·have I:(b+y !=0)=false:=(by rw[bne_eq_false_iff_eq];omega);go_wp2;exact bodyPost_ret (v:= .tuple #[.int .i64 w,.int .i64 x,.int .i64 y,.int .i64 z]) (by simp[results,Tryz.results198,go_sem]) rfl ⟨hfin.out,rfl⟩
end Go.Proofs.YtdgilbgdkmhcmaaGreatDoor
