/-
 The contract of package long's Div.
-/
import Derived.Test.YtdgilbgdkmhcmaaGreatDoorSpv03
import Derived.IntWalk
namespace Go.Proofs.YtdgilbgdkmhcmaaGreatDoor
open Go.RowKit
set_option linter.unusedVariables false
set_option maxRecDepth 100000
set_option maxHeartbeats 8000000
open _root_.Go.Lib renaming hid → j
open _root_.Nat renaming le_refl → t, le_trans → G, lt_or_ge → u, zero_le → H
open _root_.List renaming getD_eq_getElem?_getD → D, getElem?_eq_getElem → q
open _root_.And renaming intro → C
open _root_.Go renaming World → f, Calls → s
open _root_.Go.RowKit renaming Below → o, Hid → e
open _root_.Go.Proofs.Tryz renaming prog → p
variable {S c hi F i k lo lo' m n : Nat} {l : List Nat} {v r E : Value}
theorem ypq (a off i h:Nat) (e b S:List Nat) (B:Option Addr) (c d m:Nat) (v:List Nat) (w:f) (lo hi:Nat) (y:e.length=off) (r:i=m+3) (q:h=m+2) (hv:Lo v) (n:Lo b) (A:v.length=m+2) (o:b.length=m+3) (x:m<=8589934592)
 (t:e.length<=8589934592) (hc:m+3<=c) (z:1<=v.getD (m+1) 0) (u:val b<val v*1000000000) (hr:Row w a 115 (C8 .u32 (e++b++S))) (k:SV w lo hi B (C8 .u32 v)) (l:a<lo\/hi<=a):
 s p 204 #[.slice (some ⟨a,off,none⟩) i c,.slice B h d] w fun j w'=>(∃g,j= .returned (.int .u32 ((val b/val v:Nat):Int))/\Row w' a 115 (C8 .u32 (e++g++S))/\g.length=m+3/\Lo g/\val g=val b%val v)/\Only a w w':=by subst y;subst r;subst q;exact ypt a e b S B c d m v w lo hi hv n A o x t hc z u hr k l
theorem yae {w:f} {x y:Nat} (ha:IsN w lo hi r x) (a0:IsN w lo' F E y) (a6:hi<=w.heap.size) (a7:F<=w.heap.size) (aa:(A9 x).length<=4294967296) (b3:(A9 y).length<=4294967296) (cu:0<y):
 s p 196 #[r,E] w fun b w'=>(∃q bt,b= .returned (.tuple #[q,bt])/\IsN w' w.heap.size w'.heap.size q (x/y)/\IsN w' w.heap.size w'.heap.size bt (x%y))/\o w.heap.size w w':=by
 obtain⟨O,W⟩:=C4 ha a0;obtain⟨A,c,rfl,bK,cl,ca⟩:=ha;obtain⟨B,d,rfl,bO,cm,aO⟩:=a0;rcases u x y with ab|ab
 ·have aK:e (x/y=0/\x%y=x):=⟨Nat.div_eq_of_lt ab,Nat.mod_eq_of_lt ab⟩;have ah:e (U4 x y= -1):=zqi ab;go_in;go_wp2_with fail;refine(zsf O.out W.out).mono ?_;rw[ah.out];rintro b bu ⟨rfl,n,rfl⟩;go_wp2_with fail;refine(zpt (O.out.drewN n) aa).mono ?_;rintro b al ⟨⟨v,rfl,hv⟩,T⟩;go_wp2_with fail;go_ret2;refine⟨⟨_,_,rfl,?_,?_⟩,((Below.refl _ w).trans (below_drewN (Below.refl _ _) n)).trans T⟩
  ·rw[aK.out.1];exact IsN.zero
  ·rw[aK.out.2];exact hv
 ·have ah:e (0<=U4 x y):=(by unfold e U4;split<;>(try split)<;>omega);by_cases ai:(A9 y).length=1
  ·obtain⟨bb,ob,rfl,_,_,Y⟩:=aO (L5 (j:=0) og);obtain⟨aE,bY,ct,bZ,b1⟩:=T3 (j:=0) (L3 y) Y og;clear Y;rw[Nat.add_zero] at b1
   have bm:aE=(y:Int):=by
    rw[bY.out];have h:=N6 y;match bQ:A9 y,ai with
    |[z],_=>rw[bQ] at h;simp[val] at h;simp[h]
   have bw:=j bm;have b0:1<=aE:=og;clear bm;have b9:=j ai;have ch:(A9 y).length<=1:=og;have cj:1<=(A9 y).length:=og;clear ai;go_in;go_wp2_with fail;refine(zsf O.out W.out).mono ?_;generalize U4 x y=sg at*;have bX:=ah.out;rintro b bu ⟨rfl,n,rfl⟩;go_wp2_with fail;refine(ykb (O.out.drewN n) a6 aa b0 bZ).mono ?_;rintro b al ⟨⟨v,cC,rfl,bV,cs,bU,hv⟩,T⟩;go_wp2_with fail;refine(ybm _ _ bV og).mono ?_;rintro b aD ⟨⟨cD,rfl,bg⟩,Q⟩;go_wp2_with fail;go_ret2;have bn:aE.toNat=y:=oh bw;rw[bU.out,bn] at bg;rw[bn] at hv;have U:o w.heap.size w al:=(below_drewN (Below.refl _ w) n).trans T;have ac:=U.size;have bp:=Q.size;exact⟨⟨_,_,rfl,(hv.below Q (t _)).wide (t _) bp,bg.wide ac (t _)⟩,U.trans (Q.mono ac)⟩
  ·obtain⟨m,Z⟩:∃m,(A9 y).length=m+2:=(by refine⟨(A9 y).length-2,?_⟩;have:(A9 y).length≠0:=(by rw[ne_eq,lim_nil_iff];omega);omega);obtain⟨k,ak⟩:∃k,(A9 x).length=m+2+k:=⟨(A9 x).length-(m+2),by have:=U1 ab;omega⟩;rw[Z] at bO b3;rw[ak] at bK aa;have ck:(((m:Int)+2)==1)=false:=beq_eq_false_iff_ne.2 og;obtain⟨bb,ob,rfl,_,_,Y⟩:=aO (L5 (j:=m+1) og);obtain⟨X,a1,cg,bL,bN⟩:=T3 (j:=m+1) (L3 y) Y og;clear Y ai;have bM:1<=X:=(by have:=yla (L3 y) Z (by rw[N6];exact lim_len_lt.1 og);have:=a1.out;omega);have hF:=yqt (L3 y) Z a1.out bM bL;have bC:=hF.1;have ar:=hF.2.1;have aG:=j hF.2.2;clear hF;have aJ:e (val (A9 x)*(1000000000/(X+1)).toNat<pw (m+2+k+1)):=(by have P:=zpz x;rw[ak] at P;rw[N6,e,Z7,Nat.mul_comm 1000000000];exact Nat.lt_of_le_of_lt (Nat.mul_le_mul_left x (show(1000000000/(X+1)).toNat<=1000000000 by omega)) (Nat.mul_lt_mul_of_pos_right P og));obtain⟨ao,ag⟩:=C4 ak Z;clear ak Z;rw[ao.out] at O⊢;rw[ag.out] at W⊢;go_in;go_wp2_with fail;refine(zsf O.out W.out).mono ?_;generalize U4 x y=sg at*;have bX:=ah.out;rintro b bu ⟨rfl,n,rfl⟩;go_wp2_with fail;have aP:0<=1000000000/(X+1):=og;rw[N6] at aG aJ;generalize aQ:1000000000/(X+1)=ad at*;have b8:=j aQ;clear aQ;refine(ykx (O.out.drewN n) a6 (m+2+k+1) og (by rw[ao.out];omega) og aP ar aJ.out).mono ?_;rintro b al ⟨⟨K,bx,rfl,bF,L,aR,aS,aT⟩,T⟩;have V:=j (C aR (C aS aT));clear aR aS aT;have U:o w.heap.size w al:=(below_drewN (Below.refl _ w) n).trans T;have ac:=U.size;have bG:=L.lt;go_wp2_with fail;refine(ykx (W.out.below U a7) (G a7 ac) (m+2) og (by rw[ag.out];omega) og aP ar aG.out).mono ?_;rintro b aD ⟨⟨ae,g,rfl,cd,R,aU,aV,aW⟩,Q⟩;have M:=j (C aU (C aV aW));clear aU aV aW;have be:=L.below Q bG;clear L;have a3:o w.heap.size w aD:=U.trans (Q.mono ac);have bp:=a3.size;have cf:=R.lt;go_wp2_with (at_make;refine ztc R6 rfl _ _ rfl (k+1) rfl rfl og og og ?_;intro J b4 bD S aj cx);have bH:w.heap.size<=K:=bF;have cb:aD.heap.size<=J:=oh bD;have a2:o w.heap.size w b4:=a3.trans (aj.mono og);have N:e (val g=y*ad.toNat/\0<val g/\val g<=pw (m+2)/\1<=g.getD (m+1) 0):=by have P:=M.out.2.2;have bB:pw (m+1)<=y:=lim_len_lt.1 (by rw[ag.out];omega);have aN:y*1<=y*ad.toNat:=Nat.mul_le_mul_left y og;refine⟨P,by omega,?_,yla M.out.2.1 M.out.1 og⟩;have:=zlq M.out.2.1;rw[M.out.1] at this;omega
   go_loopw [12] (fun I wr=>∃(i:Nat) (a l:List Nat),i<=k+1/\I= .int .i64 ((i:Int)-1)/\Row wr K 115 (C8 .u32 a)/\Row wr ae 115 (C8 .u32 g)/\Row wr J 115 (C8 .u32 l)/\o w.heap.size w wr/\
    e (a.length=m+2+k+1/\Lo a/\l.length=k+1/\Lo l/\(∀I,I<i->l.getD I 0=0)/\val (a.drop i)<val g/\val a+val g*val l=x*ad.toNat)) (fun I _=>(intOf I+1).toNat)
   case atStart=>
    refine⟨k+1,bx,_,t _,zqy og,be.below aj og,R.below aj og,S,a2,V.out.1,V.out.2.1,by simp,zrd _,?_,?_,?_⟩
    ·intro I _;rw[D,List.getElem?_replicate];split<;>rfl
    ·rw[N.out.1];exact ypv V.out.1 V.out.2.2 (by have:=zpz x;rw[ao.out] at this;exact this) (lim_len_lt.1 (by rw[ag.out];omega)) og
    ·rw[V.out.2.2,zzd (l:=List.replicate (k+1) 0) (fun x aa=>(List.mem_replicate.1 aa).2),Nat.mul_zero,Nat.add_zero]
   case round=>
    clear bN be R S T Q aj a2;obtain⟨i,a,l,hi,rfl,L,R,S,aA,hrel⟩:=hrel;rcases i with _|i
    ·have av:val a<val g:=(by have:=hrel.out.2.2.2.2.2.1;rw[List.drop_zero] at this;exact this);have ay:val a+val g*val l=x*ad.toNat:=hrel.out.2.2.2.2.2.2;rw[N.out.1] at av ay;have a5:=yey og av ay
     have aM:e (val (a.take (m+2))=val a):=by
      have P:=zpq a (m+2) (by have:=hrel.out.1;omega);rcases Nat.eq_zero_or_pos (val (a.drop (m+2))) with aq|aq
      ·rw[aq,Nat.mul_zero,Nat.add_zero] at P;exact P.symm
      ·have:=Nat.mul_le_mul_left (pw (m+2)) aq;have bB:=N.out.2.2.1;have aN:=hrel.out.2.2.2.2.2.1;rw[List.drop_zero] at aN;omega
     have aI:=j a5;clear av ay a5;go_wp2_with fail
     have bJ:IsL .u32 wr K (K+1) (.slice (some ⟨K,0,none⟩) (m+2) (m+2+k+1)) (a.take (m+2)):=
      ⟨_,_,by rw[List.length_take,Nat.min_eq_left (by have:=hrel.out.1;omega)],by rw[List.length_take];omega,by unfold maxLen;omega,by rw[zwp];exact L.sv.take _⟩
     refine(ylc bJ (zmk hrel.out.2.1 _)).mono ?_;rintro b b5 ⟨⟨cE,rfl,bh⟩,rfl⟩;rw[aM.out] at bh;have cc:=L.lt;go_wp2_with fail;refine(ykb bh og (by have:=ytq (zmk hrel.out.2.1 (m+2));rw[aM.out,List.length_take] at this;omega) bC ar).mono ?_;rintro b b7 ⟨⟨cF,cB,rfl,_,_,_,bi⟩,az⟩;rw[aI.out.2] at bi;go_wp2_with fail;have bf:=S.below az S.lt;have bq:=aA.size;have cy:=az.size;have bI:IsL .u32 b7 J (J+1) (.slice (some ⟨J,0,none⟩) (k+1) (k+1)) l:=⟨_,_,by rw[hrel.out.2.2.1],by have:=hrel.out.2.2.1;omega,by unfold maxLen;omega,bf.sv⟩;refine(ylc bI hrel.out.2.2.2.1).mono ?_;rintro b cH ⟨⟨cG,rfl,bj⟩,rfl⟩;rw[aI.out.1] at bj;have bE:=bf.lt;go_wp2_with fail;go_ret2;exact⟨⟨_,_,rfl,bj.wide og bE,bi.wide bq (t _)⟩,aA.trans (az.mono bq)⟩
    ·have a4:=yez hrel.out.2.1 (j:=i) (n:=m+2) (by have:=hrel.out.1;omega) N.out.2.2.1 hrel.out.2.2.2.2.2.1;have aH:=j a4;clear a4;rw[show(((i+1:Nat):Int)-1)=(i:Int) from by omega];have bd:Row wr K 115 (C8 .u32 (a.take i++(a.drop i).take (m+2+1)++a.drop (i+(m+2)+1))):=(by have b:a.take i++(a.drop i).take (m+2+1)++a.drop (i+(m+2)+1)=a:=(by rw[List.append_assoc,show i+(m+2)+1=i+(m+2+1) by omega,<-List.drop_drop,List.take_append_drop,List.take_append_drop]);rw[b];exact L);go_wp2_with fail
     refine(ypq K i _ _ (a.take i) ((a.drop i).take (m+2+1)) (a.drop (i+(m+2)+1)) _ _ _ m g wr ae (ae+1) (by rw[List.length_take];have:=hrel.out.1;omega) og og M.out.2.1 (zmk (zvf hrel.out.2.1 _) _) M.out.1
      (by rw[List.length_take,List.length_drop];have:=hrel.out.1;omega) og (by rw[List.length_take];omega) og N.out.2.2.2 aH.out.1 bd R.sv og).mono ?_
     rintro b b5 ⟨⟨bA,rfl,bR,aX,aY,aZ⟩,au⟩;have af:=j (C aX (C aY aZ));clear aX aY aZ;have bT:=R.only au og;have aB:=S.only au og;have bP:=aA.trans (au.below bH);have aL:e (val ((a.drop i).take (m+2+1))/val g<1000000000):=Nat.div_lt_of_lt_mul (by have:=aH.out.1;exact this);generalize a8:val ((a.drop i).take (m+2+1))/val g=aC at*;have bv:=j a8;clear a8;generalize a9:(aC:Int)=br at*;have an:=j a9;clear a9;have cq:0<=br:=oh an;have cr:br<=999999999:=zkn an aL;obtain⟨z,cv,cw,cz⟩:=aB.num (i:=i) (by rw[hrel.out.2.2.1];exact hi);have cA:=aB.frozen i;clear L bd R S;go_wp2;go_roundw
     case rel=>
      have hst:=ypw hrel.out.2.1 (j:=i) (n:=m+2) (M':=bA) (Lq:=l) (by have:=hrel.out.1;omega) N.out.2.2.1 N.out.2.1 hrel.out.2.2.2.2.2.1 af.out.2.2 af.out.1 (by rw[hrel.out.2.2.1];exact hi) (hrel.out.2.2.2.2.1 i og) hrel.out.2.2.2.2.2.2;rw[bv.out] at hst;refine⟨i,_,l.set i aC,by omega,rfl,bR.far (by show K≠J;omega) _,bT.far (by show ae≠J;omega) _,aB.setNum i aC _ an.out.symm,bP.setCell (by show w.heap.size<=J;omega) _,?_,?_,?_,?_,?_,hst.1,hst.2⟩
      ·simp only[List.length_append,List.length_take,List.length_drop,af.out.1];have:=hrel.out.1;omega
      ·rw[lo_append,lo_append];exact⟨⟨zmk hrel.out.2.1 _,af.out.2.1⟩,zvf hrel.out.2.1 _⟩
      ·rw[List.length_set];exact hrel.out.2.2.1
      ·exact T4 hrel.out.2.2.2.1 aL.out
      ·intro I cn;rw[znc og];exact hrel.out.2.2.2.2.1 I og
     case measure=>simp[intOf]
def L8 (l:List Nat):Int:=if 1024<l.length then 4 else if l.any (fun x=>decide (1000000000<=x)) then 3 else if l.getLastD 1=0 then 3 else 0
theorem yeg (h:1024<l.length):L8 l=4:=by unfold L8;rw[if_pos h]
theorem yee (h:¬1024<l.length) {x:Nat} (b:x∈l) (a:1000000000<=x):L8 l=3:=by unfold L8;rw[if_neg h,if_pos];rw[List.any_eq_true];exact⟨x,b,by simpa using a⟩
theorem zzz (h:¬1024<l.length) (b:Lo l):L8 l=if l.getLastD 1=0 then 3 else 0:=by unfold L8;rw[if_neg h,if_neg];rw[List.any_eq_true];rintro⟨x,c,a⟩;have:=b x c;simp at a;omega
theorem zqu (h:L8 l=0):l.length<=1024/\Lo l/\l=A9 (val l):=by
 unfold L8 at h;split at h
 ·omega
 ·split at h
  ·omega
  ·rename_i f c;split at h
   ·omega
   ·rename_i d
    have b:Lo l:=by
     intro x e;rcases u x 1000000000 with a|a
     ·exact a
     ·exact absurd (List.any_eq_true.2 ⟨x,e,by simpa using a⟩) c
    exact⟨by omega,b,(ybg b d).symm⟩
theorem yef (h:(A9 n).length<=1024):L8 (A9 n)=0:=by rw[zzz og (L3 n),if_neg (ysq n)]
theorem ygs (h:0<l.length):l.getLastD 1=l.getD (l.length-1) 0:=by rw[List.getLastD_eq_getLast?,List.getLast?_eq_getElem?,D,q og];rfl
theorem yfx (h:k<l.length):l.getD k 0∈l:=by rw[D,q h];exact List.getElem_mem h
theorem yhj (h:∀a,a<l.length->l.getD a 0<1000000000):Lo l:=by intro x c;obtain⟨a,b,rfl⟩:=List.getElem_of_mem c;have:=h a b;rw[D,q b] at this;exact this
theorem zse {w:f} (ha:IsL .u32 w lo hi r l):
 s p 188 #[r] w fun o w'=>o= .returned (.int .i64 (L8 l))/\w=w':=by
 obtain⟨A,c,rfl,hc,J,y⟩:=ha;by_cases t:1024<l.length
 ·have a:=j (yeg t);go_in;go_wp2;go_ret;exact⟨I0 a.out.symm,rfl⟩
 ·go_in;go_wp2;go_loop [10] (fun i=>∃k:Nat,k<=l.length/\i= .int .i64 k/\e (∀d,d<k->l.getD d 0<1000000000)) (fun i=>l.length-(intOf i).toNat);case atStart=>exact⟨0,H _,rfl,fun d E=>by omega⟩
  case round=>
   obtain⟨k,K,rfl,q⟩:=hrel;by_cases n:k<l.length
   ·obtain⟨b,off,rfl,_,_,g⟩:=y (L5 (j:=k) n);obtain⟨x,m,F,D⟩:=zmz (j:=k) g n;clear g;rcases Int.lt_or_le x 1000000000 with G|G
    ·go_wp2;go_round
     case rel=>
      refine⟨k+1,n,by go_num,?_⟩;intro d E;rcases u d k with h|h
      ·exact q.out d h
      ·obtain rfl:d=k:=og;have:=m.out;omega
     case measure=>simp[intOf];omega
    ·have a:=j (yee t (yfx n) (oh m));go_wp2;go_ret;exact⟨I0 a.out.symm,rfl⟩
   ·obtain rfl:k=l.length:=og;have z:=j (zzz t (yhj q.out));clear q;by_cases C:0<l.length
    ·obtain⟨b,off,rfl,_,_,g⟩:=y (L5 (j:=l.length-1) og);obtain⟨x,m,F,D⟩:=zmz (j:=l.length-1) g og;clear g;have B:=j (ygs C);by_cases v:x=0
     ·subst v;have a:e (L8 l=3):=(by unfold e;rw[z.out,if_pos];rw[B.out];have:=m.out;omega);go_wp2;go_ret;exact⟨I0 a.out.symm,rfl⟩
     ·have I:(x==0)=false:=beq_eq_false_iff_ne.2 v;have a:e (L8 l=0):=(by unfold e;rw[z.out,if_neg];rw[B.out];have:=m.out;omega);clear v;go_wp2;go_ret;exact⟨I0 a.out.symm,rfl⟩
    ·have o:l=[]:=List.eq_nil_of_length_eq_zero og;subst o;(have a:e (L8 []=0):=by show L8 []=0;decide);go_wp2;go_ret;exact⟨I0 a.out.symm,rfl⟩
theorem IsL.alloc {k:IntKind} {w:f} (h:IsL k w lo hi v l) (b:hi<=w.heap.size) (a:Obj):IsL k (w.alloc a) lo hi v l:=
 h.below ((Below.refl _ _).alloc (t _) a) b
theorem IsN.alloc {w:f} (h:IsN w lo hi v n) (b:hi<=w.heap.size) (a:Obj):IsN (w.alloc a) lo hi v n:=IsL.alloc h b a
theorem IsL.isN {w:f} (h:IsL .u32 w lo hi v l) (hc:L8 l=0):IsN w lo hi v (val l):=by unfold IsN;rw[<-(zqu hc).2.2];exact h
theorem zwr (hc:L8 l=0):(A9 (val l)).length<=1024:=by rw[<-(zqu hc).2.2];exact(zqu hc).1
theorem yql {a b:List Nat} (f:a.length=b.length) (h:∀c,c<a.length->a.getD c 0=b.getD c 0):a=b:=by apply List.ext_getElem f;intro c d e;have:=h c d;rw[D,D,q d,q e] at this;exact this
theorem zzs {w:f} {a b:List Nat} (ha:IsL .u32 w lo hi r a) (v:IsL .u32 w lo' F E b):
 s p 76 #[r,E] w fun M w'=>M= .returned (.bool (decide (a=b)))/\Dr w w':=by
 have Q:=ha.length_le;have R:=v.length_le;unfold maxLen at Q R;obtain⟨A,c,rfl,_,_,O⟩:=ha;obtain⟨B,d,rfl,_,_,P⟩:=v;by_cases o:a.length=b.length
 ·have N:a.length<=b.length:=og;have T:b.length<=a.length:=og;have K:=j o;clear o;go_in;go_wp2;go_loopw [5] (fun i wr=>∃k:Nat,k<=a.length/\i= .int .i64 (k:Int)/\Dr w wr/\e (∀g,g<k->a.getD g 0=b.getD g 0)) (fun i _=>a.length-(intOf i).toNat);case atStart=>exact⟨0,H _,rfl,Dr.refl _,fun g S=>by omega⟩
  case round=>
   obtain⟨k,V,rfl,⟨n,rfl⟩,t⟩:=hrel;rcases u k a.length with q|U
   ·obtain⟨ba,oa,rfl,_,_,C⟩:=O (L5 (j:=k) q);obtain⟨bb,ob,rfl,_,_,D⟩:=P (L5 (j:=k) (G q N));obtain⟨x,I,W,X⟩:=zmz (j:=k) C q;obtain⟨y,J,Y,Z⟩:=zmz (j:=k) D og;clear C D;by_cases m:x=y
    ·have z:(x !=y)=false:=(by simp[m]);have L:=j m;clear m;go_wp2;go_quiet (fail);go_wp2;go_roundw
     case rel=>
      refine⟨k+1,by omega,by go_num,⟨_,rfl⟩,fun g S=> ?_⟩;rcases u g k with h|h
      ·exact t.out g h
      ·obtain rfl:g=k:=og;have:=I.out;have:=J.out;have:=L.out;omega
     case measure=>simp[intOf];omega
    ·have z:(x !=y)=true:=bne_iff_ne.2 m;have l:e (decide (a=b)=false):=(by simp only[e,decide_eq_false_iff_not];rintro rfl;have:=I.out;have:=J.out;omega);clear m;go_wp2;go_quiet (fail);go_wp2;go_ret;exact⟨zrj l.out.symm,((Dr.refl w).drewN n).drewN _⟩
   ·obtain rfl:k=a.length:=og;have l:e (decide (a=b)=true):=(by simp only[e,decide_eq_true_eq];exact yql K.out t.out);go_wp2;go_ret;exact⟨zrj l.out.symm,⟨_,rfl⟩⟩
 ·have z:(((a.length:Int)) !=(b.length:Int))=true:=(by rw[bne_iff_ne];omega);have l:e (decide (a=b)=false):=(by simp only[e,decide_eq_false_iff_not];rintro rfl;exact o rfl);clear o;go_in;go_wp2;go_ret;exact⟨zrj l.out.symm,Dr.refl _⟩
theorem ydj {w X:f} (h:o w.heap.size w X):o w.heap.size w X.drew:=C9 h (U7 X)
theorem bl {a:Prop} (h:a:=by(repeat(first|exact _root_.Go.RowKit.Below.refl _ _|assumption|refine ydj ?_|refine below_drewN ?_ _|refine C9 ?_ asm));(first|done|fail)):a:=h
theorem uQ (w':f) {w:f} {q:Rat} (h:e (IsQ w (C2 w) v q)) (a:o w.heap.size w w':=by exact bl):IsQ w' (C2 w') v q:=IsQ.stb.next h.out a
theorem uV (w':f) {w:f} {l:List Raw} (h:e (IsV w (C2 w) v l)) (a:o w.heap.size w w':=by exact bl):IsV w' (C2 w') v l:=IsV.stb.next h.out a
theorem uM (w':f) {w:f} {l:List (List Raw)} (h:e (IsM w (C2 w) v l)) (a:o w.heap.size w w':=by exact bl):IsM w' (C2 w') v l:=IsM.stb.next h.out a
theorem uK (w':f) {w:f} {k:IntKind} (h:e (IsK k w (C2 w) v l)) (a:o w.heap.size w w':=by exact bl):IsK k w' (C2 w') v l:=IsK.stb.next h.out a
theorem uF (w':f) {w:f} {k:IntKind} (h:e (IsK k w (F6 n w) v l)) (a:o w.heap.size w w':=by exact bl):IsK k w' (F6 n w') v l:=IsK.stb.fresh h.out a
theorem uN (w':f) {w:f} (h:e (IsN w 0 w.heap.size v n)) (a:o w.heap.size w w':=by exact bl):IsN w' 0 w'.heap.size v n:=IsN.next h.out a
theorem uR (w':f) {w:f} {a:Nat} {b:TypeId} {c:List Value} (h:e (Row w a b c)) (d:o w.heap.size w w':=by exact bl):Row w' a b c:=Row.next h.out d
theorem uB (w':f) {w a:f} (h:e (o w.heap.size w a)) (b:o a.heap.size a w':=by exact bl):o w.heap.size w w':=C9 h.out b
theorem uS (w':f) {w:f} (h:e (n<=w.heap.size)) (a:o w.heap.size w w':=by exact bl):n<=w'.heap.size:=yke h.out a
theorem uU (w':f) {w:f} (h:e (Bru w)) (a:o w.heap.size w w':=by exact bl):Bru w':=Bru.next h.out a
theorem zra {w:f} {x:Nat} (ha:IsN w lo hi r x):
 s p 187 #[r] w fun n w'=>n= .returned (.bool (decide (x=1)))/\w=w':=by
 obtain⟨A,c,rfl,hc,_,v⟩:=ha;generalize m:A9 x=l at*;have d:=j m;clear m;by_cases b:l.length=1
 ·obtain⟨ba,oa,rfl,_,_,k⟩:=v (L5 (j:=0) og);obtain⟨y,g,F,E⟩:=zmz (j:=0) k og;clear k
  obtain⟨z,rfl⟩:∃z,l=[z]:=by
   match l,b with
   |[z],_=>exact⟨z,rfl⟩
  simp only[List.getD_cons_zero] at g;rw[Nat.add_zero] at E;by_cases i:y=1
  ·have a:e (decide (x=1)=true):=(by have:=g.out;obtain rfl:z=1:=og;have hv:=N6 x;rw[d.out] at hv;simp[val] at hv;simp[e,hv]);subst i;clear b;go_in;go_wp2;go_ret;exact⟨zrj a.out.symm,rfl⟩
  ·have a:e (decide (x=1)=false):=(by have:=g.out;have hv:=N6 x;rw[d.out] at hv;simp[val] at hv;simp[e];omega);have B:(y==1)=false:=(by simpa using i);clear b;go_in;go_wp2;go_ret;exact⟨zrj a.out.symm,rfl⟩
 ·have B:((l.length:Int)==1)=false:=(by simp;omega);have a:e (decide (x=1)=false):=(by simp only[e,decide_eq_false_iff_not];rintro rfl;have h:=d.out;rw[zka] at h;subst h;simp at b);go_in;go_wp2;go_ret;exact⟨zrj a.out.symm,rfl⟩
theorem yai {a:Nat} (c:a%2=1) (b v:Nat):Nat.gcd a (2^b*v)=Nat.gcd a v:=by have h:Nat.Coprime a (2^b):=(by apply Nat.Coprime.pow_right;unfold Nat.Coprime;rw[Nat.gcd_comm,Nat.gcd_rec,c];rfl);exact Nat.Coprime.gcd_mul_left_cancel_right v h.symm
theorem yvq {a b:Nat} (h:a|||b=2^k*(2*m+1)):∃c d,a=2^k*c/\b=2^k*d/\(c%2=1\/d%2=1):=by
 (have g:(a%2^k)|||(b%2^k)=0:=by rw[<-Nat.or_mod_two_pow,h];exact Nat.mul_mod_right _ _);have ha:a%2^k=0:=(by have:=Nat.left_le_or (n:=a%2^k) (m:=b%2^k);omega);have f:b%2^k=0:=(by have:=Nat.right_le_or (n:=a%2^k) (m:=b%2^k);omega);refine⟨a/2^k,b/2^k,?_,?_,?_⟩
 ·rw[Nat.mul_comm,Nat.div_mul_cancel (Nat.dvd_of_mod_eq_zero ha)]
 ·rw[Nat.mul_comm,Nat.div_mul_cancel (Nat.dvd_of_mod_eq_zero f)]
 ·have e:(a|||b).testBit k=true:=(by rw[h,Nat.testBit_eq_decide_div_mod_eq,Nat.mul_div_cancel_left _ (Nat.pow_pos og)];simp);rw[Nat.testBit_or,Nat.testBit_eq_decide_div_mod_eq,Nat.testBit_eq_decide_div_mod_eq] at e;simpa using e
theorem ywx {d:Nat} (h:2^i*(2*c+1)=2^k*d):(d%2=1->d=2*c+1)/\∃f,d=2^f*(2*c+1):=by
 rcases u i k with b|b
 ·exfalso;obtain⟨a,rfl⟩:∃a,k=i+(a+1):=⟨k-i-1,by omega⟩;rw[Nat.pow_add,Nat.mul_assoc] at h;have:=Nat.eq_of_mul_eq_mul_left (Nat.pow_pos og) h;rw[Nat.pow_succ] at this;have g:2^a*2*d=2*(2^a*d):=(by rw[Nat.mul_comm (2^a) 2,Nat.mul_assoc]);omega
 ·obtain⟨a,rfl⟩:∃a,i=k+a:=⟨i-k,by omega⟩;rw[Nat.pow_add,Nat.mul_assoc] at h;have hd:=(Nat.eq_of_mul_eq_mul_left (Nat.pow_pos og) h).symm;refine⟨fun e=> ?_,a,hd⟩;rcases a with _|a
  ·rw[hd];simp
  ·rw[hd,Nat.pow_succ,Nat.mul_comm (2^a) 2,Nat.mul_assoc] at e;omega
theorem ynk {a b:Nat} (h:a|||b=2^k*(2*m+1)) (ha:a=2^i*(2*c+1)):Nat.gcd a b=2^k*Nat.gcd (2*c+1) b:=by
 obtain⟨o,p,e,g,l⟩:=yvq h;have n:(2*c+1)%2=1:=og;have f:=ywx (ha.symm.trans e);rw[e,g,Nat.gcd_mul_left,yai n];congr 1;rcases l with d|d
 ·rw[f.1 d]
 ·obtain⟨q,j⟩:=f.2;rw[j,Nat.gcd_comm,yai d,Nat.gcd_comm]
theorem ynl {A B e a:Nat} (c:A%2=1) (d:B=2^e*(2*n+1)) (b:Nat.gcd A B=a):
 (2*n+1<A->Nat.gcd (2*n+1) (A-(2*n+1))=a)/\(A<=2*n+1->Nat.gcd A (2*n+1-A)=a):=by
 rw[d,yai c] at b;refine⟨fun h=> ?_,fun h=> ?_⟩
 ·rw[Nat.gcd_sub_self_right og,Nat.gcd_comm];exact b
 ·rw[Nat.gcd_sub_self_right h];exact b
theorem yzj {x:Nat} (h:x=2^k*(2*m+1)):x/2^k=2*m+1:=by rw[h,Nat.mul_div_cancel_left _ (Nat.pow_pos og)]
theorem yhy {x:Nat} (h:x=2^k*(2*m+1)):2*m+1<=x:=by rw[h];exact Nat.le_mul_of_pos_left _ (Nat.pow_pos og)
theorem ykd {x:Nat} (h:x=2^k*(2*m+1)):(x:Int)/2^k=((2*m+1:Nat):Int):=by have:=yzj h;rw[<-this];simp
theorem ynm (a b:Nat) (w:f) (v:Bru w) (ha:1<=a) (ag:1<=b) (F:a<18446744073709551616) (G:b<18446744073709551616):
 s p 189 #[.int .u64 (a:Int),.int .u64 (b:Int)] w fun c w'=>c= .returned (.int .u64 (Nat.gcd a b:Nat))/\w=w':=by
 have ad:((a:Int)==0)=false:=beq_eq_false_iff_ne.2 og;have ae:((b:Int)==0)=false:=beq_eq_false_iff_ne.2 og;have h:=j v;clear v;have aa:=j (bits_or_u64_nat a b F G);have K:e (a|||b<18446744073709551616/\a|||b≠0):=⟨Nat.or_lt_two_pow (n:=64) og og,by have:=Nat.left_le_or (n:=a) (m:=b);omega⟩;have Y:e (Nat.gcd a b<=a):=Nat.le_of_dvd og (Nat.gcd_dvd_left a b);go_in;go_wp2_with fail;rw[aa.out];obtain⟨k,m,ai,J,hc⟩:=yco (a|||b) w h.out K.out.2 K.out.1;have l:=j J;clear J;refine hc.mono ?_;clear hc;rintro c N ⟨rfl,rfl⟩;go_wp2_with fail;obtain⟨ar,M,aj,g,H⟩:=yco a w h.out og F;obtain⟨o,ab⟩:=C4 g (ykd g);have al:=yhy g;clear g;refine H.mono ?_;clear H;rintro c N ⟨rfl,rfl⟩;go_wp2_with fail;rw[ab.out];have y:(2*M+1)%2=1:=og;obtain⟨O,hst⟩:=C4 y (ynk l.out o.out);clear y o l;generalize x:2*M+1=C at*;have ac:=j x;have af:1<=C:=og;clear x;go_loop [0,1] (fun s0 i=>∃(A B:Nat),s0= .int .u64 (A:Int)/\i= .int .u64 (B:Int)/\1<=A/\A<18446744073709551616/\B<18446744073709551616/\e (A%2=1/\Nat.gcd A B=Nat.gcd C b)) (fun s0 i=>(intOf s0).toNat+(intOf i).toNat);case atStart=>exact⟨C,b,rfl,rfl,by omega,by omega,G,O.out,rfl⟩
 case round=>
  obtain⟨A,B,rfl,rfl,T,U,V,hrel⟩:=hrel;rcases Nat.eq_zero_or_pos B with t|t
  ·subst t;have W:e (A=Nat.gcd C b):=(by have:=hrel.out.2;rw[Nat.gcd_zero_right] at this;exact this);have hfin:e (IntKind.u64.wrap ((A:Int)*2^k)=((Nat.gcd a b:Nat):Int)):=(by unfold e;have r:=hst.out;rw[<-W.out,Nat.mul_comm] at r;have S:((A:Int)*2^k)=((A*2^k:Nat):Int):=(by simp);rw[S,<-r,IntKind.wrap_u64];have:=Y.out;omega);go_wp2;go_ret;exact⟨I0 hfin.out,rfl⟩
  ·have ak:((B:Int) !=0)=true:=(by rw[bne_iff_ne];omega);go_wp2_with fail;obtain⟨aq,n,ah,d,I⟩:=yco B w h.out og V;have L:=ykd d;have an:=yhy d;obtain⟨q,R⟩:=C4 (ynl hrel.out.1 d hrel.out.2) L;clear L d;refine I.mono ?_;clear I;rintro c N ⟨rfl,rfl⟩;have ao:=R.out;generalize hD:2*n+1=D at*;have P:=j hD;clear hD;have z:1<=D/\D%2=1:=oh P;obtain⟨z,E⟩:=z;have Q:=j E;clear E;rcases u D A with Z|X
   ·go_wp2;go_round;(case rel=>exact⟨D,A-D,rfl,by go_num,by omega,by omega,by omega,Q.out,q.out.1 Z⟩);case measure=>simp[intOf];omega
   ·go_wp2;go_round;(case rel=>exact⟨A,D-A,rfl,by go_num,T,U,by omega,hrel.out.1,q.out.2 X⟩);case measure=>simp[intOf];omega
theorem zwn (a b:Nat) (w:f) (g:Bru w) (i:a<18446744073709551616) (k:b<18446744073709551616):
 s p 189 #[.int .u64 (a:Int),.int .u64 (b:Int)] w fun h w'=>h= .returned (.int .u64 (Nat.gcd a b:Nat))/\w=w':=by
 rcases Nat.eq_zero_or_pos a with d|d
 ·subst d;have c:=j (Nat.gcd_zero_left b);clear g;go_in;go_wp2;go_ret;exact⟨I0 (by rw[c.out]),rfl⟩
 ·rcases Nat.eq_zero_or_pos b with e|e
  ·subst e;have c:=j (Nat.gcd_zero_right a);have l:((a:Int)==0)=false:=beq_eq_false_iff_ne.2 og;clear g;go_in;go_wp2;go_ret;exact⟨I0 (by rw[c.out]),rfl⟩
  ·exact ynm a b w g d e i k
theorem zrw {w:f} {x:Nat} (ha:IsN w lo hi r x) (G:(A9 x).length<=2):
 s p 190 #[r] w fun u w'=>u= .returned (.int .u64 (x:Int))/\w=w':=by
 obtain⟨A,c,rfl,_,_,z⟩:=ha;generalize q:A9 x=l at*;have d:e (Lo l/\val l=x):=(by rw[e,<-q];exact⟨L3 x,N6 x⟩);clear q;have B:e (∀k,1<=k->val (l.drop k)<=999999999):=(by intro k a;have h:=zlq (zvf d.out.1 k);have v:pw (l.drop k).length<=pw 1:=zvn (by rw[List.length_drop];omega);rw[ztz] at v;omega);go_in;go_wp2;go_loop [3,4] (fun n i=>∃(k m:Nat),k<=l.length/\n= .int .u64 (m:Int)/\i= .int .i64 ((k:Int)-1)/\e (m=val (l.drop k))) (fun _ i=>((intOf i)+1).toNat);case atStart=>exact⟨l.length,0,t _,rfl,rfl,by rw[e,List.drop_length];rfl⟩
 case round=>
  obtain⟨k,m,a,rfl,rfl,g⟩:=hrel;rcases k with _|k
  ·have hfin:e (m=x):=(by have:=g.out;rw[List.drop_zero,d.out.2] at this;exact this);go_wp2;go_ret;exact⟨I0 (by rw[hfin.out]),rfl⟩
  ·have o:((k+1:Nat):Int)-1=(k:Int):=og;rw[o];clear o;obtain⟨b,off,rfl,_,_,j⟩:=z (L5 (j:=k) a);obtain⟨y,C,H,I,E⟩:=T3 (j:=k) d.out.1 j a;clear j;have F:m<=999999999:=(by have:=g.out;have:=B.out (k+1) og;omega);go_wp2;go_round;(case rel=>refine⟨k,m*1000000000+y.toNat,by omega,by go_num,by go_num,?_⟩;have D:=zru (l:=l) (k:=k) a;have:=g.out;have:=C.out;unfold e;omega);case measure=>simp[intOf]
theorem zkv {a v k:Int} (b:0<=k) (h:a<=v):k*a<=k*v:=Int.mul_le_mul_of_nonneg_left h b
structure LI (g B0:Nat) (d b0 a b w x y z:Int):Prop where
 ea:a=w*d+x*b0
 eb:b=y*d+z*b0
 pat:(1<=w/\x<=0/\y<=0/\1<=z/\w*z-x*y=1)\/(w<=0/\1<=x/\1<=y/\z<=-1/\w*z-x*y= -1)
 aw:0<=a+w
 ax:0<=a+x
 by_:0<=b+y
 bz:0<=b+z
 num:∃A B:Nat,(A:Int)=w*g+x*B0/\(B:Int)=y*g+z*B0/\B<=A/\Nat.gcd A B=Nat.gcd g B0/\(x≠0->B<A/\A<=B0)/\(x=0->A=g/\B=B0)
theorem LI.start {g B0:Nat} {d b0:Int} (ha:0<=d) (a:0<=b0) (h:B0<=g):LI g B0 d b0 d b0 1 0 0 1:=
 ⟨by omega,by omega,.inl ⟨by omega,by omega,by omega,by omega,by omega⟩,by omega,by omega,by omega,by omega,⟨g,B0,by omega,by omega,h,rfl,fun h=>absurd rfl h,fun _=>⟨rfl,rfl⟩⟩⟩
section
variable {g B0 : Nat} {d b0 a b w x y z : Int}
theorem LI.inv (h:LI g B0 d b0 a b w x y z):0<=a/\0<=b/\
 ((1<=w/\x<=0/\y<=0/\1<=z/\d=z*a-x*b/\b0=w*b-y*a)\/(w<=0/\1<=x/\1<=y/\z<=0/\d=x*b-z*a/\b0=y*a-w*b)):=by
 have m:=h.aw;have n:=h.ax;have o:=h.by_;have p:=h.bz;have e:=h.ea;have f:=h.eb;rcases h.pat with⟨i,j,k,l,c⟩|⟨i,j,k,l,c⟩
 ·refine⟨by omega,by omega,.inl ⟨i,j,k,l,?_,?_⟩⟩
  ·have:z*a-x*b=(w*z-x*y)*d:=(by rw[e,f];grind);rw[this,c];omega
  ·have:w*b-y*a=(w*z-x*y)*b0:=(by rw[e,f];grind);rw[this,c];omega
 ·refine⟨by omega,by omega,.inr ⟨i,j,k,by omega,?_,?_⟩⟩
  ·have:x*b-z*a= -(w*z-x*y)*d:=(by rw[e,f];grind);rw[this,c];omega
  ·have:y*a-w*b= -(w*z-x*y)*b0:=(by rw[e,f];grind);rw[this,c];omega
theorem LI.bounds (h:LI g B0 d b0 a b w x y z) (r:d<=999999999999999999) (s:b0<=999999999999999999):0<=a/\a<=999999999999999999/\0<=b/\b<=999999999999999999:=by
 obtain⟨ha,c,q⟩:=h.inv;rcases q with⟨i,j,k,l,m,n⟩|⟨i,j,k,l,m,n⟩
 ·have o:=Int.mul_le_mul_of_nonneg_right l ha;have p:=Int.mul_le_mul_of_nonneg_right i c;have e:=Int.mul_nonneg (show 0<=-x by omega) c;have f:=Int.mul_nonneg (show 0<=-y by omega) ha;rw[Int.neg_mul] at e f;omega
 ·have o:=Int.mul_le_mul_of_nonneg_right j c;have p:=Int.mul_le_mul_of_nonneg_right k ha;have e:=Int.mul_nonneg (show 0<=-z by omega) ha;have f:=Int.mul_nonneg (show 0<=-w by omega) c;rw[Int.neg_mul] at e f;omega
theorem LI.fits (h:LI g B0 d b0 a b w x y z) (o:d<=999999999999999999) (p:b0<=999999999999999999) (L: -999999999<=w/\w<=999999999) (M: -999999999<=x/\x<=999999999) (N: -999999999<=y/\y<=999999999) (O: -999999999<=z/\z<=999999999)
 {q:Int} (i:0<=q) (r:q<=a+w) (s:q<=a+x) (D:q*(b+y)<=a+w):
 -2000000000000000000<=q*y/\q*y<=2000000000000000000/\-2000000000000000000<=q*z/\q*z<=2000000000000000000/\0<=q*b/\q*b<=4000000000000000000:=by
 obtain⟨I,_⟩:=h.bounds o p;have J:=h.bounds o p;obtain⟨ha,f,C⟩:=h.inv;have K:=Int.mul_nonneg i f;rw[Int.mul_add] at D;have A9:∀{u v:Int},0<=u->u<=999999999->0<=v->v<=999999999->u*v<=999999998000000001:=(by intro u v e j c k;have:=Int.mul_le_mul j k c (by omega:(0:Int)<=999999999);omega);rcases C with⟨E,F,G,H,t,A⟩|⟨E,F,G,H,t,A⟩
 ·have e:=Int.mul_le_mul_of_nonneg_right r (show 0<=-y by omega);have j:=Int.mul_nonneg i (show 0<=-y by omega);have c:=Int.mul_le_mul_of_nonneg_right s (show 0<=z by omega);have k:=Int.mul_nonneg i (show 0<=z by omega);have l:=A9 (u:=w) (v:= -y) og og og og;have B:=Int.mul_nonneg (show 0<=w by omega) f;have m:=Int.mul_nonneg (show 0<=-x by omega) f;have n:=Int.mul_nonneg (show 0<=-x by omega) (show 0<=z by omega);simp only[Int.add_mul,Int.mul_neg,Int.neg_mul] at e j c l m n;rw[Int.mul_comm a y] at e;rw[Int.mul_comm a z] at c;omega
 ·have e:=Int.mul_le_mul_of_nonneg_right r (show 0<=y by omega);have j:=Int.mul_nonneg i (show 0<=y by omega);have c:=Int.mul_le_mul_of_nonneg_right s (show 0<=-z by omega);have k:=Int.mul_nonneg i (show 0<=-z by omega);have l:=A9 (u:=x) (v:= -z) og og og og;have B:=Int.mul_nonneg (show 0<=x by omega) f;have m:=Int.mul_nonneg (show 0<=-w by omega) f;have n:=Int.mul_nonneg (show 0<=-w by omega) (show 0<=y by omega);simp only[Int.add_mul,Int.mul_neg,Int.neg_mul] at e c k l m n;rw[Int.mul_comm a y] at e;rw[Int.mul_comm a z] at c;omega
theorem LI.exact (h:LI g B0 d b0 a b w x y z) (n:0<S) (l:d=(g/S:Nat)) (m:b0=(B0/S:Nat)) {q:Int} (L:0<b+y) (M:0<b+z) (j:q=(a+w)/(b+y)) (o:q=(a+x)/(b+z))
 {A B:Nat} (p:(A:Int)=w*g+x*B0) (r:(B:Int)=y*g+z*B0):0<B/\0<=q/\q*B<=A/\(A:Int)<(q+1)*B:=by
 have f:0<=q:=(by rw[j];exact Int.ediv_nonneg h.aw og);have s:q*(b+y)<=a+w:=(by rw[j];exact Int.ediv_mul_le _ og);have t:q*(b+z)<=a+x:=(by rw[o];exact Int.ediv_mul_le _ og);have u:a+w<(q+1)*(b+y):=(by rw[j];exact Int.lt_ediv_add_one_mul_self _ og);have v:a+x<(q+1)*(b+z):=(by rw[o];exact Int.lt_ediv_add_one_mul_self _ og);have c:(0:Int)<S:=og;have lA:d*S<=g:=(by rw[l];have:=Nat.div_mul_le_self g S;exact_mod_cast this);have lB:b0*S<=B0:=(by rw[m];have:=Nat.div_mul_le_self B0 S;exact_mod_cast this);have i:(g:Int)<(d+1)*S:=(by rw[l];have:=Nat.lt_div_mul_add (a:=g) n;rw[Int.add_mul,Int.one_mul];exact_mod_cast this);have uB:(B0:Int)<(b0+1)*S:=by rw[m];have:=Nat.lt_div_mul_add (a:=B0) n;rw[Int.add_mul,Int.one_mul];exact_mod_cast this
 have key:((a+x)*S<=A/\(A:Int)<(a+w)*S/\(b+y)*S<=B/\(B:Int)<(b+z)*S)\/((a+w)*S<=A/\(A:Int)<(a+x)*S/\(b+z)*S<=B/\(B:Int)<(b+y)*S):=by
  rw[p,r,h.ea,h.eb];rcases h.pat with⟨U,V,W,X,_⟩|⟨U,V,W,X,_⟩
  ·left;have C:=zkv (show 0<=w by omega) lA;have D:=zkv (show 0<=-x by omega) (Int.le_of_lt uB);have E:=zkv (show 0<=w-1 by omega) (Int.le_of_lt i);have F:=zkv (show 0<=-x by omega) lB;have G:=zkv (show 0<=-y by omega) (Int.le_of_lt i);have H:=zkv (show 0<=z by omega) lB;have I:=zkv (show 0<=z-1 by omega) (Int.le_of_lt uB);have J:=zkv (show 0<=-y by omega) lA;refine⟨by grind,by grind,by grind,by grind⟩
  ·right;have C:=zkv (show 0<=-w by omega) (Int.le_of_lt i);have D:=zkv (show 0<=x by omega) lB;have E:=zkv (show 0<=-w by omega) lA;have F:=zkv (show 0<=x-1 by omega) (Int.le_of_lt uB);have G:=zkv (show 0<=y by omega) lA;have H:=zkv (show 0<=-z by omega) (Int.le_of_lt uB);have I:=zkv (show 0<=y-1 by omega) (Int.le_of_lt i);have J:=zkv (show 0<=-z by omega) lB;refine⟨by grind,by grind,by grind,by grind⟩
 rcases key with⟨N,O,e,k⟩|⟨N,O,e,k⟩
 ·have K:(0:Int)<B:=Int.lt_of_lt_of_le (Int.mul_pos L c) e;have P:=zkv f (Int.le_of_lt k);have Q:=Int.mul_le_mul_of_nonneg_right t (Int.le_of_lt c);have R:=zkv (show 0<=q+1 by omega) e;have T:=Int.mul_le_mul_of_nonneg_right (Int.le_of_lt u) (Int.le_of_lt c);refine⟨by omega,f,by grind,by grind⟩
 ·have K:(0:Int)<B:=Int.lt_of_lt_of_le (Int.mul_pos M c) e;have P:=zkv f (Int.le_of_lt k);have Q:=Int.mul_le_mul_of_nonneg_right s (Int.le_of_lt c);have R:=zkv (show 0<=q+1 by omega) e;have T:=Int.mul_le_mul_of_nonneg_right (Int.le_of_lt v) (Int.le_of_lt c);refine⟨by omega,f,by grind,by grind⟩
theorem LI.step (h:LI g B0 d b0 a b w x y z) (I:0<S) (G:d=(g/S:Nat)) (H:b0=(B0/S:Nat)) {q:Int} (M:0<b+y) (N:0<b+z) (t:q=(a+w)/(b+y)) (u:q=(a+x)/(b+z)):
 LI g B0 d b0 b (a-q*b) y z (w-q*y) (x-q*z):=by
 obtain⟨A,B,p,j,R,hg,v,L⟩:=h.num;obtain⟨r,l,O,P⟩:=h.exact I G H M N t u p j
 have s:1<=q:=by
  rcases Int.lt_or_le q 1 with k|k
  ·have:q=0:=og;subst this;omega
  ·exact k
 obtain⟨e,rfl⟩:=Int.eq_ofNat_of_zero_le l;have C:e*B<=A:=(by exact_mod_cast O);have Q:A<(e+1)*B:=(by exact_mod_cast P);have D:(e:Int)*(b+y)<=a+w:=(by rw[t];exact Int.ediv_mul_le _ og);have E:(e:Int)*(b+z)<=a+x:=by rw[u];exact Int.ediv_mul_le _ og
 have K:A/B=e:=by
  apply Nat.div_eq_of_lt_le
  ·exact C
  ·exact Q
 have J:A%B=A-e*B:=(by rw[Nat.mod_eq_sub_mul_div,K,Nat.mul_comm]);refine⟨h.eb,?_,?_,by omega,by omega,?_,?_,⟨B,A%B,j,?_,Nat.le_of_lt (Nat.mod_lt _ r),?_,fun _=>⟨Nat.mod_lt _ r,?_⟩,fun k=> ?_⟩⟩
 ·rw[h.ea,h.eb];grind
 ·rcases h.pat with⟨m,n,f,i,o⟩|⟨m,n,f,i,o⟩
  ·have c:=Int.mul_nonneg l (show 0<=-y by omega);have F:=Int.mul_le_mul_of_nonneg_right s (show 0<=z by omega);rw[Int.mul_neg] at c;exact .inr ⟨f,i,by omega,by omega,by grind⟩
  ·have c:=Int.mul_nonneg l (show 0<=-z by omega);have F:=Int.mul_le_mul_of_nonneg_right s (show 0<=y by omega);rw[Int.mul_neg] at c;exact .inl ⟨f,by omega,by omega,by omega,by grind⟩
 ·rw[Int.mul_add] at D;omega
 ·rw[Int.mul_add] at E;omega
 ·rw[J,Int.ofNat_sub C,Int.natCast_mul,p,j];grind
 ·rw[<-hg,Nat.gcd_comm A B,Nat.gcd_rec B A,Nat.gcd_comm]
 ·rcases Int.lt_trichotomy x 0 with c|c|c
  ·have:=v og;omega
  ·have:=L c;omega
  ·have:=v og;omega
 ·rcases h.pat with⟨m,n,f,i,o⟩|⟨m,n,f,i,o⟩<;>omega
end
theorem yhl (c:Program) (w:f) (k:IntKind) (i:Array TypeId) (h:TypeId) (x y z b:Int):∃a,(Builtin.max_ i h #[.int k x,.int k y,.int k z,.int k b]).run c w= .ok (.int k a) w/\x<=a/\y<=a/\z<=a/\b<=a/\(a=x\/a=y\/a=z\/a=b):=by refine⟨_,by simp[Builtin.max_,Builtin.max2];rfl,?_⟩;by_cases d:x<y<;>by_cases e:(if x<y then y else x)<z<;>by_cases g:(if(if x<y then y else x)<z then z else(if x<y then y else x))<b<;>simp[d] at e g⊢<;>simp_all<;>omega
def ydc (g B0:Nat) (d b0:Int) (c:Ending):Prop:=∃w x y z a b:Int,c= .returned (.tuple #[.int .i64 w,.int .i64 x,.int .i64 y,.int .i64 z])/\LI g B0 d b0 a b w x y z/\
 (-999999999<=w/\w<=999999999/\-999999999<=x/\x<=999999999)/\(-999999999<=y/\y<=999999999/\-999999999<=z/\z<=999999999)
theorem yzy (i:f) (g B0 S:Nat) (d b0:Int) (aa:0<S) (n:d=(g/S:Nat)) (o:b0=(B0/S:Nat)) (af:B0<=g) (H:d<=999999999999999999) (J:b0<=999999999999999999):
 s p 198 #[.int .i64 d,.int .i64 b0] i fun X w'=>ydc g B0 d b0 X/\i=w':=by
 have ab:0<=d:=(by rw[n];exact Int.natCast_nonneg _);have ac:0<=b0:=(by rw[o];exact Int.natCast_nonneg _);obtain⟨V,W⟩:=C4 n o;clear n o;go_in;go_wp2
 go_loop [0,1,4,5,6,7] (fun sa sb ak al G an=>∃a b w x y z:Int,sa= .int .i64 a/\sb= .int .i64 b/\ak= .int .i64 w/\al= .int .i64 x/\G= .int .i64 y/\an= .int .i64 z/\
  (-999999999<=w/\w<=999999999/\-999999999<=x/\x<=999999999)/\(-999999999<=y/\y<=999999999/\-999999999<=z/\z<=999999999)/\e (LI g B0 d b0 a b w x y z)) (fun _ sb _ _ G _=>(intOf sb+intOf G).toNat)
 case atStart=>exact⟨d,b0,1,0,0,1,rfl,rfl,rfl,rfl,rfl,rfl,by omega,by omega,LI.start ab ac af⟩
 case round=>
  obtain⟨a,b,w,x,y,z,rfl,rfl,rfl,rfl,rfl,rfl,⟨P,Q,R,T⟩,⟨u,v,A,B⟩,hrel⟩:=hrel;obtain⟨aA,aB,aC,aD⟩:=hrel.out.bounds H J;have k:=hrel.out.aw;have q:=hrel.out.ax;have aE:=hrel.out.by_;have aG:=hrel.out.bz;have hfin:e (ydc g B0 d b0 (.returned (.tuple #[.int .i64 w,.int .i64 x,.int .i64 y,.int .i64 z]))):=⟨w,x,y,z,a,b,rfl,hrel.out,⟨P,Q,R,T⟩,⟨u,v,A,B⟩⟩;rcases Int.lt_or_le 0 (b+y) with r|r
  ·rcases Int.lt_or_le 0 (b+z) with K|K
   ·have I:(b+y !=0)=true:=(by rw[bne_iff_ne];omega);have ad:(b+z !=0)=true:=(by rw[bne_iff_ne];omega);by_cases c:(a+w)/(b+y)=(a+x)/(b+z)
    ·have L:0<=(a+w)/(b+y):=Int.ediv_nonneg k og;have M:(a+w)/(b+y)<=a+w:=Int.ediv_le_self _ k;have t:(a+x)/(b+z)<=a+x:=Int.ediv_le_self _ q;have N:(a+w)/(b+y)*(b+y)<=a+w:=Int.ediv_mul_le _ og;have hst:=j (hrel.out.step aa V.out W.out r K rfl c);have ae:((a+w)/(b+y) !=(a+x)/(b+z))=false:=(by simp[c]);rw[<-c] at t;have ao:=j c;clear c;obtain⟨aq,ar,au,av,ay,az⟩:=hrel.out.fits H J ⟨P,Q⟩ ⟨R,T⟩ ⟨u,v⟩ ⟨A,B⟩ L M t N;clear N;by_cases O: -999999999<=w-(a+w)/(b+y)*y/\w-(a+w)/(b+y)*y<=999999999/\-999999999<=x-(a+w)/(b+y)*z/\x-(a+w)/(b+y)*z<=999999999
     ·obtain⟨ag,ah,ai,aj⟩:=O;obtain⟨m,Y,C,D,E,F,l⟩:=yhl p i .i64 #[2,2,2,2] 2 (w-(a+w)/(b+y)*y) (-(w-(a+w)/(b+y)*y)) (x-(a+w)/(b+y)*z) (-(x-(a+w)/(b+y)*z));(have Z:m<=999999999:=by rcases l with h|h|h|h<;>omega);clear C D E F l;go_wp2;go_round;(case rel=>exact⟨_,_,_,_,_,_,rfl,rfl,rfl,rfl,rfl,rfl,⟨u,v,A,B⟩,⟨ag,ah,ai,aj⟩,hst.out⟩);case measure=>have aI:(a+w)%(b+y)<b+y:=Int.emod_lt_of_pos _ r;have aJ:(a+w)%(b+y)=a-(a+w)/(b+y)*b+(w-(a+w)/(b+y)*y):=(by have:=Int.emod_def (a+w) (b+y);rw[this];grind);have aH:0<=(a+w)%(b+y):=Int.emod_nonneg _ og;simp[intOf];omega
     ·obtain⟨m,Y,C,D,E,F,l⟩:=yhl p i .i64 #[2,2,2,2] 2 (w-(a+w)/(b+y)*y) (-(w-(a+w)/(b+y)*y)) (x-(a+w)/(b+y)*z) (-(x-(a+w)/(b+y)*z));have Z:1000000000<=m:=og;clear C D E F l O;go_wp2;exact bodyPost_ret (v:= .tuple #[.int .i64 w,.int .i64 x,.int .i64 y,.int .i64 z]) (by simp[results,Tryz.results198,go_sem]) rfl ⟨hfin.out,rfl⟩
    ·have ae:((a+w)/(b+y) !=(a+x)/(b+z))=true:=(by simpa using c);have L:0<=(a+w)/(b+y):=Int.ediv_nonneg k og;have M:(a+w)/(b+y)<=a+w:=Int.ediv_le_self _ k;have aK:0<=(a+x)/(b+z):=Int.ediv_nonneg q og;have t:(a+x)/(b+z)<=a+x:=Int.ediv_le_self _ q;clear c;go_wp2;exact bodyPost_ret (v:= .tuple #[.int .i64 w,.int .i64 x,.int .i64 y,.int .i64 z]) (by simp[results,Tryz.results198,go_sem]) rfl ⟨hfin.out,rfl⟩
   ·have U:b+z=0:=og;have I:(b+y !=0)=true:=(by rw[bne_iff_ne];omega);have ad:(b+z !=0)=false:=(by rw[bne_eq_false_iff_eq];exact U);clear U;go_wp2;exact bodyPost_ret (v:= .tuple #[.int .i64 w,.int .i64 x,.int .i64 y,.int .i64 z]) (by simp[results,Tryz.results198,go_sem]) rfl ⟨hfin.out,rfl⟩
  ·have I:(b+y !=0)=false:=(by rw[bne_eq_false_iff_eq];omega);go_wp2;exact bodyPost_ret (v:= .tuple #[.int .i64 w,.int .i64 x,.int .i64 y,.int .i64 z]) (by simp[results,Tryz.results198,go_sem]) rfl ⟨hfin.out,rfl⟩
end Go.Proofs.YtdgilbgdkmhcmaaGreatDoor
