/-
 The contract of package long's Cross.
-/
import Derived.Test.YtpbilanpeioonaaGreatDoorProofDualProves02
namespace Go.Proofs.YtpbilanpeioonaaGreatDoor
open Go.RowKit
set_option linter.unusedVariables false
set_option maxRecDepth 100000
set_option maxHeartbeats 8000000
open _root_.Go.Lib renaming hid → a
open _root_.Nat renaming le_trans → b
open _root_.List renaming getD_eq_getElem?_getD → e
open _root_.Rat renaming mul_nonneg → d
variable {K c i j m n : Nat} {M : List (List Rat)} {cs : List Nat} {r : List Rat}
def zlo (a e b c:Int) (d:Nat):Int:=(a*e-b*c).tdiv (d:Int)
theorem zz1453 (s:Bool) (n d:Nat):(sg s n).tdiv (d:Int)=sg s (n/d):=by
 cases s
 ·rw[ynx,ynx,Int.ofNat_tdiv]
 ·rw[yoa,yoa,Int.neg_tdiv,Int.ofNat_tdiv]
theorem ytc {a e b c:Int} {f j g i:Bool} (ha:f=decide (a<0)) (o:j=decide (e<0)) (m:g=decide (b<0)) (hc:i=decide (c<0)) {s:Bool}
 (h:sg s n=sg (!(f==j)) (a.natAbs*e.natAbs)+sg (g==i) (b.natAbs*c.natAbs)) (d:Nat):zlo a e b c d=sg s (n/d):=by have k:sg (!(f==j)) (a.natAbs*e.natAbs)=a*e:=(by rw[show(!(f==j))=(f !=j) from rfl,yav,ha,o,zya,zya]);have l:sg (g==i) (b.natAbs*c.natAbs)= -(b*c):=(by rw[show(g==i)= !(g !=i) by simp[bne],ynz,yav,m,hc,zya,zya]);unfold zlo;rw[show a*e-b*c=sg s n by rw[h,k,l];omega,zz1453]
theorem yez (s:Bool) (n:Nat):E9 ((sg s n:Int):Rat)=⟨s&&decide (0<n),A9 n,A9 1⟩:=by
 rw[yao,yaw];congr 1;rcases Nat.eq_zero_or_pos n with h|h
 ·subst h;simp[zyb]
 ·rw[yny og];simp[h]
theorem zww {w:World} {aO vp aP aQ aR:Value} {p t q r:Rat} {d:Nat} (ha:IsQ w (C6 w) aO p) (K:IsQ w (C6 w) vp t) (f:IsQ w (C6 w) aP q) (hc:IsQ w (C6 w) aQ r) (hd:IsN w 0 w.heap.size aR d)
 (sa:Sz p 500000) (sp:Sz t 500000) (sb:Sz q 500000) (aM:Sz r 500000) (aB:(A9 d).length<=1000000) (aA:0<d):Calls Tryz.prog 131 #[aO,vp,aP,aQ,aR] w (L5 w ((zlo p.num t.num q.num r.num d:Int):Rat)):=by
 have aZ:=a ha;obtain⟨L,P,Y,aS,bm,rfl,a5,ca,b5⟩:=G4 ha;have a2:=a K;obtain⟨O,S,ab,aV,bq,rfl,a8,cd,b9⟩:=G4 K;have a0:=a f;obtain⟨M,Q,Z,aT,bn,rfl,a6,cb,b7⟩:=G4 f;have a1:=a hc;obtain⟨N,R,aa,aU,bp,rfl,a7,cc,b8⟩:=G4 hc;have aY:=a hd;obtain⟨C,c3,rfl,dk⟩:=zuk hd;have T:=a sa.1;have W:=a sp.1;have U:=a sb.1;have V:=a aM.1;obtain⟨a4,a3⟩:=C7 aB aA;obtain⟨F,hs1⟩:∃F:Bool,(!(L==O))=F:=⟨_,rfl⟩;obtain⟨G,zpp⟩:∃G:Bool,(M==N)=G:=⟨_,rfl⟩;have aX:Hid (∀s n,sg s n=sg F (p.num.natAbs*t.num.natAbs)+sg G (q.num.natAbs*r.num.natAbs)->zlo p.num t.num q.num r.num d=sg s (n/d)):=(by intro s n h;rw[<-hs1,<-zpp] at h;exact ytc a5.out a8.out a6.out a7.out h d);clear ha K f hc hd sa sp sb aM aB aA;obtain⟨H,b4,z,ra,rp,aL,rc,aK,B⟩:=yrr w #[.bool L,.slice P (A9 p.num.natAbs).length Y,.slice aS (A9 p.den).length bm] #[.bool O,.slice S (A9 t.num.natAbs).length ab,.slice aV (A9 t.den).length bq] #[.bool M,.slice Q (A9 q.num.natAbs).length Z,.slice aT (A9 q.den).length bn] #[.bool N,.slice R (A9 r.num.natAbs).length aa,.slice aU (A9 r.den).length bp] #[.bool false,.slice none 0 0,.slice none 0 0] 37 37 37 37 37;have bg:=nQ aZ z;have j:=a (ra);have bj:=nQ a2 z;have m:=a (rp);have bh:=nQ a0 z;have k:=a (aL);have bi:=nQ a1 z;obtain⟨l,e,E⟩:=H7 (rc) (aK) (z);have x:Hid (w.heap.size+5<=H.heap.size):=a (Nat.le_of_eq B.out.symm);clear ra rp aL rc aK z;obtain⟨br,bw,cm⟩:=C4 j.out;obtain⟨bV,b0,cL⟩:=C4 m.out;obtain⟨bE,bI,cy⟩:=C4 k.out;obtain⟨bM,bQ,cF⟩:=C4 l.out;obtain⟨cS,cX,c2⟩:=C4 e.out;obtain⟨c8,dd,dj⟩:=F6 e.out;have aW:=a (IsN.next aY.out E.out);go_in;go_wp2_with fail;clear b4
 go_region_held3 (fun w'=>w'.cell? ⟨w.heap.size,0,none⟩=some (.bool L)/\w'.cell? ⟨w.heap.size,1,none⟩=some (.slice P (A9 p.num.natAbs).length Y)/\w'.cell? ⟨w.heap.size+1,0,none⟩=some (.bool O)/\w'.cell? ⟨w.heap.size+1,1,none⟩=some (.slice S (A9 t.num.natAbs).length ab)/\w'.cell? ⟨w.heap.size+2,0,none⟩=some (.bool M)/\w'.cell? ⟨w.heap.size+2,1,none⟩=some (.slice Q (A9 q.num.natAbs).length Z)/\w'.cell? ⟨w.heap.size+3,0,none⟩=some (.bool N)/\w'.cell? ⟨w.heap.size+3,1,none⟩=some (.slice R (A9 r.num.natAbs).length aa))
  (first
    |exact⟨br,bw,bV,b0,bE,bI,bM,bQ⟩
    |exact⟨bv,bB,bX,b1,bF,bJ,bN,bR⟩
    |exact⟨bt,bx,bT,bY,bC,bG,bK,bO⟩
    |exact⟨bu,bA,bU,bZ,bD,bH,bL,bP⟩)
  (first
    |(go_at_call 169;have hc:=zni (F7 (zku (uQ H.drew bg))) (F7 (zku (uQ H.drew bj))) (Nat.le_refl _) (Nat.le_refl _) (b T.out og) (b W.out og);(with_reducible refine hc.mono ?_);clear hc;rintro y g ⟨⟨dr,rfl,aE⟩,f⟩;have be:=a (N5 aE (uS H.drew x));obtain⟨cf,dm,rfl,_,_,_⟩:=id aE;obtain⟨bv,bB,cs⟩:=C4 (uR g j);obtain⟨bX,b1,cN⟩:=C4 (uR g m);obtain⟨bF,bJ,cz⟩:=C4 (uR g k);obtain⟨bN,bR,cG⟩:=C4 (uR g l);obtain⟨cO,cT,cY⟩:=C4 (uR g e);obtain⟨c4,c9,de⟩:=F6 (uR g e))
    |(go_at_call 169;have hc:=zni (F7 (zku (uQ g bh))) (F7 (zku (uQ g bi))) (Nat.le_refl _) (Nat.le_refl _) (b U.out og) (b V.out og);(with_reducible refine hc.mono ?_);clear hc;rintro y u ⟨⟨ds,rfl,aG⟩,f⟩;have bf:=a (N5 aG (uS g x));obtain⟨cg,dn,rfl,_,_,_⟩:=id aG;obtain⟨bt,bx,cn⟩:=C4 (uR u j);obtain⟨bT,bY,cJ⟩:=C4 (uR u m);obtain⟨bC,bG,cv⟩:=C4 (uR u k);obtain⟨bK,bO,cC⟩:=C4 (uR u l);obtain⟨cP,cU,cZ⟩:=C4 (uR u e);obtain⟨c5,da,df⟩:=F6 (uR u e))
    |(go_at_call 177;have hc:=ykk F G (F7 (IsK.stb.old (uF u be))) (F7 (IsK.stb.old bf.out)) (b (zoc T.out W.out) og) (b (zoc U.out V.out) og);(with_reducible refine hc.mono ?_);clear hc;rintro y v ⟨⟨s,dt,n,rfl,aD,aH,aC⟩,f⟩;have bd:=a (N5 aH (uS u x));obtain⟨ch,dp,rfl,_,_,_⟩:=id aH;have a9:=a aC;have J:=a (aX.out s n aD.out);clear aD aC;obtain⟨bu,bA,cq⟩:=C4 (uR v j);obtain⟨bU,bZ,cK⟩:=C4 (uR v m);obtain⟨bD,bH,cw⟩:=C4 (uR v k);obtain⟨bL,bP,cD⟩:=C4 (uR v l);obtain⟨cQ,cV,c0⟩:=C4 (uR v e);obtain⟨c6,db,dh⟩:=F6 (uR v e)))
 go_wp2_with fail;clear hs1 zpp;refine(ymg bd.out (uS v x) (uN v aW) (b a9.out og) (b a4.out og) a3.out).mono ?_;rintro y i ⟨⟨du,rfl,aI⟩,f⟩;have I:=a (aI);obtain⟨cj,dq,rfl,_,_,_⟩:=id aI;obtain⟨ck,cl,cr⟩:=C4 (uR i j);obtain⟨cH,cI,cM⟩:=C4 (uR i m);obtain⟨ct,cu,cx⟩:=C4 (uR i k);obtain⟨cA,cB,cE⟩:=C4 (uR i l);obtain⟨cR,cW,c1⟩:=C4 (uR i e);obtain⟨c7,dc,di⟩:=F6 (uR i e);cases s with
 |false=>go_wp2_with fail;refine(zny _).mono ?_;rintro y c ⟨⟨aN,rfl,o⟩,f⟩;have D:=a (N5 o (uS i x));obtain⟨X,aJ,rfl,_,_,_⟩:=id o;obtain⟨ac,ad,ae⟩:=C4 (uR c j);obtain⟨al,an,ao⟩:=C4 (uR c m);obtain⟨af,ag,ah⟩:=C4 (uR c k);obtain⟨ai,aj,ak⟩:=C4 (uR c l);obtain⟨aq,ar,au⟩:=C4 (uR c e);obtain⟨av,ay,az⟩:=F6 (uR c e);go_wp2_with fail;refine T6 Tryz.results131 rfl rfl (Row.put3 (uR c e) _ _ _) (zmv (by rw[J.out,yez];rfl) (uB c E) og (uF c I) D.out og og)
 |true=>
  rcases Nat.eq_zero_or_pos (n/d) with A|A
  ·have b3:decide (0<(A9 (n/d)).length)=false:=(by rw[A,O7];rfl);have B:=a A;clear A;go_wp2_with fail;refine(zny _).mono ?_;rintro y c ⟨⟨aN,rfl,o⟩,f⟩;have D:=a (N5 o (uS i x));obtain⟨X,aJ,rfl,_,_,_⟩:=id o;obtain⟨ac,ad,ae⟩:=C4 (uR c j);obtain⟨al,an,ao⟩:=C4 (uR c m);obtain⟨af,ag,ah⟩:=C4 (uR c k);obtain⟨ai,aj,ak⟩:=C4 (uR c l);obtain⟨aq,ar,au⟩:=C4 (uR c e);obtain⟨av,ay,az⟩:=F6 (uR c e);go_wp2_with fail;refine T6 Tryz.results131 rfl rfl (Row.put3 (uR c e) _ _ _) (zmv (by rw[J.out,yez];rw[B.out];rfl) (uB c E) og (uF c I) D.out og og)
  ·have b3:decide (0<(A9 (n/d)).length)=true:=decide_eq_true (yxq og);have B:=a A;clear A;go_wp2_with fail;refine(zny _).mono ?_;rintro y c ⟨⟨aN,rfl,o⟩,f⟩;have D:=a (N5 o (uS i x));obtain⟨X,aJ,rfl,_,_,_⟩:=id o;obtain⟨ac,ad,ae⟩:=C4 (uR c j);obtain⟨al,an,ao⟩:=C4 (uR c m);obtain⟨af,ag,ah⟩:=C4 (uR c k);obtain⟨ai,aj,ak⟩:=C4 (uR c l);obtain⟨aq,ar,au⟩:=C4 (uR c e);obtain⟨av,ay,az⟩:=F6 (uR c e);go_wp2_with fail;refine T6 Tryz.results131 rfl rfl (Row.put3 (uR c e) _ _ _) (zmv (by rw[J.out,yez];rw[decide_eq_true B.out];rfl) (uB c E) og (uF c I) D.out og og)
theorem zz1481 {a:Int} {d:Nat} {z:Int} (hd:0<d) (h:(a:Rat)/((d:Int):Rat)=(z:Rat)):a.tdiv (d:Int)=z:=by have f:((d:Int):Rat)≠0:=(by intro c;have:(d:Int)=0:=Rat.intCast_inj.1 (by rw[c];rfl);omega);have b:(a:Rat)=(z:Rat)*((d:Int):Rat):=(by rw[<-h,Rat.div_mul_cancel f]);have e:a=z*(d:Int):=(by rw[<-Rat.intCast_mul] at b;exact Rat.intCast_inj.1 b);rw[e];exact Int.mul_tdiv_cancel _ og
def zms (M:List (List Rat)) (i j:Nat):Int:=((M.getD i []).getD j 0).num*((zld (M.getD i [])/((M.getD i []).getD j 0).den:Nat):Int)
theorem zuo {x:Rat} (hr:M[i]? =some r) (c:r[j]? =some x):zms M i j=x.num*((zld r/x.den:Nat):Int):=by unfold zms;have a:M.getD i []=r:=(by rw[e,hr,Option.getD_some]);have b:r.getD j 0=x:=(by rw[e,c,Option.getD_some]);rw[a,b]
theorem zzs {b:List (List Rat)} {x:Rat} (hr:b[i]? =some r) (e:r[j]? =some x):((zms b i j:Int):Rat)=x*((zld r:Nat):Rat):=by rw[zuo hr e,Rat.intCast_mul];have hd:x.den∣zld r:=ydt (List.mem_of_getElem? e);obtain⟨c,hc⟩:=hd;have f:zld r/x.den=c:=(by rw[hc];exact Nat.mul_div_cancel_left c x.den_pos);rw[f,hc,Rat.natCast_mul];have g:(x.num:Rat)=x*((x.den:Nat):Rat):=(by have a:=Rat.mkRat_self x;rw[Rat.mkRat_eq_div] at a;have h:((x.den:Nat):Rat)≠0:=yrt x.den_pos;have d:=Rat.div_mul_cancel (a:=(x.num:Rat)) h;rw[a] at d;exact d.symm);rw[g];show x*_*((c:Nat):Rat)=_;grind
def zwk (M:List (List Rat)) (a:List Rat) (b:Nat):List (List Rat):=(List.range b).map fun i=>M.getD i []++[a.getD i 0]
theorem yfx {b:List Rat} {m:Nat} (a:i<n) (hr:M[i]? =some r):(zwk M b n)[i]? =some (r++[b.getD i 0]):=by unfold zwk;rw[List.getElem?_map,List.getElem?_range a,Option.map_some,e,hr];rfl
theorem zzg {x:Rat} (b:r.length=m) (a:j<m):(r++[x])[j]? =some (r.getD j 0):=by rw[List.getElem?_append_left og,e,List.getElem?_eq_getElem og];rfl
theorem ydc {x:Rat} (a:r.length=m):(r++[x])[m]? =some x:=by rw[List.getElem?_append_right og,a,Nat.sub_self];rfl
theorem ytj (a b:List RV):Y4 cs (a++(fun _=>0)::b)=0:=by have h:=zvd cs a b (fun _=>0) (fun _=>0) 0 0;have c:(fun x:Nat=>(0:Rat)*(fun _=>(0:Rat)) x+0*(fun _=>(0:Rat)) x)=fun _=>0:=(by funext x;grind);rw[c] at h;rw[h];grind
theorem yii (c d:List RV) (a:Nat->Rat) (B:Nat->RV):∀K,Y4 cs (c++(fun x=>C9 K fun b=>a b*B b x)::d)=C9 K fun b=>a b*Y4 cs (c++B b::d)
 |0=>ytj c d
 |K+1=>by
  have h:=zvd cs c d (fun x=>C9 K fun b=>a b*B b x) (B K) 1 (a K)
  have e:(fun x=>C9 (K+1) fun b=>a b*B b x)=fun x=>1*(fun x=>C9 K fun b=>a b*B b x) x+a K*B K x:=by funext x;simp only[C9];grind
  rw[e,h,yii c d a B K,C9]
  grind
theorem ytg (c d:List RV) (a:Rat) (b:RV):Y4 cs (c++(fun x=>a*b x)::d)=a*Y4 cs (c++b::d):=by have h:=zvd cs c d b b a 0;have e:(fun x:Nat=>a*b x+0*b x)=fun x=>a*b x:=(by funext x;grind);rw[e] at h;rw[h];grind
def N7 (B:Nat->RV) (i:Nat) (b:RV):Nat->RV:=fun a=>if a=i then b else B a
def Z6 (K:Nat) (B:Nat->RV):List RV:=(List.range K).map B
theorem ysu (h:i<K) (B:Nat->RV):∃d e,∀a,Z6 K (N7 B i a)=d++a::e:=by
 refine⟨(List.range i).map B,(List.range (K-1-i)).map fun b=>B (i+1+b),fun a=> ?_⟩;unfold Z6;have g:K=i+(1+(K-1-i)):=og;conv=>lhs;rw[g,List.range_add,List.range_add]
 rw[List.map_append,List.map_map,List.map_append,List.map_map];congr 1
 ·exact List.map_congr_left fun b c=>if_neg (by have:=List.mem_range.1 c;omega)
 ·have f:List.range 1=[0]:=rfl;rw[f];show N7 B i a (i+0)::_=_;congr 1
  ·exact if_pos rfl
  ·exact List.map_congr_left fun b c=>by show N7 B i a (i+(1+b))=_;rw[N7,if_neg og];congr 1;omega
theorem ysv (B:Nat->RV):Z6 K (N7 B i (B i))=Z6 K B:=List.map_congr_left fun a _=>by unfold N7;split;rename_i h;rw[h];rfl
theorem yti {a:Nat} (l:i<K) (m:a<K) (h:a≠i) (B:Nat->RV):Y4 cs (Z6 K (N7 B i (B a)))=0:=by
 obtain⟨x,y,n,o,g,c⟩:∃x y,x<y/\y<K/\N7 B i (B a) x=B a/\N7 B i (B a) y=B a:=by
  rcases Nat.lt_or_ge a i with d|d
  ·exact⟨a,i,d,l,if_neg h,if_pos rfl⟩
  ·exact⟨i,a,by omega,m,if_pos rfl,if_neg h⟩
 obtain⟨b,j⟩:=nm (N7 B i (B a));rw[<-j] at g c⊢
 have e:Z6 K b=(List.range x).map b++B a::((List.range (y-x-1)).map (fun z=>b (x+1+z))++B a::(List.range (K-1-y)).map fun z=>b (y+1+z)):=by
  unfold Z6;have k:K=x+(1+((y-x-1)+(1+(K-1-y)))):=og;conv=>lhs;rw[k,List.range_add,List.range_add,List.range_add,List.range_add]
  have f:List.range 1=[0]:=rfl;simp only[f,List.map_append,List.map_map,List.map_cons,List.cons_append,List.nil_append];congr 1;congr 1;congr 1
  ·exact List.map_congr_left fun z _=>by show b (x+(1+z))=_;congr 1;omega
  ·congr 1
   ·show b (x+(1+((y-x-1)+0)))=_;rw[show x+(1+((y-x-1)+0))=y by omega,c]
   ·exact List.map_congr_left fun z _=>by show b (x+(1+((y-x-1)+(1+z))))=_;congr 1;omega
 rw[e];exact yte cs (B a) _ _ _
theorem yih (f:i<K) {B:Nat->RV} {c:RV} {d:Rat} {a:Nat->Rat} (h:∀x,d*c x=C9 K fun b=>a b*B b x):
 d*Y4 cs (Z6 K (N7 B i c))=a i*Y4 cs (Z6 K B):=by
 obtain⟨j,k,e⟩:=ysu f B;have l:(fun x=>d*c x)=fun x=>C9 K fun b=>a b*B b x:=funext h;have g:=ytg (cs:=cs) j k d c;rw[l,yii] at g;rw[e,<-g,znl f fun b m n=> ?_]
 ·rw[<-e (B i),ysv]
 ·rw[<-e (B b),yti f m n];grind
structure Cram (K n:Nat) (A:Nat->Nat->Int) (d:Nat) (B O:Nat->RV):Prop where
 d0:0<d
 intB:∀i,i<K->zrb (B i)
 intO:∀j,j<=n->zrb (O j)
 det:((d:Int):Rat)=Y4 (List.range K) (Z6 K B)\/((d:Int):Rat)= -Y4 (List.range K) (Z6 K B)
 rel:∀j,j<=n->∀x,((d:Int):Rat)*O j x=C9 K fun i=>(A i j:Rat)*B i x
def ztq (M:Nat) (a:RV):Prop:=∀x,-(M:Rat)<=a x/\a x<=(M:Rat)
theorem zxj {d:Nat} (h:0<d):((d:Int):Rat)≠0:=by intro a;have:(d:Int)=0:=Rat.intCast_inj.1 (by rw[a];rfl);omega
theorem Cram.elem {d:Nat} {A:Nat->Nat->Int} {B b:Nat->RV} (h:Cram K n A d B b) (g:i<K) (k:j<=n):
 (A i j:Rat)=Y4 (List.range K) (Z6 K (N7 B i (b j)))\/(A i j:Rat)= -Y4 (List.range K) (Z6 K (N7 B i (b j))):=by
 have c:=yih (cs:=List.range K) g (h.rel j k);have e:=zxj h.d0;obtain⟨X,f⟩:=nm (Y4 (List.range K) (Z6 K (N7 B i (b j))));obtain⟨D,hD⟩:=nm (((d:Int):Rat));have a:=h.det;rw[<-f] at c⊢;rw[<-hD] at c e a;rcases a with a|a
 ·left;rw[<-a] at c;have:D*(X-A i j)=0:=(by grind);rcases Rat.mul_eq_zero.1 this with h|h
  ·exact absurd h e
  ·grind
 ·right;have:D*(X+A i j)=0:=(by grind);rcases Rat.mul_eq_zero.1 this with h|h
  ·exact absurd h e
  ·grind
def zlt (A:Nat->Nat->Int) (d r c:Nat):Nat->Nat->Int:=fun i j=>
 if i=r then(if j=c then(d:Int) else A r j)
 else if j=c then -(A i c) else zlo (A i j) (A r c) (A i c) (A r j) d
def znz (A:Nat->Nat->Int) (d r c:Nat):Nat->Nat->Int:=fun i j=>if A r c<0 then -(zlt A d r c i j) else zlt A d r c i j
theorem Cram.piv {d:Nat} {A:Nat->Nat->Int} {B b:Nat->RV} (h:Cram K n A d B b) {r:Nat} (hr:r<K) (hc:c<n) (U:A r c≠0):
 Cram K n (znz A d r c) (A r c).natAbs (N7 B r (b c)) (N7 b c (B r))/\
 ∀i j,i<K->j<=n->i≠r->j≠c->((zlt A d r c i j:Int):Rat)=((A i j:Rat)*(A r c:Rat)-(A i c:Rat)*(A r j:Rat))/((d:Int):Rat):=by
 obtain⟨f,m⟩:=nm (A r c);obtain⟨D,hD⟩:=nm (((d:Int):Rat));have O:=zxj h.d0;rw[<-hD] at O;have V:(f:Rat)≠0:=(by intro w;have p:f=0:=Rat.intCast_inj.1 (by rw[w];rfl);rw[m] at p;exact U p);obtain⟨q,W⟩:=nm (D⁻¹);have X:D*q=1:=(by rw[W];exact Rat.mul_inv_cancel _ O);obtain⟨o,u⟩:∃o:Nat->Nat->Rat,o=fun i j=>if i=r then(if j=c then D else(A r j:Rat)) else if j=c then -(A i c:Rat) else((A i j:Rat)*(f:Rat)-(A i c:Rat)*(A r j:Rat))*q:=⟨_,rfl⟩;have Y:∀j,j<=n->∀x,D*b j x=C9 K fun i=>(A i j:Rat)*B i x:=(by rw[hD];exact h.rel);have split:∀(t:Nat->Rat),C9 K t=t r+C9 K fun i=>if i=r then 0 else t i:=by intro t;have p:C9 K t=C9 K fun j=>(if j=r then t r else 0)+(if j=r then 0 else t j):=U3 fun j _=>(by split<;>grind);rw[p,zuw,znl hr fun j _ g=>if_neg g,if_pos rfl]
 have hrel:∀j,j<=n->∀x,(f:Rat)*N7 b c (B r) j x=C9 K fun i=>o i j*N7 B r (b c) i x:=by
  intro j g x;have N:=Y c og x;rw[split] at N;obtain⟨y,F⟩:=nm (C9 K fun i=>if i=r then 0 else(A i c:Rat)*B i x);rw[<-F,<-m] at N;rw[split];by_cases k:j=c
  ·have C:(C9 K fun i=>if i=r then(0:Rat) else o i j*N7 B r (b c) i x)=(-1)*y:=by
    rw[F,<-zpa];refine U3 fun i _=> ?_;by_cases e:i=r
    ·rw[if_pos e,if_pos e];grind
    ·rw[if_neg e,if_neg e,u,N7,if_neg e];simp only[if_neg e,if_pos k];grind
   rw[C,u,N7,N7,if_pos k,if_pos rfl];simp only[if_true,if_pos k];grind
  ·have S:=Y j g x;rw[split] at S;obtain⟨J,M⟩:=nm (C9 K fun i=>if i=r then 0 else(A i j:Rat)*B i x);rw[<-M] at S
   have C:(C9 K fun i=>if i=r then(0:Rat) else o i j*N7 B r (b c) i x)=((f:Rat)*q)*J+(-((A r j:Rat)*q))*y:=by
    rw[M,F,<-zpa,<-zpa,<-zuw];refine U3 fun i _=> ?_;by_cases e:i=r
    ·rw[if_pos e,if_pos e,if_pos e];grind
    ·rw[if_neg e,if_neg e,if_neg e,u,N7,if_neg e];simp only[if_neg e,if_neg k];grind
   rw[C,u,N7,N7,if_neg k,if_pos rfl];simp only[if_true,if_neg k];have s:J=D*b j x-(A r j:Rat)*B r x:=(by grind);have E:y=D*b c x-(f:Rat)*B r x:=(by grind);rw[s,E];have ab:(f:Rat)*b j x=(f:Rat)*(D*q)*b j x:=(by rw[X];grind);have ac:(A r j:Rat)*b c x=(A r j:Rat)*(D*q)*b c x:=(by rw[X];grind);grind
 have Q:∀i,i<K->zrb (N7 B r (b c) i):=fun i l=>(by unfold N7;split;exact h.intO c og;exact h.intB i l);have R:∀j,j<=n->zrb (N7 b c (B r) j):=fun j g=>(by unfold N7;split;exact h.intB r hr;exact h.intO j g);have H:(f:Rat)=Y4 (List.range K) (Z6 K (N7 B r (b c)))\/(f:Rat)= -Y4 (List.range K) (Z6 K (N7 B r (b c))):=by rw[m];exact h.elem hr og
 have aa:∀i j,i<K->j<=n->∃z:Int,o i j=(z:Rat):=by
  intro i j l g;have p:=yih (cs:=List.range K) l (hrel j g)
  obtain⟨z,v⟩:=ytf (List.range K) (Z6 K (N7 (N7 B r (b c)) i (N7 b c (B r) j))) (fun ad hv=>by
   obtain⟨Z,I,rfl⟩:=List.mem_map.1 hv;have I:=List.mem_range.1 I;show zrb (if Z=i then _ else _);split
   ·exact R j g
   ·exact Q Z I)
  rw[v] at p;rcases H with L|L
  ·refine⟨z,?_⟩;rw[<-L] at p;have:(f:Rat)*((z:Rat)-o i j)=0:=(by grind);rcases Rat.mul_eq_zero.1 this with h|h
   ·exact absurd h V
   ·grind
  ·refine⟨-z,?_⟩;have:(f:Rat)*((z:Rat)+o i j)=0:=(by grind);rcases Rat.mul_eq_zero.1 this with h|h
   ·exact absurd h V
   ·rw[Rat.intCast_neg];grind
 have P:∀a:Rat,a/D=a*q:=fun a=>by rw[W];exact Rat.div_def a D
 have G:∀i j,i<K->j<=n->((zlt A d r c i j:Int):Rat)=o i j:=by
  intro i j l g;rw[u];unfold zlt;by_cases e:i=r
  ·simp only[if_pos e];by_cases k:j=c
   ·simp only[if_pos k];exact hD.symm
   ·simp only[if_neg k]
  ·simp only[if_neg e];by_cases k:j=c
   ·simp only[if_pos k];rw[Rat.intCast_neg]
   ·simp only[if_neg k];obtain⟨z,v⟩:=aa i j l g;rw[u] at v;simp only[if_neg e,if_neg k] at v;rw[v];congr 1;unfold zlo;refine zz1481 h.d0 ?_;rw[<-hD,P,Rat.intCast_sub,Rat.intCast_mul,Rat.intCast_mul,<-m];exact v
 refine⟨⟨by rw[<-m];have:f≠0:=by rw[m];exact U
            omega,Q,R,?_,?_⟩,fun i j l g e k=> ?_⟩
 ·rw[<-m];rcases Int.natAbs_eq f with w|w
  ·rw[<-w];exact H
  ·have s:((f.natAbs:Int):Rat)= -(f:Rat):=(by rw[<-Rat.intCast_neg];congr 1;omega);rw[s];rcases H with h|h
   ·right;rw[h]
   ·left;rw[h];grind
 ·intro j g x;have p:=hrel j g x;rw[<-m];by_cases T:f<0
  ·have s:((f.natAbs:Int):Rat)= -(f:Rat):=(by rw[<-Rat.intCast_neg];congr 1;omega);rw[s];have E:(C9 K fun i=>((znz A d r c i j:Int):Rat)*N7 B r (b c) i x)=(-1)*C9 K fun i=>o i j*N7 B r (b c) i x:=(by rw[<-zpa];refine U3 fun i l=> ?_;rw[znz,<-m,if_pos T,Rat.intCast_neg,G i j l g];grind);rw[E,<-p];grind
  ·have s:((f.natAbs:Int):Rat)=(f:Rat):=(by congr 1;omega);rw[s,p];refine U3 fun i l=> ?_;rw[znz,<-m,if_neg T,G i j l g]
 ·rw[G i j l g,u,<-m,<-hD,P];simp only[if_neg e,if_neg k]
theorem yqr {F:List RV->Rat} {M f:Rat} (s:0<=M) (hF:∀r:List RV,r.length=n->(∀a∈r,∀x,-M<=a x/\a x<=M)-> -f<=F r/\F r<=f) (hf:0<=f) (post:List RV):∀pre:List RV,pre.length+post.length=n+1->(∀a∈pre,∀x,-M<=a x/\a x<=M)->(∀a∈post,∀x,-M<=a x/\a x<=M)->
 -(((post.length:Nat):Rat)*(M*f))<=Z5 F c pre post/\Z5 F c pre post<=((post.length:Nat):Rat)*(M*f):=by
 induction post with
 |nil=>intro pre _ _ _;simp only[Z5,List.length_nil];constructor<;>grind
 |cons a post ih=>intro pre j i g;have hv:=g a (by simp) c;have m:=hF (pre++post) (by simp at j⊢;omega) (fun b e=>by rcases List.mem_append.1 e with h|h;exact i b h;exact g b (by simp[h]));have t:=ih (pre++[a]) (by simp at j⊢;omega) (fun b e=>by rcases List.mem_append.1 e with h|h;exact i b h;exact g b (by simp at h;simp[h])) (fun b e=>g b (by simp[e]));obtain⟨y,k⟩:=nm (F (pre++post));rw[<-k] at m;have q:a c*y<=M*f:=(by have o:=d (show 0<=M-a c by grind) (show 0<=f+y by grind);have p:=d (show 0<=M+a c by grind) (show 0<=f-y by grind);grind);have b2: -(M*f)<=a c*y:=(by have o:=d (show 0<=M-a c by grind) (show 0<=f-y by grind);have p:=d (show 0<=M+a c by grind) (show 0<=f+y by grind);grind);have l:(((a::post).length:Nat):Rat)=((post.length:Nat):Rat)+1:=(by rw[List.length_cons];exact Rat.natCast_add _ _);rw[Z5,<-k,l];constructor<;>grind
def M4 (M:Nat):Nat->Nat
 |0=>1
 |k+1=>(k+1)*(M*M4 M k)
theorem ycp {M:Nat}:∀(cs:List Nat) (rows:List RV),rows.length=cs.length->(∀b∈rows,ztq M b)-> -(((M4 M cs.length:Nat)):Rat)<=Y4 cs rows/\Y4 cs rows<=((M4 M cs.length:Nat):Rat)
 |[],[],_,_=>by simp only[Y4,M4,List.length_nil];constructor<;>decide
 |c::cs,rows,a,h=>by
  have e:=yqr (F:=Y4 cs) (M:=(M:Rat)) (f:=((M4 M cs.length:Nat):Rat)) (n:=cs.length) (c:=c) (by exact Rat.natCast_nonneg) (fun r hr hv=>ycp cs r hr hv) (by exact Rat.natCast_nonneg) rows [] (by rw[a];simp) (fun b hv=>by cases hv) h
  have d:((M4 M (c::cs).length:Nat):Rat)=((rows.length:Nat):Rat)*((M:Rat)*((M4 M cs.length:Nat):Rat)):=by
   rw[a,List.length_cons,M4,Rat.natCast_mul,Rat.natCast_mul]
  rw[d];exact e
theorem Cram.small {d M:Nat} {A:Nat->Nat->Int} {B c:Nat->RV} (h:Cram K n A d B c) (g:∀i,i<K->ztq M (B i)) (t:∀j,j<=n->ztq M (c j)):d<=M4 M K/\∀i j,i<K->j<=n->(A i j).natAbs<=M4 M K:=by
 have key:∀(z:Int) (X:Rat),((z:Rat)=X\/(z:Rat)= -X)-> -((M4 M K:Nat):Rat)<=X->X<=((M4 M K:Nat):Rat)->z.natAbs<=M4 M K:=(by intro z X o a v;(have q: -(((M4 M K:Nat):Int):Rat)<=(z:Rat):=by show -((M4 M K:Nat):Rat)<=_;rcases o with h|h<;>rw[h]<;>grind);(have r:(z:Rat)<=(((M4 M K:Nat):Int):Rat):=by show _<=((M4 M K:Nat):Rat);rcases o with h|h<;>rw[h]<;>grind);rw[<-Rat.intCast_neg,Rat.intCast_le_intCast] at q;rw[Rat.intCast_le_intCast] at r;omega);have m:∀b,(Z6 K b).length=(List.range K).length:=fun b=>(by simp[Z6]);have k:∀b:Nat->RV,(∀i,i<K->ztq M (b i))->∀p∈Z6 K b,ztq M p:=fun b s p hv=>(by obtain⟨f,e,rfl⟩:=List.mem_map.1 hv;exact s f (List.mem_range.1 e));refine⟨?_,fun i j u l=> ?_⟩
 ·have a:=ycp (List.range K) (Z6 K B) (m B) (k B g);rw[List.length_range] at a;exact key (d:Int) _ h.det a.1 a.2
 ·have a:=ycp (List.range K) (Z6 K (N7 B i (c j))) (m _) (k _ fun f e=>by unfold N7;split;exact t j l;exact g f e);rw[List.length_range] at a;exact key _ _ (h.elem u l) a.1 a.2
end Go.Proofs.YtpbilanpeioonaaGreatDoor
