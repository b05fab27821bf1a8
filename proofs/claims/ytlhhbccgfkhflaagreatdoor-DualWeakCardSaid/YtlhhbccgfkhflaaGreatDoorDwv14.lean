/-
 The contract of the law's own awake.
-/
import Derived.Test.YtlhhbccgfkhflaaGreatDoorDwv12
import Derived.Test.YtlhhbccgfkhflaaGreatDoorDwv13
import Derived.ProofKit
import Derived.OpenShut
import Derived.ChangeSame
import Derived.Carry
import Derived.Deep.DeepHandedRow
import Derived.Deep.Slices
namespace Go.Proofs.YtlhhbccgfkhflaaGreatDoor
open Go.RowKit
set_option linter.unusedVariables false
open Go.RowKit Go.WideShapes Go.ChangeShapes
open Go.RowKit Go.WideShapes Go.ChangeShapes Go.Deep
set_option maxRecDepth 100000
set_option maxHeartbeats 8000000
open _root_.Option.some renaming inj → b
open _root_.Go.RowKit.Below renaming refl → c
theorem zov {a:List Int} (h:∀x∈a,x.natAbs<=1000000):∀q∈J7 a,Sz q 1024:=by intro q b;obtain⟨x,c,rfl⟩:=List.mem_map.1 b;exact(zva (by have:=h x c;omega) og og).le og
theorem zun:Good exQ 1024:=by
 refine⟨rfl,?_,?_,zov (by decide),zov (by decide),by decide,by decide⟩
 ·intro row hr;simp only[exQ,List.mem_cons,List.not_mem_nil,or_false] at hr;rcases hr with rfl|rfl<;>rfl
 ·intro row hr;simp only[exQ,List.mem_cons,List.not_mem_nil,or_false] at hr;rcases hr with rfl|rfl
  ·exact zov (by decide)
  ·exact zov (by decide)
theorem ex_gap:H7 exQ.B (J7 [3,0])-H7 exQ.C (J7 [3,1])=W9 1 1:=by decide+kernel
theorem ysv:W6 exQ.A exQ.B (J7 [3,1])=true/\Y4 exQ.A exQ.C (J7 [3,0])=true:=by decide+kernel
theorem ex_best:zzb exQ (J7 [4,0]) (J7 [3,0])=true/\zza exQ (J7 [4,0]) (J7 [3,0]) (W9 12 1)=true:=by decide+kernel
theorem ysu:N6 exQ=⟨[J7 [-1,-1],J7 [-1,-3]],J7 [-3,-2],J7 [-4,-6]⟩:=by have a:(N6 exQ).A=[J7 [-1,-1],J7 [-1,-3]]:=(by decide+kernel);have b:(N6 exQ).B=J7 [-3,-2]:=(by decide+kernel);have c:(N6 exQ).C=J7 [-4,-6]:=(by decide+kernel);rw[<-a,<-b,<-c]
theorem ysw (x y:List Int) (h:x.length=2) (i:y.length=2) (sx:∀a∈x,a.natAbs<=1000000) (sy:∀a∈y,a.natAbs<=1000000):zly (I8 exQ) [(I8 exQ).C.length,(I8 exQ).B.length] [C4 (J7 x),C4 (J7 y)]=0:=by unfold zly;rw[if_neg (by rw[zuf zun];simp)];have hv:∀b:List Int,b.length=2->(∀a∈b,a.natAbs<=1000000)->znb 2 (C4 (J7 b))=0:=(by intro b c g;unfold znb;have f:U9 (C4 (J7 b))=0:=zug (by rw[yel,c];omega) (zov g);rw[if_neg (by rw[f];simp),if_neg (by rw[zku,yel,c];simp)]);have d:(I8 exQ).C.length=2:=rfl;have e:(I8 exQ).B.length=2:=rfl;rw[d,e];simp only[List.zipWith_cons_cons,List.zipWith_nil_left,zka,hv x h sx,hv y i sy];rfl
theorem ypj:OptQ (I8 exQ) bestS exQ (J7 [4,0]) (J7 [3,0]) (W9 12 1):=
 ⟨rfl,zun,rfl,rfl,rfl,rfl,rfl,zov (by decide),zov (by decide),(zva (by decide) (by decide) (by decide)).le og⟩
theorem ypk:zrs (I8 exQ) bestS=true:=by unfold zrs;have a:zkt bestS.X (I8 exQ).C.length=true:=ykx (q:=J7 [4,0]) rfl (by decide) (zov (by decide));have b:zkt bestS.D (I8 exQ).B.length=true:=ykx (q:=J7 [3,0]) rfl (by decide) (zov (by decide));have c:zkl bestS.val=0:=yfu ((zva (by decide) (by decide) (by decide)).le og);rw[a,b,c];rfl
theorem gap_one:zrl (W9 1 1)=E0 (W9 1 1)/\zrk (W9 1 1)=0:=by have h:zkz (W9 1 1)=true:=fitsQ_true.2 ((zva (by decide) (by decide) (by decide)).le og);unfold zrl zrk;rw[h];exact⟨rfl,rfl⟩
def O9 (e:Nat) (a:Value) (w:World):Prop:=
 match e with
 |0=>a= .int .i64 0
 |1=>a= .bool true
 |2=>a= .bool true
 |3=>IsP w (C5 w) a (I8 (N6 exQ))
 |4=>∃d,a= .slice (some ⟨d,0,none⟩) 2 2/\Row w d 3 [.int .i64 (-1),.int .i64 (-1)]
 |5=>IsV w (C5 w) a (C4 (J7 [-1,-1]))
 |6=>∃d,a= .slice (some ⟨d,0,none⟩) 2 2/\Row w d 3 [.int .i64 (-1),.int .i64 (-3)]
 |7=>IsV w (C5 w) a (C4 (J7 [-1,-3]))
 |8=>IsM w (C5 w) a (I0 [J7 [-1,-1],J7 [-1,-3]])
 |9=>∃d,a= .slice (some ⟨d,0,none⟩) 2 2/\Row w d 3 [.int .i64 (-3),.int .i64 (-2)]
 |10=>IsV w (C5 w) a (C4 (J7 [-3,-2]))
 |11=>∃d,a= .slice (some ⟨d,0,none⟩) 2 2/\Row w d 3 [.int .i64 (-4),.int .i64 (-6)]
 |12=>IsV w (C5 w) a (C4 (J7 [-4,-6]))
 |13=>IsP w (C5 w) a (I8 (N6 exQ))
 |14=>a= .bool true
 |15=>a= .bool true
 |16=>a= .bool true
 |17=>a= .int .i64 0
 |18=>a= .bool true
 |19=>a= .bool true
 |20=>a= .bool true
 |21=>IsR w (C5 w) a (E0 (W9 1 1))
 |22=>IsQ w (C5 w) a (W9 1 1)
 |23=>a= .bool true
 |24=>a= .bool true
 |25=>a= .bool true
 |26=>a= .bool true
 |27=>a= .bool true
 |28=>a= .bool true
 |29=>a= .int .i64 0
 |30=>a= .bool true
 |31=>a= .bool true
 |32=>a= .bool true
 |_=>True
theorem ypc:∀(g:Nat) (i:Value) (w w':World),O9 g i w->Below w.heap.size w w'->O9 g i w':=fun g i w w' h a=>match g,h with
 |0,h=>h
 |1,h=>h
 |2,h=>h
 |3,h=>IsP.stb.next h a
 |4,h=>by obtain⟨e,d,f⟩:=h;exact⟨e,d,f.next a⟩
 |5,h=>IsV.stb.next h a
 |6,h=>by obtain⟨e,d,f⟩:=h;exact⟨e,d,f.next a⟩
 |7,h=>IsV.stb.next h a
 |8,h=>IsM.stb.next h a
 |9,h=>by obtain⟨e,d,f⟩:=h;exact⟨e,d,f.next a⟩
 |10,h=>IsV.stb.next h a
 |11,h=>by obtain⟨e,d,f⟩:=h;exact⟨e,d,f.next a⟩
 |12,h=>IsV.stb.next h a
 |13,h=>IsP.stb.next h a
 |14,h=>h
 |15,h=>h
 |16,h=>h
 |17,h=>h
 |18,h=>h
 |19,h=>h
 |20,h=>h
 |21,h=>IsR.stb.next h a
 |22,h=>IsQ.stb.next h a
 |23,h=>h
 |24,h=>h
 |25,h=>h
 |26,h=>h
 |27,h=>h
 |28,h=>h
 |29,h=>h
 |30,h=>h
 |31,h=>h
 |32,h=>h
 |_+33,_=>trivial
theorem U6 {P:Program} {c:Oper} {a:Act} {w:World} {Φ:Value->World->Prop} {e:Exit->Act->World->Prop} (h:∀d:Act->World->Prop,(∀b w',Below w.heap.size w w'->Φ b w'->d (a.put c.dst b) w')->c.wp P a w d e):c.wp P a w (fun f w'=>∃b,f=a.put c.dst b/\Below w.heap.size w w'/\Φ b w') e:=
 h _ fun b w' g hv=>⟨b,rfl,g,hv⟩
theorem E7 {d:List Value} {e:Nat} (h:d.length=e+1):∃x a,d=x::a/\a.length=e:=by
 cases d with
 |nil=>cases h
 |cons x a=>exact⟨x,a,rfl,by simpa using h⟩
theorem ypd {w:World} (cH:Bru w):Calls Tryz.prog 45 #[] w fun j w'=>j= .returned (.bool true)/\Below w.heap.size w w':=by
 have s:=Lib.hid cH;go_in;go_wp2_with fail;refine(ybs _).mono ?_;rintro j eA ⟨⟨ep,rfl,cC⟩,cJ⟩;obtain⟨aX,bV⟩:=C7 cJ cC;go_wp2_with fail;refine(yka bV.out (Bru.next s.out aX.out) zun).mono ?_;rintro j bj ⟨⟨er,rfl,a1⟩,cK⟩;have bX:=Lib.hid a1;have bq:=nB aX cK;obtain⟨bI,cx,bK,cy,bM,cz,rfl,_,_,_⟩:=a1;obtain⟨eB,em,a3,dR,ed⟩:=J9 bj #[.slice bI (I8 (N6 exQ)).A.length cx,.slice bK (I8 (N6 exQ)).B.length cy,.slice bM (I8 (N6 exQ)).C.length cz] 54;have br:=nB bq a3;obtain⟨bB,b9⟩:=C7 (IsP.stb.next bX.out a3) dR;go_wp2_with fail;refine(ybs _).mono ?_;rintro j aV ⟨⟨et,rfl,cD⟩,C⟩;have bY:=Lib.hid cD;have bt:=nB br C;obtain⟨bC,ca⟩:=C7 (IsP.stb.next bB.out C) (b9.out.next C);go_wp2_with fail;refine(zpl (w:=aV.alloc (.cells #[.int .i64 3,.int .i64 1] 3)) (l:=[3,1]) (heap_alloc_new aV _) (by decide) (by decide)).mono ?_;rintro j aW ⟨⟨eu,rfl,cE⟩,cL⟩;have x:=C8 (L7 aV _) cL;obtain⟨cr,bZ⟩:=C7 (IsV.stb.old cE) (IsP.stb.next bY.out x);have bu:=nB bt x;obtain⟨bD,cb⟩:=C7 (IsP.stb.next bC.out x) (ca.out.next x);go_wp2_with fail;refine(zpl (w:=aW.alloc (.cells #[.int .i64 3,.int .i64 0] 3)) (l:=[3,0]) (heap_alloc_new aW _) (by decide) (by decide)).mono ?_;rintro j eC ⟨⟨ev,rfl,cF⟩,cM⟩;have t:=C8 (L7 aW _) cM;have a0:=Lib.hid (IsV.stb.old cF);have aZ:=nV cr t;have aY:=Lib.hid (IsP.stb.next bZ.out t);have z:=nB bu t;obtain⟨bE,cc⟩:=C7 (IsP.stb.next bD.out t) (cb.out.next t);go_wp2_with fail;refine(yho (q:=exQ) (x:=J7 [3,1]) (y:=J7 [3,0]) (d:=W9 1 1) aY.out aZ.out a0.out (Bru.next s.out z.out) zun (fun g n=>ykm (IsP.stb.next aY.out n) (IsV.stb.next aZ.out n) (IsV.stb.next a0.out n) (Bru.next s.out (C8 z.out n)) zun (ysw [3,1] [3,0] rfl rfl (by decide) (by decide)) rfl (zov (by decide)) rfl (zov (by decide)) (by rw[if_pos ysv])) rfl (zov (by decide)) rfl (zov (by decide)) ex_gap.symm).mono ?_;rw[gap_one.1,gap_one.2];rintro j bm ⟨⟨ew,rfl,a2⟩,D⟩;have bN:=Lib.hid a2;have bv:=nB z D;obtain⟨bF,cd⟩:=C7 (IsP.stb.next bE.out D) (cc.out.next D);obtain⟨bR,cA,bT,cB,rfl,_,_⟩:=a2;obtain⟨eD,en,y,dW,ee⟩:=J9 bm #[.bool (E0 (W9 1 1)).neg,.slice bR (E0 (W9 1 1)).num.length cA,.slice bT (E0 (W9 1 1)).den.length cB] 30;have bw:=nB bv y;obtain⟨bG,cf,bO,ck⟩:=V7 (IsP.stb.next bF.out y) (cd.out.next y) (IsR.stb.next bN.out y) dW;go_wp2_with fail;refine(ybs _).mono ?_;rintro j eE ⟨⟨ey,rfl,cG⟩,u⟩;have b0:=Lib.hid cG;have bx:=nB bw u;obtain⟨bH,cg,bP,cl⟩:=V7 (IsP.stb.next bG.out u) (cf.out.next u) (IsR.stb.next bO.out u) (ck.out.next u);go_wp2_with fail;refine(ypi _).mono ?_;rintro j eF ⟨⟨ez,rfl,ha⟩,q⟩;obtain⟨b1,cn⟩:=C7 (IsP.stb.next b0.out q) ha;have A:=nB bx q;obtain⟨bJ,ch,bQ,cm⟩:=V7 (IsP.stb.next bH.out q) (cg.out.next q) (IsR.stb.next bP.out q) (cl.out.next q);go_wp2_with fail;refine(yoh (b:=true) b1.out cn.out (Bru.next s.out A.out) (zuf zun) rfl (fun m hv g n=>by have h:=yyc (b2:=true) (b3:=true) (IsPS.to hv (C9 n)) (Bru.next s.out (C8 A.out n)) (fun _=>⟨_,_,_,_,ypj,ex_best.1.symm,ex_best.2.symm⟩);rw[ypk] at h;exact h)).mono ?_;rintro j eG ⟨rfl,v⟩;have bA:=nB A v;obtain⟨bL,cj,bU,cq⟩:=V7 (IsP.stb.next bJ.out v) (ch.out.next v) (IsR.stb.next bQ.out v) (cm.out.next v);go_wp2_with fail;refine zz1482 O9 kr ypc kr ?step ?fin
 case fin=>intro a g p E r o cI;obtain⟨⟨aT⟩,B⟩:=a;replace p:aT.length=59:=p;obtain⟨a9,cO,rfl,F⟩:=E7 p;obtain⟨bd,cP,rfl,G⟩:=E7 F;obtain⟨be,c0,rfl,R⟩:=E7 G;obtain⟨bf,db,rfl,ac⟩:=E7 R;obtain⟨bg,dp,rfl,ao⟩:=E7 ac;obtain⟨bh,dA,rfl,aE⟩:=E7 ao;obtain⟨bi,dJ,rfl,aP⟩:=E7 aE;obtain⟨dX,dK,rfl,aQ⟩:=E7 aP;obtain⟨dY,dL,rfl,aR⟩:=E7 aQ;obtain⟨dZ,dM,rfl,aS⟩:=E7 aR;obtain⟨t10,cQ,rfl,H⟩:=E7 aS;obtain⟨t11,cR,rfl,I⟩:=E7 H;obtain⟨t12,cS,rfl,J⟩:=E7 I;obtain⟨t13,cT,rfl,K⟩:=E7 J;obtain⟨t14,cU,rfl,L⟩:=E7 K;obtain⟨t15,cV,rfl,M⟩:=E7 L;obtain⟨t16,cW,rfl,N⟩:=E7 M;obtain⟨t17,cX,rfl,O⟩:=E7 N;obtain⟨t18,cY,rfl,P⟩:=E7 O;obtain⟨t19,cZ,rfl,Q⟩:=E7 P;obtain⟨t20,c1,rfl,S⟩:=E7 Q;obtain⟨t21,c2,rfl,T⟩:=E7 S;obtain⟨t22,c3,rfl,U⟩:=E7 T;obtain⟨t23,c4,rfl,V⟩:=E7 U;obtain⟨t24,c5,rfl,W⟩:=E7 V;obtain⟨t25,c6,rfl,X⟩:=E7 W;obtain⟨t26,c7,rfl,Y⟩:=E7 X;obtain⟨t27,c8,rfl,Z⟩:=E7 Y;obtain⟨t28,c9,rfl,aa⟩:=E7 Z;obtain⟨t29,da,rfl,ab⟩:=E7 aa;obtain⟨t30,dc,rfl,ad⟩:=E7 ab;obtain⟨t31,dd,rfl,ae⟩:=E7 ad;obtain⟨t32,de,rfl,af⟩:=E7 ae;obtain⟨t33,df,rfl,ag⟩:=E7 af;obtain⟨t34,dh,rfl,ah⟩:=E7 ag;obtain⟨t35,di,rfl,ai⟩:=E7 ah;obtain⟨t36,dj,rfl,aj⟩:=E7 ai;obtain⟨t37,dk,rfl,ak⟩:=E7 aj;obtain⟨t38,dm,rfl,al⟩:=E7 ak;obtain⟨t39,dn,rfl,an⟩:=E7 al;obtain⟨t40,dq,rfl,aq⟩:=E7 an;obtain⟨t41,dr,rfl,ar⟩:=E7 aq;obtain⟨t42,ds,rfl,au⟩:=E7 ar;obtain⟨t43,dt,rfl,av⟩:=E7 au;obtain⟨t44,du,rfl,ay⟩:=E7 av;obtain⟨t45,dv,rfl,az⟩:=E7 ay;obtain⟨t46,dw,rfl,aA⟩:=E7 az;obtain⟨t47,dx,rfl,aB⟩:=E7 aA;obtain⟨t48,dy,rfl,aC⟩:=E7 aB;obtain⟨t49,dz,rfl,aD⟩:=E7 aC;obtain⟨t50,dB,rfl,aG⟩:=E7 aD;obtain⟨t51,dC,rfl,aH⟩:=E7 aG;obtain⟨t52,dD,rfl,aI⟩:=E7 aH;obtain⟨t53,dE,rfl,aJ⟩:=E7 aI;obtain⟨t54,dF,rfl,aK⟩:=E7 aJ;obtain⟨t55,dG,rfl,aL⟩:=E7 aK;obtain⟨t56,dH,rfl,aM⟩:=E7 aL;obtain⟨t57,dI,rfl,aN⟩:=E7 aM;obtain⟨t58,aU,rfl,aO⟩:=E7 aN;obtain rfl:aU=[]:=List.eq_nil_of_length_eq_zero aO;obtain rfl:B=[]:=E;obtain rfl:a9= .bool true:=cI 32 _ 0 rfl rfl;go_wp2_with fail;go_ret;exact⟨rfl,C8 bA.out r⟩
 case step=>
  intro cN eo d a g p E r o f;obtain⟨⟨aT⟩,B⟩:=a;replace p:aT.length=59:=p;obtain⟨a9,cO,rfl,F⟩:=E7 p;obtain⟨bd,cP,rfl,G⟩:=E7 F;obtain⟨be,c0,rfl,R⟩:=E7 G;obtain⟨bf,db,rfl,ac⟩:=E7 R;obtain⟨bg,dp,rfl,ao⟩:=E7 ac;obtain⟨bh,dA,rfl,aE⟩:=E7 ao;obtain⟨bi,dJ,rfl,aP⟩:=E7 aE;obtain⟨dX,dK,rfl,aQ⟩:=E7 aP;obtain⟨dY,dL,rfl,aR⟩:=E7 aQ;obtain⟨dZ,dM,rfl,aS⟩:=E7 aR;obtain⟨t10,cQ,rfl,H⟩:=E7 aS;obtain⟨t11,cR,rfl,I⟩:=E7 H;obtain⟨t12,cS,rfl,J⟩:=E7 I;obtain⟨t13,cT,rfl,K⟩:=E7 J;obtain⟨t14,cU,rfl,L⟩:=E7 K;obtain⟨t15,cV,rfl,M⟩:=E7 L;obtain⟨t16,cW,rfl,N⟩:=E7 M;obtain⟨t17,cX,rfl,O⟩:=E7 N;obtain⟨t18,cY,rfl,P⟩:=E7 O;obtain⟨t19,cZ,rfl,Q⟩:=E7 P;obtain⟨t20,c1,rfl,S⟩:=E7 Q;obtain⟨t21,c2,rfl,T⟩:=E7 S;obtain⟨t22,c3,rfl,U⟩:=E7 T;obtain⟨t23,c4,rfl,V⟩:=E7 U;obtain⟨t24,c5,rfl,W⟩:=E7 V;obtain⟨t25,c6,rfl,X⟩:=E7 W;obtain⟨t26,c7,rfl,Y⟩:=E7 X;obtain⟨t27,c8,rfl,Z⟩:=E7 Y;obtain⟨t28,c9,rfl,aa⟩:=E7 Z;obtain⟨t29,da,rfl,ab⟩:=E7 aa;obtain⟨t30,dc,rfl,ad⟩:=E7 ab;obtain⟨t31,dd,rfl,ae⟩:=E7 ad;obtain⟨t32,de,rfl,af⟩:=E7 ae;obtain⟨t33,df,rfl,ag⟩:=E7 af;obtain⟨t34,dh,rfl,ah⟩:=E7 ag;obtain⟨t35,di,rfl,ai⟩:=E7 ah;obtain⟨t36,dj,rfl,aj⟩:=E7 ai;obtain⟨t37,dk,rfl,ak⟩:=E7 aj;obtain⟨t38,dm,rfl,al⟩:=E7 ak;obtain⟨t39,dn,rfl,an⟩:=E7 al;obtain⟨t40,dq,rfl,aq⟩:=E7 an;obtain⟨t41,dr,rfl,ar⟩:=E7 aq;obtain⟨t42,ds,rfl,au⟩:=E7 ar;obtain⟨t43,dt,rfl,av⟩:=E7 au;obtain⟨t44,du,rfl,ay⟩:=E7 av;obtain⟨t45,dv,rfl,az⟩:=E7 ay;obtain⟨t46,dw,rfl,aA⟩:=E7 az;obtain⟨t47,dx,rfl,aB⟩:=E7 aA;obtain⟨t48,dy,rfl,aC⟩:=E7 aB;obtain⟨t49,dz,rfl,aD⟩:=E7 aC;obtain⟨t50,dB,rfl,aG⟩:=E7 aD;obtain⟨t51,dC,rfl,aH⟩:=E7 aG;obtain⟨t52,dD,rfl,aI⟩:=E7 aH;obtain⟨t53,dE,rfl,aJ⟩:=E7 aI;obtain⟨t54,dF,rfl,aK⟩:=E7 aJ;obtain⟨t55,dG,rfl,aL⟩:=E7 aK;obtain⟨t56,dH,rfl,aM⟩:=E7 aL;obtain⟨t57,dI,rfl,aN⟩:=E7 aM;obtain⟨t58,aU,rfl,aO⟩:=E7 aN;obtain rfl:aU=[]:=List.eq_nil_of_length_eq_zero aO;obtain rfl:B=[]:=E;match cN,d with
  |0,d=>obtain rfl:=b d;obtain rfl:be= .int .i64 0:=b (o 2 kr);rw[if_pos (by rfl)];refine U6 (Φ:=O9 0) fun i e=> ?_;go_simp;exact e (.int .i64 0) _ (c _ _) rfl
  |1,d=>obtain rfl:=b d;obtain rfl:t27= .int .i64 0:=f 0 _ 27 (of_decide_eq_true kr) rfl rfl;rw[if_pos (by rfl)];refine U6 (Φ:=O9 1) fun i e=> ?_;go_simp;exact e (.bool true) _ (c _ _) rfl
  |2,d=>obtain rfl:=b d;obtain rfl:t28= .bool true:=f 1 _ 28 (of_decide_eq_true kr) rfl rfl;rw[if_pos (by rfl)];refine U6 (Φ:=O9 2) fun i e=> ?_;go_simp;exact e (.bool true) _ (c _ _) rfl
  |3,d=>obtain rfl:=b d;obtain rfl:bd= .pointer (some ⟨bj.heap.size,0,none⟩):=b (o 1 kr);obtain rfl:t29= .bool true:=f 2 _ 29 (of_decide_eq_true kr) rfl rfl;obtain⟨cu,cv,cw⟩:=C0 (cj.out.next r);rw[if_pos (by rfl)];refine U6 (Φ:=O9 3) fun i e=> ?_;go_simp;exact e _ _ (c _ _) (IsP.stb.next bL.out r)
  |4,d=>obtain rfl:=b d;obtain rfl:t29= .bool true:=f 2 _ 29 (of_decide_eq_true kr) rfl rfl;rw[if_pos (by rfl)];refine U6 (Φ:=O9 4) fun i e=> ?_;go_simp;exact e (.slice (some ⟨g.heap.size,0,none⟩) 2 2) _ (L7 _ _) ⟨_,rfl,heap_alloc_new _ _⟩
  |5,d=>obtain rfl:=b d;obtain rfl:t29= .bool true:=f 2 _ 29 (of_decide_eq_true kr) rfl rfl;obtain⟨eh,rfl,dS⟩:∃l,t31= .slice (some ⟨l,0,none⟩) 2 2/\Row g l 3 [.int .i64 (-1),.int .i64 (-1)]:=f 4 _ 31 (of_decide_eq_true kr) rfl rfl;rw[if_pos (by rfl)];refine U6 (Φ:=O9 5) fun i e=> ?_;go_simp;refine(zpl (l:=[-1,-1]) dS (by decide) (by decide)).mono ?_;rintro j w' ⟨⟨m,rfl,hv⟩,k⟩;exact e m w' k (IsV.stb.old hv)
  |6,d=>obtain rfl:=b d;obtain rfl:t29= .bool true:=f 2 _ 29 (of_decide_eq_true kr) rfl rfl;rw[if_pos (by rfl)];refine U6 (Φ:=O9 6) fun i e=> ?_;go_simp;exact e (.slice (some ⟨g.heap.size,0,none⟩) 2 2) _ (L7 _ _) ⟨_,rfl,heap_alloc_new _ _⟩
  |7,d=>obtain rfl:=b d;obtain rfl:t29= .bool true:=f 2 _ 29 (of_decide_eq_true kr) rfl rfl;obtain⟨ei,rfl,dT⟩:∃l,t33= .slice (some ⟨l,0,none⟩) 2 2/\Row g l 3 [.int .i64 (-1),.int .i64 (-3)]:=f 6 _ 33 (of_decide_eq_true kr) rfl rfl;rw[if_pos (by rfl)];refine U6 (Φ:=O9 7) fun i e=> ?_;go_simp;refine(zpl (l:=[-1,-3]) dT (by decide) (by decide)).mono ?_;rintro j w' ⟨⟨m,rfl,hv⟩,k⟩;exact e m w' k (IsV.stb.old hv)
  |8,d=>obtain rfl:=b d;obtain rfl:t29= .bool true:=f 2 _ 29 (of_decide_eq_true kr) rfl rfl;have a4:IsV g (C5 g) t32 (C4 (J7 [-1,-1])):=f 5 _ 32 (of_decide_eq_true kr) rfl rfl;have a5:IsV g (C5 g) t34 (C4 (J7 [-1,-3])):=f 7 _ 34 (of_decide_eq_true kr) rfl rfl;obtain⟨b3,b4⟩:=C7 a4 a5;obtain⟨bn,cs,rfl,_⟩:=J6 a4;obtain⟨bp,ct,rfl,_⟩:=J6 a5;rw[if_pos (by rfl)];refine U6 (Φ:=O9 8) fun i e=> ?_;go_simp;exact e (.slice (some ⟨g.heap.size,0,none⟩) 2 2) _ (L7 _ _) (yih (heap_alloc_new g _) (IsV.stb.next b3.out (L7 _ _)) (IsV.stb.next b4.out (L7 _ _)))
  |9,d=>obtain rfl:=b d;obtain rfl:t29= .bool true:=f 2 _ 29 (of_decide_eq_true kr) rfl rfl;rw[if_pos (by rfl)];refine U6 (Φ:=O9 9) fun i e=> ?_;go_simp;exact e (.slice (some ⟨g.heap.size,0,none⟩) 2 2) _ (L7 _ _) ⟨_,rfl,heap_alloc_new _ _⟩
  |10,d=>obtain rfl:=b d;obtain rfl:t29= .bool true:=f 2 _ 29 (of_decide_eq_true kr) rfl rfl;obtain⟨ej,rfl,dU⟩:∃l,t36= .slice (some ⟨l,0,none⟩) 2 2/\Row g l 3 [.int .i64 (-3),.int .i64 (-2)]:=f 9 _ 36 (of_decide_eq_true kr) rfl rfl;rw[if_pos (by rfl)];refine U6 (Φ:=O9 10) fun i e=> ?_;go_simp;refine(zpl (l:=[-3,-2]) dU (by decide) (by decide)).mono ?_;rintro j w' ⟨⟨m,rfl,hv⟩,k⟩;exact e m w' k (IsV.stb.old hv)
  |11,d=>obtain rfl:=b d;obtain rfl:t29= .bool true:=f 2 _ 29 (of_decide_eq_true kr) rfl rfl;rw[if_pos (by rfl)];refine U6 (Φ:=O9 11) fun i e=> ?_;go_simp;exact e (.slice (some ⟨g.heap.size,0,none⟩) 2 2) _ (L7 _ _) ⟨_,rfl,heap_alloc_new _ _⟩
  |12,d=>obtain rfl:=b d;obtain rfl:t29= .bool true:=f 2 _ 29 (of_decide_eq_true kr) rfl rfl;obtain⟨ek,rfl,dV⟩:∃l,t38= .slice (some ⟨l,0,none⟩) 2 2/\Row g l 3 [.int .i64 (-4),.int .i64 (-6)]:=f 11 _ 38 (of_decide_eq_true kr) rfl rfl;rw[if_pos (by rfl)];refine U6 (Φ:=O9 12) fun i e=> ?_;go_simp;refine(zpl (l:=[-4,-6]) dV (by decide) (by decide)).mono ?_;rintro j w' ⟨⟨m,rfl,hv⟩,k⟩;exact e m w' k (IsV.stb.old hv)
  |13,d=>obtain rfl:=b d;obtain rfl:t29= .bool true:=f 2 _ 29 (of_decide_eq_true kr) rfl rfl;have a6:IsM g (C5 g) t35 (I0 [J7 [-1,-1],J7 [-1,-3]]):=f 8 _ 35 (of_decide_eq_true kr) rfl rfl;have a7:IsV g (C5 g) t37 (C4 (J7 [-3,-2])):=f 10 _ 37 (of_decide_eq_true kr) rfl rfl;have a8:IsV g (C5 g) t39 (C4 (J7 [-4,-6])):=f 12 _ 39 (of_decide_eq_true kr) rfl rfl;obtain⟨b5,b7,b8⟩:=F0 a6 a7 a8;obtain⟨bn,cs,rfl,_⟩:=zpw a6;obtain⟨bp,ct,rfl,_⟩:=J6 a7;obtain⟨ec,eg,rfl,_⟩:=J6 a8;rw[if_pos (by rfl)];refine U6 (Φ:=O9 13) fun i e=> ?_;go_simp;exact e _ _ (c _ _) (by show IsP g (C5 g) _ (I8 (N6 exQ));rw[ysu];exact zwi (p:=I8 ⟨[J7 [-1,-1],J7 [-1,-3]],J7 [-3,-2],J7 [-4,-6]⟩) b5.out b7.out b8.out)
  |14,d=>obtain rfl:=b d;obtain rfl:t29= .bool true:=f 2 _ 29 (of_decide_eq_true kr) rfl rfl;have dN:IsP g (C5 g) t30 (I8 (N6 exQ)):=f 3 _ 30 (of_decide_eq_true kr) rfl rfl;have dO:IsP g (C5 g) t40 (I8 (N6 exQ)):=f 13 _ 40 (of_decide_eq_true kr) rfl rfl;rw[if_pos (by rfl)];refine U6 (Φ:=O9 14) fun i e=> ?_;go_simp;refine(zz1393 dN dO).mono ?_;rw[decide_eq_true rfl];rintro j w' ⟨rfl,k⟩;exact e _ _ k rfl
  |15,d=>obtain rfl:=b d;obtain rfl:t29= .bool true:=f 2 _ 29 (of_decide_eq_true kr) rfl rfl;obtain rfl:t41= .bool true:=f 14 _ 41 (of_decide_eq_true kr) rfl rfl;rw[if_pos (by rfl)];refine U6 (Φ:=O9 15) fun i e=> ?_;go_simp;exact e (.bool true) _ (c _ _) rfl
  |16,d=>obtain rfl:=b d;obtain rfl:t42= .bool true:=f 15 _ 42 (of_decide_eq_true kr) rfl rfl;rw[if_pos (by rfl)];refine U6 (Φ:=O9 16) fun i e=> ?_;go_simp;exact e (.bool true) _ (c _ _) rfl
  |17,d=>obtain rfl:=b d;obtain rfl:bg= .int .i64 0:=b (o 4 kr);obtain rfl:t43= .bool true:=f 16 _ 43 (of_decide_eq_true kr) rfl rfl;rw[if_pos (by rfl)];refine U6 (Φ:=O9 17) fun i e=> ?_;go_simp;exact e (.int .i64 0) _ (c _ _) rfl
  |18,d=>obtain rfl:=b d;obtain rfl:t43= .bool true:=f 16 _ 43 (of_decide_eq_true kr) rfl rfl;obtain rfl:t44= .int .i64 0:=f 17 _ 44 (of_decide_eq_true kr) rfl rfl;rw[if_pos (by rfl)];refine U6 (Φ:=O9 18) fun i e=> ?_;go_simp;exact e (.bool true) _ (c _ _) rfl
  |19,d=>obtain rfl:=b d;obtain rfl:t43= .bool true:=f 16 _ 43 (of_decide_eq_true kr) rfl rfl;obtain rfl:t45= .bool true:=f 18 _ 45 (of_decide_eq_true kr) rfl rfl;rw[if_pos (by rfl)];refine U6 (Φ:=O9 19) fun i e=> ?_;go_simp;exact e (.bool true) _ (c _ _) rfl
  |20,d=>obtain rfl:=b d;obtain rfl:t46= .bool true:=f 19 _ 46 (of_decide_eq_true kr) rfl rfl;rw[if_pos (by rfl)];refine U6 (Φ:=O9 20) fun i e=> ?_;go_simp;exact e (.bool true) _ (c _ _) rfl
  |21,d=>obtain rfl:=b d;obtain rfl:bf= .pointer (some ⟨bm.heap.size,0,none⟩):=b (o 3 kr);obtain rfl:t47= .bool true:=f 20 _ 47 (of_decide_eq_true kr) rfl rfl;obtain⟨cu,cv,cw⟩:=C0 (cq.out.next r);rw[if_pos (by rfl)];refine U6 (Φ:=O9 21) fun i e=> ?_;go_simp;exact e _ _ (c _ _) (IsR.stb.next bU.out r)
  |22,d=>obtain rfl:=b d;obtain rfl:t47= .bool true:=f 20 _ 47 (of_decide_eq_true kr) rfl rfl;rw[if_pos (by rfl)];refine U6 (Φ:=O9 22) fun i e=> ?_;go_simp;refine(zws (a:=1) (b:=1) og og og).mono ?_;rintro j w' ⟨⟨m,rfl,hv⟩,k⟩;exact e m w' k (IsQ.stb.old hv)
  |23,d=>obtain rfl:=b d;obtain rfl:t47= .bool true:=f 20 _ 47 (of_decide_eq_true kr) rfl rfl;have dP:IsR g (C5 g) t48 (E0 (W9 1 1)):=f 21 _ 48 (of_decide_eq_true kr) rfl rfl;have dQ:IsQ g (C5 g) t49 (W9 1 1):=f 22 _ 49 (of_decide_eq_true kr) rfl rfl;rw[if_pos (by rfl)];refine U6 (Φ:=O9 23) fun i e=> ?_;go_simp;refine(ydv dP dQ).mono ?_;rw[decide_eq_true rfl];rintro j w' ⟨rfl,k⟩;exact e _ _ k rfl
  |24,d=>obtain rfl:=b d;obtain rfl:t47= .bool true:=f 20 _ 47 (of_decide_eq_true kr) rfl rfl;obtain rfl:t50= .bool true:=f 23 _ 50 (of_decide_eq_true kr) rfl rfl;rw[if_pos (by rfl)];refine U6 (Φ:=O9 24) fun i e=> ?_;go_simp;exact e (.bool true) _ (c _ _) rfl
  |25,d=>obtain rfl:=b d;obtain rfl:t51= .bool true:=f 24 _ 51 (of_decide_eq_true kr) rfl rfl;rw[if_pos (by rfl)];refine U6 (Φ:=O9 25) fun i e=> ?_;go_simp;exact e (.bool true) _ (c _ _) rfl
  |26,d=>obtain rfl:=b d;obtain rfl:bh= .bool true:=b (o 5 kr);obtain rfl:t52= .bool true:=f 25 _ 52 (of_decide_eq_true kr) rfl rfl;rw[if_pos (by rfl)];refine U6 (Φ:=O9 26) fun i e=> ?_;go_simp;exact e (.bool true) _ (c _ _) rfl
  |27,d=>obtain rfl:=b d;obtain rfl:t52= .bool true:=f 25 _ 52 (of_decide_eq_true kr) rfl rfl;obtain rfl:t53= .bool true:=f 26 _ 53 (of_decide_eq_true kr) rfl rfl;rw[if_pos (by rfl)];refine U6 (Φ:=O9 27) fun i e=> ?_;go_simp;exact e (.bool true) _ (c _ _) rfl
  |28,d=>obtain rfl:=b d;obtain rfl:t54= .bool true:=f 27 _ 54 (of_decide_eq_true kr) rfl rfl;rw[if_pos (by rfl)];refine U6 (Φ:=O9 28) fun i e=> ?_;go_simp;exact e (.bool true) _ (c _ _) rfl
  |29,d=>obtain rfl:=b d;obtain rfl:bi= .int .i64 0:=b (o 6 kr);obtain rfl:t55= .bool true:=f 28 _ 55 (of_decide_eq_true kr) rfl rfl;rw[if_pos (by rfl)];refine U6 (Φ:=O9 29) fun i e=> ?_;go_simp;exact e (.int .i64 0) _ (c _ _) rfl
  |30,d=>obtain rfl:=b d;obtain rfl:t55= .bool true:=f 28 _ 55 (of_decide_eq_true kr) rfl rfl;obtain rfl:t56= .int .i64 0:=f 29 _ 56 (of_decide_eq_true kr) rfl rfl;rw[if_pos (by rfl)];refine U6 (Φ:=O9 30) fun i e=> ?_;go_simp;exact e (.bool true) _ (c _ _) rfl
  |31,d=>obtain rfl:=b d;obtain rfl:t55= .bool true:=f 28 _ 55 (of_decide_eq_true kr) rfl rfl;obtain rfl:t57= .bool true:=f 30 _ 57 (of_decide_eq_true kr) rfl rfl;rw[if_pos (by rfl)];refine U6 (Φ:=O9 31) fun i e=> ?_;go_simp;exact e (.bool true) _ (c _ _) rfl
  |32,d=>obtain rfl:=b d;obtain rfl:t58= .bool true:=f 31 _ 58 (of_decide_eq_true kr) rfl rfl;rw[if_pos (by rfl)];refine U6 (Φ:=O9 32) fun i e=> ?_;go_simp;exact e (.bool true) _ (c _ _) rfl
  |_+33,d=>cases d
theorem N5:ownKnob Tryz.prog.godebug=none:=by kernel_rfl
theorem yve:laidOutB Tryz.prog=true:=by kernel_rfl
section
variable {H : Type} {enc : TypeId × Value → H} {P : Program}
theorem yzs {c:Func} {s:ChangeSpec} {apart fresh handsOn again:Bool} {d e:World} {args:Array Value} {k:Value} {g h:List (DataW H)} {before pa pv:List MemPlace}
 (j:DataW.Whole enc P c.params.toList s.vars apart d args.toList g h before)
 (q:∀(f:Nat) (sp:Nat->Bool) (hd:Bool),DataW.TrodAll enc P e f sp hd c.resultTypes.toList (k.resultList c.resultTypes.size) (s.fn H (g++h)).results [])
 (l:∀sp:Nat->Bool,(∀a∈before,sp a.block=true)->DataW.TrodAll enc P e 0 sp true c.params.toList args.toList (s.fn H (g++h)).args pa)
 (r:∀sp:Nat->Bool,(∀a∈before,sp a.block=true)->DataW.TrodVars enc P e sp s.vars (s.fn H (g++h)).vars pv)
 (i:before=pa++pv) (m:Below d.heap.size d e)
 (x:∀(t:Nat) (v:TypeId) (u:Value),c.resultTypes[t]? =some v->(k.resultList c.resultTypes.size)[t]? =some u->Value.okWide P e .any 0 v u):
 s.post enc P c apart fresh handsOn again d args k e:=by
 have o:∀a∈before,a.block<d.heap.size:=fun a b=>j.lt a b;have p:∀a∈before,(fun f=>decide (f<d.heap.size)) a.block=true:=fun a b=>(by simpa using o a b);refine⟨g,h,before,[],pa,pv,j,q _ _ _,l _ p,r _ p,World.keptBut_mono (fun a b=>⟨b,?_⟩) (m.frame (·∈before)),fun _=> ?_⟩
 ·rw[i,List.mem_append] at b;exact Or.inr b
 ·obtain⟨_,_,_,_,_,y,w⟩:=j;refine⟨x,_,_,([]++pa)++pv,⟨[]++pa,pv,trodAll_append (l _ (fun _ _=>rfl)) (q _ _ _),r _ (fun _ _=>rfl),rfl,?_,?_⟩,?_⟩
  ·intro f off b;have n:MemPlace.cell f off∈before:=(by rw[i];simpa using b);rw[m.frozen (o _ n)];exact y f off n
  ·intro ha;have:=w ha;rw[i] at this;simpa using this
  ·intro a b _;rw[i];simpa using b
end
section
variable {H : Type} {enc : TypeId × Value → H} {w : World} {base : Nat} {sp : Nat → Bool} {held : Bool}
end
section
variable {H : Type} {enc : TypeId × Value → H} {w : World} {base a : Nat} {sp : Nat → Bool} {held : Bool}
end
end Go.Proofs.YtlhhbccgfkhflaaGreatDoor
