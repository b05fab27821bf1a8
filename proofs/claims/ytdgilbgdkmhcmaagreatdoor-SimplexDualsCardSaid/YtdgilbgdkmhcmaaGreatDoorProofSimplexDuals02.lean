/-
 Contracts of package long's functions on whole numbers:Whole,c,d,a,b.
-/
import Derived.Test.YtdgilbgdkmhcmaaGreatDoorProofSimplexDuals01
namespace Go.Proofs.YtdgilbgdkmhcmaaGreatDoor
open Go.RowKit
set_option linter.unusedVariables false
set_option maxRecDepth 100000
set_option maxHeartbeats 8000000
open _root_.Go.Lib renaming hid → a
open _root_.Nat renaming le_refl → z, le_trans → g, lt_or_ge → G
open _root_.List renaming getD_eq_getElem?_getD → A, mem_of_getElem? → H, getElem?_map → F
open _root_.Go.World renaming cell?_setCell_other → B, cell?_of_block → y
open _root_.Go renaming World → p, Value → u
variable {M : List (List Rat)} {S T : Nat → Prop} {b base c i j k m n o : Nat} {f : Nat → Int} {l r : List Rat} {e : Nat → Nat} {t : TypeId} {v x D E : u}
theorem zxu (z:Int):E7 (z:Rat)=⟨decide (z<0),A9 z.natAbs,A9 1⟩:=by unfold E7;rw[Rat.num_intCast,Rat.den_intCast]
theorem yxj (n:Nat):E7 (((n:Nat):Int):Rat)=⟨false,A9 n,A9 1⟩:=by rw[zxu,Int.natAbs_natCast];have:¬((n:Int)<0):=og;simp[this]
theorem zrr {w:p} (h:IsN w 0 w.heap.size v n):∃A c,v= .slice A (A9 n).length c/\(A9 n).length<=9223372036854775807:=by have a:=h.length_le;obtain⟨A,c,rfl,_⟩:=h;exact⟨A,c,rfl,by unfold maxLen at a;omega⟩
theorem ydf (w:p) (b c d i j:Array u) (f g h k l:TypeId):∃a,((((w.alloc (.cells b f)).alloc (.cells c g)).alloc (.cells d h)).alloc (.cells i k)).alloc (.cells j l)=a/\Below w.heap.size w a/\Row a w.heap.size f b.toList/\Row a (w.heap.size+1) g c.toList/\
 Row a (w.heap.size+2) h d.toList/\Row a (w.heap.size+3) k i.toList/\Row a (w.heap.size+4) l j.toList/\Hid (a.heap.size=w.heap.size+5):=by obtain⟨x,rfl,q,r,s,t,v⟩:=zvz w b c d f g h;obtain⟨y,rfl,e,m,n,o⟩:=zko ((((w.alloc (.cells b f)).alloc (.cells c g)).alloc (.cells d h))) i j k l;rw[v.out] at m n o;exact⟨_,rfl,C9 q e,r.next e,s.next e,t.next e,m,n,o⟩
theorem ycm {w:p} (h:IsN w 0 w.heap.size v n) (i:(A9 n).length<=4294967296):Calls Tryz.prog 132 #[.bool false,v] w (Y0 w (((n:Nat):Int):Rat)):=by have o:=a h;obtain⟨A,c,rfl,W⟩:=zrr h;have q:=a i;clear h i;obtain⟨B,z,g,l,r⟩:=K7 w #[.bool false,.slice none 0 0,.slice none 0 0] 37;obtain⟨b,f⟩:=C4 (l) (g);have m:Hid (w.heap.size+1<=B.heap.size):=a (Nat.le_of_eq r.out.symm);clear l g;obtain⟨E,H,K⟩:=C5 b.out;obtain⟨N,Q,T⟩:=H5 b.out;have s:=a (IsN.next o.out f.out);go_in;go_wp2_with fail;clear z;refine(zph s.out q.out).mono ?_;rintro x e ⟨⟨Z,rfl,j⟩,y⟩;have t:=a (X7 j m.out);obtain⟨C,X,rfl,_,_,_⟩:=id j;obtain⟨F,I,L⟩:=C5 (uR e b);obtain⟨O,R,U⟩:=H5 (uR e b);go_wp2_with fail;refine(zmh _).mono ?_;rintro x d ⟨⟨aa,rfl,k⟩,y⟩;have u:=a (X7 k (uS e m));obtain⟨D,Y,rfl,_,_,_⟩:=id k;obtain⟨G,J,M⟩:=C5 (uR d b);obtain⟨P,S,V⟩:=H5 (uR d b);go_wp2_with fail;refine Y6 Tryz.results132 rfl rfl (Row.put3 (uR d b) _ _ _) (zmw (yxj n) (uB d f) og (uF d t) u.out og og)
theorem yxh {q:Rat} (h:0<n/q.den):E7 ((q.num*((n/q.den:Nat):Int):Int):Rat)=⟨decide (q.num<0),A9 (q.num.natAbs*(n/q.den)),A9 1⟩:=by
 rw[zxu,Int.natAbs_mul,Int.natAbs_natCast];congr 1;rw[decide_eq_decide];have b:(0:Int)<((n/q.den:Nat):Int):=og;constructor
 ·intro c;rcases Int.lt_or_le q.num 0 with a|a
  ·exact a
  ·have:=Int.mul_nonneg a (Int.le_of_lt b);omega
 ·exact fun c=>Int.mul_neg_of_neg_of_pos c b
theorem yaq {w:p} {q:Rat} (h:IsQ w (C2 w) x q) (j:IsN w 0 w.heap.size E n) (J:Sz q 100000) (I:(A9 n).length<=1000000) (G:0<n/q.den):Calls Tryz.prog 175 #[x,E] w (Y0 w ((q.num*((n/q.den:Nat):Int):Int):Rat)):=by
 have R:=a h;obtain⟨k,m,v,o,y,rfl,T,al,ak⟩:=K6 h;have Q:=a j;obtain⟨C,aI,rfl,aV⟩:=zrr j;obtain⟨s,r⟩:=C4 J I;have U:Hid (E7 ((q.num*((n/q.den:Nat):Int):Int):Rat)=⟨k,A9 (q.num.natAbs*(n/q.den)),A9 1⟩):=(by rw[Hid,T.out];exact yxh G);have S:Hid (0<q.den):=q.den_pos;clear h j J I G;obtain⟨l,aj,i,ra,N,V⟩:=zko w #[.bool k,.slice m (A9 q.num.natAbs).length v,.slice o (A9 q.den).length y] #[.bool false,.slice none 0 0,.slice none 0 0] 37 37;have t:=nQ R i;obtain⟨f,b,u⟩:=G6 (ra) (N) (i);have O:Hid (w.heap.size+2<=l.heap.size):=a (Nat.le_of_eq V.out.symm);clear ra N i;obtain⟨Z,ad,ag⟩:=C5 f.out;obtain⟨ar,az,aD⟩:=C5 b.out;obtain⟨aJ,aN,aR⟩:=H5 b.out;have W:=a (IsN.next Q.out u.out);go_in;go_wp2_with fail;clear aj
 go_region_held3 (fun w'=>w'.cell? ⟨w.heap.size,0,none⟩=some (.bool k)/\w'.cell? ⟨w.heap.size,1,none⟩=some (.slice m (A9 q.num.natAbs).length v)/\w'.cell? ⟨w.heap.size,2,none⟩=some (.slice o (A9 q.den).length y))
  (first
    |exact⟨Z,ad,ag⟩
    |exact⟨aa,ae,ah⟩
    |exact⟨ac,af,ai⟩
    |exact⟨A,B,D⟩
    |exact⟨zne A og,zne B og,zne D og⟩)
  (first
    |(go_at_call 177;have hc:=ztg (znc (uN l.drew W)) (I7 (zuo (uQ l.drew t))) (g r.out og) (g s.out.2 og) S.out;(with_reducible refine hc.mono ?_);clear hc;rintro F d ⟨⟨aZ,rfl,K⟩,H⟩;have P:=a (K);obtain⟨an,aW,rfl,_,_,_⟩:=id K;obtain⟨aa,ae,ah⟩:=C5 (uR d f);obtain⟨au,aA,aE⟩:=C5 (uR d b);obtain⟨aK,aO,aS⟩:=H5 (uR d b))
    |(go_at_call 168;have hc:=zqm (I7 (znd (uQ d t))) (I7 P.out) (z _) (z _) (g s.out.1 og) (g (zrl r.out) og);(with_reducible refine hc.mono ?_);clear hc;rintro F e ⟨⟨a0,rfl,L⟩,H⟩;have X:=a (X7 L (uS d O));obtain⟨ao,aX,rfl,_,_,_⟩:=id L;obtain⟨ac,af,ai⟩:=C5 (uR e f);obtain⟨av,aB,aG⟩:=C5 (uR e b);obtain⟨aL,aP,aT⟩:=H5 (uR e b))
    |(go_at_call 136;have hc:=zmh e;(with_reducible refine hc.mono ?_);clear hc;rintro F c ⟨⟨a1,rfl,M⟩,H⟩;have Y:=a (X7 M (uS e O));obtain⟨aq,aY,rfl,_,_,_⟩:=id M;obtain⟨A,B,D⟩:=C5 (uR c f);obtain⟨ay,aC,aH⟩:=C5 (uR c b);obtain⟨aM,aQ,aU⟩:=H5 (uR c b)))
 go_wp2_with fail;refine Y6 Tryz.results175 rfl rfl (Row.put3 (uR c b) _ _ _) (zmw U.out (uB c u) og (uF c X) Y.out og og)
theorem yis {w:p} {d:Nat} {q:Rat} (s:Bool) (aA:IsN w 0 w.heap.size E n) (hd:IsN w 0 w.heap.size D d) (aH:Bru w) (aK:(A9 n).length<=1000000) (aJ:(A9 d).length<=1000000) (aI:d≠0) (aL:q=mkRat (sg s n) d):Calls Tryz.prog 178 #[.bool s,E,D] w (Y0 w q):=by
 obtain⟨Z,X,W,I,t,T⟩:=hd6 aA hd aH aK aJ aL;obtain⟨A,bG,rfl,bI⟩:=zrr aA;obtain⟨C,bH,rfl,bJ⟩:=zrr hd;clear aA hd aH aK aJ aL;by_cases J:n=0
 ·have a6:(((A9 n).length:Int)==0)=true:=ygx J;have aM:Hid (q=0):=(by rw[Hid,T.out,J,zya];simp);clear J;obtain⟨B,z,j,k,x⟩:=K7 w #[.bool false,.slice none 0 0,.slice none 0 0] 37;obtain⟨b,e⟩:=C4 (k) (j);have l:Hid (w.heap.size+1<=B.heap.size):=a (Nat.le_of_eq x.out.symm);clear k j;obtain⟨ah,aj,al⟩:=C5 b.out;obtain⟨ao,ar,av⟩:=H5 b.out;go_in;go_wp2_with fail;clear z;refine(zvp _).mono ?_;rintro f c ⟨⟨aC,rfl,hv⟩,i⟩;have ag:=a (IsQ.stb.le hv l.out);obtain⟨bA,ad,aB,aN,bx,rfl,_,_,_⟩:=K6 hv;obtain⟨ai,ak,an⟩:=C5 (uR c b);obtain⟨aq,au,ay⟩:=H5 (uR c b);go_wp2_with fail;rw[aM.out];refine Y6 Tryz.results178 rfl rfl (Row.put3 (uR c b) _ _ _) (zvd ag.out (uB c e) og og)
 have a6:(((A9 n).length:Int)==0)=false:=ygw J;obtain⟨aa,v⟩:=C4 J aI;clear J aI;by_cases az:(A9 n).length<=2/\(A9 d).length<=2
 ·obtain⟨aE,aG⟩:=az;have aD:decide (((A9 n).length:Int)<=2)=true:=(by simp;omega);have a7:decide (((A9 d).length:Int)<=2)=true:=(by simp;omega);have bF:n<1000000000000000000:=zut aE;have b2:d<1000000000000000000:=zut aG;obtain⟨aS,aT⟩:=C4 aE aG;obtain⟨B,z,j,k,x⟩:=K7 w #[.bool false,.slice none 0 0,.slice none 0 0] 37;obtain⟨b,e⟩:=C4 (k) (j);have l:Hid (w.heap.size+1<=B.heap.size):=a (Nat.le_of_eq x.out.symm);clear k j;obtain⟨ah,aj,al⟩:=C5 b.out;obtain⟨ao,ar,av⟩:=H5 b.out;obtain⟨y,u,K⟩:=G6 (IsN.next Z.out e.out) (IsN.next X.out e.out) (Bru.next W.out e.out);go_in;go_wp2_with fail;clear z;refine(zqz y.out aS.out).mono ?_;rintro f c ⟨rfl,rfl⟩;go_wp2_with fail;refine(zqz u.out aT.out).mono ?_;rintro f c ⟨rfl,rfl⟩;go_wp2_with fail;refine(zz1382 _ s n d K.out aa.out v.out og og).mono ?_;rintro f c ⟨⟨aC,rfl,hv⟩,i⟩;have ag:=a (IsQ.stb.le hv l.out);obtain⟨bA,ad,aB,aN,bx,rfl,_,_,_⟩:=K6 hv;obtain⟨ai,ak,an⟩:=C5 (uR c b);obtain⟨aq,au,ay⟩:=H5 (uR c b);go_wp2_with fail;rw[T.out];refine Y6 Tryz.results178 rfl rfl (Row.put3 (uR c b) _ _ _) (zvd ag.out (uB c e) og og)
 rcases G 2 (A9 n).length with br|br
 ·have aD:decide (((A9 n).length:Int)<=2)=false:=(by simp;omega);clear az;obtain⟨o,h⟩:=nm (Nat.gcd n d);have ac:Hid (E7 q=⟨s,A9 (n/o),A9 (d/o)⟩):=(by rw[Hid,T.out,h];exact zva aa.out v.out);have Y:=a h;have N:Hid (0<o):=(by rw[Hid,h];exact zzs _ v.out);have M:Hid ((A9 o).length<=1000000):=(by rw[Hid,h];exact zzq _ v.out t.out);clear h;obtain⟨B,z,j,k,x⟩:=K7 w #[.bool false,.slice none 0 0,.slice none 0 0] 37;obtain⟨b,e⟩:=C4 (k) (j);have l:Hid (w.heap.size+1<=B.heap.size):=a (Nat.le_of_eq x.out.symm);clear k j;obtain⟨ah,aj,al⟩:=C5 b.out;obtain⟨ao,ar,av⟩:=H5 b.out;obtain⟨y,u,K⟩:=G6 (IsN.next Z.out e.out) (IsN.next X.out e.out) (Bru.next W.out e.out);go_in;go_wp2_with fail;clear z;refine(zul y.out u.out K.out (g I.out og) (g t.out og)).mono ?_;rw[<-Y.out];rintro f c ⟨⟨aC,rfl,O⟩,i⟩;have L:=a (X7 O l.out);obtain⟨ad,aB,rfl,_,_,_⟩:=id O;obtain⟨ai,ak,an⟩:=C5 (uR c b);obtain⟨aq,au,ay⟩:=H5 (uR c b);go_wp2_with fail;refine(ztg (znc (uN c y)) (I7 (IsK.stb.old L.out)) (g I.out og) (g M.out og) N.out).mono ?_;rintro f F ⟨⟨bB,rfl,P⟩,i⟩;have U:=a (P);obtain⟨aO,bt,rfl,_,_,_⟩:=id P;obtain⟨aU,aY,a2⟩:=C5 (uR F b);obtain⟨a8,bf,bj⟩:=H5 (uR F b);go_wp2_with fail;refine(zph (I7 U.out) (g (zrl I.out) og)).mono ?_;rintro f r ⟨⟨bC,rfl,Q⟩,i⟩;have ae:=a (X7 Q (uS F l));obtain⟨aP,bu,rfl,_,_,_⟩:=id Q;obtain⟨aV,aZ,a3⟩:=C5 (uR r b);obtain⟨a9,bg,bm⟩:=H5 (uR r b);go_wp2_with fail;refine(ztg (znc (uN r u)) (I7 (IsK.stb.old (uF r L))) (g t.out og) (g M.out og) N.out).mono ?_;rintro f H ⟨⟨bD,rfl,R⟩,i⟩;have V:=a (R);obtain⟨aQ,bv,rfl,_,_,_⟩:=id R;obtain⟨aW,a0,a4⟩:=C5 (uR H b);obtain⟨bd,bh,bp⟩:=H5 (uR H b);go_wp2_with fail;refine(zph (I7 V.out) (g (zrl t.out) og)).mono ?_;rintro f m ⟨⟨bE,rfl,S⟩,i⟩;have af:=a (X7 S (uS H l));obtain⟨aR,bw,rfl,_,_,_⟩:=id S;obtain⟨aX,a1,a5⟩:=C5 (uR m b);obtain⟨be,bi,bq⟩:=H5 (uR m b);go_wp2_with fail;refine Y6 Tryz.results178 rfl rfl (Row.put3 (uR m b) _ _ _) (zmw ac.out (uB m e) og (uF m ae) af.out og og)
 ·have aD:decide (((A9 n).length:Int)<=2)=true:=(by simp;omega);have a7:decide (((A9 d).length:Int)<=2)=false:=(by simp;omega);clear az;obtain⟨o,h⟩:=nm (Nat.gcd n d);have ac:Hid (E7 q=⟨s,A9 (n/o),A9 (d/o)⟩):=(by rw[Hid,T.out,h];exact zva aa.out v.out);have Y:=a h;have N:Hid (0<o):=(by rw[Hid,h];exact zzs _ v.out);have M:Hid ((A9 o).length<=1000000):=(by rw[Hid,h];exact zzq _ v.out t.out);clear h;obtain⟨B,z,j,k,x⟩:=K7 w #[.bool false,.slice none 0 0,.slice none 0 0] 37;obtain⟨b,e⟩:=C4 (k) (j);have l:Hid (w.heap.size+1<=B.heap.size):=a (Nat.le_of_eq x.out.symm);clear k j;obtain⟨ah,aj,al⟩:=C5 b.out;obtain⟨ao,ar,av⟩:=H5 b.out;obtain⟨y,u,K⟩:=G6 (IsN.next Z.out e.out) (IsN.next X.out e.out) (Bru.next W.out e.out);go_in;go_wp2_with fail;clear z;refine(zul y.out u.out K.out (g I.out og) (g t.out og)).mono ?_;rw[<-Y.out];rintro f c ⟨⟨aC,rfl,O⟩,i⟩;have L:=a (X7 O l.out);obtain⟨ad,aB,rfl,_,_,_⟩:=id O;obtain⟨ai,ak,an⟩:=C5 (uR c b);obtain⟨aq,au,ay⟩:=H5 (uR c b);go_wp2_with fail;refine(ztg (znc (uN c y)) (I7 (IsK.stb.old L.out)) (g I.out og) (g M.out og) N.out).mono ?_;rintro f F ⟨⟨bB,rfl,P⟩,i⟩;have U:=a (P);obtain⟨aO,bt,rfl,_,_,_⟩:=id P;obtain⟨aU,aY,a2⟩:=C5 (uR F b);obtain⟨a8,bf,bj⟩:=H5 (uR F b);go_wp2_with fail;refine(zph (I7 U.out) (g (zrl I.out) og)).mono ?_;rintro f r ⟨⟨bC,rfl,Q⟩,i⟩;have ae:=a (X7 Q (uS F l));obtain⟨aP,bu,rfl,_,_,_⟩:=id Q;obtain⟨aV,aZ,a3⟩:=C5 (uR r b);obtain⟨a9,bg,bm⟩:=H5 (uR r b);go_wp2_with fail;refine(ztg (znc (uN r u)) (I7 (IsK.stb.old (uF r L))) (g t.out og) (g M.out og) N.out).mono ?_;rintro f H ⟨⟨bD,rfl,R⟩,i⟩;have V:=a (R);obtain⟨aQ,bv,rfl,_,_,_⟩:=id R;obtain⟨aW,a0,a4⟩:=C5 (uR H b);obtain⟨bd,bh,bp⟩:=H5 (uR H b);go_wp2_with fail;refine(zph (I7 V.out) (g (zrl t.out) og)).mono ?_;rintro f m ⟨⟨bE,rfl,S⟩,i⟩;have af:=a (X7 S (uS H l));obtain⟨aR,bw,rfl,_,_,_⟩:=id S;obtain⟨aX,a1,a5⟩:=C5 (uR m b);obtain⟨be,bi,bq⟩:=H5 (uR m b);go_wp2_with fail;refine Y6 Tryz.results178 rfl rfl (Row.put3 (uR m b) _ _ _) (zmw ac.out (uB m e) og (uF m ae) af.out og og)
def zkg (a e b c:Int) (d:Nat):Int:=(a*e-b*c).tdiv (d:Int)
theorem yzh (s:Bool) (n d:Nat):(sg s n).tdiv (d:Int)=sg s (n/d):=by
 cases s
 ·rw[yjs,yjs,Int.ofNat_tdiv]
 ·rw[yjv,yjv,Int.neg_tdiv,Int.ofNat_tdiv]
theorem yos {a e b c:Int} {f j g i:Bool} (ha:f=decide (a<0)) (o:j=decide (e<0)) (m:g=decide (b<0)) (hc:i=decide (c<0)) {s:Bool}
 (h:sg s n=sg (!(f==j)) (a.natAbs*e.natAbs)+sg (g==i) (b.natAbs*c.natAbs)) (d:Nat):zkg a e b c d=sg s (n/d):=by have k:sg (!(f==j)) (a.natAbs*e.natAbs)=a*e:=(by rw[show(!(f==j))=(f !=j) from rfl,ybv,ha,o,zvj,zvj]);have l:sg (g==i) (b.natAbs*c.natAbs)= -(b*c):=(by rw[show(g==i)= !(g !=i) by simp[bne],yzf,ybv,m,hc,zvj,zvj]);unfold zkg;rw[show a*e-b*c=sg s n by rw[h,k,l];omega,yzh]
theorem ybq (s:Bool) (n:Nat):E7 ((sg s n:Int):Rat)=⟨s&&decide (0<n),A9 n,A9 1⟩:=by
 rw[zxu,ybw];congr 1;rcases Nat.eq_zero_or_pos n with h|h
 ·subst h;simp[zya]
 ·rw[yjt og];simp[h]
theorem zuh {w:p} {vp a0 a1:u} {r E t v:Rat} {d:Nat} (ha:IsQ w (C2 w) x r) (W:IsQ w (C2 w) vp E) (f:IsQ w (C2 w) a0 t) (hc:IsQ w (C2 w) a1 v) (hd:IsN w 0 w.heap.size D d)
 (sa:Sz r 500000) (sp:Sz E 500000) (sb:Sz t 500000) (aY:Sz v 500000) (aP:(A9 d).length<=1000000) (aO:0<d):Calls Tryz.prog 129 #[x,vp,a0,a1,D] w (Y0 w ((zkg r.num E.num t.num v.num d:Int):Rat)):=by
 have a9:=a ha;obtain⟨X,ac,al,a2,bB,rfl,bi,cn,cj⟩:=K6 ha;have bf:=a W;obtain⟨aa,af,aq,a5,bE,rfl,bp,cs,cm⟩:=K6 W;have bd:=a f;obtain⟨Y,ad,an,a3,bC,rfl,bj,cq,ck⟩:=K6 f;have be:=a hc;obtain⟨Z,ae,ao,a4,bD,rfl,bm,cr,cl⟩:=K6 hc;have a8:=a hd;obtain⟨C,de,rfl,dx⟩:=zrr hd;have ag:=a sa.1;have aj:=a sp.1;have ah:=a sb.1;have ai:=a aY.1;obtain⟨bh,bg⟩:=C4 aP aO;obtain⟨R,zka⟩:∃R:Bool,(!(X==aa))=R:=⟨_,rfl⟩;obtain⟨S,hs2⟩:∃S:Bool,(Y==Z)=S:=⟨_,rfl⟩;have a7:Hid (∀s n,sg s n=sg R (r.num.natAbs*E.num.natAbs)+sg S (t.num.natAbs*v.num.natAbs)->zkg r.num E.num t.num v.num d=sg s (n/d)):=(by intro s n h;rw[<-zka,<-hs2] at h;exact yos bi.out bp.out bj.out bm.out h d);clear ha W f hc hd sa sp sb aY aP aO;obtain⟨T,ch,M,ra,rp,e,rc,aX,O⟩:=ydf w #[.bool X,.slice ac (A9 r.num.natAbs).length al,.slice a2 (A9 r.den).length bB] #[.bool aa,.slice af (A9 E.num.natAbs).length aq,.slice a5 (A9 E.den).length bE] #[.bool Y,.slice ad (A9 t.num.natAbs).length an,.slice a3 (A9 t.den).length bC] #[.bool Z,.slice ae (A9 v.num.natAbs).length ao,.slice a4 (A9 v.den).length bD] #[.bool false,.slice none 0 0,.slice none 0 0] 37 37 37 37 37;have bv:=nQ a9 M;have k:=a (ra);have bA:=nQ bf M;have o:=a (rp);have bw:=nQ bd M;have l:=a (e);have bx:=nQ be M;obtain⟨m,c,Q⟩:=G6 (rc) (aX) (M);have K:Hid (w.heap.size+5<=T.heap.size):=a (Nat.le_of_eq O.out.symm);clear ra rp e rc aX M;obtain⟨bF,bJ,cz⟩:=C5 k.out;obtain⟨b9,cd,cW⟩:=C5 o.out;obtain⟨bP,bU,cJ⟩:=C5 l.out;obtain⟨bZ,b4,cQ⟩:=C5 m.out;obtain⟨c3,c8,dd⟩:=C5 c.out;obtain⟨dk,dr,dw⟩:=H5 c.out;have a6:=a (IsN.next a8.out Q.out);go_in;go_wp2_with fail;clear ch
 go_region_held3 (fun w'=>w'.cell? ⟨w.heap.size,0,none⟩=some (.bool X)/\w'.cell? ⟨w.heap.size,1,none⟩=some (.slice ac (A9 r.num.natAbs).length al)/\w'.cell? ⟨w.heap.size+1,0,none⟩=some (.bool aa)/\w'.cell? ⟨w.heap.size+1,1,none⟩=some (.slice af (A9 E.num.natAbs).length aq)/\w'.cell? ⟨w.heap.size+2,0,none⟩=some (.bool Y)/\w'.cell? ⟨w.heap.size+2,1,none⟩=some (.slice ad (A9 t.num.natAbs).length an)/\w'.cell? ⟨w.heap.size+3,0,none⟩=some (.bool Z)/\w'.cell? ⟨w.heap.size+3,1,none⟩=some (.slice ae (A9 v.num.natAbs).length ao))
  (first
    |exact⟨bF,bJ,b9,cd,bP,bU,bZ,b4⟩
    |exact⟨bI,bM,ca,cf,bQ,bV,b0,b5⟩
    |exact⟨bG,bK,b7,cb,bN,bR,bX,b1⟩
    |exact⟨bH,bL,b8,cc,bO,bT,bY,b3⟩)
  (first
    |(go_at_call 168;have hc:=zqm (I7 (znd (uQ T.drew bv))) (I7 (znd (uQ T.drew bA))) (z _) (z _) (g ag.out og) (g aj.out og);(with_reducible refine hc.mono ?_);clear hc;rintro L i ⟨⟨dC,rfl,aS⟩,f⟩;have bt:=a (X7 aS (uS T.drew K));obtain⟨ct,dy,rfl,_,_,_⟩:=id aS;obtain⟨bI,bM,cD⟩:=C5 (uR i k);obtain⟨ca,cf,cY⟩:=C5 (uR i o);obtain⟨bQ,bV,cK⟩:=C5 (uR i l);obtain⟨b0,b5,cR⟩:=C5 (uR i m);obtain⟨cZ,c4,c9⟩:=C5 (uR i c);obtain⟨df,dm,ds⟩:=H5 (uR i c))
    |(go_at_call 168;have hc:=zqm (I7 (znd (uQ i bw))) (I7 (znd (uQ i bx))) (z _) (z _) (g ah.out og) (g ai.out og);(with_reducible refine hc.mono ?_);clear hc;rintro L I ⟨⟨dD,rfl,aT⟩,f⟩;have bu:=a (X7 aT (uS i K));obtain⟨cu,dz,rfl,_,_,_⟩:=id aT;obtain⟨bG,bK,cA⟩:=C5 (uR I k);obtain⟨b7,cb,cU⟩:=C5 (uR I o);obtain⟨bN,bR,cG⟩:=C5 (uR I l);obtain⟨bX,b1,cN⟩:=C5 (uR I m);obtain⟨c0,c5,da⟩:=C5 (uR I c);obtain⟨dh,dn,dt⟩:=H5 (uR I c))
    |(go_at_call 176;have hc:=ysh R S (I7 (IsK.stb.old (uF I bt))) (I7 (IsK.stb.old bu.out)) (g (zqw ag.out aj.out) og) (g (zqw ah.out ai.out) og);(with_reducible refine hc.mono ?_);clear hc;rintro L J ⟨⟨s,dE,n,rfl,aR,aU,aQ⟩,f⟩;have br:=a (X7 aU (uS I K));obtain⟨cv,dA,rfl,_,_,_⟩:=id aU;have bq:=a aQ;have V:=a (a7.out s n aR.out);clear aR aQ;obtain⟨bH,bL,cB⟩:=C5 (uR J k);obtain⟨b8,cc,cV⟩:=C5 (uR J o);obtain⟨bO,bT,cH⟩:=C5 (uR J l);obtain⟨bY,b3,cO⟩:=C5 (uR J m);obtain⟨c1,c6,db⟩:=C5 (uR J c);obtain⟨di,dp,du⟩:=H5 (uR J c)))
 go_wp2_with fail;clear zka hs2;refine(yvs br.out (uS J K) (uN J a6) (g bq.out og) (g bh.out og) bg.out).mono ?_;rintro L j ⟨⟨dF,rfl,aV⟩,f⟩;have U:=a (aV);obtain⟨cw,dB,rfl,_,_,_⟩:=id aV;obtain⟨cx,cy,cC⟩:=C5 (uR j k);obtain⟨cS,cT,cX⟩:=C5 (uR j o);obtain⟨cE,cF,cI⟩:=C5 (uR j l);obtain⟨cL,cM,cP⟩:=C5 (uR j m);obtain⟨c2,c7,dc⟩:=C5 (uR j c);obtain⟨dj,dq,dv⟩:=H5 (uR j c);cases s with
 |false=>go_wp2_with fail;refine(zmh _).mono ?_;rintro L b ⟨⟨aZ,rfl,q⟩,f⟩;have P:=a (X7 q (uS j K));obtain⟨ak,aW,rfl,_,_,_⟩:=id q;obtain⟨ar,au,av⟩:=C5 (uR b k);obtain⟨aE,aG,aH⟩:=C5 (uR b o);obtain⟨ay,az,aA⟩:=C5 (uR b l);obtain⟨aB,aC,aD⟩:=C5 (uR b m);obtain⟨aI,aJ,aK⟩:=C5 (uR b c);obtain⟨aL,aM,aN⟩:=H5 (uR b c);go_wp2_with fail;refine Y6 Tryz.results129 rfl rfl (Row.put3 (uR b c) _ _ _) (zmw (by rw[V.out,ybq];rfl) (uB b Q) og (uF b U) P.out og og)
 |true=>
  rcases Nat.eq_zero_or_pos (n/d) with N|N
  ·have cg:decide (0<(A9 (n/d)).length)=false:=(by rw[N,N5];rfl);have O:=a N;clear N;go_wp2_with fail;refine(zmh _).mono ?_;rintro L b ⟨⟨aZ,rfl,q⟩,f⟩;have P:=a (X7 q (uS j K));obtain⟨ak,aW,rfl,_,_,_⟩:=id q;obtain⟨ar,au,av⟩:=C5 (uR b k);obtain⟨aE,aG,aH⟩:=C5 (uR b o);obtain⟨ay,az,aA⟩:=C5 (uR b l);obtain⟨aB,aC,aD⟩:=C5 (uR b m);obtain⟨aI,aJ,aK⟩:=C5 (uR b c);obtain⟨aL,aM,aN⟩:=H5 (uR b c);go_wp2_with fail;refine Y6 Tryz.results129 rfl rfl (Row.put3 (uR b c) _ _ _) (zmw (by rw[V.out,ybq];rw[O.out];rfl) (uB b Q) og (uF b U) P.out og og)
  ·have cg:decide (0<(A9 (n/d)).length)=true:=decide_eq_true (ytd og);have O:=a N;clear N;go_wp2_with fail;refine(zmh _).mono ?_;rintro L b ⟨⟨aZ,rfl,q⟩,f⟩;have P:=a (X7 q (uS j K));obtain⟨ak,aW,rfl,_,_,_⟩:=id q;obtain⟨ar,au,av⟩:=C5 (uR b k);obtain⟨aE,aG,aH⟩:=C5 (uR b o);obtain⟨ay,az,aA⟩:=C5 (uR b l);obtain⟨aB,aC,aD⟩:=C5 (uR b m);obtain⟨aI,aJ,aK⟩:=C5 (uR b c);obtain⟨aL,aM,aN⟩:=H5 (uR b c);go_wp2_with fail;refine Y6 Tryz.results129 rfl rfl (Row.put3 (uR b c) _ _ _) (zmw (by rw[V.out,ybq];rw[decide_eq_true O.out];rfl) (uB b Q) og (uF b U) P.out og og)
structure MatW (w:p) (S:Nat->Prop) (r0:Nat) (e cp:Nat->Nat) (n m:Nat) (A:Nat->Nat->Int):Prop where
 hd:∀i,i<n->w.cell? ⟨r0,i,none⟩=some (.slice (some ⟨e i,0,none⟩) m (cp i))
 hf:∀i,i<n->w.frozen? ⟨r0,i,none⟩=false
 cap:∀i,i<n->m<=cp i/\cp i<=maxLen
 el:∀i j,i<n->j<m->∃P k Q l,w.cell? ⟨e i,j*3,none⟩=some (.bool (decide (A i j<0)))/\w.cell? ⟨e i,j*3+1,none⟩=some (.slice P (A9 (A i j).natAbs).length k)/\w.cell? ⟨e i,j*3+2,none⟩=some (.slice Q (A9 1).length l)/\
  IsQ w S (.agg #[.bool (decide (A i j<0)),.slice P (A9 (A i j).natAbs).length k,.slice Q (A9 1).length l]) ((A i j:Int):Rat)
 ef:∀i o,i<n->o<m*3->w.frozen? ⟨e i,o,none⟩=false
 inj:∀i k,i<n->k<n->e i=e k->i=k
 sep:∀i,i<n->e i≠r0/\¬S (e i)/\e i<w.heap.size
 s0:¬S r0/\r0<w.heap.size
 sS:∀b,S b->b<w.heap.size
theorem MatW.keep {w w':p} {r0:Nat} {cp:Nat->Nat} {A:Nat->Nat->Int} (h:MatW w S r0 e cp n m A) (B:w.heap.size<=w'.heap.size)
 (q:w'.heap[r0]? =w.heap[r0]?) (hr:∀i,i<n->w'.heap[e i]? =w.heap[e i]?) (v:∀b,S b->w'.heap[b]? =w.heap[b]?)
 (x:∀b,S b->T b) (g:∀b,T b->S b\/(w.heap.size<=b/\b<w'.heap.size)):MatW w' T r0 e cp n m A where
 hd i hi:=(y q).trans (h.hd i hi)
 hf i hi:=(World.frozen?_of_block q).trans (h.hf i hi)
 cap:=h.cap
 el i j hi hj:=by
  obtain⟨s,k,t,l,d,f,r,u⟩:=h.el i j hi hj
  exact⟨s,k,t,l,(y (hr i hi)).trans d,(y (hr i hi)).trans f,(y (hr i hi)).trans r,IsQ.stb.to u fun b c=>⟨x b c,fun o=>y (v b c)⟩⟩
 ef i o hi z:=(World.frozen?_of_block (hr i hi)).trans (h.ef i o hi z);inj:=h.inj;sep i hi:=(by obtain⟨d,f,r⟩:=h.sep i hi;exact⟨d,fun h=>by rcases g _ h with h|h;exact f h;omega,by omega⟩);s0:=⟨fun a=>by rcases g _ a with a|a;exact h.s0.1 a;have:=h.s0.2;omega,by have:=h.s0.2;omega⟩
 sS b c:=by
  rcases g b c with a|a
  ·have:=h.sS b a;omega
  ·exact a.2
theorem MatW.next {w w':p} {r0:Nat} {cp:Nat->Nat} {A:Nat->Nat->Int} (h:MatW w S r0 e cp n m A) (a:Below w.heap.size w w')
 (c:∀b,S b->T b) (d:∀b,T b->S b\/(w.heap.size<=b/\b<w'.heap.size)):MatW w' T r0 e cp n m A:=
 h.keep a.size (a.block _ h.s0.2) (fun i g=>a.block _ (h.sep i g).2.2) (fun b f=>a.block _ (h.sS b f)) c d
theorem zpr (w:p) (a:Addr) (b:u):(w.setCell a b).heap.size=w.heap.size:=by simp[World.setCell]
abbrev M8 (w:p) (b j:Nat) (x y z:u):p:=((w.setCell ⟨b,j*3,none⟩ x).setCell ⟨b,j*3+1,none⟩ y).setCell ⟨b,j*3+2,none⟩ z
theorem zoh {w:p} {x y z:u} (h:c≠b\/o<j*3\/j*3+3<=o):(M8 w b j x y z).cell? ⟨c,o,none⟩=w.cell? ⟨c,o,none⟩:=by unfold M8;rw[B _ _ _ _ (fun a=>by injection a with d e;omega),B _ _ _ _ (fun a=>by injection a with d e;omega),B _ _ _ _ (fun a=>by injection a with d e;omega)]
theorem yin {w:p} {x y z h e f:u} (g:w.cell? ⟨b,j*3,none⟩=some h) (c:w.cell? ⟨b,j*3+1,none⟩=some e) (d:w.cell? ⟨b,j*3+2,none⟩=some f):
 (M8 w b j x y z).cell? ⟨b,j*3,none⟩=some x/\(M8 w b j x y z).cell? ⟨b,j*3+1,none⟩=some y/\(M8 w b j x y z).cell? ⟨b,j*3+2,none⟩=some z:=by
 unfold M8;refine⟨?_,?_,?_⟩
 ·rw[B _ _ _ _ (fun a=>by injection a with c d;omega),B _ _ _ _ (fun a=>by injection a with c d;omega)];exact World.cell?_setCell_same _ _ _ g
 ·rw[B _ _ _ _ (fun a=>by injection a with c d;omega)];refine World.cell?_setCell_same _ _ _ (u:=e) ?_;rw[B _ _ _ _ (fun a=>by injection a with c d;omega)];exact c
 ·refine World.cell?_setCell_same _ _ _ (u:=f) ?_;rw[B _ _ _ _ (fun a=>by injection a with c d;omega),B _ _ _ _ (fun a=>by injection a with c d;omega)];exact d
theorem yio {w:p} {x y z:u} (a:Addr):(M8 w b j x y z).frozen? a=w.frozen? a:=by unfold M8;simp
theorem zov {w:p} {x y z:u}:(M8 w b j x y z).heap.size=w.heap.size:=by unfold M8;rw[zpr,zpr,zpr]
def zvo (A:Nat->Nat->Int) (i j:Nat) (z:Int):Nat->Nat->Int:=fun a b=>if a=i/\b=j then z else A a b
theorem MatW.put {w:p} {r0:Nat} {cp:Nat->Nat} {A:Nat->Nat->Int} (h:MatW w S r0 e cp n m A) (x:i<n) (M:j<m) {z:Int} {d f:Option Addr} {l:Nat}
 (L:IsQ w S (.agg #[.bool (decide (z<0)),.slice d (A9 z.natAbs).length k,.slice f (A9 1).length l]) ((z:Int):Rat)):
 MatW (M8 w (e i) j (.bool (decide (z<0))) (.slice d (A9 z.natAbs).length k) (.slice f (A9 1).length l)) S r0 e cp n m (zvo A i j z) where
 hd a ha:=(zoh (.inl (Ne.symm (h.sep i x).1))).trans (h.hd a ha)
 hf a ha:=(yio _).trans (h.hf a ha)
 cap:=h.cap
 el a b ha q:=by
  have D:L2 S S w (M8 w (e i) j (.bool (decide (z<0))) (.slice d (A9 z.natAbs).length k) (.slice f (A9 1).length l)):=fun c hc=>⟨hc,fun o=>zoh (.inl fun g=>(h.sep i x).2.1 (by rw[<-g];exact hc))⟩
  by_cases v:a=i/\b=j
  ·obtain⟨rfl,rfl⟩:=v
   obtain⟨B,E,C,F,s,t,u,_⟩:=h.el a b ha q
   obtain⟨G,H,I⟩:=yin (x:= .bool (decide (z<0))) (y:= .slice d (A9 z.natAbs).length k) (z:= .slice f (A9 1).length l) s t u
   have y:zvo A a b z a b=z:=by unfold zvo;rw[if_pos ⟨rfl,rfl⟩]
   rw[y]
   exact⟨d,k,f,l,G,H,I,IsQ.stb.to L D⟩
  ·obtain⟨B,E,C,F,s,t,u,J⟩:=h.el a b ha q
   have y:zvo A i j z a b=A a b:=by unfold zvo;rw[if_neg v]
   have N:e a≠e i\/b<j\/j<b:=by
    by_cases g:a=i
    ·have:b≠j:=fun r=>v ⟨g,r⟩
     omega
    ·exact .inl fun r=>g (h.inj a i ha x r)
   rw[y]
   exact⟨B,E,C,F,(zoh og).trans s,(zoh og).trans t,(zoh og).trans u,IsQ.stb.to J D⟩
 ef a o ha K:=(yio _).trans (h.ef a o ha K);inj:=h.inj;sep a ha:=⟨(h.sep a ha).1,(h.sep a ha).2.1,by rw[zov];exact(h.sep a ha).2.2⟩;s0:=⟨h.s0.1,by rw[zov];exact h.s0.2⟩;sS b q:=by rw[zov];exact h.sS b q
def swF {b:Type} (f:Nat->b) (i k:Nat):Nat->b:=fun a=>if a=i then f k else if a=k then f i else f a
theorem zom {a:Type} (f:Nat->a) (i k:Nat):swF f i k i=f k:=if_pos rfl
theorem zon {a:Type} (f:Nat->a) (i k:Nat):swF f i k k=f i:=by
 unfold swF;split
 ·rename_i h;rw[h]
 ·rw[if_pos rfl]
theorem znl {d:Type} (f:Nat->d) {a:Nat} (b:a≠i) (c:a≠k):swF f i k a=f a:=by unfold swF;rw[if_neg b,if_neg c]
theorem MatW.swap {w:p} {r0:Nat} {cp:Nat->Nat} {A:Nat->Nat->Int} (h:MatW w S r0 e cp n m A) (r:i<n) (s:k<n) (I:i≠k):
 MatW ((w.setCell ⟨r0,i,none⟩ (.slice (some ⟨e k,0,none⟩) m (cp k))).setCell ⟨r0,k,none⟩ (.slice (some ⟨e i,0,none⟩) m (cp i))) S r0 (swF e i k) (swF cp i k) n m (swF A i k):=by
 have oth:∀b o,b≠r0->((w.setCell ⟨r0,i,none⟩ (.slice (some ⟨e k,0,none⟩) m (cp k))).setCell ⟨r0,k,none⟩ (.slice (some ⟨e i,0,none⟩) m (cp i))).cell? ⟨b,o,none⟩=w.cell? ⟨b,o,none⟩:=fun b o q=>(by rw[B _ _ _ _ (fun j=>by injection j with d f;exact q d.symm),B _ _ _ _ (fun j=>by injection j with d f;exact q d.symm)]);have t:∀a,a<n->a=i\/a=k\/(a≠i/\a≠k):=fun a _=>(by omega);refine⟨fun a ha=> ?_,fun a ha=> ?_,fun a ha=> ?_,fun a b ha q=> ?_,fun a o ha H=> ?_,fun a b ha q g=> ?_,fun a ha=> ?_,⟨h.s0.1,by rw[zpr,zpr];exact h.s0.2⟩,fun b q=>by rw[zpr,zpr];exact h.sS b q⟩
 ·rcases t a ha with rfl|rfl|⟨d,f⟩
  ·rw[zom,zom,B _ _ _ _ (fun j=>by injection j with d f;omega)];exact World.cell?_setCell_same _ _ _ (h.hd _ r)
  ·rw[zon,zon];refine World.cell?_setCell_same _ _ _ (u:= .slice (some ⟨e a,0,none⟩) m (cp a)) ?_;rw[B _ _ _ _ (fun j=>by injection j with d f;omega)];exact h.hd _ s
  ·rw[znl _ d f,znl _ d f,B _ _ _ _ (fun j=>by injection j with D E;omega),B _ _ _ _ (fun j=>by injection j with D E;omega)];exact h.hd a ha
 ·simp only[World.frozen?_setCell];exact h.hf a ha
 ·rcases t a ha with rfl|rfl|⟨d,f⟩
  ·rw[zom];exact h.cap _ s
  ·rw[zon];exact h.cap _ r
  ·rw[znl _ d f];exact h.cap _ ha
 ·have G:L2 S S w ((w.setCell ⟨r0,i,none⟩ (.slice (some ⟨e k,0,none⟩) m (cp k))).setCell ⟨r0,k,none⟩ (.slice (some ⟨e i,0,none⟩) m (cp i))):=fun c hc=>⟨hc,fun o=>oth c o fun j=>h.s0.1 (by rw[<-j];exact hc)⟩;rcases t a ha with rfl|rfl|⟨d,f⟩
  ·rw[zom,zom];obtain⟨u,F,v,l,x,y,z,C⟩:=h.el _ b s q;exact⟨u,F,v,l,(oth _ _ (h.sep _ s).1).trans x,(oth _ _ (h.sep _ s).1).trans y,(oth _ _ (h.sep _ s).1).trans z,IsQ.stb.to C G⟩
  ·rw[zon,zon];obtain⟨u,F,v,l,x,y,z,C⟩:=h.el _ b r q;exact⟨u,F,v,l,(oth _ _ (h.sep _ r).1).trans x,(oth _ _ (h.sep _ r).1).trans y,(oth _ _ (h.sep _ r).1).trans z,IsQ.stb.to C G⟩
  ·rw[znl _ d f,znl _ d f];obtain⟨u,F,v,l,x,y,z,C⟩:=h.el _ b ha q;exact⟨u,F,v,l,(oth _ _ (h.sep _ ha).1).trans x,(oth _ _ (h.sep _ ha).1).trans y,(oth _ _ (h.sep _ ha).1).trans z,IsQ.stb.to C G⟩
 ·simp only[World.frozen?_setCell];rcases t a ha with rfl|rfl|⟨d,f⟩
  ·rw[zom];exact h.ef _ _ s H
  ·rw[zon];exact h.ef _ _ r H
  ·rw[znl _ d f];exact h.ef _ _ ha H
 ·rcases t a ha with rfl|rfl|⟨d,f⟩<;>rcases t b q with rfl|rfl|⟨D,E⟩
  ·rfl
  ·rw[zom,zon] at g;exact absurd (h.inj _ _ s r g) og
  ·rw[zom,znl _ D E] at g;exact absurd (h.inj _ _ s q g) og
  ·rw[zon,zom] at g;exact absurd (h.inj _ _ r s g) og
  ·rfl
  ·rw[zon,znl _ D E] at g;exact absurd (h.inj _ _ r q g) og
  ·rw[znl _ d f,zom] at g;exact absurd (h.inj _ _ ha s g) og
  ·rw[znl _ d f,zon] at g;exact absurd (h.inj _ _ ha r g) og
  ·rw[znl _ d f,znl _ D E] at g;exact h.inj _ _ ha q g
 ·rw[zpr,zpr];rcases t a ha with rfl|rfl|⟨d,f⟩
  ·rw[zom];exact h.sep _ s
  ·rw[zon];exact h.sep _ r
  ·rw[znl _ d f];exact h.sep _ ha
theorem yak {w:p} {x y z:u} (h:w.cell? ⟨b,o,none⟩=some v) (a:b≠c):(M8 w c j x y z).cell? ⟨b,o,none⟩=some v:=(zoh (.inl a)).trans h
theorem zlt {w w':p} {x y z:u} (h:w.grownBy w' (some c)):w.grownBy (M8 w' c j x y z) (some c):=J5 (J5 (J5 h (I0 _ _ _ _)) (I0 _ _ _ _)) (I0 _ _ _ _)
def SN (S:Nat->Prop) (a:Nat) (w:p):Nat->Prop:=fun b=>S b\/(a<=b/\b<w.heap.size)
theorem MatW.grow {w w':p} {f r0:Nat} {cp:Nat->Nat} {A:Nat->Nat->Int} (h:MatW w (SN S f w) r0 e cp n m A) (hlo:f<=w.heap.size) (g:Below w.heap.size w w'):MatW w' (SN S f w') r0 e cp n m A:=
 h.next g (fun b d=>by rcases d with a|a;exact .inl a;exact .inr ⟨a.1,Nat.lt_of_lt_of_le a.2 g.size⟩) fun b d=>by
  rcases d with a|a
  ·exact .inl (.inl a)
  ·rcases G b w.heap.size with c|c
   ·exact .inl (.inr ⟨a.1,c⟩)
   ·exact .inr ⟨c,a.2⟩
theorem MatW.start {w:p} {r0:Nat} {cp:Nat->Nat} {A:Nat->Nat->Int} (h:MatW w S r0 e cp n m A):MatW w (SN S w.heap.size w) r0 e cp n m A:=
 h.next (Below.refl _ _) (fun b a=> .inl a) fun b a=>by
  rcases a with c|c
  ·exact .inl c
  ·omega
theorem MatW.same {w:p} {r0:Nat} {cp:Nat->Nat} {A B:Nat->Nat->Int} (h:MatW w S r0 e cp n m A) (c:∀i j,i<n->j<m->A i j=B i j):MatW w S r0 e cp n m B:=
 ⟨h.hd,h.hf,h.cap,fun i j a b=>by rw[<-c i j a b];exact h.el i j a b,h.ef,h.inj,h.sep,h.s0,h.sS⟩
theorem zkh {w:p} {z:Int} (h:IsQ w S v ((z:Int):Rat)):∃b k e l,v= .agg #[.bool (decide (z<0)),.slice b (A9 z.natAbs).length k,.slice e (A9 1).length l]:=by obtain⟨A,c,B,d,a,_,_⟩:=h;rw[zxu] at a;exact⟨A,c,B,d,a⟩
theorem ygc (z:Int):((z:Rat)<0)↔z<0:=by have:=yht (z:Rat);rw[Rat.num_intCast,decide_eq_decide] at this;exact this.symm
theorem yjw (z:Int):(decide (0<zoy (z:Rat)))=decide (0<z):=by
 unfold zoy;rw[decide_eq_decide];rcases Int.lt_trichotomy z 0 with h|h|h
 ·have a:¬((z:Rat)=0):=(by simpa using(show z≠0 by omega));have b:(z:Rat)<0:=(ygc z).2 h;rw[if_neg a,if_pos b];omega
 ·subst h;rw[if_pos (by simp)]
 ·have a:¬((z:Rat)=0):=(by simpa using(show z≠0 by omega));have b:¬((z:Rat)<0):=fun c=>(by have:=(ygc z).1 c;omega);rw[if_neg a,if_neg b];omega
def ints (m:Nat) (f:Nat->Int):List Rat:=(List.range m).map fun j=>((f j:Int):Rat)
theorem zqg (m:Nat) (f:Nat->Int):(ints m f).length=m:=by unfold ints;simp
theorem ysa (h:j<m):(ints m f)[j]? =some ((f j:Int):Rat):=by unfold ints;rw[F,List.getElem?_range h];rfl
theorem ygg (m:Nat) (f:Nat->Int):ints (m+1) f=ints m f++[((f m:Int):Rat)]:=by unfold ints;rw[List.range_succ,List.map_append];rfl
structure LineW (w:p) (S:Nat->Prop) (b c m:Nat) (f:Nat->Int):Prop where
 blk:∃cur,w.heap[b]? =some (.cells cur 37 (0,0))
 cap:m<=c/\c<=maxLen
 el:∀j,j<m->∃P k Q l,w.cell? ⟨b,j*3,none⟩=some (.bool (decide (f j<0)))/\w.cell? ⟨b,j*3+1,none⟩=some (.slice P (A9 (f j).natAbs).length k)/\w.cell? ⟨b,j*3+2,none⟩=some (.slice Q (A9 1).length l)/\
  IsQ w S (.agg #[.bool (decide (f j<0)),.slice P (A9 (f j).natAbs).length k,.slice Q (A9 1).length l]) ((f j:Int):Rat)
theorem OwnS.shape {i:Type} {R:p->(Nat->Prop)->u->i->Prop} {w:p} {l:List i} (h:OwnS n t R w base S v l) (A:l≠[]):
 ∃b c d a,v= .slice (some ⟨b,0,none⟩) l.length c/\base<=b/\w.heap[b]? =some (.cells d t (0,0))/\l.length<=c/\c<=maxLen/\d.toList.take (l.length*n)=cellsOf a/\Wid n a/\All2 (R w S) a l/\¬S b/\(∀x,S x->x<w.heap.size):=by
 obtain⟨a,j,m,o,g⟩:=h;rcases j.2 with⟨_,e⟩|⟨f,cap,d,e,q,r,s,y,C,k⟩
 ·exact absurd (List.eq_nil_of_length_eq_zero e) A
 ·exact⟨f,cap,d,a,e,q,r,s,y,k,m,o,fun z=>(g f z).2 (by rw[e];rfl),fun x B=>(g x B).1⟩
theorem zpi {w:p} {a:Array u} {c:List u} (h:w.heap[b]? =some (.cells a t (0,0))) (d:a.toList.take n=c) (hv:c[o]? =some v):w.cell? ⟨b,o,none⟩=some v:=by
 rw[cell_of_row w b o _ t (0,0) h];rw[<-d,List.getElem?_take] at hv;split at hv
 ·simpa using hv
 ·cases hv
theorem OwnS.line {w:p} (h:OwnS 3 37 IsR w base S v (C0 (ints m f))) (C:1<=m):
 ∃b c,v= .slice (some ⟨b,0,none⟩) m c/\base<=b/\b<w.heap.size/\¬S b/\LineW w S b c m f:=by have e:(C0 (ints m f)).length=m:=(by simp[C0,zqg]);obtain⟨b,c,t,B,rfl,u,a,o,x,d,i,y,z,_⟩:=h.shape (fun g=>by rw[g] at e;simp at e;omega);rw[e] at o d;refine⟨b,c,by rw[e],u,(Array.getElem?_eq_some_iff.1 a).1,z,⟨t,a⟩,⟨o,x⟩,fun j A=> ?_⟩;have hr:(C0 (ints m f))[j]? =some (E7 ((f j:Int):Rat)):=(by unfold C0;rw[F,ysa A];rfl);obtain⟨g,n,q⟩:=y.get hr;obtain⟨r,k,s,l,rfl⟩:=zkh (show IsQ w S g ((f j:Int):Rat) from q);exact⟨r,k,s,l,zpi a d (zop i (i:=0) n rfl),zpi a d (zop i (i:=1) n rfl),zpi a d (zop i (i:=2) n rfl),q⟩
theorem LineW.keep {w w':p} (h:LineW w S b c m f) (a:w'.heap[b]? =w.heap[b]?) (d:∀x,S x->T x/\w'.heap[x]? =w.heap[x]?):LineW w' T b c m f where
 blk:=by rw[a];exact h.blk
 cap:=h.cap
 el j hj:=by obtain⟨g,k,i,l,n,q,r,s⟩:=h.el j hj;exact⟨g,k,i,l,(y a).trans n,(y a).trans q,(y a).trans r,IsQ.stb.to s fun x e=>⟨(d x e).1,fun o=>y (d x e).2⟩⟩
def IsVal (w:p) (S:Nat->Prop) (v x:u):Prop:=v=x
theorem IsVal.stb:Stb IsVal:=fun _ _ _ _ _ _ h _=>h
def heads (k m:Nat) (e cp:Nat->Nat):List u:=(List.range k).map fun i=> .slice (some ⟨e i,0,none⟩) m (cp i)
theorem zmj (l:List Rat):(C0 l).length=l.length:=by simp[C0]
def Z4 (l:List Rat):Nat:=l.foldl (fun o q=>Nat.lcm o q.den) 1
theorem yss (l:List Rat) (q:Rat):Z4 (l++[q])=Nat.lcm (Z4 l) q.den:=by unfold Z4;rw[List.foldl_append];rfl
theorem ygo (a b:Nat):a*(b/Nat.gcd a b)=Nat.lcm a b:=by unfold Nat.lcm;rw[Nat.mul_div_assoc _ (Nat.gcd_dvd_right a b)]
theorem ysr (l:List Rat):∀o,0<o->0<l.foldl (fun o q=>Nat.lcm o q.den) o:=by
 induction l with
 |nil=>exact fun o h=>h
 |cons q l ih=>exact fun o h=>ih _ (Nat.lcm_pos h q.den_pos)
theorem zwx (l:List Rat):0<Z4 l:=ysr l 1 og
theorem ypx (l:List Rat):∀o,o∣l.foldl (fun o q=>Nat.lcm o q.den) o:=by
 induction l with
 |nil=>exact fun o=>Nat.dvd_refl o
 |cons q l ih=>exact fun o=>Nat.dvd_trans (Nat.dvd_lcm_left o q.den) (ih _)
theorem ysp {q:Rat} (l:List Rat):∀o,q∈l->q.den∣l.foldl (fun o q=>Nat.lcm o q.den) o:=by
 induction l with
 |nil=>intro o h;cases h
 |cons b l ih=>
  intro o h;rcases List.mem_cons.1 h with rfl|h
  ·exact Nat.dvd_trans (Nat.dvd_lcm_right o q.den) (ypx l _)
  ·exact ih _ h
theorem yal {q:Rat} (h:q∈l):q.den∣Z4 l:=ysp l 1 h
theorem ysq (l:List Rat) (b:∀q∈l,Sz q 1024):∀o k,(A9 o).length<=k->(A9 (l.foldl (fun o q=>Nat.lcm o q.den) o)).length<=k+1024*l.length:=by
 induction l with
 |nil=>intro o k h;simpa using h
 |cons q l ih=>intro o k h;have c:(A9 (Nat.lcm o q.den)).length<=k+1024:=(by rw[<-ygo];exact zqw h (zrl (b q (by simp)).2));have:=ih (fun e d=>b e (by simp[d])) _ _ c;rw[List.length_cons];simp only[List.foldl_cons];omega
theorem yan (a:∀q∈l,Sz q 1024):(A9 (Z4 l)).length<=1+1024*l.length:=ysq l a 1 1 (by rw[Y5];simp)
theorem ygn {w:p} {av:u} (h:IsV w (C2 w) av (C0 l)) (aj:Bru w) (ar:∀q∈l,Sz q 1024) (aV:l.length<=100):
 Calls Tryz.prog 173 #[av] w fun j w'=>(∃v,j= .returned v/\IsN w' w.heap.size w'.heap.size v (Z4 l))/\Below w.heap.size w w':=by
 obtain⟨V,aD,Z⟩:=G6 h aj ar;obtain⟨D,d,rfl,aZ⟩:=T4 h;obtain⟨n,A⟩:=nm (l.length);rw[zmj,<-A] at V aZ⊢;rw[<-A] at aV;have Y:=a A;clear h aj ar A;go_in;go_wp2_with fail;refine(zmh w).mono ?_;rintro j bA ⟨⟨bu,rfl,K⟩,ak⟩;obtain⟨aI,B0⟩:=C4 (zof K) ak;obtain⟨a5,bi,rfl,_,_,_⟩:=id K;clear K ak;go_wp2_with fail;go_loopw [9,3,5] (fun i out _ wr=>∃k:Nat,k<=n/\i= .int .i64 (k:Int)/\Below w.heap.size w wr/\Hid (IsN wr w.heap.size wr.heap.size out (Z4 (l.take k)))) (fun i _ _ _=>n-(intOf i).toNat);case atStart=>exact⟨0,Nat.zero_le _,rfl,B0.out,by rw[Hid];exact(IsK.isL aI.out fun b aT=>aT)⟩
 case round=>
  obtain⟨k,bf,rfl,I,hv⟩:=hrel;have e:=a I;have r:=a hv.out;obtain⟨a4,bq,rfl,_,_,_⟩:=id hv.out;rcases G k n with J|be
  ·obtain⟨x,B,aq⟩:=znx (l:=l) (j:=k) (by rw[<-Y.out];exact J);obtain⟨a9,bt,aJ,aK,aL,aM,rfl,_,o,ad,ae,af⟩:=zmd (IsV.stb.to V.out (F7 e.out)) aq;obtain⟨aN,ag⟩:=nm ((E7 x).neg);obtain⟨aO,ah⟩:=nm ((E7 x).num.length);rw[<-ag] at ad o;rw[<-ah] at ae o;have ai:(E7 x).den=A9 x.den:=rfl;rw[ai] at af o;obtain⟨aH,a3,s⟩:=G6 (zup o) B (Z.out x (H B));have aa:Hid (Z4 (l.take (k+1))=Nat.lcm (Z4 (l.take k)) x.den):=(by rw[Hid,znm B,yss]);obtain⟨t,F⟩:=nm (Z4 (l.take k));have W:Hid ((A9 t).length<=200000):=(by rw[Hid,F];have:=yan (l:=l.take k) fun q aX=>Z.out q (List.mem_of_mem_take aX);have:=List.length_take_le k l;omega);have a2:Hid (0<x.den):=x.den_pos;rw[<-F] at r aa⊢;obtain⟨br,ao⟩:=nm ((A9 t).length);rw[<-ao] at r⊢;have bd:=R4;have bg:(0:Int)<=(k:Int):=og;have bh:(k:Int)<(n:Int):=og;obtain⟨C,aY,m,au,a0⟩:=K7 wr #[.bool aN,.slice aJ aO aK,.slice aL (A9 x.den).length aM] 37;have P:=a m;have ac:=nQ aH m;have y:=a ((zof r.out));have y:=a (IsK.stb.fresh y.out m);have aA:=nU aD (C9 e.out m);have aB:=a ((C5 au).2.2);have aE:Hid (0<Nat.gcd t x.den):=zzs _ x.den_nz;have aG:Hid ((A9 (Nat.gcd t x.den)).length<=1024):=zzq _ x.den_nz s.out.2;have X:=a J;clear B aq o ag ah I hv F ao au a0 m ai J;go_wp2_with fail;clear aY ad ae af;have E:=zka aB.out;have Q:=a fun f (c:Below C.heap.size C f)=>zul (I7 (IsK.stb.next (IsK.stb.old y.out) c)) (I7 (IsK.stb.next (zuo ac.out) c)) (Bru.next aA.out c) (g W.out og) (g s.out.2 og)
   go_region_held3 (SH.mk _ E).s
    (exact E.out _ bel)
    (first
      |(go_at_call 185;(with_reducible refine Calls.mono (Q.out _ bel) ?_);rintro j ay ⟨⟨bv,rfl,L⟩,al⟩;have T:=a (znc L);obtain⟨a6,bj,rfl,_,_,_⟩:=id L;have R:=a fun f (c:Below ay.heap.size ay f)=>ztg (IsK.stb.next (zuo ac.out) bel) (I7 (IsK.stb.next T.out c)) (g s.out.2 og) (g aG.out og) aE.out)
      |(go_at_call 177;(with_reducible refine Calls.mono (R.out _ bel) ?_);rintro j O ⟨⟨bw,rfl,M⟩,an⟩;have U:=a M;obtain⟨a7,bm,rfl,_,_,_⟩:=id M;have S:=a fun f (c:Below O.heap.size O f)=>zqm (I7 (IsK.stb.next (IsK.stb.old y.out) bel)) (I7 (IsK.stb.next U.out c)) (z _) (z _) (g W.out og) (g (zrl s.out.2) og))
      |(go_at_call 168;(with_reducible refine Calls.mono (S.out _ bel) ?_);rintro j a1 ⟨⟨bx,rfl,N⟩,aU⟩;have aC:=a N;obtain⟨a8,bp,rfl,_,_,_⟩:=id N))
   have az:Hid (Below C.heap.size C a1):=(by rw[Hid];exact bel);have aW:w.heap.size<=O.heap.size:=(by have aP:=e.out.size;have aQ:=P.out.size;have aR:=al.size;have aS:=an.size;exact g aP (g aQ (g (by simpa using aR) aS)));clear E Q R S L M N al an aU T U;go_wp2_with fail;go_roundw;(case rel=>exact⟨k+1,X.out,by go_num,C9 (C9 e.out P.out) az.out,by rw[Hid,aa.out,<-ygo];exact aC.out.wide aW (z _)⟩);case measure=>have:=X.out;simp[intOf];omega
  ·obtain rfl:k=n:=og;clear I hv;go_wp2_with fail;go_ret;refine⟨⟨_,rfl,?_⟩,e.out⟩;have h:=r.out;rw[List.take_of_length_le (Nat.le_of_eq Y.out.symm)] at h⊢;exact h
theorem zz1357 {a:Int} {d:Nat} {z:Int} (hd:0<d) (h:(a:Rat)/((d:Int):Rat)=(z:Rat)):a.tdiv (d:Int)=z:=by have f:((d:Int):Rat)≠0:=(by intro c;have:(d:Int)=0:=Rat.intCast_inj.1 (by rw[c];rfl);omega);have b:(a:Rat)=(z:Rat)*((d:Int):Rat):=(by rw[<-h,Rat.div_mul_cancel f]);have e:a=z*(d:Int):=(by rw[<-Rat.intCast_mul] at b;exact Rat.intCast_inj.1 b);rw[e];exact Int.mul_tdiv_cancel _ og
def zlf (M:List (List Rat)) (i j:Nat):Int:=((M.getD i []).getD j 0).num*((Z4 (M.getD i [])/((M.getD i []).getD j 0).den:Nat):Int)
theorem zrt {x:Rat} (hr:M[i]? =some r) (c:r[j]? =some x):zlf M i j=x.num*((Z4 r/x.den:Nat):Int):=by unfold zlf;have a:M.getD i []=r:=(by rw[A,hr,Option.getD_some]);have b:r.getD j 0=x:=(by rw[A,c,Option.getD_some]);rw[a,b]
theorem zxc {b:List (List Rat)} {x:Rat} (hr:b[i]? =some r) (e:r[j]? =some x):((zlf b i j:Int):Rat)=x*((Z4 r:Nat):Rat):=by rw[zrt hr e,Rat.intCast_mul];have hd:x.den∣Z4 r:=yal (H e);obtain⟨c,hc⟩:=hd;have f:Z4 r/x.den=c:=(by rw[hc];exact Nat.mul_div_cancel_left c x.den_pos);rw[f,hc,Rat.natCast_mul];have g:(x.num:Rat)=x*((x.den:Nat):Rat):=(by have a:=Rat.mkRat_self x;rw[Rat.mkRat_eq_div] at a;have h:((x.den:Nat):Rat)≠0:=ynk x.den_pos;have d:=Rat.div_mul_cancel (a:=(x.num:Rat)) h;rw[a] at d;exact d.symm);rw[g];show x*_*((c:Nat):Rat)=_;grind
def ztx (M:List (List Rat)) (b:List Rat) (k:Nat):List (List Rat):=(List.range k).map fun i=>M.getD i []++[b.getD i 0]
theorem ycn {b:List Rat} {m:Nat} (a:i<n) (hr:M[i]? =some r):(ztx M b n)[i]? =some (r++[b.getD i 0]):=by unfold ztx;rw[F,List.getElem?_range a,Option.map_some,A,hr];rfl
theorem zws {x:Rat} (b:r.length=m) (a:j<m):(r++[x])[j]? =some (r.getD j 0):=by rw[List.getElem?_append_left og,A,List.getElem?_eq_getElem og];rfl
theorem zzt {x:Rat} (a:r.length=m):(r++[x])[m]? =some x:=by rw[List.getElem?_append_right og,a,Nat.sub_self];rfl
end Go.Proofs.YtdgilbgdkmhcmaaGreatDoor
