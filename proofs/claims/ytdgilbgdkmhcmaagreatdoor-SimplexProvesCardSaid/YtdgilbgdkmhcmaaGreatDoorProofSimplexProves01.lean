/-
 Lists of ints in memory,and c b a in.
-/
import Derived.Test.YtdgilbgdkmhcmaaGreatDoorSpv08
namespace Go.Proofs.YtdgilbgdkmhcmaaGreatDoor
open Go.RowKit Go.WideShapes Go.ChangeShapes Go.Deep
set_option linter.unusedVariables false
open Go.RowKit
set_option maxRecDepth 100000
set_option maxHeartbeats 8000000
open _root_.Go.Lib renaming hid → a
open _root_.Nat renaming le_refl → r, le_trans → o, lt_or_ge → D
open _root_.List renaming getElem?_eq_getElem → z, getElem?_map → B
open _root_.Go.World renaming cell?_setCell_other → d, cell?_of_block → s
open _root_.Go renaming World → f, Value → q, Calls → t
open _root_.Go.Proofs.Tryz renaming prog → p
variable {S T : Nat → Prop} {b c g i j k m n : Nat} {l : List Int} {e : Nat → Nat} {v u x y : q}
def zul (n:Int):Prop:= -9223372036854775808<=n/\n<=9223372036854775807
theorem yar {n:Int} (h:(Lit.int .i64 n).wf=true):zul n:=by rw[Lit.wf,Bool.and_eq_true,decide_eq_true_eq,decide_eq_true_eq] at h;exact h
def IsIL (w:f) (S:Nat->Prop) (v:q) (l:List Int):Prop:=
 ∃A c,v= .slice A l.length c/\l.length<=c/\c<=maxLen/\SVS w S A (l.map fun x=> .int .i64 x)/\∀x∈l,zul x
theorem IsIL.stb:Stb IsIL:=by rintro w w' S T v l ⟨A,c,hv,a,b,d,e⟩ f;exact⟨A,c,hv,a,b,d.same f,e⟩
theorem ysh {w:f} {A:Option Addr} (h:IsIL w S (.slice A n c) l) {x:Int} (a:l[j]? =some x):
 zul x/\∃b off,A=some ⟨b,off,none⟩/\S b/\w.cell? ⟨b,off+j,none⟩=some (.int .i64 x):=by obtain⟨o,p,hv,q,r,g,i⟩:=h;simp only[Value.slice.injEq] at hv;obtain⟨rfl,rfl,rfl⟩:=hv;have d:=(List.getElem?_eq_some_iff.1 a).1;obtain⟨b,off,k,m,hc⟩:=g (fun e=>by have:=congrArg List.length e;simp at this;rw[this] at d;simp at d);exact⟨i x (List.mem_of_getElem? a),b,off,k,m,hc j _ (by rw[B,a];rfl)⟩
section
variable {H : Type} {enc : TypeId × q → H} {w : f} {base A : Nat} {sp : Nat → Bool} {held : Bool}
theorem yvo {d:DataW H} {o:List MemPlace} (G:∀x∈o,x.block<w.heap.size) (y:Value.okWide p w .any A 22 v) (h:DataW.Trod enc p w base sp held 22 v d o):∃l:List Int,IsIL w (C2 w) v l:=by
 obtain⟨a,len,cap,rfl⟩:=okWide_slice Tryz.underlying22 y;obtain⟨E,hf⟩:=h;rcases open_ints Tryz.underlying22 Tryz.underlying3 kr hf with⟨hv,_⟩|⟨a,len,cap,e,hv,_,s,t,D,f,q,C⟩
 ·simp only[Value.cells,List.cons.injEq,and_true] at hv;rw[hv];exact⟨[],none,0,rfl,r _,Nat.zero_le _,SVS.nil,fun x f=>by cases f⟩
 ·simp only[Value.cells,List.cons.injEq,and_true] at hv;rw[hv];have I:len<=e.length:=(by rw[D];split<;>omega);have m:(e.take len).length=len:=(by simp;omega);refine⟨e.take len,some a,cap,by rw[m],by rw[m];exact s,t,fun u=> ?_,fun x f=>yar (C x (List.mem_of_mem_take f))⟩
  have n:0<e.length:=by
   rcases Nat.eq_zero_or_pos e.length with g|g
   ·exact absurd (by rw[List.length_eq_zero_iff.1 g];simp) u
   ·exact g
  obtain⟨b,off,rfl,k⟩:=ints_at q n;refine⟨b,off,rfl,World.block_lt_of_cell? w _ (k 0 n),fun j J c=> ?_⟩;rw[B,List.getElem?_take] at c;split at c;(case isFalse=>simp at c);case isTrue F=>have i:j<e.length:=og;rw[z i] at c;simp only[Option.map_some,Option.some.injEq] at c;subst c;rw[k j i,List.getD_eq_getElem?_getD,z i,Option.getD_some]
end
theorem zyk (z:Int):D8 (z:Rat)=⟨decide (z<0),A9 z.natAbs,A9 1⟩:=by unfold D8;rw[Rat.num_intCast,Rat.den_intCast]
theorem yxp (n:Nat):D8 (((n:Nat):Int):Rat)=⟨false,A9 n,A9 1⟩:=by rw[zyk,Int.natAbs_natCast];have:¬((n:Int)<0):=og;simp[this]
theorem zso {w:f} (h:IsN w 0 w.heap.size v n):∃A c,v= .slice A (A9 n).length c/\(A9 n).length<=9223372036854775807:=by have a:=h.length_le;obtain⟨A,c,rfl,_⟩:=h;exact⟨A,c,rfl,by unfold maxLen at a;omega⟩
theorem ydm (w:f) (b c d j k:Array q) (g h i l m:TypeId):∃a,((((w.alloc (.cells b g)).alloc (.cells c h)).alloc (.cells d i)).alloc (.cells j l)).alloc (.cells k m)=a/\Below w.heap.size w a/\Row a w.heap.size g b.toList/\Row a (w.heap.size+1) h c.toList/\
 Row a (w.heap.size+2) i d.toList/\Row a (w.heap.size+3) l j.toList/\Row a (w.heap.size+4) m k.toList/\Hid (a.heap.size=w.heap.size+5):=by obtain⟨x,rfl,r,s,t,u,v⟩:=zwo w b c d g h i;obtain⟨y,rfl,e,n,o,p⟩:=zkd ((((w.alloc (.cells b g)).alloc (.cells c h)).alloc (.cells d i))) j k l m;rw[v.out] at n o p;exact⟨_,rfl,C9 r e,s.next e,t.next e,u.next e,n,o,p⟩
theorem yct {w:f} (h:IsN w 0 w.heap.size v n) (j:(A9 n).length<=4294967296):t p 132 #[.bool false,v] w (U9 w (((n:Nat):Int):Rat)):=by have q:=a h;obtain⟨A,c,rfl,Y⟩:=zso h;have r:=a j;clear h j;obtain⟨D,C,i,m,s⟩:=K0 w #[.bool false,.slice none 0 0,.slice none 0 0] 37;obtain⟨b,g⟩:=C4 (m) (i);have o:Hid (w.heap.size+1<=D.heap.size):=a (Nat.le_of_eq s.out.symm);clear m i;obtain⟨G,J,M⟩:=C3 b.out;obtain⟨P,S,V⟩:=F7 b.out;have u:=a (IsN.next q.out g.out);go_in;go_wp2_with fail;clear C;refine(zpt u.out r.out).mono ?_;rintro z e ⟨⟨ab,rfl,k⟩,B⟩;have x:=a (U0 k o.out);obtain⟨E,Z,rfl,_,_,_⟩:=id k;obtain⟨H,K,N⟩:=C3 (uR e b);obtain⟨Q,T,W⟩:=F7 (uR e b);go_wp2_with fail;refine(zmt _).mono ?_;rintro z d ⟨⟨ac,rfl,l⟩,B⟩;have y:=a (U0 l (uS e o));obtain⟨F,aa,rfl,_,_,_⟩:=id l;obtain⟨I,L,O⟩:=C3 (uR d b);obtain⟨R,U,X⟩:=F7 (uR d b);go_wp2_with fail;refine W5 Tryz.results132 rfl rfl (Row.put3 (uR d b) _ _ _) (znh (yxp n) (uB d g) og (uF d x) y.out og og)
theorem yxn {q:Rat} (h:0<n/q.den):D8 ((q.num*((n/q.den:Nat):Int):Int):Rat)=⟨decide (q.num<0),A9 (q.num.natAbs*(n/q.den)),A9 1⟩:=by
 rw[zyk,Int.natAbs_mul,Int.natAbs_natCast];congr 1;rw[decide_eq_decide];have b:(0:Int)<((n/q.den:Nat):Int):=og;constructor
 ·intro c;rcases Int.lt_or_le q.num 0 with a|a
  ·exact a
  ·have:=Int.mul_nonneg a (Int.le_of_lt b);omega
 ·exact fun c=>Int.mul_neg_of_neg_of_pos c b
theorem ybf {w:f} {q:Rat} (h:IsQ w (C2 w) u q) (j:IsN w 0 w.heap.size y n) (L:Sz q 100000) (K:(A9 n).length<=1000000) (I:0<n/q.den):t p 175 #[u,y] w (U9 w ((q.num*((n/q.den:Nat):Int):Int):Rat)):=by
 have T:=a h;obtain⟨k,m,B,s,D,rfl,V,an,al⟩:=G9 h;have S:=a j;obtain⟨C,aJ,rfl,aW⟩:=zso j;obtain⟨x,v⟩:=C4 L K;have W:Hid (D8 ((q.num*((n/q.den:Nat):Int):Int):Rat)=⟨k,A9 (q.num.natAbs*(n/q.den)),A9 1⟩):=(by rw[Hid,V.out];exact yxn I);have U:Hid (0<q.den):=q.den_pos;clear h j L K I;obtain⟨l,ak,i,ra,P,X⟩:=zkd w #[.bool k,.slice m (A9 q.num.natAbs).length B,.slice s (A9 q.den).length D] #[.bool false,.slice none 0 0,.slice none 0 0] 37 37;have z:=nQ T i;obtain⟨g,b,A⟩:=G4 (ra) (P) (i);have Q:Hid (w.heap.size+2<=l.heap.size):=a (Nat.le_of_eq X.out.symm);clear ra P i;obtain⟨ab,ae,ah⟩:=C3 g.out;obtain⟨au,aA,aE⟩:=C3 b.out;obtain⟨aK,aO,aS⟩:=F7 b.out;have Y:=a (IsN.next S.out A.out);go_in;go_wp2_with fail;clear ak
 go_region_held3 (fun w'=>w'.cell? ⟨w.heap.size,0,none⟩=some (.bool k)/\w'.cell? ⟨w.heap.size,1,none⟩=some (.slice m (A9 q.num.natAbs).length B)/\w'.cell? ⟨w.heap.size,2,none⟩=some (.slice s (A9 q.den).length D))
  (first
    |exact⟨ab,ae,ah⟩
    |exact⟨ac,af,ai⟩
    |exact⟨ad,ag,aj⟩
    |exact⟨E,F,G⟩
    |exact⟨zmj E og,zmj F og,zmj G og⟩)
  (first
    |(go_at_call 177;have hc:=ztw (znm (uN l.drew Y)) (E9 (zpy (uQ l.drew z))) (o v.out og) (o x.out.2 og) U.out;(with_reducible refine hc.mono ?_);clear hc;rintro H d ⟨⟨a0,rfl,M⟩,J⟩;have R:=a (M);obtain⟨ao,aX,rfl,_,_,_⟩:=id M;obtain⟨ac,af,ai⟩:=C3 (uR d g);obtain⟨av,aB,aG⟩:=C3 (uR d b);obtain⟨aL,aP,aT⟩:=F7 (uR d b))
    |(go_at_call 168;have hc:=zre (E9 (zmq (uQ d z))) (E9 R.out) (r _) (r _) (o x.out.1 og) (o (zsi v.out) og);(with_reducible refine hc.mono ?_);clear hc;rintro H e ⟨⟨a1,rfl,N⟩,J⟩;have Z:=a (U0 N (uS d Q));obtain⟨aq,aY,rfl,_,_,_⟩:=id N;obtain⟨ad,ag,aj⟩:=C3 (uR e g);obtain⟨ay,aC,aH⟩:=C3 (uR e b);obtain⟨aM,aQ,aU⟩:=F7 (uR e b))
    |(go_at_call 136;have hc:=zmt e;(with_reducible refine hc.mono ?_);clear hc;rintro H c ⟨⟨a2,rfl,O⟩,J⟩;have aa:=a (U0 O (uS e Q));obtain⟨ar,aZ,rfl,_,_,_⟩:=id O;obtain⟨E,F,G⟩:=C3 (uR c g);obtain⟨az,aD,aI⟩:=C3 (uR c b);obtain⟨aN,aR,aV⟩:=F7 (uR c b)))
 go_wp2_with fail;refine W5 Tryz.results175 rfl rfl (Row.put3 (uR c b) _ _ _) (znh W.out (uB c A) og (uF c Z) aa.out og og)
theorem yis {w:f} {d:Nat} {q:Rat} (s:Bool) (aB:IsN w 0 w.heap.size y n) (hd:IsN w 0 w.heap.size x d) (aI:Bru w) (aL:(A9 n).length<=1000000) (aK:(A9 d).length<=1000000) (aJ:d≠0) (aM:q=mkRat (sg s n) d):t p 178 #[.bool s,y,x] w (U9 w q):=by
 obtain⟨ab,Z,Y,K,v,V⟩:=zpe aB hd aI aL aK aM;obtain⟨A,bG,rfl,bI⟩:=zso aB;obtain⟨C,bH,rfl,bJ⟩:=zso hd;clear aB hd aI aL aK aM;by_cases L:n=0
 ·have a7:(((A9 n).length:Int)==0)=true:=zxq L;have aN:Hid (q=0):=(by rw[Hid,V.out,L,zwa];simp);clear L;obtain⟨H,G,j,k,E⟩:=K0 w #[.bool false,.slice none 0 0,.slice none 0 0] 37;obtain⟨b,e⟩:=C4 (k) (j);have l:Hid (w.heap.size+1<=H.heap.size):=a (Nat.le_of_eq E.out.symm);clear k j;obtain⟨ai,ak,an⟩:=C3 b.out;obtain⟨aq,au,ay⟩:=F7 b.out;go_in;go_wp2_with fail;clear G;refine(zwf _).mono ?_;rintro g c ⟨⟨aD,rfl,hv⟩,i⟩;have ah:=a (IsQ.stb.le hv l.out);obtain⟨bA,ae,aC,aO,bx,rfl,_,_,_⟩:=G9 hv;obtain⟨aj,al,ao⟩:=C3 (uR c b);obtain⟨ar,av,az⟩:=F7 (uR c b);go_wp2_with fail;rw[aN.out];refine W5 Tryz.results178 rfl rfl (Row.put3 (uR c b) _ _ _) (zqe ah.out (uB c e) og og)
 have a7:(((A9 n).length:Int)==0)=false:=zxp L;obtain⟨ac,B⟩:=C4 L aJ;clear L aJ;by_cases aA:(A9 n).length<=2/\(A9 d).length<=2
 ·obtain⟨aG,aH⟩:=aA;have aE:decide (((A9 n).length:Int)<=2)=true:=(by simp;omega);have a8:decide (((A9 d).length:Int)<=2)=true:=(by simp;omega);have bF:n<1000000000000000000:=zvi aG;have b2:d<1000000000000000000:=zvi aH;obtain⟨aT,aU⟩:=C4 aG aH;obtain⟨H,G,j,k,E⟩:=K0 w #[.bool false,.slice none 0 0,.slice none 0 0] 37;obtain⟨b,e⟩:=C4 (k) (j);have l:Hid (w.heap.size+1<=H.heap.size):=a (Nat.le_of_eq E.out.symm);clear k j;obtain⟨ai,ak,an⟩:=C3 b.out;obtain⟨aq,au,ay⟩:=F7 b.out;obtain⟨F,z,M⟩:=G4 (IsN.next ab.out e.out) (IsN.next Z.out e.out) (Bru.next Y.out e.out);go_in;go_wp2_with fail;clear G;refine(zrw F.out aT.out).mono ?_;rintro g c ⟨rfl,rfl⟩;go_wp2_with fail;refine(zrw z.out aU.out).mono ?_;rintro g c ⟨rfl,rfl⟩;go_wp2_with fail;refine(zz1392 _ s n d M.out ac.out B.out og og).mono ?_;rintro g c ⟨⟨aD,rfl,hv⟩,i⟩;have ah:=a (IsQ.stb.le hv l.out);obtain⟨bA,ae,aC,aO,bx,rfl,_,_,_⟩:=G9 hv;obtain⟨aj,al,ao⟩:=C3 (uR c b);obtain⟨ar,av,az⟩:=F7 (uR c b);go_wp2_with fail;rw[V.out];refine W5 Tryz.results178 rfl rfl (Row.put3 (uR c b) _ _ _) (zqe ah.out (uB c e) og og)
 rcases D 2 (A9 n).length with br|br
 ·have aE:decide (((A9 n).length:Int)<=2)=false:=(by simp;omega);clear aA;obtain⟨r,h⟩:=nm (Nat.gcd n d);have ad:Hid (D8 q=⟨s,A9 (n/r),A9 (d/r)⟩):=(by rw[Hid,V.out,h];exact zvq ac.out B.out);have aa:=a h;have P:Hid (0<r):=(by rw[Hid,h];exact yaj _ B.out);have O:Hid ((A9 r).length<=1000000):=(by rw[Hid,h];exact yah _ B.out v.out);clear h;obtain⟨H,G,j,k,E⟩:=K0 w #[.bool false,.slice none 0 0,.slice none 0 0] 37;obtain⟨b,e⟩:=C4 (k) (j);have l:Hid (w.heap.size+1<=H.heap.size):=a (Nat.le_of_eq E.out.symm);clear k j;obtain⟨ai,ak,an⟩:=C3 b.out;obtain⟨aq,au,ay⟩:=F7 b.out;obtain⟨F,z,M⟩:=G4 (IsN.next ab.out e.out) (IsN.next Z.out e.out) (Bru.next Y.out e.out);go_in;go_wp2_with fail;clear G;refine(zva F.out z.out M.out (o K.out og) (o v.out og)).mono ?_;rw[<-aa.out];rintro g c ⟨⟨aD,rfl,Q⟩,i⟩;have N:=a (U0 Q l.out);obtain⟨ae,aC,rfl,_,_,_⟩:=id Q;obtain⟨aj,al,ao⟩:=C3 (uR c b);obtain⟨ar,av,az⟩:=F7 (uR c b);go_wp2_with fail;refine(ztw (znm (uN c F)) (E9 (IsK.stb.old N.out)) (o K.out og) (o O.out og) P.out).mono ?_;rintro g I ⟨⟨bB,rfl,R⟩,i⟩;have W:=a (R);obtain⟨aP,bt,rfl,_,_,_⟩:=id R;obtain⟨aV,aZ,a3⟩:=C3 (uR I b);obtain⟨a9,bg,bm⟩:=F7 (uR I b);go_wp2_with fail;refine(zpt (E9 W.out) (o (zsi K.out) og)).mono ?_;rintro g u ⟨⟨bC,rfl,S⟩,i⟩;have af:=a (U0 S (uS I l));obtain⟨aQ,bu,rfl,_,_,_⟩:=id S;obtain⟨aW,a0,a4⟩:=C3 (uR u b);obtain⟨bd,bh,bn⟩:=F7 (uR u b);go_wp2_with fail;refine(ztw (znm (uN u z)) (E9 (IsK.stb.old (uF u N))) (o v.out og) (o O.out og) P.out).mono ?_;rintro g J ⟨⟨bD,rfl,T⟩,i⟩;have X:=a (T);obtain⟨aR,bv,rfl,_,_,_⟩:=id T;obtain⟨aX,a1,a5⟩:=C3 (uR J b);obtain⟨be,bi,bp⟩:=F7 (uR J b);go_wp2_with fail;refine(zpt (E9 X.out) (o (zsi v.out) og)).mono ?_;rintro g m ⟨⟨bE,rfl,U⟩,i⟩;have ag:=a (U0 U (uS J l));obtain⟨aS,bw,rfl,_,_,_⟩:=id U;obtain⟨aY,a2,a6⟩:=C3 (uR m b);obtain⟨bf,bj,bq⟩:=F7 (uR m b);go_wp2_with fail;refine W5 Tryz.results178 rfl rfl (Row.put3 (uR m b) _ _ _) (znh ad.out (uB m e) og (uF m af) ag.out og og)
 ·have aE:decide (((A9 n).length:Int)<=2)=true:=(by simp;omega);have a8:decide (((A9 d).length:Int)<=2)=false:=(by simp;omega);clear aA;obtain⟨r,h⟩:=nm (Nat.gcd n d);have ad:Hid (D8 q=⟨s,A9 (n/r),A9 (d/r)⟩):=(by rw[Hid,V.out,h];exact zvq ac.out B.out);have aa:=a h;have P:Hid (0<r):=(by rw[Hid,h];exact yaj _ B.out);have O:Hid ((A9 r).length<=1000000):=(by rw[Hid,h];exact yah _ B.out v.out);clear h;obtain⟨H,G,j,k,E⟩:=K0 w #[.bool false,.slice none 0 0,.slice none 0 0] 37;obtain⟨b,e⟩:=C4 (k) (j);have l:Hid (w.heap.size+1<=H.heap.size):=a (Nat.le_of_eq E.out.symm);clear k j;obtain⟨ai,ak,an⟩:=C3 b.out;obtain⟨aq,au,ay⟩:=F7 b.out;obtain⟨F,z,M⟩:=G4 (IsN.next ab.out e.out) (IsN.next Z.out e.out) (Bru.next Y.out e.out);go_in;go_wp2_with fail;clear G;refine(zva F.out z.out M.out (o K.out og) (o v.out og)).mono ?_;rw[<-aa.out];rintro g c ⟨⟨aD,rfl,Q⟩,i⟩;have N:=a (U0 Q l.out);obtain⟨ae,aC,rfl,_,_,_⟩:=id Q;obtain⟨aj,al,ao⟩:=C3 (uR c b);obtain⟨ar,av,az⟩:=F7 (uR c b);go_wp2_with fail;refine(ztw (znm (uN c F)) (E9 (IsK.stb.old N.out)) (o K.out og) (o O.out og) P.out).mono ?_;rintro g I ⟨⟨bB,rfl,R⟩,i⟩;have W:=a (R);obtain⟨aP,bt,rfl,_,_,_⟩:=id R;obtain⟨aV,aZ,a3⟩:=C3 (uR I b);obtain⟨a9,bg,bm⟩:=F7 (uR I b);go_wp2_with fail;refine(zpt (E9 W.out) (o (zsi K.out) og)).mono ?_;rintro g u ⟨⟨bC,rfl,S⟩,i⟩;have af:=a (U0 S (uS I l));obtain⟨aQ,bu,rfl,_,_,_⟩:=id S;obtain⟨aW,a0,a4⟩:=C3 (uR u b);obtain⟨bd,bh,bn⟩:=F7 (uR u b);go_wp2_with fail;refine(ztw (znm (uN u z)) (E9 (IsK.stb.old (uF u N))) (o v.out og) (o O.out og) P.out).mono ?_;rintro g J ⟨⟨bD,rfl,T⟩,i⟩;have X:=a (T);obtain⟨aR,bv,rfl,_,_,_⟩:=id T;obtain⟨aX,a1,a5⟩:=C3 (uR J b);obtain⟨be,bi,bp⟩:=F7 (uR J b);go_wp2_with fail;refine(zpt (E9 X.out) (o (zsi v.out) og)).mono ?_;rintro g m ⟨⟨bE,rfl,U⟩,i⟩;have ag:=a (U0 U (uS J l));obtain⟨aS,bw,rfl,_,_,_⟩:=id U;obtain⟨aY,a2,a6⟩:=C3 (uR m b);obtain⟨bf,bj,bq⟩:=F7 (uR m b);go_wp2_with fail;refine W5 Tryz.results178 rfl rfl (Row.put3 (uR m b) _ _ _) (znh ad.out (uB m e) og (uF m af) ag.out og og)
def zkt (a e b c:Int) (d:Nat):Int:=(a*e-b*c).tdiv (d:Int)
theorem yzh (s:Bool) (n d:Nat):(sg s n).tdiv (d:Int)=sg s (n/d):=by
 cases s
 ·rw[yju,yju,Int.ofNat_tdiv]
 ·rw[yjx,yjx,Int.neg_tdiv,Int.ofNat_tdiv]
theorem ypd {a e b c:Int} {f j g i:Bool} (ha:f=decide (a<0)) (o:j=decide (e<0)) (m:g=decide (b<0)) (hc:i=decide (c<0)) {s:Bool}
 (h:sg s n=sg (!(f==j)) (a.natAbs*e.natAbs)+sg (g==i) (b.natAbs*c.natAbs)) (d:Nat):zkt a e b c d=sg s (n/d):=by have k:sg (!(f==j)) (a.natAbs*e.natAbs)=a*e:=(by rw[show(!(f==j))=(f !=j) from rfl,ycb,ha,o,zvz,zvz]);have l:sg (g==i) (b.natAbs*c.natAbs)= -(b*c):=(by rw[show(g==i)= !(g !=i) by simp[bne],yzg,ycb,m,hc,zvz,zvz]);unfold zkt;rw[show a*e-b*c=sg s n by rw[h,k,l];omega,yzh]
theorem yby (s:Bool) (n:Nat):D8 ((sg s n:Int):Rat)=⟨s&&decide (0<n),A9 n,A9 1⟩:=by
 rw[zyk,ycd];congr 1;rcases Nat.eq_zero_or_pos n with h|h
 ·subst h;simp[zwa]
 ·rw[yjv og];simp[h]
theorem zux {w:f} {vp aY aZ:q} {A G E F:Rat} {d:Nat} (ha:IsQ w (C2 w) u A) (V:IsQ w (C2 w) vp G) (g:IsQ w (C2 w) aY E) (hc:IsQ w (C2 w) aZ F) (hd:IsN w 0 w.heap.size x d)
 (sa:Sz A 500000) (sp:Sz G 500000) (sb:Sz E 500000) (aW:Sz F 500000) (aN:(A9 d).length<=1000000) (aM:0<d):t p 129 #[u,vp,aY,aZ,x] w (U9 w ((zkt A.num G.num E.num F.num d:Int):Rat)):=by
 have a7:=a ha;obtain⟨W,aa,aj,a0,bw,rfl,bg,ck,cf⟩:=G9 ha;have bd:=a V;obtain⟨Z,ad,an,a3,bB,rfl,bj,cn,cj⟩:=G9 V;have a8:=a g;obtain⟨X,ab,ak,a1,bx,rfl,bh,cl,cg⟩:=G9 g;have a9:=a hc;obtain⟨Y,ac,al,a2,bA,rfl,bi,cm,ch⟩:=G9 hc;have a6:=a hd;obtain⟨C,db,rfl,du⟩:=zso hd;have ae:=a sa.1;have ah:=a sp.1;have af:=a sb.1;have ag:=a aW.1;obtain⟨bf,be⟩:=C4 aN aM;obtain⟨Q,zkf⟩:∃Q:Bool,(!(W==Z))=Q:=⟨_,rfl⟩;obtain⟨R,zpg⟩:∃R:Bool,(X==Y)=R:=⟨_,rfl⟩;have a5:Hid (∀s n,sg s n=sg Q (A.num.natAbs*G.num.natAbs)+sg R (E.num.natAbs*F.num.natAbs)->zkt A.num G.num E.num F.num d=sg s (n/d)):=(by intro s n h;rw[<-zkf,<-zpg] at h;exact ypd bg.out bj.out bh.out bi.out h d);clear ha V g hc hd sa sp sb aW aN aM;obtain⟨S,cd,L,ra,rp,e,rc,aV,N⟩:=ydm w #[.bool W,.slice aa (A9 A.num.natAbs).length aj,.slice a0 (A9 A.den).length bw] #[.bool Z,.slice ad (A9 G.num.natAbs).length an,.slice a3 (A9 G.den).length bB] #[.bool X,.slice ab (A9 E.num.natAbs).length ak,.slice a1 (A9 E.den).length bx] #[.bool Y,.slice ac (A9 F.num.natAbs).length al,.slice a2 (A9 F.den).length bA] #[.bool false,.slice none 0 0,.slice none 0 0] 37 37 37 37 37;have br:=nQ a7 L;have k:=a (ra);have bv:=nQ bd L;have v:=a (rp);have bt:=nQ a8 L;have l:=a (e);have bu:=nQ a9 L;obtain⟨m,c,P⟩:=G4 (rc) (aV) (L);have J:Hid (w.heap.size+5<=S.heap.size):=a (Nat.le_of_eq N.out.symm);clear ra rp e rc aV L;obtain⟨bC,bG,cw⟩:=C3 k.out;obtain⟨b5,ca,cT⟩:=C3 v.out;obtain⟨bM,bQ,cG⟩:=C3 l.out;obtain⟨bV,b0,cN⟩:=C3 m.out;obtain⟨c0,c5,da⟩:=C3 c.out;obtain⟨dh,dn,dt⟩:=F7 c.out;have a4:=a (IsN.next a6.out P.out);go_in;go_wp2_with fail;clear cd
 go_region_held3 (fun w'=>w'.cell? ⟨w.heap.size,0,none⟩=some (.bool W)/\w'.cell? ⟨w.heap.size,1,none⟩=some (.slice aa (A9 A.num.natAbs).length aj)/\w'.cell? ⟨w.heap.size+1,0,none⟩=some (.bool Z)/\w'.cell? ⟨w.heap.size+1,1,none⟩=some (.slice ad (A9 G.num.natAbs).length an)/\w'.cell? ⟨w.heap.size+2,0,none⟩=some (.bool X)/\w'.cell? ⟨w.heap.size+2,1,none⟩=some (.slice ab (A9 E.num.natAbs).length ak)/\w'.cell? ⟨w.heap.size+3,0,none⟩=some (.bool Y)/\w'.cell? ⟨w.heap.size+3,1,none⟩=some (.slice ac (A9 F.num.natAbs).length al))
  (first
    |exact⟨bC,bG,b5,ca,bM,bQ,bV,b0⟩
    |exact⟨bF,bJ,b7,cb,bN,bR,bX,b1⟩
    |exact⟨bD,bH,b3,b8,bK,bO,bT,bY⟩
    |exact⟨bE,bI,b4,b9,bL,bP,bU,bZ⟩)
  (first
    |(go_at_call 168;have hc:=zre (E9 (zmq (uQ S.drew br))) (E9 (zmq (uQ S.drew bv))) (r _) (r _) (o ae.out og) (o ah.out og);(with_reducible refine hc.mono ?_);clear hc;rintro K i ⟨⟨dz,rfl,aQ⟩,g⟩;have bp:=a (U0 aQ (uS S.drew J));obtain⟨cq,dv,rfl,_,_,_⟩:=id aQ;obtain⟨bF,bJ,cA⟩:=C3 (uR i k);obtain⟨b7,cb,cV⟩:=C3 (uR i v);obtain⟨bN,bR,cH⟩:=C3 (uR i l);obtain⟨bX,b1,cO⟩:=C3 (uR i m);obtain⟨cW,c1,c6⟩:=C3 (uR i c);obtain⟨dc,di,dp⟩:=F7 (uR i c))
    |(go_at_call 168;have hc:=zre (E9 (zmq (uQ i bt))) (E9 (zmq (uQ i bu))) (r _) (r _) (o af.out og) (o ag.out og);(with_reducible refine hc.mono ?_);clear hc;rintro K H ⟨⟨dA,rfl,aR⟩,g⟩;have bq:=a (U0 aR (uS i J));obtain⟨cr,dw,rfl,_,_,_⟩:=id aR;obtain⟨bD,bH,cx⟩:=C3 (uR H k);obtain⟨b3,b8,cR⟩:=C3 (uR H v);obtain⟨bK,bO,cD⟩:=C3 (uR H l);obtain⟨bT,bY,cK⟩:=C3 (uR H m);obtain⟨cX,c2,c7⟩:=C3 (uR H c);obtain⟨dd,dj,dq⟩:=F7 (uR H c))
    |(go_at_call 176;have hc:=ysm Q R (E9 (IsK.stb.old (uF H bp))) (E9 (IsK.stb.old bq.out)) (o (znt ae.out ah.out) og) (o (znt af.out ag.out) og);(with_reducible refine hc.mono ?_);clear hc;rintro K I ⟨⟨s,dB,n,rfl,aP,aS,aO⟩,g⟩;have bn:=a (U0 aS (uS H J));obtain⟨cs,dx,rfl,_,_,_⟩:=id aS;have bm:=a aO;have U:=a (a5.out s n aP.out);clear aP aO;obtain⟨bE,bI,cy⟩:=C3 (uR I k);obtain⟨b4,b9,cS⟩:=C3 (uR I v);obtain⟨bL,bP,cE⟩:=C3 (uR I l);obtain⟨bU,bZ,cL⟩:=C3 (uR I m);obtain⟨cY,c3,c8⟩:=C3 (uR I c);obtain⟨de,dk,dr⟩:=F7 (uR I c)))
 go_wp2_with fail;clear zkf zpg;refine(yvt bn.out (uS I J) (uN I a4) (o bm.out og) (o bf.out og) be.out).mono ?_;rintro K j ⟨⟨dC,rfl,aT⟩,g⟩;have T:=a (aT);obtain⟨ct,dy,rfl,_,_,_⟩:=id aT;obtain⟨cu,cv,cz⟩:=C3 (uR j k);obtain⟨cP,cQ,cU⟩:=C3 (uR j v);obtain⟨cB,cC,cF⟩:=C3 (uR j l);obtain⟨cI,cJ,cM⟩:=C3 (uR j m);obtain⟨cZ,c4,c9⟩:=C3 (uR j c);obtain⟨df,dm,ds⟩:=F7 (uR j c);cases s with
 |false=>go_wp2_with fail;refine(zmt _).mono ?_;rintro K b ⟨⟨aX,rfl,y⟩,g⟩;have O:=a (U0 y (uS j J));obtain⟨ai,aU,rfl,_,_,_⟩:=id y;obtain⟨ao,aq,ar⟩:=C3 (uR b k);obtain⟨aC,aD,aE⟩:=C3 (uR b v);obtain⟨au,av,ay⟩:=C3 (uR b l);obtain⟨az,aA,aB⟩:=C3 (uR b m);obtain⟨aG,aH,aI⟩:=C3 (uR b c);obtain⟨aJ,aK,aL⟩:=F7 (uR b c);go_wp2_with fail;refine W5 Tryz.results129 rfl rfl (Row.put3 (uR b c) _ _ _) (znh (by rw[U.out,yby];rfl) (uB b P) og (uF b T) O.out og og)
 |true=>
  rcases Nat.eq_zero_or_pos (n/d) with M|M
  ·have cc:decide (0<(A9 (n/d)).length)=false:=(by rw[M,M6];rfl);have N:=a M;clear M;go_wp2_with fail;refine(zmt _).mono ?_;rintro K b ⟨⟨aX,rfl,y⟩,g⟩;have O:=a (U0 y (uS j J));obtain⟨ai,aU,rfl,_,_,_⟩:=id y;obtain⟨ao,aq,ar⟩:=C3 (uR b k);obtain⟨aC,aD,aE⟩:=C3 (uR b v);obtain⟨au,av,ay⟩:=C3 (uR b l);obtain⟨az,aA,aB⟩:=C3 (uR b m);obtain⟨aG,aH,aI⟩:=C3 (uR b c);obtain⟨aJ,aK,aL⟩:=F7 (uR b c);go_wp2_with fail;refine W5 Tryz.results129 rfl rfl (Row.put3 (uR b c) _ _ _) (znh (by rw[U.out,yby];rw[N.out];rfl) (uB b P) og (uF b T) O.out og og)
  ·have cc:decide (0<(A9 (n/d)).length)=true:=decide_eq_true (yti og);have N:=a M;clear M;go_wp2_with fail;refine(zmt _).mono ?_;rintro K b ⟨⟨aX,rfl,y⟩,g⟩;have O:=a (U0 y (uS j J));obtain⟨ai,aU,rfl,_,_,_⟩:=id y;obtain⟨ao,aq,ar⟩:=C3 (uR b k);obtain⟨aC,aD,aE⟩:=C3 (uR b v);obtain⟨au,av,ay⟩:=C3 (uR b l);obtain⟨az,aA,aB⟩:=C3 (uR b m);obtain⟨aG,aH,aI⟩:=C3 (uR b c);obtain⟨aJ,aK,aL⟩:=F7 (uR b c);go_wp2_with fail;refine W5 Tryz.results129 rfl rfl (Row.put3 (uR b c) _ _ _) (znh (by rw[U.out,yby];rw[decide_eq_true N.out];rfl) (uB b P) og (uF b T) O.out og og)
structure MatW (w:f) (S:Nat->Prop) (r0:Nat) (e cp:Nat->Nat) (n m:Nat) (A:Nat->Nat->Int):Prop where
 hd:∀i,i<n->w.cell? ⟨r0,i,none⟩=some (.slice (some ⟨e i,0,none⟩) m (cp i))
 hf:∀i,i<n->w.frozen? ⟨r0,i,none⟩=false
 cap:∀i,i<n->m<=cp i/\cp i<=maxLen
 el:∀i j,i<n->j<m->∃P k Q l,w.cell? ⟨e i,j*3,none⟩=some (.bool (decide (A i j<0)))/\w.cell? ⟨e i,j*3+1,none⟩=some (.slice P (A9 (A i j).natAbs).length k)/\w.cell? ⟨e i,j*3+2,none⟩=some (.slice Q (A9 1).length l)/\
  IsQ w S (.agg #[.bool (decide (A i j<0)),.slice P (A9 (A i j).natAbs).length k,.slice Q (A9 1).length l]) ((A i j:Int):Rat)
 ef:∀i o,i<n->o<m*3->w.frozen? ⟨e i,o,none⟩=false
 inj:∀i k,i<n->k<n->e i=e k->i=k
 sep:∀i,i<n->e i≠r0/\¬S (e i)/\e i<w.heap.size
 s0:¬S r0/\r0<w.heap.size
 sS:∀b,S b->b<w.heap.size
theorem MatW.keep {w w':f} {r0:Nat} {cp:Nat->Nat} {A:Nat->Nat->Int} (h:MatW w S r0 e cp n m A) (B:w.heap.size<=w'.heap.size)
 (p:w'.heap[r0]? =w.heap[r0]?) (hr:∀i,i<n->w'.heap[e i]? =w.heap[e i]?) (x:∀b,S b->w'.heap[b]? =w.heap[b]?)
 (y:∀b,S b->T b) (o:∀b,T b->S b\/(w.heap.size<=b/\b<w'.heap.size)):MatW w' T r0 e cp n m A where
 hd i hi:=(s p).trans (h.hd i hi)
 hf i hi:=(World.frozen?_of_block p).trans (h.hf i hi)
 cap:=h.cap
 el i j hi hj:=by
  obtain⟨t,k,u,l,d,g,q,v⟩:=h.el i j hi hj
  exact⟨t,k,u,l,(s (hr i hi)).trans d,(s (hr i hi)).trans g,(s (hr i hi)).trans q,IsQ.stb.to v fun b c=>⟨y b c,fun r=>s (x b c)⟩⟩
 ef i r hi z:=(World.frozen?_of_block (hr i hi)).trans (h.ef i r hi z);inj:=h.inj;sep i hi:=(by obtain⟨d,g,q⟩:=h.sep i hi;exact⟨d,fun h=>by rcases o _ h with h|h;exact g h;omega,by omega⟩);s0:=⟨fun a=>by rcases o _ a with a|a;exact h.s0.1 a;have:=h.s0.2;omega,by have:=h.s0.2;omega⟩
 sS b c:=by
  rcases o b c with a|a
  ·have:=h.sS b a;omega
  ·exact a.2
theorem MatW.next {w w':f} {r0:Nat} {cp:Nat->Nat} {A:Nat->Nat->Int} (h:MatW w S r0 e cp n m A) (a:Below w.heap.size w w')
 (c:∀b,S b->T b) (d:∀b,T b->S b\/(w.heap.size<=b/\b<w'.heap.size)):MatW w' T r0 e cp n m A:=
 h.keep a.size (a.block _ h.s0.2) (fun i j=>a.block _ (h.sep i j).2.2) (fun b g=>a.block _ (h.sS b g)) c d
theorem zqk (w:f) (a:Addr) (b:q):(w.setCell a b).heap.size=w.heap.size:=by simp[World.setCell]
abbrev L9 (w:f) (b j:Nat) (x y z:q):f:=((w.setCell ⟨b,j*3,none⟩ x).setCell ⟨b,j*3+1,none⟩ y).setCell ⟨b,j*3+2,none⟩ z
theorem zos {w:f} {x y z:q} {e:Nat} (h:c≠b\/e<j*3\/j*3+3<=e):(L9 w b j x y z).cell? ⟨c,e,none⟩=w.cell? ⟨c,e,none⟩:=by unfold L9;rw[d _ _ _ _ (fun a=>by injection a with g i;omega),d _ _ _ _ (fun a=>by injection a with g i;omega),d _ _ _ _ (fun a=>by injection a with g i;omega)]
theorem yip {w:f} {x y z k g h:q} (i:w.cell? ⟨b,j*3,none⟩=some k) (c:w.cell? ⟨b,j*3+1,none⟩=some g) (e:w.cell? ⟨b,j*3+2,none⟩=some h):
 (L9 w b j x y z).cell? ⟨b,j*3,none⟩=some x/\(L9 w b j x y z).cell? ⟨b,j*3+1,none⟩=some y/\(L9 w b j x y z).cell? ⟨b,j*3+2,none⟩=some z:=by
 unfold L9;refine⟨?_,?_,?_⟩
 ·rw[d _ _ _ _ (fun a=>by injection a with c e;omega),d _ _ _ _ (fun a=>by injection a with c e;omega)];exact World.cell?_setCell_same _ _ _ i
 ·rw[d _ _ _ _ (fun a=>by injection a with c e;omega)];refine World.cell?_setCell_same _ _ _ (u:=g) ?_;rw[d _ _ _ _ (fun a=>by injection a with c e;omega)];exact c
 ·refine World.cell?_setCell_same _ _ _ (u:=h) ?_;rw[d _ _ _ _ (fun a=>by injection a with c e;omega),d _ _ _ _ (fun a=>by injection a with c e;omega)];exact e
theorem yiq {w:f} {x y z:q} (a:Addr):(L9 w b j x y z).frozen? a=w.frozen? a:=by unfold L9;simp
theorem zpl {w:f} {x y z:q}:(L9 w b j x y z).heap.size=w.heap.size:=by unfold L9;rw[zqk,zqk,zqk]
def zwe (A:Nat->Nat->Int) (i j:Nat) (z:Int):Nat->Nat->Int:=fun a b=>if a=i/\b=j then z else A a b
theorem MatW.put {w:f} {r0:Nat} {cp:Nat->Nat} {A:Nat->Nat->Int} (h:MatW w S r0 e cp n m A) (v:i<n) (M:j<m) {z:Int} {d g:Option Addr} {l:Nat}
 (L:IsQ w S (.agg #[.bool (decide (z<0)),.slice d (A9 z.natAbs).length k,.slice g (A9 1).length l]) ((z:Int):Rat)):
 MatW (L9 w (e i) j (.bool (decide (z<0))) (.slice d (A9 z.natAbs).length k) (.slice g (A9 1).length l)) S r0 e cp n m (zwe A i j z) where
 hd a ha:=(zos (.inl (Ne.symm (h.sep i v).1))).trans (h.hd a ha)
 hf a ha:=(yiq _).trans (h.hf a ha)
 cap:=h.cap
 el a b ha p:=by
  have C:L1 S S w (L9 w (e i) j (.bool (decide (z<0))) (.slice d (A9 z.natAbs).length k) (.slice g (A9 1).length l)):=fun c hc=>⟨hc,fun F=>zos (.inl fun o=>(h.sep i v).2.1 (by rw[<-o];exact hc))⟩
  by_cases u:a=i/\b=j
  ·obtain⟨rfl,rfl⟩:=u
   obtain⟨y,D,B,E,r,s,t,_⟩:=h.el a b ha p
   obtain⟨G,H,I⟩:=yip (x:= .bool (decide (z<0))) (y:= .slice d (A9 z.natAbs).length k) (z:= .slice g (A9 1).length l) r s t
   have x:zwe A a b z a b=z:=by unfold zwe;rw[if_pos ⟨rfl,rfl⟩]
   rw[x]
   exact⟨d,k,g,l,G,H,I,IsQ.stb.to L C⟩
  ·obtain⟨y,D,B,E,r,s,t,J⟩:=h.el a b ha p
   have x:zwe A i j z a b=A a b:=by unfold zwe;rw[if_neg u]
   have N:e a≠e i\/b<j\/j<b:=by
    by_cases o:a=i
    ·have:b≠j:=fun q=>u ⟨o,q⟩
     omega
    ·exact .inl fun q=>o (h.inj a i ha v q)
   rw[x]
   exact⟨y,D,B,E,(zos og).trans r,(zos og).trans s,(zos og).trans t,IsQ.stb.to J C⟩
 ef a F ha K:=(yiq _).trans (h.ef a F ha K);inj:=h.inj;sep a ha:=⟨(h.sep a ha).1,(h.sep a ha).2.1,by rw[zpl];exact(h.sep a ha).2.2⟩;s0:=⟨h.s0.1,by rw[zpl];exact h.s0.2⟩;sS b p:=by rw[zpl];exact h.sS b p
def swF {c:Type} (b:Nat->c) (i k:Nat):Nat->c:=fun a=>if a=i then b k else if a=k then b i else b a
theorem zow {b:Type} (a:Nat->b) (i k:Nat):swF a i k i=a k:=if_pos rfl
theorem zox {b:Type} (a:Nat->b) (i k:Nat):swF a i k k=a i:=by
 unfold swF;split
 ·rename_i h;rw[h]
 ·rw[if_pos rfl]
theorem zns {e:Type} (b:Nat->e) {a:Nat} (c:a≠i) (d:a≠k):swF b i k a=b a:=by unfold swF;rw[if_neg c,if_neg d]
theorem MatW.swap {w:f} {r0:Nat} {cp:Nat->Nat} {A:Nat->Nat->Int} (h:MatW w S r0 e cp n m A) (r:i<n) (s:k<n) (I:i≠k):
 MatW ((w.setCell ⟨r0,i,none⟩ (.slice (some ⟨e k,0,none⟩) m (cp k))).setCell ⟨r0,k,none⟩ (.slice (some ⟨e i,0,none⟩) m (cp i))) S r0 (swF e i k) (swF cp i k) n m (swF A i k):=by
 have oth:∀b u,b≠r0->((w.setCell ⟨r0,i,none⟩ (.slice (some ⟨e k,0,none⟩) m (cp k))).setCell ⟨r0,k,none⟩ (.slice (some ⟨e i,0,none⟩) m (cp i))).cell? ⟨b,u,none⟩=w.cell? ⟨b,u,none⟩:=fun b u q=>(by rw[d _ _ _ _ (fun p=>by injection p with g j;exact q g.symm),d _ _ _ _ (fun p=>by injection p with g j;exact q g.symm)]);have t:∀a,a<n->a=i\/a=k\/(a≠i/\a≠k):=fun a _=>(by omega);refine⟨fun a ha=> ?_,fun a ha=> ?_,fun a ha=> ?_,fun a b ha q=> ?_,fun a u ha H=> ?_,fun a b ha q o=> ?_,fun a ha=> ?_,⟨h.s0.1,by rw[zqk,zqk];exact h.s0.2⟩,fun b q=>by rw[zqk,zqk];exact h.sS b q⟩
 ·rcases t a ha with rfl|rfl|⟨g,j⟩
  ·rw[zow,zow,d _ _ _ _ (fun p=>by injection p with g j;omega)];exact World.cell?_setCell_same _ _ _ (h.hd _ r)
  ·rw[zox,zox];refine World.cell?_setCell_same _ _ _ (u:= .slice (some ⟨e a,0,none⟩) m (cp a)) ?_;rw[d _ _ _ _ (fun p=>by injection p with g j;omega)];exact h.hd _ s
  ·rw[zns _ g j,zns _ g j,d _ _ _ _ (fun p=>by injection p with D E;omega),d _ _ _ _ (fun p=>by injection p with D E;omega)];exact h.hd a ha
 ·simp only[World.frozen?_setCell];exact h.hf a ha
 ·rcases t a ha with rfl|rfl|⟨g,j⟩
  ·rw[zow];exact h.cap _ s
  ·rw[zox];exact h.cap _ r
  ·rw[zns _ g j];exact h.cap _ ha
 ·have G:L1 S S w ((w.setCell ⟨r0,i,none⟩ (.slice (some ⟨e k,0,none⟩) m (cp k))).setCell ⟨r0,k,none⟩ (.slice (some ⟨e i,0,none⟩) m (cp i))):=fun c hc=>⟨hc,fun u=>oth c u fun p=>h.s0.1 (by rw[<-p];exact hc)⟩;rcases t a ha with rfl|rfl|⟨g,j⟩
  ·rw[zow,zow];obtain⟨v,F,x,l,y,z,B,C⟩:=h.el _ b s q;exact⟨v,F,x,l,(oth _ _ (h.sep _ s).1).trans y,(oth _ _ (h.sep _ s).1).trans z,(oth _ _ (h.sep _ s).1).trans B,IsQ.stb.to C G⟩
  ·rw[zox,zox];obtain⟨v,F,x,l,y,z,B,C⟩:=h.el _ b r q;exact⟨v,F,x,l,(oth _ _ (h.sep _ r).1).trans y,(oth _ _ (h.sep _ r).1).trans z,(oth _ _ (h.sep _ r).1).trans B,IsQ.stb.to C G⟩
  ·rw[zns _ g j,zns _ g j];obtain⟨v,F,x,l,y,z,B,C⟩:=h.el _ b ha q;exact⟨v,F,x,l,(oth _ _ (h.sep _ ha).1).trans y,(oth _ _ (h.sep _ ha).1).trans z,(oth _ _ (h.sep _ ha).1).trans B,IsQ.stb.to C G⟩
 ·simp only[World.frozen?_setCell];rcases t a ha with rfl|rfl|⟨g,j⟩
  ·rw[zow];exact h.ef _ _ s H
  ·rw[zox];exact h.ef _ _ r H
  ·rw[zns _ g j];exact h.ef _ _ ha H
 ·rcases t a ha with rfl|rfl|⟨g,j⟩<;>rcases t b q with rfl|rfl|⟨D,E⟩
  ·rfl
  ·rw[zow,zox] at o;exact absurd (h.inj _ _ s r o) og
  ·rw[zow,zns _ D E] at o;exact absurd (h.inj _ _ s q o) og
  ·rw[zox,zow] at o;exact absurd (h.inj _ _ r s o) og
  ·rfl
  ·rw[zox,zns _ D E] at o;exact absurd (h.inj _ _ r q o) og
  ·rw[zns _ g j,zow] at o;exact absurd (h.inj _ _ ha s o) og
  ·rw[zns _ g j,zox] at o;exact absurd (h.inj _ _ ha r o) og
  ·rw[zns _ g j,zns _ D E] at o;exact h.inj _ _ ha q o
 ·rw[zqk,zqk];rcases t a ha with rfl|rfl|⟨g,j⟩
  ·rw[zow];exact h.sep _ s
  ·rw[zox];exact h.sep _ r
  ·rw[zns _ g j];exact h.sep _ ha
theorem ybk (w:f) (a n:Int) (l: -9223372036854775808<=a) (m:a<=9223372036854775807) (q:1<=n) (r:n<=1000000000):
 t p 10 #[.int .i64 a,.int .i64 n] w fun e w'=>e= .returned (.int .i64 (a%n))/\w=w':=by
 have j:=Int.emod_nonneg a (show n≠0 by omega);have k:=Int.emod_lt_of_pos a (show 0<n by omega)
 have b:(a.tmod n=a%n/\(a<0->a%n=0))\/a.tmod n=a%n-n:=by
  rw[Int.tmod_eq_emod];split
  ·rename_i hd;refine .inl ⟨by omega,fun u=> ?_⟩;rcases hd with hd|hd
   ·omega
   ·exact Int.emod_eq_zero_of_dvd hd
  ·exact .inr og
 rcases Int.lt_or_le a 0 with h|h
 ·have s:(n==0)=false:=beq_eq_false_iff_ne.2 og;rcases Int.lt_or_le (a.tmod n) 0 with g|g
  ·(have c:Hid (a.tmod n+n=a%n):=by unfold Hid;rcases b with⟨d,i⟩|d<;>omega);have o: -1000000000<=a.tmod n:=oh c;clear b;go_in;go_wp2;go_ret;exact⟨I0 c.out,rfl⟩
  ·(have c:Hid (a.tmod n=a%n):=by unfold Hid;rcases b with⟨d,i⟩|d<;>omega);clear b;go_in;go_wp2;go_ret;exact⟨I0 c.out,rfl⟩
 ·clear b;go_in;go_wp2;go_ret;exact⟨rfl,rfl⟩
def IsD (w:f) (g:Nat) (l:List Int):Prop:=
 ∃A c k,Row w g 25 [.slice A l.length c,.int .i64 ((k:Nat):Int)]/\IsIL w (fun b=>b<g) (.slice A l.length c) l/\k<=l.length
theorem IsD.lt {w:f} (h:IsD w g l):g<w.heap.size:=by obtain⟨A,c,k,a,_⟩:=h;exact a.lt
theorem IsD.next {w w':f} {B:Nat} (h:IsD w g l) (a:Below B w w') (hg:g<B):IsD w' g l:=by obtain⟨A,c,k,d,e,i⟩:=h;exact⟨A,c,k,d.below a hg,IsIL.stb.to e (zqg a fun b h=>Nat.lt_trans h hg),i⟩
theorem IsD.grown {w w':f} {r:Nat} (h:IsD w g l) (a:w.grownBy w' (some r)) (hr:g<r):IsD w' g l:=by have n:=h.lt;obtain⟨A,c,k,e,i,j⟩:=h;exact⟨A,c,k,e.grown a (fun d=>by cases d;omega),IsIL.stb.to i (yyz a fun b m=>⟨by omega,by omega⟩),j⟩
theorem IsD.far {w:f} (h:IsD w g l) {p:Addr} (a:g<p.block) (e:q):IsD (w.setCell p e) g l:=by obtain⟨A,c,k,j,m,n⟩:=h;refine⟨A,c,k,j.far og e,IsIL.stb.to m fun b o=>⟨o,fun r=> ?_⟩,n⟩;rw[d _ _ _ _ (fun i=>by rw[i] at a;simp at a;omega)]
theorem Only.grown {a b:f} (h:Only g a b):a.grownBy b (some g):=⟨h.os,h.tape,h.output,Nat.le_of_eq h.size.symm,fun k d hr=>h.block k (fun c=>hr (by rw[c]))⟩
def ylu (n:Nat) (a:Ending):Prop:=∃x:Nat,x<n/\a= .returned (.int .i64 (x:Int))
theorem yvc {w:f} (h:IsD w g l) (ao:1<=n) (aq:n<=1000000):
 t p 25 #[.pointer (some ⟨g,0,none⟩),.int .i64 (n:Int)] w fun u w'=>ylu n u/\IsD w' g l/\Only g w w':=by
 obtain⟨A,c,k,hr,o,ad⟩:=id h;obtain⟨T,Q,P⟩:=G4 hr o h;have j:=hr.cell 0;have E:=hr.cell 1;have H:=hr.frozen 1;have K:l.length<=maxLen:=(by obtain⟨_,_,hv,ab,ac,_⟩:=o;omega);unfold maxLen at K;simp at j E;have hg:=hr.lt;obtain⟨m,q⟩:=nm (l.length);have C:=a q;have av:decide ((n:Int)<1)=false:=(by simp;omega);rcases D k l.length with L|aj
 ·obtain⟨x,M⟩:∃x,l[k]? =some x:=⟨_,z L⟩;obtain⟨I,b,off,rfl,ai,hc⟩:=ysh o M;have W:=a hc;rw[<-q] at j L K ad;have ae:decide (m<=k)=false:=(by simp;omega);have F:=a I;clear h hr o M hc q I;go_in;go_wp2_with fail;go_quiet (fail);obtain⟨i,e⟩:=nm (w.drewN nq);have Y:i.cell? ⟨g,0,none⟩=some (.slice (some ⟨b,off,none⟩) m c):=(by rw[e];exact j);have Z:i.cell? ⟨g,1,none⟩=some (.int .i64 (k:Int)):=(by rw[e];exact E);have aa:i.frozen? ⟨g,1,none⟩=false:=(by rw[e];exact H);have O:Hid (i.cell? ⟨b,off+k,none⟩=some (.int .i64 x)):=(by rw[e];exact W.out);have U:Hid (Row i g 25 [.slice (some ⟨b,off,none⟩) m c,.int .i64 (k:Int)]):=(by rw[e,C.out];exact T.out.drewN nq);have R:Hid (Only g w i):=(by rw[e];exact(Only.refl g w).drewN nq);rw[<-e];clear j E H e;go_wp2_with fail;obtain⟨y,r⟩:=nm (i.setCell ⟨g,1,none⟩ (.int .i64 ((k:Int)+1)));have B:Hid (Row y g 25 [.slice (some ⟨b,off,none⟩) m c,.int .i64 ((k:Int)+1)]):=(by rw[r];exact U.out.set_ 1 _);have S:Hid (Only g w y):=(by rw[r];exact R.out.setCell 1 _);have d0:=B.out.cell 0;have X:=B.out.cell 1;have af:y.cell? ⟨b,off+k,none⟩=some (.int .i64 x):=(by rw[r,d _ _ _ _ (fun u=>by injection u with ab ac;omega)];exact O.out);simp at d0 X;have ag:IntKind.i64.wrap (k:Int)=(k:Int):=IntWalk.i64_in _ og;have ah:(k:Int).toNat=k:=og;have ak:(0:Int)<=(k:Int):=og;have al:(k:Int)<(m:Int):=og;rw[<-r];clear r Y Z aa;go_quiet ((go_at_call 10;exact Calls.quiet_of_same ((ybk _ x (n:Int) F.out.1 F.out.2 og og).mono fun u w' h=>⟨h.1,h.2.symm⟩)));obtain⟨N,v⟩:=nm (y.drewN nq);have V:Hid (Row N g 25 [.slice (some ⟨b,off,none⟩) m c,.int .i64 ((k:Int)+1)]):=(by rw[v];exact B.out.drewN nq);have G:Hid (Only g w N):=(by rw[v];exact S.out.drewN nq);have m0:=Int.emod_nonneg x (show(n:Int)≠0 by omega);have ar:=Int.emod_lt_of_pos x (show(0:Int)<n by omega);rw[<-v];clear v;go_wp2_with fail;go_ret;refine⟨⟨(x%(n:Int)).toNat,by omega,I0 og⟩,⟨some ⟨b,off,none⟩,c,k+1,by rw[<-C.out];exact V.out,?_,by rw[<-C.out];omega⟩,G.out⟩;exact IsIL.stb.to Q.out fun b J=>⟨J,fun au=>s (G.out.block b (by have:b<g:=J;omega))⟩
 ·have an:k=m:=og;rw[<-q] at j;have ae:decide (m<=k)=true:=(by simp;omega);clear h hr o q;go_in;go_wp2_with fail;go_quiet (fail);go_wp2_with fail;go_ret;exact⟨⟨0,by omega,rfl⟩,P.out.next (Dr.below ⟨nq,rfl⟩ _) hg,(Only.refl g w).drewN nq⟩
theorem zsr {w:f} (h:IsD w g l) (n:Int) (j:1<=n) (k:n<=1000000):
 t p 25 #[.pointer (some ⟨g,0,none⟩),.int .i64 n] w fun b w'=>(∃x:Int,0<=x/\x<n/\b= .returned (.int .i64 x))/\IsD w' g l/\Only g w w':=by have b:n=((n.toNat:Nat):Int):=og;rw[b];exact(yvc h (n:=n.toNat) og og).mono fun b w' ⟨⟨x,m,i⟩,c,e⟩=>⟨⟨x,by omega,by omega,i⟩,c,e⟩
end Go.Proofs.YtdgilbgdkmhcmaaGreatDoor
