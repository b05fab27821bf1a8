/-
 Lists of ints in memory,and c b a in.
-/
import Derived.Test.YtlhhbccgfkhflaaGreatDoorDwv14
namespace Go.Proofs.YtlhhbccgfkhflaaGreatDoor
open Go.RowKit Go.WideShapes Go.ChangeShapes Go.Deep
set_option linter.unusedVariables false
open Go.RowKit
set_option maxRecDepth 100000
set_option maxHeartbeats 8000000
open _root_.Go.Lib renaming hid → a
open _root_.Nat renaming le_refl → c, le_trans → b, lt_or_ge → t, zero_le → u
open _root_.List renaming getD_eq_getElem?_getD → e, getElem?_eq_getElem → o, mem_of_getElem? → p, getElem?_map → k
variable {M : List (List Rat)} {i j m n : Nat} {l r : List Rat} {v va f g : Value}
def zvr (n:Int):Prop:= -9223372036854775808<=n/\n<=9223372036854775807
theorem yca {n:Int} (h:(Lit.int .i64 n).wf=true):zvr n:=by rw[Lit.wf,Bool.and_eq_true,decide_eq_true_eq,decide_eq_true_eq] at h;exact h
def IsIL (w:World) (b:Nat->Prop) (v:Value) (l:List Int):Prop:=
 ∃A a,v= .slice A l.length a/\l.length<=a/\a<=maxLen/\SVS w b A (l.map fun x=> .int .i64 x)/\∀x∈l,zvr x
theorem IsIL.stb:Stb IsIL:=by rintro w w' g T v l ⟨A,a,hv,b,c,d,e⟩ f;exact⟨A,a,hv,b,c,d.same f,e⟩
theorem yuo {w:World} {c:Nat->Prop} {A:Option Addr} {e:Nat} {l:List Int} (h:IsIL w c (.slice A n e) l) {x:Int} (b:l[j]? =some x):
 zvr x/\∃a off,A=some ⟨a,off,none⟩/\c a/\w.cell? ⟨a,off+j,none⟩=some (.int .i64 x):=by obtain⟨q,r,hv,s,t,g,i⟩:=h;simp only[Value.slice.injEq] at hv;obtain⟨rfl,rfl,rfl⟩:=hv;have d:=(List.getElem?_eq_some_iff.1 b).1;obtain⟨a,off,m,o,hc⟩:=g (fun f=>by have:=congrArg List.length f;simp at this;rw[this] at d;simp at d);exact⟨i x (p b),a,off,m,o,hc j _ (by rw[k,b];rfl)⟩
section
variable {H : Type} {enc : TypeId × Value → H} {w : World} {base q : Nat} {sp : Nat → Bool} {held : Bool}
theorem yxy {d:DataW H} {s:List MemPlace} (I:∀x∈s,x.block<w.heap.size) (C:Value.okWide Tryz.prog w .any q 22 v) (h:DataW.Trod enc Tryz.prog w base sp held 22 v d s):∃l:List Int,IsIL w (C5 w) v l:=by
 obtain⟨a,len,cap,rfl⟩:=okWide_slice Tryz.underlying22 C;obtain⟨F,hf⟩:=h;rcases open_ints Tryz.underlying22 Tryz.underlying3 kr hf with⟨hv,_⟩|⟨a,len,cap,f,hv,_,z,A,E,g,y,D⟩
 ·simp only[Value.cells,List.cons.injEq,and_true] at hv;rw[hv];exact⟨[],none,0,rfl,c _,u _,SVS.nil,fun x g=>by cases g⟩
 ·simp only[Value.cells,List.cons.injEq,and_true] at hv;rw[hv];have J:len<=f.length:=(by rw[E];split<;>omega);have p:(f.take len).length=len:=(by simp;omega);refine⟨f.take len,some a,cap,by rw[p],by rw[p];exact z,A,fun B=> ?_,fun x g=>yca (D x (List.mem_of_mem_take g))⟩
  have r:0<f.length:=by
   rcases Nat.eq_zero_or_pos f.length with i|i
   ·exact absurd (by rw[List.length_eq_zero_iff.1 i];simp) B
   ·exact i
  obtain⟨t,off,rfl,n⟩:=ints_at y r;refine⟨t,off,rfl,World.block_lt_of_cell? w _ (n 0 r),fun j K b=> ?_⟩;rw[k,List.getElem?_take] at b;split at b;(case isFalse=>simp at b);case isTrue G=>have m:j<f.length:=og;rw[o m] at b;simp only[Option.map_some,Option.some.injEq] at b;subst b;rw[n j m,e,o m,Option.getD_some]
end
theorem zzl (z:Int):E0 (z:Rat)=⟨decide (z<0),A8 z.natAbs,A8 1⟩:=by unfold E0;rw[Rat.num_intCast,Rat.den_intCast]
theorem zz1361 (n:Nat):E0 (((n:Nat):Int):Rat)=⟨false,A8 n,A8 1⟩:=by rw[zzl,Int.natAbs_natCast];have:¬((n:Int)<0):=og;simp[this]
theorem ztp {w:World} (h:IsN w 0 w.heap.size v n):∃A a,v= .slice A (A8 n).length a/\(A8 n).length<=9223372036854775807:=by have b:=h.length_le;obtain⟨A,a,rfl,_⟩:=h;exact⟨A,a,rfl,by unfold maxLen at b;omega⟩
theorem ypr (w:World) (b c d i j:Array Value) (f g h k l:TypeId):∃a,((((w.alloc (.cells b f)).alloc (.cells c g)).alloc (.cells d h)).alloc (.cells i k)).alloc (.cells j l)=a/\Below w.heap.size w a/\Row a w.heap.size f b.toList/\Row a (w.heap.size+1) g c.toList/\
 Row a (w.heap.size+2) h d.toList/\Row a (w.heap.size+3) k i.toList/\Row a (w.heap.size+4) l j.toList/\Hid (a.heap.size=w.heap.size+5):=by obtain⟨u,rfl,p,q,r,s,t⟩:=znc w b c d f g h;obtain⟨v,rfl,e,m,n,o⟩:=zkd ((((w.alloc (.cells b f)).alloc (.cells c g)).alloc (.cells d h))) i j k l;rw[t.out] at m n o;exact⟨_,rfl,C8 p e,q.next e,r.next e,s.next e,m,n,o⟩
theorem yem {w:World} (h:IsN w 0 w.heap.size v n) (g:(A8 n).length<=4294967296):Calls Tryz.prog 120 #[.bool false,v] w (K8 w (((n:Nat):Int):Rat)):=by have m:=a h;obtain⟨A,C,rfl,V⟩:=ztp h;have o:=a g;clear h g;obtain⟨y,x,f,k,p⟩:=J9 w #[.bool false,.slice none 0 0,.slice none 0 0] 30;obtain⟨b,e⟩:=C7 (k) (f);have l:Hid (w.heap.size+1<=y.heap.size):=a (Nat.le_of_eq p.out.symm);clear k f;obtain⟨D,G,J⟩:=C0 b.out;obtain⟨M,P,S⟩:=E9 b.out;have q:=a (IsN.next m.out e.out);go_in;go_wp2_with fail;clear x;refine(zrg q.out o.out).mono ?_;rintro t d ⟨⟨Y,rfl,i⟩,u⟩;have r:=a (U2 i l.out);obtain⟨z,W,rfl,_,_,_⟩:=id i;obtain⟨E,H,K⟩:=C0 (uR d b);obtain⟨N,Q,T⟩:=E9 (uR d b);go_wp2_with fail;refine(znn _).mono ?_;rintro t c ⟨⟨Z,rfl,j⟩,u⟩;have s:=a (U2 j (uS d l));obtain⟨B,X,rfl,_,_,_⟩:=id j;obtain⟨F,I,L⟩:=C0 (uR c b);obtain⟨O,R,U⟩:=E9 (uR c b);go_wp2_with fail;refine U5 Tryz.results120 rfl rfl (Row.put3 (uR c b) _ _ _) (znq (zz1361 n) (uB c e) og (uF c r) s.out og og)
theorem zz1360 {q:Rat} (h:0<n/q.den):E0 ((q.num*((n/q.den:Nat):Int):Int):Rat)=⟨decide (q.num<0),A8 (q.num.natAbs*(n/q.den)),A8 1⟩:=by
 rw[zzl,Int.natAbs_mul,Int.natAbs_natCast];congr 1;rw[decide_eq_decide];have b:(0:Int)<((n/q.den:Nat):Int):=og;constructor
 ·intro c;rcases Int.lt_or_le q.num 0 with a|a
  ·exact a
  ·have:=Int.mul_nonneg a (Int.le_of_lt b);omega
 ·exact fun c=>Int.mul_neg_of_neg_of_pos c b
theorem yco {w:World} {q:Rat} (h:IsQ w (C5 w) va q) (l:IsN w 0 w.heap.size g n) (H:Sz q 100000) (G:(A8 n).length<=1000000) (E:0<n/q.den):Calls Tryz.prog 167 #[va,g] w (K8 w ((q.num*((n/q.den:Nat):Int):Int):Rat)):=by
 have P:=a h;obtain⟨m,p,x,r,y,rfl,R,ai,ah⟩:=F9 h;have O:=a l;obtain⟨C,aE,rfl,aS⟩:=ztp l;obtain⟨t,s⟩:=C7 H G;have S:Hid (E0 ((q.num*((n/q.den:Nat):Int):Int):Rat)=⟨m,A8 (q.num.natAbs*(n/q.den)),A8 1⟩):=(by rw[Hid,R.out];exact zz1360 E);have Q:Hid (0<q.den):=q.den_pos;clear h l H G E;obtain⟨o,ag,k,ra,L,T⟩:=zkd w #[.bool m,.slice p (A8 q.num.natAbs).length x,.slice r (A8 q.den).length y] #[.bool false,.slice none 0 0,.slice none 0 0] 30 30;have u:=nQ P k;obtain⟨j,d,v⟩:=F0 (ra) (L) (k);have M:Hid (w.heap.size+2<=o.heap.size):=a (Nat.le_of_eq T.out.symm);clear ra L k;obtain⟨X,aa,ad⟩:=C0 j.out;obtain⟨an,au,aA⟩:=C0 d.out;obtain⟨aG,aK,aO⟩:=E9 d.out;have U:=a (IsN.next O.out v.out);go_in;go_wp2_with fail;clear ag
 go_region_held3 (fun w'=>w'.cell? ⟨w.heap.size,0,none⟩=some (.bool m)/\w'.cell? ⟨w.heap.size,1,none⟩=some (.slice p (A8 q.num.natAbs).length x)/\w'.cell? ⟨w.heap.size,2,none⟩=some (.slice r (A8 q.den).length y))
  (first
    |exact⟨X,aa,ad⟩
    |exact⟨Y,ab,ae⟩
    |exact⟨Z,ac,af⟩
    |exact⟨z,A,B⟩
    |exact⟨zkj z og,zkj A og,zkj B og⟩)
  (first
    |(go_at_call 169;have hc:=zoo (zrn (uN o.drew U)) (F7 (zms (uQ o.drew u))) (b s.out og) (b t.out.2 og) Q.out;(with_reducible refine hc.mono ?_);clear hc;rintro D f ⟨⟨aW,rfl,I⟩,F⟩;have N:=a (I);obtain⟨aj,aT,rfl,_,_,_⟩:=id I;obtain⟨Y,ab,ae⟩:=C0 (uR f j);obtain⟨ao,av,aB⟩:=C0 (uR f d);obtain⟨aH,aL,aP⟩:=E9 (uR f d))
    |(go_at_call 160;have hc:=zmv (F7 (zls (uQ f u))) (F7 N.out) (c _) (c _) (b t.out.1 og) (b (znx s.out) og);(with_reducible refine hc.mono ?_);clear hc;rintro D i ⟨⟨aX,rfl,J⟩,F⟩;have V:=a (U2 J (uS f M));obtain⟨ak,aU,rfl,_,_,_⟩:=id J;obtain⟨Z,ac,af⟩:=C0 (uR i j);obtain⟨aq,ay,aC⟩:=C0 (uR i d);obtain⟨aI,aM,aQ⟩:=E9 (uR i d))
    |(go_at_call 130;have hc:=znn i;(with_reducible refine hc.mono ?_);clear hc;rintro D e ⟨⟨aY,rfl,K⟩,F⟩;have W:=a (U2 K (uS i M));obtain⟨al,aV,rfl,_,_,_⟩:=id K;obtain⟨z,A,B⟩:=C0 (uR e j);obtain⟨ar,az,aD⟩:=C0 (uR e d);obtain⟨aJ,aN,aR⟩:=E9 (uR e d)))
 go_wp2_with fail;refine U5 Tryz.results167 rfl rfl (Row.put3 (uR e d) _ _ _) (znq S.out (uB e v) og (uF e V) W.out og og)
theorem yld {w:World} {d:Nat} {q:Rat} (s:Bool) (ay:IsN w 0 w.heap.size g n) (hd:IsN w 0 w.heap.size f d) (aE:Bru w) (aI:(A8 n).length<=1000000) (aH:(A8 d).length<=1000000) (aG:d≠0) (aJ:q=mkRat (sg s n) d):Calls Tryz.prog 171 #[.bool s,g,f] w (K8 w q):=by
 obtain⟨Y,W,V,H,v,S⟩:=zpu ay hd aE aI aH aJ;obtain⟨A,bD,rfl,bF⟩:=ztp ay;obtain⟨C,bE,rfl,bG⟩:=ztp hd;clear ay hd aE aI aH aJ;by_cases I:n=0
 ·have a4:(((A8 n).length:Int)==0)=true:=zur I;have aK:Hid (q=0):=(by rw[Hid,S.out,I,zzs];simp);clear I;obtain⟨E,D,l,m,z⟩:=J9 w #[.bool false,.slice none 0 0,.slice none 0 0] 30;obtain⟨c,h⟩:=C7 (m) (l);have o:Hid (w.heap.size+1<=E.heap.size):=a (Nat.le_of_eq z.out.symm);clear m l;obtain⟨af,ah,aj⟩:=C0 c.out;obtain⟨al,ao,ar⟩:=E9 c.out;go_in;go_wp2_with fail;clear D;refine(zrb _).mono ?_;rintro i e ⟨⟨aA,rfl,hv⟩,k⟩;have ae:=a (IsQ.stb.le hv o.out);obtain⟨bv,ab,az,aL,bu,rfl,_,_,_⟩:=F9 hv;obtain⟨ag,ai,ak⟩:=C0 (uR e c);obtain⟨an,aq,au⟩:=E9 (uR e c);go_wp2_with fail;rw[aK.out];refine U5 Tryz.results171 rfl rfl (Row.put3 (uR e c) _ _ _) (zmw ae.out (uB e h) og og)
 have a4:(((A8 n).length:Int)==0)=false:=zpe I;obtain⟨Z,y⟩:=C7 I aG;clear I aG;by_cases av:(A8 n).length<=2/\(A8 d).length<=2
 ·obtain⟨aC,aD⟩:=av;have aB:decide (((A8 n).length:Int)<=2)=true:=(by simp;omega);have a5:decide (((A8 d).length:Int)<=2)=true:=(by simp;omega);have bC:n<1000000000000000000:=zwm aC;have b2:d<1000000000000000000:=zwm aD;obtain⟨aQ,aR⟩:=C7 aC aD;obtain⟨E,D,l,m,z⟩:=J9 w #[.bool false,.slice none 0 0,.slice none 0 0] 30;obtain⟨c,h⟩:=C7 (m) (l);have o:Hid (w.heap.size+1<=E.heap.size):=a (Nat.le_of_eq z.out.symm);clear m l;obtain⟨af,ah,aj⟩:=C0 c.out;obtain⟨al,ao,ar⟩:=E9 c.out;obtain⟨B,x,J⟩:=F0 (IsN.next Y.out h.out) (IsN.next W.out h.out) (Bru.next V.out h.out);go_in;go_wp2_with fail;clear D;refine(zsy B.out aQ.out).mono ?_;rintro i e ⟨rfl,rfl⟩;go_wp2_with fail;refine(zsy x.out aR.out).mono ?_;rintro i e ⟨rfl,rfl⟩;go_wp2_with fail;refine(yns _ s n d J.out Z.out y.out og og).mono ?_;rintro i e ⟨⟨aA,rfl,hv⟩,k⟩;have ae:=a (IsQ.stb.le hv o.out);obtain⟨bv,ab,az,aL,bu,rfl,_,_,_⟩:=F9 hv;obtain⟨ag,ai,ak⟩:=C0 (uR e c);obtain⟨an,aq,au⟩:=E9 (uR e c);go_wp2_with fail;rw[S.out];refine U5 Tryz.results171 rfl rfl (Row.put3 (uR e c) _ _ _) (zmw ae.out (uB e h) og og)
 rcases t 2 (A8 n).length with bn|bn
 ·have aB:decide (((A8 n).length:Int)<=2)=false:=(by simp;omega);clear av;obtain⟨r,j⟩:=nm (Nat.gcd n d);have aa:Hid (E0 q=⟨s,A8 (n/r),A8 (d/r)⟩):=(by rw[Hid,S.out,j];exact zzm Z.out y.out);have X:=a j;have M:Hid (0<r):=(by rw[Hid,j];exact ztm _ y.out);have L:Hid ((A8 r).length<=1000000):=(by rw[Hid,j];exact ztl _ y.out v.out);clear j;obtain⟨E,D,l,m,z⟩:=J9 w #[.bool false,.slice none 0 0,.slice none 0 0] 30;obtain⟨c,h⟩:=C7 (m) (l);have o:Hid (w.heap.size+1<=E.heap.size):=a (Nat.le_of_eq z.out.symm);clear m l;obtain⟨af,ah,aj⟩:=C0 c.out;obtain⟨al,ao,ar⟩:=E9 c.out;obtain⟨B,x,J⟩:=F0 (IsN.next Y.out h.out) (IsN.next W.out h.out) (Bru.next V.out h.out);go_in;go_wp2_with fail;clear D;refine(zrm B.out x.out J.out (b H.out og) (b v.out og)).mono ?_;rw[<-X.out];rintro i e ⟨⟨aA,rfl,N⟩,k⟩;have K:=a (U2 N o.out);obtain⟨ab,az,rfl,_,_,_⟩:=id N;obtain⟨ag,ai,ak⟩:=C0 (uR e c);obtain⟨an,aq,au⟩:=E9 (uR e c);go_wp2_with fail;refine(zoo (zrn (uN e B)) (F7 (IsK.stb.old K.out)) (b H.out og) (b L.out og) M.out).mono ?_;rintro i F ⟨⟨bw,rfl,O⟩,k⟩;have T:=a (O);obtain⟨aM,bp,rfl,_,_,_⟩:=id O;obtain⟨aS,aW,a0⟩:=C0 (uR F c);obtain⟨a6,bd,bh⟩:=E9 (uR F c);go_wp2_with fail;refine(zrg (F7 T.out) (b (znx H.out) og)).mono ?_;rintro i u ⟨⟨bx,rfl,P⟩,k⟩;have ac:=a (U2 P (uS F o));obtain⟨aN,bq,rfl,_,_,_⟩:=id P;obtain⟨aT,aX,a1⟩:=C0 (uR u c);obtain⟨a7,be,bi⟩:=E9 (uR u c);go_wp2_with fail;refine(zoo (zrn (uN u x)) (F7 (IsK.stb.old (uF u K))) (b v.out og) (b L.out og) M.out).mono ?_;rintro i G ⟨⟨bA,rfl,Q⟩,k⟩;have U:=a (Q);obtain⟨aO,br,rfl,_,_,_⟩:=id Q;obtain⟨aU,aY,a2⟩:=C0 (uR G c);obtain⟨a8,bf,bj⟩:=E9 (uR G c);go_wp2_with fail;refine(zrg (F7 U.out) (b (znx v.out) og)).mono ?_;rintro i p ⟨⟨bB,rfl,R⟩,k⟩;have ad:=a (U2 R (uS G o));obtain⟨aP,bt,rfl,_,_,_⟩:=id R;obtain⟨aV,aZ,a3⟩:=C0 (uR p c);obtain⟨a9,bg,bm⟩:=E9 (uR p c);go_wp2_with fail;refine U5 Tryz.results171 rfl rfl (Row.put3 (uR p c) _ _ _) (znq aa.out (uB p h) og (uF p ac) ad.out og og)
 ·have aB:decide (((A8 n).length:Int)<=2)=true:=(by simp;omega);have a5:decide (((A8 d).length:Int)<=2)=false:=(by simp;omega);clear av;obtain⟨r,j⟩:=nm (Nat.gcd n d);have aa:Hid (E0 q=⟨s,A8 (n/r),A8 (d/r)⟩):=(by rw[Hid,S.out,j];exact zzm Z.out y.out);have X:=a j;have M:Hid (0<r):=(by rw[Hid,j];exact ztm _ y.out);have L:Hid ((A8 r).length<=1000000):=(by rw[Hid,j];exact ztl _ y.out v.out);clear j;obtain⟨E,D,l,m,z⟩:=J9 w #[.bool false,.slice none 0 0,.slice none 0 0] 30;obtain⟨c,h⟩:=C7 (m) (l);have o:Hid (w.heap.size+1<=E.heap.size):=a (Nat.le_of_eq z.out.symm);clear m l;obtain⟨af,ah,aj⟩:=C0 c.out;obtain⟨al,ao,ar⟩:=E9 c.out;obtain⟨B,x,J⟩:=F0 (IsN.next Y.out h.out) (IsN.next W.out h.out) (Bru.next V.out h.out);go_in;go_wp2_with fail;clear D;refine(zrm B.out x.out J.out (b H.out og) (b v.out og)).mono ?_;rw[<-X.out];rintro i e ⟨⟨aA,rfl,N⟩,k⟩;have K:=a (U2 N o.out);obtain⟨ab,az,rfl,_,_,_⟩:=id N;obtain⟨ag,ai,ak⟩:=C0 (uR e c);obtain⟨an,aq,au⟩:=E9 (uR e c);go_wp2_with fail;refine(zoo (zrn (uN e B)) (F7 (IsK.stb.old K.out)) (b H.out og) (b L.out og) M.out).mono ?_;rintro i F ⟨⟨bw,rfl,O⟩,k⟩;have T:=a (O);obtain⟨aM,bp,rfl,_,_,_⟩:=id O;obtain⟨aS,aW,a0⟩:=C0 (uR F c);obtain⟨a6,bd,bh⟩:=E9 (uR F c);go_wp2_with fail;refine(zrg (F7 T.out) (b (znx H.out) og)).mono ?_;rintro i u ⟨⟨bx,rfl,P⟩,k⟩;have ac:=a (U2 P (uS F o));obtain⟨aN,bq,rfl,_,_,_⟩:=id P;obtain⟨aT,aX,a1⟩:=C0 (uR u c);obtain⟨a7,be,bi⟩:=E9 (uR u c);go_wp2_with fail;refine(zoo (zrn (uN u x)) (F7 (IsK.stb.old (uF u K))) (b v.out og) (b L.out og) M.out).mono ?_;rintro i G ⟨⟨bA,rfl,Q⟩,k⟩;have U:=a (Q);obtain⟨aO,br,rfl,_,_,_⟩:=id Q;obtain⟨aU,aY,a2⟩:=C0 (uR G c);obtain⟨a8,bf,bj⟩:=E9 (uR G c);go_wp2_with fail;refine(zrg (F7 U.out) (b (znx v.out) og)).mono ?_;rintro i p ⟨⟨bB,rfl,R⟩,k⟩;have ad:=a (U2 R (uS G o));obtain⟨aP,bt,rfl,_,_,_⟩:=id R;obtain⟨aV,aZ,a3⟩:=C0 (uR p c);obtain⟨a9,bg,bm⟩:=E9 (uR p c);go_wp2_with fail;refine U5 Tryz.results171 rfl rfl (Row.put3 (uR p c) _ _ _) (znq aa.out (uB p h) og (uF p ac) ad.out og og)
theorem znp (l:List Rat):(C4 l).length=l.length:=by simp[C4]
def zkr (l:List Rat):Nat:=l.foldl (fun a q=>Nat.lcm a q.den) 1
theorem yvo (l:List Rat) (q:Rat):zkr (l++[q])=Nat.lcm (zkr l) q.den:=by unfold zkr;rw[List.foldl_append];rfl
theorem yit (a b:Nat):a*(b/Nat.gcd a b)=Nat.lcm a b:=by unfold Nat.lcm;rw[Nat.mul_div_assoc _ (Nat.gcd_dvd_right a b)]
theorem yvn (l:List Rat):∀d,0<d->0<l.foldl (fun d q=>Nat.lcm d q.den) d:=by
 induction l with
 |nil=>exact fun d h=>h
 |cons q l ih=>exact fun d h=>ih _ (Nat.lcm_pos h q.den_pos)
theorem zyn (l:List Rat):0<zkr l:=yvn l 1 og
theorem ysg (l:List Rat):∀d,d∣l.foldl (fun d q=>Nat.lcm d q.den) d:=by
 induction l with
 |nil=>exact fun d=>Nat.dvd_refl d
 |cons q l ih=>exact fun d=>Nat.dvd_trans (Nat.dvd_lcm_left d q.den) (ih _)
theorem yvl {q:Rat} (l:List Rat):∀d,q∈l->q.den∣l.foldl (fun d q=>Nat.lcm d q.den) d:=by
 induction l with
 |nil=>intro d h;cases h
 |cons f l ih=>
  intro d h;rcases List.mem_cons.1 h with rfl|h
  ·exact Nat.dvd_trans (Nat.dvd_lcm_right d q.den) (ysg l _)
  ·exact ih _ h
theorem yci {q:Rat} (h:q∈l):q.den∣zkr l:=yvl l 1 h
theorem yvm (l:List Rat) (g:∀q∈l,Sz q 1024):∀d f,(A8 d).length<=f->(A8 (l.foldl (fun d q=>Nat.lcm d q.den) d)).length<=f+1024*l.length:=by
 induction l with
 |nil=>intro d f h;simpa using h
 |cons q l ih=>intro d f h;have i:(A8 (Nat.lcm d q.den)).length<=f+1024:=(by rw[<-yit];exact zqz h (znx (g q (by simp)).2));have:=ih (fun m j=>g m (by simp[j])) _ _ i;rw[List.length_cons];simp only[List.foldl_cons];omega
theorem yck (a:∀q∈l,Sz q 1024):(A8 (zkr l)).length<=1+1024*l.length:=yvm l a 1 1 (by rw[zlg];simp)
theorem yis {w:World} {aq:Value} (h:IsV w (C5 w) aq (C4 l)) (ag:Bru w) (an:∀q∈l,Sz q 1024) (aS:l.length<=100):
 Calls Tryz.prog 165 #[aq] w fun k w'=>(∃v,k= .returned v/\IsN w' w.heap.size w'.heap.size v (zkr l))/\Below w.heap.size w w':=by
 obtain⟨T,aA,X⟩:=F0 h ag an;obtain⟨D,d,rfl,aW⟩:=J6 h;obtain⟨n,A⟩:=nm (l.length);rw[znp,<-A] at T aW⊢;rw[<-A] at aS;have W:=a A;clear h ag an A;go_in;go_wp2_with fail;refine(znn w).mono ?_;rintro k bv ⟨⟨bq,rfl,I⟩,ah⟩;obtain⟨aE,B0⟩:=C7 (zpx I) ah;obtain⟨a2,bg,rfl,_,_,_⟩:=id I;clear I ah;go_wp2_with fail;go_loopw [9,3,5] (fun i out _ wr=>∃e:Nat,e<=n/\i= .int .i64 (e:Int)/\Below w.heap.size w wr/\Hid (IsN wr w.heap.size wr.heap.size out (zkr (l.take e)))) (fun i _ _ _=>n-(intOf i).toNat);case atStart=>exact⟨0,u _,rfl,B0.out,by rw[Hid];exact(IsK.isL aE.out fun a6 aQ=>aQ)⟩
 case round=>
  obtain⟨e,bd,rfl,G,hv⟩:=hrel;have g:=a G;have r:=a hv.out;obtain⟨a1,bm,rfl,_,_,_⟩:=id hv.out;rcases t e n with H|a9
  ·obtain⟨x,B,al⟩:=zph (l:=l) (j:=e) (by rw[<-W.out];exact H);obtain⟨a7,bp,aG,aH,aI,aJ,rfl,_,o,aa,ab,ac⟩:=zmt (IsV.stb.to T.out (C9 g.out)) al;obtain⟨aK,ad⟩:=nm ((E0 x).neg);obtain⟨aL,ae⟩:=nm ((E0 x).num.length);rw[<-ad] at aa o;rw[<-ae] at ab o;have af:(E0 x).den=A8 x.den:=rfl;rw[af] at ac o;obtain⟨aD,a0,s⟩:=F0 (zpd o) B (X.out x (p B));have Y:Hid (zkr (l.take (e+1))=Nat.lcm (zkr (l.take e)) x.den):=(by rw[Hid,zql B,yvo]);obtain⟨y,F⟩:=nm (zkr (l.take e));have U:Hid ((A8 y).length<=200000):=(by rw[Hid,F];have:=yck (l:=l.take e) fun q aU=>X.out q (List.mem_of_mem_take aU);have:=List.length_take_le e l;omega);have aZ:Hid (0<x.den):=x.den_pos;rw[<-F] at r Y⊢;obtain⟨bn,ak⟩:=nm ((A8 y).length);rw[<-ak] at r⊢;have a8:=N9;have be:(0:Int)<=(e:Int):=og;have bf:(e:Int)<(n:Int):=og;obtain⟨C,aV,m,ao,aX⟩:=J9 wr #[.bool aK,.slice aG aL aH,.slice aI (A8 x.den).length aJ] 30;have N:=a m;have Z:=nQ aD m;have z:=a ((zpx r.out));have z:=a (IsK.stb.fresh z.out m);have av:=nU aA (C8 g.out m);have ay:=a ((C0 ao).2.2);have aB:Hid (0<Nat.gcd y x.den):=ztm _ x.den_nz;have aC:Hid ((A8 (Nat.gcd y x.den)).length<=1024):=ztl _ x.den_nz s.out.2;have V:=a H;clear B al o ad ae G hv F ak ao aX m af H;go_wp2_with fail;clear aV aa ab ac;have E:=hs1 ay.out;have O:=a fun j (f:Below C.heap.size C j)=>zrm (F7 (IsK.stb.next (IsK.stb.old z.out) f)) (F7 (IsK.stb.next (zms Z.out) f)) (Bru.next av.out f) (b U.out og) (b s.out.2 og)
   go_region_held3 (SH.mk _ E).s
    (exact E.out _ bel)
    (first
      |(go_at_call 175;(with_reducible refine Calls.mono (O.out _ bel) ?_);rintro k ar ⟨⟨br,rfl,J⟩,ai⟩;have R:=a (zrn J);obtain⟨a3,bh,rfl,_,_,_⟩:=id J;have P:=a fun j (f:Below ar.heap.size ar j)=>zoo (IsK.stb.next (zms Z.out) bel) (F7 (IsK.stb.next R.out f)) (b s.out.2 og) (b aC.out og) aB.out)
      |(go_at_call 169;(with_reducible refine Calls.mono (P.out _ bel) ?_);rintro k M ⟨⟨bt,rfl,K⟩,aj⟩;have S:=a K;obtain⟨a4,bi,rfl,_,_,_⟩:=id K;have Q:=a fun j (f:Below M.heap.size M j)=>zmv (F7 (IsK.stb.next (IsK.stb.old z.out) bel)) (F7 (IsK.stb.next S.out f)) (c _) (c _) (b U.out og) (b (znx s.out.2) og))
      |(go_at_call 160;(with_reducible refine Calls.mono (Q.out _ bel) ?_);rintro k aY ⟨⟨bu,rfl,L⟩,aR⟩;have az:=a L;obtain⟨a5,bj,rfl,_,_,_⟩:=id L))
   have au:Hid (Below C.heap.size C aY):=(by rw[Hid];exact bel);have aT:w.heap.size<=M.heap.size:=(by have aM:=g.out.size;have aN:=N.out.size;have aO:=ai.size;have aP:=aj.size;exact b aM (b aN (b (by simpa using aO) aP)));clear E O P Q J K L ai aj aR R S;go_wp2_with fail;go_roundw;(case rel=>exact⟨e+1,V.out,by go_num,C8 (C8 g.out N.out) au.out,by rw[Hid,Y.out,<-yit];exact az.out.wide aT (c _)⟩);case measure=>have:=V.out;simp[intOf];omega
  ·obtain rfl:e=n:=og;clear G hv;go_wp2_with fail;go_ret;refine⟨⟨_,rfl,?_⟩,g.out⟩;have h:=r.out;rw[List.take_of_length_le (Nat.le_of_eq W.out.symm)] at h⊢;exact h
def zlc (a e b c:Int) (d:Nat):Int:=(a*e-b*c).tdiv (d:Int)
theorem zz1401 (s:Bool) (n d:Nat):(sg s n).tdiv (d:Int)=sg s (n/d):=by
 cases s
 ·rw[ylx,ylx,Int.ofNat_tdiv]
 ·rw[ymb,ymb,Int.neg_tdiv,Int.ofNat_tdiv]
theorem yrd {a e b c:Int} {f j g i:Bool} (ha:f=decide (a<0)) (o:j=decide (e<0)) (m:g=decide (b<0)) (hc:i=decide (c<0)) {s:Bool}
 (h:sg s n=sg (!(f==j)) (a.natAbs*e.natAbs)+sg (g==i) (b.natAbs*c.natAbs)) (d:Nat):zlc a e b c d=sg s (n/d):=by have k:sg (!(f==j)) (a.natAbs*e.natAbs)=a*e:=(by rw[show(!(f==j))=(f !=j) from rfl,zzq,ha,o,zwz,zwz]);have l:sg (g==i) (b.natAbs*c.natAbs)= -(b*c):=(by rw[show(g==i)= !(g !=i) by simp[bne],ylz,zzq,m,hc,zwz,zwz]);unfold zlc;rw[show a*e-b*c=sg s n by rw[h,k,l];omega,zz1401]
theorem ydr (s:Bool) (n:Nat):E0 ((sg s n:Int):Rat)=⟨s&&decide (0<n),A8 n,A8 1⟩:=by
 rw[zzl,zzr];congr 1;rcases Nat.eq_zero_or_pos n with h|h
 ·subst h;simp[zzs]
 ·rw[yly og];simp[h]
theorem zwc {w:World} {vp aW aX:Value} {z D A B:Rat} {d:Nat} (ha:IsQ w (C5 w) va z) (S:IsQ w (C5 w) vp D) (j:IsQ w (C5 w) aW A) (hc:IsQ w (C5 w) aX B) (hd:IsN w 0 w.heap.size f d)
 (sa:Sz z 500000) (sp:Sz D 500000) (sb:Sz A 500000) (aU:Sz B 500000) (aK:(A8 d).length<=1000000) (aJ:0<d):Calls Tryz.prog 117 #[va,vp,aW,aX,f] w (K8 w ((zlc z.num D.num A.num B.num d:Int):Rat)):=by
 have a5:=a ha;obtain⟨T,X,ag,aY,bu,rfl,be,ch,cc⟩:=F9 ha;have a8:=a S;obtain⟨W,aa,aj,a1,bx,rfl,bh,cl,cg⟩:=F9 S;have a6:=a j;obtain⟨U,Y,ah,aZ,bv,rfl,bf,cj,cd⟩:=F9 j;have a7:=a hc;obtain⟨V,Z,ai,a0,bw,rfl,bg,ck,cf⟩:=F9 hc;have a4:=a hd;obtain⟨C,c9,rfl,ds⟩:=ztp hd;have ab:=a sa.1;have ae:=a sp.1;have ac:=a sb.1;have ad:=a aU.1;obtain⟨bd,a9⟩:=C7 aK aJ;obtain⟨N,hs1⟩:∃N:Bool,(!(T==W))=N:=⟨_,rfl⟩;obtain⟨O,zpv⟩:∃O:Bool,(U==V)=O:=⟨_,rfl⟩;have a3:Hid (∀s n,sg s n=sg N (z.num.natAbs*D.num.natAbs)+sg O (A.num.natAbs*B.num.natAbs)->zlc z.num D.num A.num B.num d=sg s (n/d)):=(by intro s n h;rw[<-hs1,<-zpv] at h;exact yrd be.out bh.out bf.out bg.out h d);clear ha S j hc hd sa sp sb aU aK aJ;obtain⟨P,cb,I,ra,rp,aT,rc,aS,K⟩:=ypr w #[.bool T,.slice X (A8 z.num.natAbs).length ag,.slice aY (A8 z.den).length bu] #[.bool W,.slice aa (A8 D.num.natAbs).length aj,.slice a1 (A8 D.den).length bx] #[.bool U,.slice Y (A8 A.num.natAbs).length ah,.slice aZ (A8 A.den).length bv] #[.bool V,.slice Z (A8 B.num.natAbs).length ai,.slice a0 (A8 B.den).length bw] #[.bool false,.slice none 0 0,.slice none 0 0] 30 30 30 30 30;have bp:=nQ a5 I;have q:=a (ra);have bt:=nQ a8 I;have x:=a (rp);have bq:=nQ a6 I;have r:=a (aT);have br:=nQ a7 I;obtain⟨v,i,M⟩:=F0 (rc) (aS) (I);have G:Hid (w.heap.size+5<=P.heap.size):=a (Nat.le_of_eq K.out.symm);clear ra rp aT rc aS I;obtain⟨bA,bE,cu⟩:=C0 q.out;obtain⟨b3,b8,cR⟩:=C0 x.out;obtain⟨bK,bO,cE⟩:=C0 r.out;obtain⟨bT,bY,cL⟩:=C0 v.out;obtain⟨cY,c3,c8⟩:=C0 i.out;obtain⟨de,dk,dr⟩:=E9 i.out;have a2:=a (IsN.next a4.out M.out);go_in;go_wp2_with fail;clear cb
 go_region_held3 (fun w'=>w'.cell? ⟨w.heap.size,0,none⟩=some (.bool T)/\w'.cell? ⟨w.heap.size,1,none⟩=some (.slice X (A8 z.num.natAbs).length ag)/\w'.cell? ⟨w.heap.size+1,0,none⟩=some (.bool W)/\w'.cell? ⟨w.heap.size+1,1,none⟩=some (.slice aa (A8 D.num.natAbs).length aj)/\w'.cell? ⟨w.heap.size+2,0,none⟩=some (.bool U)/\w'.cell? ⟨w.heap.size+2,1,none⟩=some (.slice Y (A8 A.num.natAbs).length ah)/\w'.cell? ⟨w.heap.size+3,0,none⟩=some (.bool V)/\w'.cell? ⟨w.heap.size+3,1,none⟩=some (.slice Z (A8 B.num.natAbs).length ai))
  (first
    |exact⟨bA,bE,b3,b8,bK,bO,bT,bY⟩
    |exact⟨bD,bH,b4,b9,bL,bP,bU,bZ⟩
    |exact⟨bB,bF,b0,b5,bI,bM,bQ,bV⟩
    |exact⟨bC,bG,b1,b7,bJ,bN,bR,bX⟩)
  (first
    |(go_at_call 160;have hc:=zmv (F7 (zls (uQ P.drew bp))) (F7 (zls (uQ P.drew bt))) (c _) (c _) (b ab.out og) (b ae.out og);(with_reducible refine hc.mono ?_);clear hc;rintro H l ⟨⟨dx,rfl,aN⟩,j⟩;have bm:=a (U2 aN (uS P.drew G));obtain⟨cm,dt,rfl,_,_,_⟩:=id aN;obtain⟨bD,bH,cy⟩:=C0 (uR l q);obtain⟨b4,b9,cT⟩:=C0 (uR l x);obtain⟨bL,bP,cF⟩:=C0 (uR l r);obtain⟨bU,bZ,cM⟩:=C0 (uR l v);obtain⟨cU,cZ,c4⟩:=C0 (uR l i);obtain⟨da,df,dm⟩:=E9 (uR l i))
    |(go_at_call 160;have hc:=zmv (F7 (zls (uQ l bq))) (F7 (zls (uQ l br))) (c _) (c _) (b ac.out og) (b ad.out og);(with_reducible refine hc.mono ?_);clear hc;rintro H E ⟨⟨dy,rfl,aO⟩,j⟩;have bn:=a (U2 aO (uS l G));obtain⟨cn,du,rfl,_,_,_⟩:=id aO;obtain⟨bB,bF,cv⟩:=C0 (uR E q);obtain⟨b0,b5,cP⟩:=C0 (uR E x);obtain⟨bI,bM,cB⟩:=C0 (uR E r);obtain⟨bQ,bV,cI⟩:=C0 (uR E v);obtain⟨cV,c0,c5⟩:=C0 (uR E i);obtain⟨db,dh,dn⟩:=E9 (uR E i))
    |(go_at_call 168;have hc:=yin N O (F7 (IsK.stb.old (uF E bm))) (F7 (IsK.stb.old bn.out)) (b (zqz ab.out ae.out) og) (b (zqz ac.out ad.out) og);(with_reducible refine hc.mono ?_);clear hc;rintro H F ⟨⟨s,dz,n,rfl,aM,aP,aL⟩,j⟩;have bj:=a (U2 aP (uS E G));obtain⟨cq,dv,rfl,_,_,_⟩:=id aP;have bi:=a aL;have R:=a (a3.out s n aM.out);clear aM aL;obtain⟨bC,bG,cw⟩:=C0 (uR F q);obtain⟨b1,b7,cQ⟩:=C0 (uR F x);obtain⟨bJ,bN,cC⟩:=C0 (uR F r);obtain⟨bR,bX,cJ⟩:=C0 (uR F v);obtain⟨cW,c1,c6⟩:=C0 (uR F i);obtain⟨dc,di,dp⟩:=E9 (uR F i)))
 go_wp2_with fail;clear hs1 zpv;refine(ykj bj.out (uS F G) (uN F a2) (b bi.out og) (b bd.out og) a9.out).mono ?_;rintro H m ⟨⟨dA,rfl,aQ⟩,j⟩;have Q:=a (aQ);obtain⟨cr,dw,rfl,_,_,_⟩:=id aQ;obtain⟨cs,ct,cx⟩:=C0 (uR m q);obtain⟨cN,cO,cS⟩:=C0 (uR m x);obtain⟨cz,cA,cD⟩:=C0 (uR m r);obtain⟨cG,cH,cK⟩:=C0 (uR m v);obtain⟨cX,c2,c7⟩:=C0 (uR m i);obtain⟨dd,dj,dq⟩:=E9 (uR m i);cases s with
 |false=>go_wp2_with fail;refine(znn _).mono ?_;rintro H g ⟨⟨aV,rfl,y⟩,j⟩;have L:=a (U2 y (uS m G));obtain⟨af,aR,rfl,_,_,_⟩:=id y;obtain⟨ak,al,an⟩:=C0 (uR g q);obtain⟨az,aA,aB⟩:=C0 (uR g x);obtain⟨ao,aq,ar⟩:=C0 (uR g r);obtain⟨au,av,ay⟩:=C0 (uR g v);obtain⟨aC,aD,aE⟩:=C0 (uR g i);obtain⟨aG,aH,aI⟩:=E9 (uR g i);go_wp2_with fail;refine U5 Tryz.results117 rfl rfl (Row.put3 (uR g i) _ _ _) (znq (by rw[R.out,ydr];rfl) (uB g M) og (uF g Q) L.out og og)
 |true=>
  rcases Nat.eq_zero_or_pos (n/d) with J|J
  ·have ca:decide (0<(A8 (n/d)).length)=false:=(by rw[J,T6];rfl);have K:=a J;clear J;go_wp2_with fail;refine(znn _).mono ?_;rintro H g ⟨⟨aV,rfl,y⟩,j⟩;have L:=a (U2 y (uS m G));obtain⟨af,aR,rfl,_,_,_⟩:=id y;obtain⟨ak,al,an⟩:=C0 (uR g q);obtain⟨az,aA,aB⟩:=C0 (uR g x);obtain⟨ao,aq,ar⟩:=C0 (uR g r);obtain⟨au,av,ay⟩:=C0 (uR g v);obtain⟨aC,aD,aE⟩:=C0 (uR g i);obtain⟨aG,aH,aI⟩:=E9 (uR g i);go_wp2_with fail;refine U5 Tryz.results117 rfl rfl (Row.put3 (uR g i) _ _ _) (znq (by rw[R.out,ydr];rw[K.out];rfl) (uB g M) og (uF g Q) L.out og og)
  ·have ca:decide (0<(A8 (n/d)).length)=true:=decide_eq_true (ycn og);have K:=a J;clear J;go_wp2_with fail;refine(znn _).mono ?_;rintro H g ⟨⟨aV,rfl,y⟩,j⟩;have L:=a (U2 y (uS m G));obtain⟨af,aR,rfl,_,_,_⟩:=id y;obtain⟨ak,al,an⟩:=C0 (uR g q);obtain⟨az,aA,aB⟩:=C0 (uR g x);obtain⟨ao,aq,ar⟩:=C0 (uR g r);obtain⟨au,av,ay⟩:=C0 (uR g v);obtain⟨aC,aD,aE⟩:=C0 (uR g i);obtain⟨aG,aH,aI⟩:=E9 (uR g i);go_wp2_with fail;refine U5 Tryz.results117 rfl rfl (Row.put3 (uR g i) _ _ _) (znq (by rw[R.out,ydr];rw[decide_eq_true K.out];rfl) (uB g M) og (uF g Q) L.out og og)
theorem zz1437 {a:Int} {d:Nat} {z:Int} (hd:0<d) (h:(a:Rat)/((d:Int):Rat)=(z:Rat)):a.tdiv (d:Int)=z:=by have f:((d:Int):Rat)≠0:=(by intro c;have:(d:Int)=0:=Rat.intCast_inj.1 (by rw[c];rfl);omega);have b:(a:Rat)=(z:Rat)*((d:Int):Rat):=(by rw[<-h,Rat.div_mul_cancel f]);have e:a=z*(d:Int):=(by rw[<-Rat.intCast_mul] at b;exact Rat.intCast_inj.1 b);rw[e];exact Int.mul_tdiv_cancel _ og
def zmg (M:List (List Rat)) (i j:Nat):Int:=((M.getD i []).getD j 0).num*((zkr (M.getD i [])/((M.getD i []).getD j 0).den:Nat):Int)
theorem ztr {x:Rat} (hr:M[i]? =some r) (c:r[j]? =some x):zmg M i j=x.num*((zkr r/x.den:Nat):Int):=by unfold zmg;have a:M.getD i []=r:=(by rw[e,hr,Option.getD_some]);have b:r.getD j 0=x:=(by rw[e,c,Option.getD_some]);rw[a,b]
theorem zyr {b:List (List Rat)} {x:Rat} (hr:b[i]? =some r) (e:r[j]? =some x):((zmg b i j:Int):Rat)=x*((zkr r:Nat):Rat):=by rw[ztr hr e,Rat.intCast_mul];have hd:x.den∣zkr r:=yci (p e);obtain⟨a,hc⟩:=hd;have f:zkr r/x.den=a:=(by rw[hc];exact Nat.mul_div_cancel_left a x.den_pos);rw[f,hc,Rat.natCast_mul];have g:(x.num:Rat)=x*((x.den:Nat):Rat):=(by have c:=Rat.mkRat_self x;rw[Rat.mkRat_eq_div] at c;have h:((x.den:Nat):Rat)≠0:=ypt x.den_pos;have d:=Rat.div_mul_cancel (a:=(x.num:Rat)) h;rw[c] at d;exact d.symm);rw[g];show x*_*((a:Nat):Rat)=_;grind
def zvn (M:List (List Rat)) (a:List Rat) (b:Nat):List (List Rat):=(List.range b).map fun i=>M.getD i []++[a.getD i 0]
theorem yen {b:List Rat} {m:Nat} (a:i<n) (hr:M[i]? =some r):(zvn M b n)[i]? =some (r++[b.getD i 0]):=by unfold zvn;rw[k,List.getElem?_range a,Option.map_some,e,hr];rfl
theorem zyc {x:Rat} (b:r.length=m) (a:j<m):(r++[x])[j]? =some (r.getD j 0):=by rw[List.getElem?_append_left og,e,o og];rfl
theorem ybw {x:Rat} (a:r.length=m):(r++[x])[m]? =some x:=by rw[List.getElem?_append_right og,a,Nat.sub_self];rfl
end Go.Proofs.YtlhhbccgfkhflaaGreatDoor
