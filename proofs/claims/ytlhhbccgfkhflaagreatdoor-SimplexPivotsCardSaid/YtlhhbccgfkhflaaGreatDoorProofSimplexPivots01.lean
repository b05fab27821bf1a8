/-
 Lists of ints in memory,and c b a in.
-/
import Derived.Test.YtlhhbccgfkhflaaGreatDoorPvv09
namespace Go.Proofs.YtlhhbccgfkhflaaGreatDoor
open Go.RowKit Go.WideShapes Go.ChangeShapes Go.Deep
set_option linter.unusedVariables false
open Go.RowKit
set_option maxRecDepth 100000
set_option maxHeartbeats 8000000
open _root_.Go.Lib renaming hid → e
open _root_.Nat renaming le_refl → o, le_trans → g, lt_or_ge → z, zero_le → B
open _root_.List renaming mem_of_getElem? → y, take_of_length_le → D, getElem?_map → E
open _root_.Go.World renaming cell?_setCell_other → l, cell?_of_block → q
open _root_.Go renaming World → p, Value → a, Calls → u
open _root_.Go.Proofs.Tryz renaming prog → t
variable {M b c i j k m n : Nat} {S T : Nat → Prop} {f : Nat → Nat} {v r x : a}
def zvd (n:Int):Prop:= -9223372036854775808<=n/\n<=9223372036854775807
theorem ybn {n:Int} (h:(Lit.int .i64 n).wf=true):zvd n:=by rw[Lit.wf,Bool.and_eq_true,decide_eq_true_eq,decide_eq_true_eq] at h;exact h
def IsIL (w:p) (S:Nat->Prop) (v:a) (b:List Int):Prop:=
 ∃A c,v= .slice A b.length c/\b.length<=c/\c<=maxLen/\SVS w S A (b.map fun x=> .int .i64 x)/\∀x∈b,zvd x
theorem IsIL.stb:Stb IsIL:=by rintro w w' S T v g ⟨A,c,hv,a,b,d,e⟩ f;exact⟨A,c,hv,a,b,d.same f,e⟩
theorem yve {w:p} {A:Option Addr} {e:List Int} (h:IsIL w S (.slice A n c) e) {x:Int} (a:e[j]? =some x):
 zvd x/\∃b off,A=some ⟨b,off,none⟩/\S b/\w.cell? ⟨b,off+j,none⟩=some (.int .i64 x):=by obtain⟨m,o,hv,q,r,g,i⟩:=h;simp only[Value.slice.injEq] at hv;obtain⟨rfl,rfl,rfl⟩:=hv;have d:=(List.getElem?_eq_some_iff.1 a).1;obtain⟨b,off,k,l,hc⟩:=g (fun f=>by have:=congrArg List.length f;simp at this;rw[this] at d;simp at d);exact⟨i x (y a),b,off,k,l,hc j _ (by rw[E,a];rfl)⟩
section
variable {H : Type} {enc : TypeId × a → H} {w : p} {base s : Nat} {sp : Nat → Bool} {held : Bool}
theorem yye {d:DataW H} {n:List MemPlace} (G:∀x∈n,x.block<w.heap.size) (y:Value.okWide t w .any s 22 v) (h:DataW.Trod enc t w base sp held 22 v d n):∃C:List Int,IsIL w (C3 w) v C:=by
 obtain⟨a,len,cap,rfl⟩:=okWide_slice Tryz.underlying22 y;obtain⟨D,hf⟩:=h;rcases open_ints Tryz.underlying22 Tryz.underlying3 kr hf with⟨hv,_⟩|⟨a,len,cap,e,hv,_,q,r,A,f,p,z⟩
 ·simp only[Value.cells,List.cons.injEq,and_true] at hv;rw[hv];exact⟨[],none,0,rfl,o _,B _,SVS.nil,fun x f=>by cases f⟩
 ·simp only[Value.cells,List.cons.injEq,and_true] at hv;rw[hv];have I:len<=e.length:=(by rw[A];split<;>omega);have l:(e.take len).length=len:=(by simp;omega);refine⟨e.take len,some a,cap,by rw[l],by rw[l];exact q,r,fun u=> ?_,fun x f=>ybn (z x (List.mem_of_mem_take f))⟩
  have m:0<e.length:=by
   rcases Nat.eq_zero_or_pos e.length with g|g
   ·exact absurd (by rw[List.length_eq_zero_iff.1 g];simp) u
   ·exact g
  obtain⟨b,off,rfl,k⟩:=ints_at p m;refine⟨b,off,rfl,World.block_lt_of_cell? w _ (k 0 m),fun j J c=> ?_⟩;rw[E,List.getElem?_take] at c;split at c;(case isFalse=>simp at c);case isTrue F=>have i:j<e.length:=og;rw[List.getElem?_eq_getElem i] at c;simp only[Option.map_some,Option.some.injEq] at c;subst c;rw[k j i,List.getD_eq_getElem?_getD,List.getElem?_eq_getElem i,Option.getD_some]
end
theorem zz1359 (a:List Rat) (x:Rat):C2 (a++[x])=C2 a++[C7 x]:=by simp[C2]
theorem zxp {w:p} {a:List Rat} (ha:IsV w (C3 w) r (C2 a)) (J:a.length=M) (aV:M<=1000) (sa:∀q∈a,Sz q 100000):
 u t 66 #[r] w fun f w'=>(∃v,f= .returned v/\∃S:Nat->Prop,OwnS 3 30 IsR w' w.heap.size S v (C2 a)/\∀b,S b->w.heap.size<=b)/\Below w.heap.size w w':=by
 obtain⟨T,X,al⟩:=G0 ha J sa;obtain⟨A,aS,rfl,_⟩:=X8 ha;have H:(C2 a).length=M:=(by simp[C2,J]);rw[H] at T;rw[H];clear ha J sa H;go_in;go_wp2_with (at_make;refine zxc zlv rfl _ _ rfl IsR M rfl rfl rfl og (base:=w.heap.size) (S:=fun _=>False) (o _) (fun b h=>h.elim) ?_;intro a5 aL ac Z af);obtain⟨ah,ak⟩:=C5 Z ac;have aP:Hid (w.heap.size<=aL.heap.size):=af;clear Z ac af;go_loopw [11,3,5] (fun i aK _ wr=>∃(k:Nat) (S:Nat->Prop),k<=M/\i= .int .i64 (k:Int)/\Below w.heap.size w wr/\Hid (OwnS 3 30 IsR wr w.heap.size S aK (C2 (a.take k)))/\Hid (∀b,S b->w.heap.size<=b)) (fun i _ _ _=>M-(intOf i).toNat);case atStart=>exact⟨0,fun _=>False,B _,rfl,ah.out,by simpa[C2,Hid] using ak.out,fun b d=>d.elim⟩
 case round=>
  obtain⟨k,S,aX,rfl,c,hrel,Y⟩:=hrel;have W:=e c;have F:=e hrel.out;have V:=e Y.out;have aH:=c.size;clear hrel Y;rcases z k M with j|aW
  ·obtain⟨x,L,ad⟩:=zry (l:=a) (j:=k) (by rw[X.out];exact j);obtain⟨G,Q,aq,ar,au,av,rfl,s,I,l,m,n⟩:=zml T.out ad;obtain⟨aM,N⟩:=nm ((C7 x).neg);obtain⟨aN,O⟩:=nm ((C7 x).num.length);obtain⟨aO,P⟩:=nm ((C7 x).den.length);rw[<-N] at l;rw[<-O] at m;rw[<-P] at n;rw[<-N,<-O,<-P] at I;replace l:=c.cell (p:=⟨G,Q+k*3,none⟩) s|>.trans l;replace m:=c.cell (p:=⟨G,Q+k*3+1,none⟩) s|>.trans m;replace n:=c.cell (p:=⟨G,Q+k*3+2,none⟩) s|>.trans n;obtain⟨ao,ai⟩:=C5 (IsQ.stb.to (zrr I) (E7 c)) L;have an:Hid (Sz x 100000):=al.out x (y L);have aT:=T3;have aY:(0:Int)<=(k:Int):=og;have aZ:(k:Int)<(M:Int):=og;obtain⟨a9,aI,ab,ag,aJ⟩:=J5 wr #[.bool aM,.slice aq aN ar,.slice au aO av] 30;have E:=e ab;obtain⟨ay,az,aA⟩:=B9 ag;have aj:=e j;clear L ad I N O P c ag aJ ab s j;go_wp2_with fail;clear aI l m n;refine(zvk (IsQ.stb.next ao.out E.out) an.out).mono ?_;rintro f C ⟨⟨a6,rfl,K⟩,aa⟩;obtain⟨a3,aR,a1,aQ,a2,rfl,_,_,_⟩:=G7 K;have R:=nB E aa;have aE:=OwnS.step IsR.stb (T:=fun b=>S b\/(wr.heap.size<=b/\b<C.heap.size)) F.out R.out (fun b h=> .inl h) (fun b h=>h);have aD:=IsQ.stb.to K (F7 (T:=fun b=>S b\/(wr.heap.size<=b/\b<C.heap.size)) fun b h=> .inr ⟨g E.out.size h.1,h.2⟩);have U:=e (C6 W.out R.out);have aC:w.heap.size<=C.heap.size:=U.out.size;have j:=aj.out;clear aa K ay az aA;go_wp2_with (at_builtin;refine zpz zlv rfl _ _ rfl IsR.stb rfl rfl rfl aE aD rfl (by intro a4 ae;simp[Value.cells] at ae;rcases ae with rfl|rfl|rfl<;>rfl) (by have aU:=List.length_take_le k a;rw[zkc];omega) aC ?_;intro a7 a8 aG aB a0);go_roundw;(case rel=>refine⟨k+1,fun b=>S b\/(wr.heap.size<=b/\b<C.heap.size),j,by go_num,U.out.trans aB,?_,fun b d=>by rcases d with d|d;exact V.out b d;exact g aH d.1⟩;rw[zrc ai.out,zz1359];exact aG);case measure=>simp[intOf];omega
  ·obtain rfl:k=M:=og;have f:a.take k=a:=D (by rw[X.out];exact o _);rw[f] at F;clear f c;go_wp2_with fail;go_ret;exact⟨⟨_,rfl,S,F.out,V.out⟩,W.out⟩
theorem yau {w:p} {a:List Rat} (ha:IsV w (C3 w) r (C2 a)) (k:a.length=M) (i:M<=1000) (sa:∀q∈a,Sz q 100000):
 u t 66 #[r] w fun d w'=>(∃v,d= .returned v/\IsV w' (G4 w.heap.size w') v (C2 a))/\Below w.heap.size w w':=by refine(zxp ha k i sa).mono ?_;rintro d w' ⟨⟨v,rfl,S,h,j⟩,c⟩;exact⟨⟨v,rfl,OwnS.isS IsR.stb h (fun b c=>⟨j b c,by obtain⟨_,_,_,_,g⟩:=h;exact(g b c).1⟩) (fun b e f=>⟨e,f⟩)⟩,c⟩
theorem zz1391 {w:p} {a:List (List Rat)} (ha:IsM w (C3 w) r (G6 a)) (G:a.length=M) (aI:M<=1000) (hr:∀J∈a,J.length<=1000) (sa:∀J∈a,∀q∈J,Sz q 100000):
 u t 65 #[r] w fun j w'=>(∃v,j= .returned v/\IsM w' (G4 w.heap.size w') v (G6 a))/\Below w.heap.size w w':=by
 obtain⟨K,P,ag,af⟩:=X7 ha G sa hr;obtain⟨A,aH,rfl,_⟩:=zqg ha;have E:(G6 a).length=M:=(by simp[G6,G]);rw[E] at K;rw[E];clear ha G sa E hr;go_in;go_wp2_with (at_make;refine zxc zoy rfl _ _ rfl IsV M rfl rfl rfl og (base:=w.heap.size) (S:=fun _=>False) (o _) (fun b h=>h.elim) ?_;intro aQ aT X W az);obtain⟨aa,ae⟩:=C5 W X;clear W X az;go_loopw [11,3,5] (fun i aC _ wr=>∃(k:Nat) (S:Nat->Prop),k<=M/\i= .int .i64 (k:Int)/\Below w.heap.size w wr/\Hid (OwnS 1 26 IsV wr w.heap.size S aC (G6 (a.take k)))/\Hid (∀b,S b->w.heap.size<=b)) (fun i _ _ _=>M-(intOf i).toNat);case atStart=>exact⟨0,fun _=>False,B _,rfl,aa.out,by simpa[G6,Hid] using ae.out,fun b c=>c.elim⟩
 case round=>
  obtain⟨k,S,aK,rfl,d,hrel,T⟩:=hrel;have O:=e d;have m:=e hrel.out;have N:=e T.out;have ay:=d.size;clear hrel T;rcases z k M with l|aJ
  ·obtain⟨x,s,Y⟩:=ydm (m:=a) (j:=k) (by rw[P.out];exact l);obtain⟨aj,aB,aE,aG,rfl,U,n,f⟩:=zpo K.out Y;rw[zkc] at f n;obtain⟨aA,H⟩:=nm (x.length);rw[<-H] at f n;replace f:=d.cell (p:=⟨aj,aB+k,none⟩) U|>.trans f;obtain⟨ai,ac,Q⟩:=G0 (IsV.stb.to n (E7 d)) s H;have ah:Hid (∀q∈x,Sz q 100000):=ag.out x (y s);have ar:=af.out x (y s);have aL:(0:Int)<=(k:Int):=og;have aM:(k:Int)<(M:Int):=og;have ad:=e l;clear s Y n H d U l;go_wp2_with fail;refine(yau (M:=aA) ai.out Q.out.symm (by rw[Q.out];exact ar) ah.out).mono ?_;rintro j C ⟨⟨aR,rfl,I⟩,F⟩;obtain⟨aD,aO,rfl,_⟩:=X8 I;have au:=OwnS.step IsV.stb (T:=fun b=>S b\/(wr.heap.size<=b/\b<C.heap.size)) m.out F (fun b h=> .inl h) (fun b h=>h);have aq:=IsV.stb.to I (F7 (T:=fun b=>S b\/(wr.heap.size<=b/\b<C.heap.size)) fun b h=> .inr h);have L:=nB O F;have ao:w.heap.size<=C.heap.size:=L.out.size;have l:=ad.out;clear F I f;go_wp2_with (at_builtin;refine zpz zoy rfl _ _ rfl IsV.stb rfl rfl rfl au aq rfl (by intro aP Z;simp[Value.cells] at Z;subst Z;rfl) (by have R:=List.length_take_le k a;rw[zzf];omega) ao ?_;intro aS aU av an aN);go_roundw;(case rel=>refine⟨k+1,fun b=>S b\/(wr.heap.size<=b/\b<C.heap.size),l,by go_num,L.out.trans an,?_,fun b c=>by rcases c with c|c;exact N.out b c;exact g ay c.1⟩;rw[zrc ac.out,G6,List.map_append];exact av);case measure=>simp[intOf];omega
  ·obtain rfl:k=M:=og;have j:a.take k=a:=D (by rw[P.out];exact o _);rw[j] at m;have V:IsM wr (G4 w.heap.size wr) _ (G6 a):=OwnS.isS IsV.stb (T:=G4 w.heap.size wr) m.out (fun b c=>⟨N.out b c,by obtain⟨_,_,_,_,al⟩:=m.out;exact(al b c).1⟩) (fun b R ak=>⟨R,ak⟩);have ab:=e V;clear V j d;go_wp2_with fail;go_ret;exact⟨⟨_,rfl,ab.out⟩,O.out⟩
theorem zzg (z:Int):C7 (z:Rat)=⟨decide (z<0),A9 z.natAbs,A9 1⟩:=by unfold C7;rw[Rat.num_intCast,Rat.den_intCast]
theorem zz1362 (n:Nat):C7 (((n:Nat):Int):Rat)=⟨false,A9 n,A9 1⟩:=by rw[zzg,Int.natAbs_natCast];have:¬((n:Int)<0):=og;simp[this]
theorem zta {w:p} (h:IsN w 0 w.heap.size v n):∃A c,v= .slice A (A9 n).length c/\(A9 n).length<=9223372036854775807:=by have a:=h.length_le;obtain⟨A,c,rfl,_⟩:=h;exact⟨A,c,rfl,by unfold maxLen at a;omega⟩
theorem yfc (w:p) (c d e j k:Array a) (g h i l m:TypeId):∃b,((((w.alloc (.cells c g)).alloc (.cells d h)).alloc (.cells e i)).alloc (.cells j l)).alloc (.cells k m)=b/\Below w.heap.size w b/\Row b w.heap.size g c.toList/\Row b (w.heap.size+1) h d.toList/\
 Row b (w.heap.size+2) i e.toList/\Row b (w.heap.size+3) l j.toList/\Row b (w.heap.size+4) m k.toList/\Hid (b.heap.size=w.heap.size+5):=by obtain⟨x,rfl,r,s,t,u,v⟩:=znm w c d e g h i;obtain⟨y,rfl,f,n,o,q⟩:=zko ((((w.alloc (.cells c g)).alloc (.cells d h)).alloc (.cells e i))) j k l m;rw[v.out] at n o q;exact⟨_,rfl,C6 r f,s.next f,t.next f,u.next f,n,o,q⟩
theorem yoa {w:p} (h:IsN w 0 w.heap.size v n) (i:(A9 n).length<=4294967296):u t 120 #[.bool false,v] w (N8 w (((n:Nat):Int):Rat)):=by have o:=e h;obtain⟨A,c,rfl,Y⟩:=zta h;have q:=e i;clear h i;obtain⟨D,C,g,l,r⟩:=J5 w #[.bool false,.slice none 0 0,.slice none 0 0] 30;obtain⟨a,f⟩:=C5 (l) (g);have m:Hid (w.heap.size+1<=D.heap.size):=e (Nat.le_of_eq r.out.symm);clear l g;obtain⟨G,J,M⟩:=B9 a.out;obtain⟨P,S,V⟩:=E0 a.out;have s:=e (IsN.next o.out f.out);go_in;go_wp2_with fail;clear C;refine(zpm s.out q.out).mono ?_;rintro z d ⟨⟨ab,rfl,j⟩,B⟩;have x:=e (M6 j m.out);obtain⟨E,Z,rfl,_,_,_⟩:=id j;obtain⟨H,K,N⟩:=B9 (uR d a);obtain⟨Q,T,W⟩:=E0 (uR d a);go_wp2_with fail;refine(znv _).mono ?_;rintro z b ⟨⟨ac,rfl,k⟩,B⟩;have y:=e (M6 k (uS d m));obtain⟨F,aa,rfl,_,_,_⟩:=id k;obtain⟨I,L,O⟩:=B9 (uR b a);obtain⟨R,U,X⟩:=E0 (uR b a);go_wp2_with fail;refine M7 Tryz.results120 rfl rfl (Row.put3 (uR b a) _ _ _) (zme (zz1362 n) (uB b f) og (uF b x) y.out og og)
theorem zz1361 {q:Rat} (h:0<n/q.den):C7 ((q.num*((n/q.den:Nat):Int):Int):Rat)=⟨decide (q.num<0),A9 (q.num.natAbs*(n/q.den)),A9 1⟩:=by
 rw[zzg,Int.natAbs_mul,Int.natAbs_natCast];congr 1;rw[decide_eq_decide];have b:(0:Int)<((n/q.den:Nat):Int):=og;constructor
 ·intro c;rcases Int.lt_or_le q.num 0 with a|a
  ·exact a
  ·have:=Int.mul_nonneg a (Int.le_of_lt b);omega
 ·exact fun c=>Int.mul_neg_of_neg_of_pos c b
theorem yca {w:p} {q:Rat} (h:IsQ w (C3 w) r q) (j:IsN w 0 w.heap.size x n) (L:Sz q 100000) (K:(A9 n).length<=1000000) (I:0<n/q.den):u t 167 #[r,x] w (N8 w ((q.num*((n/q.den:Nat):Int):Int):Rat)):=by
 have T:=e h;obtain⟨k,m,B,s,D,rfl,V,an,al⟩:=G7 h;have S:=e j;obtain⟨C,aJ,rfl,aW⟩:=zta j;obtain⟨y,v⟩:=C5 L K;have W:Hid (C7 ((q.num*((n/q.den:Nat):Int):Int):Rat)=⟨k,A9 (q.num.natAbs*(n/q.den)),A9 1⟩):=(by rw[Hid,V.out];exact zz1361 I);have U:Hid (0<q.den):=q.den_pos;clear h j L K I;obtain⟨l,ak,i,ra,P,X⟩:=zko w #[.bool k,.slice m (A9 q.num.natAbs).length B,.slice s (A9 q.den).length D] #[.bool false,.slice none 0 0,.slice none 0 0] 30 30;have z:=nQ T i;obtain⟨f,a,A⟩:=G0 (ra) (P) (i);have Q:Hid (w.heap.size+2<=l.heap.size):=e (Nat.le_of_eq X.out.symm);clear ra P i;obtain⟨ab,ae,ah⟩:=B9 f.out;obtain⟨au,aA,aE⟩:=B9 a.out;obtain⟨aK,aO,aS⟩:=E0 a.out;have Y:=e (IsN.next S.out A.out);go_in;go_wp2_with fail;clear ak
 go_region_held3 (fun w'=>w'.cell? ⟨w.heap.size,0,none⟩=some (.bool k)/\w'.cell? ⟨w.heap.size,1,none⟩=some (.slice m (A9 q.num.natAbs).length B)/\w'.cell? ⟨w.heap.size,2,none⟩=some (.slice s (A9 q.den).length D))
  (first
    |exact⟨ab,ae,ah⟩
    |exact⟨ac,af,ai⟩
    |exact⟨ad,ag,aj⟩
    |exact⟨E,F,G⟩
    |exact⟨T7 E og,T7 F og,T7 G og⟩)
  (first
    |(go_at_call 169;have hc:=zol (zoi (uN l.drew Y)) (E9 (zle (uQ l.drew z))) (g v.out og) (g y.out.2 og) U.out;(with_reducible refine hc.mono ?_);clear hc;rintro H c ⟨⟨a0,rfl,M⟩,J⟩;have R:=e (M);obtain⟨ao,aX,rfl,_,_,_⟩:=id M;obtain⟨ac,af,ai⟩:=B9 (uR c f);obtain⟨av,aB,aG⟩:=B9 (uR c a);obtain⟨aL,aP,aT⟩:=E0 (uR c a))
    |(go_at_call 160;have hc:=znt (E9 (zkx (uQ c z))) (E9 R.out) (o _) (o _) (g y.out.1 og) (g (znq v.out) og);(with_reducible refine hc.mono ?_);clear hc;rintro H d ⟨⟨a1,rfl,N⟩,J⟩;have Z:=e (M6 N (uS c Q));obtain⟨aq,aY,rfl,_,_,_⟩:=id N;obtain⟨ad,ag,aj⟩:=B9 (uR d f);obtain⟨ay,aC,aH⟩:=B9 (uR d a);obtain⟨aM,aQ,aU⟩:=E0 (uR d a))
    |(go_at_call 130;have hc:=znv d;(with_reducible refine hc.mono ?_);clear hc;rintro H b ⟨⟨a2,rfl,O⟩,J⟩;have aa:=e (M6 O (uS d Q));obtain⟨ar,aZ,rfl,_,_,_⟩:=id O;obtain⟨E,F,G⟩:=B9 (uR b f);obtain⟨az,aD,aI⟩:=B9 (uR b a);obtain⟨aN,aR,aV⟩:=E0 (uR b a)))
 go_wp2_with fail;refine M7 Tryz.results167 rfl rfl (Row.put3 (uR b a) _ _ _) (zme W.out (uB b A) og (uF b Z) aa.out og og)
theorem yld {w:p} {vd:a} {d:Nat} {q:Rat} (s:Bool) (aB:IsN w 0 w.heap.size x n) (hd:IsN w 0 w.heap.size vd d) (aI:Bru w) (aL:(A9 n).length<=1000000) (aK:(A9 d).length<=1000000) (aJ:d≠0) (aM:q=mkRat (sg s n) d):u t 171 #[.bool s,x,vd] w (N8 w q):=by
 obtain⟨ab,Z,Y,K,y,V⟩:=hd6 aB hd aI aL aK aM;obtain⟨A,bG,rfl,bI⟩:=zta aB;obtain⟨C,bH,rfl,bJ⟩:=zta hd;clear aB hd aI aL aK aM;by_cases L:n=0
 ·have a7:(((A9 n).length:Int)==0)=true:=ztb L;have aN:Hid (q=0):=(by rw[Hid,V.out,L,zuw];simp);clear L;obtain⟨H,G,k,l,E⟩:=J5 w #[.bool false,.slice none 0 0,.slice none 0 0] 30;obtain⟨b,f⟩:=C5 (l) (k);have m:Hid (w.heap.size+1<=H.heap.size):=e (Nat.le_of_eq E.out.symm);clear l k;obtain⟨ai,ak,an⟩:=B9 b.out;obtain⟨aq,au,ay⟩:=E0 b.out;go_in;go_wp2_with fail;clear G;refine(zsl _).mono ?_;rintro h c ⟨⟨aD,rfl,hv⟩,j⟩;have ah:=e (IsQ.stb.le hv m.out);obtain⟨bA,ae,aC,aO,bx,rfl,_,_,_⟩:=G7 hv;obtain⟨aj,al,ao⟩:=B9 (uR c b);obtain⟨ar,av,az⟩:=E0 (uR c b);go_wp2_with fail;rw[aN.out];refine M7 Tryz.results171 rfl rfl (Row.put3 (uR c b) _ _ _) (zky ah.out (uB c f) og og)
 have a7:(((A9 n).length:Int)==0)=false:=zoj L;obtain⟨ac,D⟩:=C5 L aJ;clear L aJ;by_cases aA:(A9 n).length<=2/\(A9 d).length<=2
 ·obtain⟨aG,aH⟩:=aA;have aE:decide (((A9 n).length:Int)<=2)=true:=(by simp;omega);have a8:decide (((A9 d).length:Int)<=2)=true:=(by simp;omega);have bF:n<1000000000000000000:=zvy aG;have b2:d<1000000000000000000:=zvy aH;obtain⟨aT,aU⟩:=C5 aG aH;obtain⟨H,G,k,l,E⟩:=J5 w #[.bool false,.slice none 0 0,.slice none 0 0] 30;obtain⟨b,f⟩:=C5 (l) (k);have m:Hid (w.heap.size+1<=H.heap.size):=e (Nat.le_of_eq E.out.symm);clear l k;obtain⟨ai,ak,an⟩:=B9 b.out;obtain⟨aq,au,ay⟩:=E0 b.out;obtain⟨F,B,M⟩:=G0 (IsN.next ab.out f.out) (IsN.next Z.out f.out) (Bru.next Y.out f.out);go_in;go_wp2_with fail;clear G;refine(zsk F.out aT.out).mono ?_;rintro h c ⟨rfl,rfl⟩;go_wp2_with fail;refine(zsk B.out aU.out).mono ?_;rintro h c ⟨rfl,rfl⟩;go_wp2_with fail;refine(yob _ s n d M.out ac.out D.out og og).mono ?_;rintro h c ⟨⟨aD,rfl,hv⟩,j⟩;have ah:=e (IsQ.stb.le hv m.out);obtain⟨bA,ae,aC,aO,bx,rfl,_,_,_⟩:=G7 hv;obtain⟨aj,al,ao⟩:=B9 (uR c b);obtain⟨ar,av,az⟩:=E0 (uR c b);go_wp2_with fail;rw[V.out];refine M7 Tryz.results171 rfl rfl (Row.put3 (uR c b) _ _ _) (zky ah.out (uB c f) og og)
 rcases z 2 (A9 n).length with br|br
 ·have aE:decide (((A9 n).length:Int)<=2)=false:=(by simp;omega);clear aA;obtain⟨r,i⟩:=nm (Nat.gcd n d);have ad:Hid (C7 q=⟨s,A9 (n/r),A9 (d/r)⟩):=(by rw[Hid,V.out,i];exact zwj ac.out D.out);have aa:=e i;have P:Hid (0<r):=(by rw[Hid,i];exact zsz _ D.out);have O:Hid ((A9 r).length<=1000000):=(by rw[Hid,i];exact zsy _ D.out y.out);clear i;obtain⟨H,G,k,l,E⟩:=J5 w #[.bool false,.slice none 0 0,.slice none 0 0] 30;obtain⟨b,f⟩:=C5 (l) (k);have m:Hid (w.heap.size+1<=H.heap.size):=e (Nat.le_of_eq E.out.symm);clear l k;obtain⟨ai,ak,an⟩:=B9 b.out;obtain⟨aq,au,ay⟩:=E0 b.out;obtain⟨F,B,M⟩:=G0 (IsN.next ab.out f.out) (IsN.next Z.out f.out) (Bru.next Y.out f.out);go_in;go_wp2_with fail;clear G;refine(zqq F.out B.out M.out (g K.out og) (g y.out og)).mono ?_;rw[<-aa.out];rintro h c ⟨⟨aD,rfl,Q⟩,j⟩;have N:=e (M6 Q m.out);obtain⟨ae,aC,rfl,_,_,_⟩:=id Q;obtain⟨aj,al,ao⟩:=B9 (uR c b);obtain⟨ar,av,az⟩:=E0 (uR c b);go_wp2_with fail;refine(zol (zoi (uN c F)) (E9 (IsK.stb.old N.out)) (g K.out og) (g O.out og) P.out).mono ?_;rintro h I ⟨⟨bB,rfl,R⟩,j⟩;have W:=e (R);obtain⟨aP,bt,rfl,_,_,_⟩:=id R;obtain⟨aV,aZ,a3⟩:=B9 (uR I b);obtain⟨a9,bg,bm⟩:=E0 (uR I b);go_wp2_with fail;refine(zpm (E9 W.out) (g (znq K.out) og)).mono ?_;rintro h v ⟨⟨bC,rfl,S⟩,j⟩;have af:=e (M6 S (uS I m));obtain⟨aQ,bu,rfl,_,_,_⟩:=id S;obtain⟨aW,a0,a4⟩:=B9 (uR v b);obtain⟨bd,bh,bn⟩:=E0 (uR v b);go_wp2_with fail;refine(zol (zoi (uN v B)) (E9 (IsK.stb.old (uF v N))) (g y.out og) (g O.out og) P.out).mono ?_;rintro h J ⟨⟨bD,rfl,T⟩,j⟩;have X:=e (T);obtain⟨aR,bv,rfl,_,_,_⟩:=id T;obtain⟨aX,a1,a5⟩:=B9 (uR J b);obtain⟨be,bi,bp⟩:=E0 (uR J b);go_wp2_with fail;refine(zpm (E9 X.out) (g (znq y.out) og)).mono ?_;rintro h o ⟨⟨bE,rfl,U⟩,j⟩;have ag:=e (M6 U (uS J m));obtain⟨aS,bw,rfl,_,_,_⟩:=id U;obtain⟨aY,a2,a6⟩:=B9 (uR o b);obtain⟨bf,bj,bq⟩:=E0 (uR o b);go_wp2_with fail;refine M7 Tryz.results171 rfl rfl (Row.put3 (uR o b) _ _ _) (zme ad.out (uB o f) og (uF o af) ag.out og og)
 ·have aE:decide (((A9 n).length:Int)<=2)=true:=(by simp;omega);have a8:decide (((A9 d).length:Int)<=2)=false:=(by simp;omega);clear aA;obtain⟨r,i⟩:=nm (Nat.gcd n d);have ad:Hid (C7 q=⟨s,A9 (n/r),A9 (d/r)⟩):=(by rw[Hid,V.out,i];exact zwj ac.out D.out);have aa:=e i;have P:Hid (0<r):=(by rw[Hid,i];exact zsz _ D.out);have O:Hid ((A9 r).length<=1000000):=(by rw[Hid,i];exact zsy _ D.out y.out);clear i;obtain⟨H,G,k,l,E⟩:=J5 w #[.bool false,.slice none 0 0,.slice none 0 0] 30;obtain⟨b,f⟩:=C5 (l) (k);have m:Hid (w.heap.size+1<=H.heap.size):=e (Nat.le_of_eq E.out.symm);clear l k;obtain⟨ai,ak,an⟩:=B9 b.out;obtain⟨aq,au,ay⟩:=E0 b.out;obtain⟨F,B,M⟩:=G0 (IsN.next ab.out f.out) (IsN.next Z.out f.out) (Bru.next Y.out f.out);go_in;go_wp2_with fail;clear G;refine(zqq F.out B.out M.out (g K.out og) (g y.out og)).mono ?_;rw[<-aa.out];rintro h c ⟨⟨aD,rfl,Q⟩,j⟩;have N:=e (M6 Q m.out);obtain⟨ae,aC,rfl,_,_,_⟩:=id Q;obtain⟨aj,al,ao⟩:=B9 (uR c b);obtain⟨ar,av,az⟩:=E0 (uR c b);go_wp2_with fail;refine(zol (zoi (uN c F)) (E9 (IsK.stb.old N.out)) (g K.out og) (g O.out og) P.out).mono ?_;rintro h I ⟨⟨bB,rfl,R⟩,j⟩;have W:=e (R);obtain⟨aP,bt,rfl,_,_,_⟩:=id R;obtain⟨aV,aZ,a3⟩:=B9 (uR I b);obtain⟨a9,bg,bm⟩:=E0 (uR I b);go_wp2_with fail;refine(zpm (E9 W.out) (g (znq K.out) og)).mono ?_;rintro h v ⟨⟨bC,rfl,S⟩,j⟩;have af:=e (M6 S (uS I m));obtain⟨aQ,bu,rfl,_,_,_⟩:=id S;obtain⟨aW,a0,a4⟩:=B9 (uR v b);obtain⟨bd,bh,bn⟩:=E0 (uR v b);go_wp2_with fail;refine(zol (zoi (uN v B)) (E9 (IsK.stb.old (uF v N))) (g y.out og) (g O.out og) P.out).mono ?_;rintro h J ⟨⟨bD,rfl,T⟩,j⟩;have X:=e (T);obtain⟨aR,bv,rfl,_,_,_⟩:=id T;obtain⟨aX,a1,a5⟩:=B9 (uR J b);obtain⟨be,bi,bp⟩:=E0 (uR J b);go_wp2_with fail;refine(zpm (E9 X.out) (g (znq y.out) og)).mono ?_;rintro h o ⟨⟨bE,rfl,U⟩,j⟩;have ag:=e (M6 U (uS J m));obtain⟨aS,bw,rfl,_,_,_⟩:=id U;obtain⟨aY,a2,a6⟩:=B9 (uR o b);obtain⟨bf,bj,bq⟩:=E0 (uR o b);go_wp2_with fail;refine M7 Tryz.results171 rfl rfl (Row.put3 (uR o b) _ _ _) (zme ad.out (uB o f) og (uF o af) ag.out og og)
def zld (a e b c:Int) (d:Nat):Int:=(a*e-b*c).tdiv (d:Int)
theorem zz1408 (s:Bool) (n d:Nat):(sg s n).tdiv (d:Int)=sg s (n/d):=by
 cases s
 ·rw[ydu,ydu,Int.ofNat_tdiv]
 ·rw[ymi,ymi,Int.neg_tdiv,Int.ofNat_tdiv]
theorem yrm {a e b c:Int} {f j g i:Bool} (ha:f=decide (a<0)) (o:j=decide (e<0)) (m:g=decide (b<0)) (hc:i=decide (c<0)) {s:Bool}
 (h:sg s n=sg (!(f==j)) (a.natAbs*e.natAbs)+sg (g==i) (b.natAbs*c.natAbs)) (d:Nat):zld a e b c d=sg s (n/d):=by have k:sg (!(f==j)) (a.natAbs*e.natAbs)=a*e:=(by rw[show(!(f==j))=(f !=j) from rfl,zwq,ha,o,zuv,zuv]);have l:sg (g==i) (b.natAbs*c.natAbs)= -(b*c):=(by rw[show(g==i)= !(g !=i) by simp[bne],ymh,zwq,m,hc,zuv,zuv]);unfold zld;rw[show a*e-b*c=sg s n by rw[h,k,l];omega,zz1408]
theorem ydo (s:Bool) (n:Nat):C7 ((sg s n:Int):Rat)=⟨s&&decide (0<n),A9 n,A9 1⟩:=by
 rw[zzg,zws];congr 1;rcases Nat.eq_zero_or_pos n with h|h
 ·subst h;simp[zuw]
 ·rw[ymg og];simp[h]
theorem zvm {w:p} {a4 a2 a3 vd:a} {G J H I:Rat} {d:Nat} (ha:IsQ w (C3 w) r G) (Y:IsQ w (C3 w) a4 J) (i:IsQ w (C3 w) a2 H) (hc:IsQ w (C3 w) a3 I) (hd:IsN w 0 w.heap.size vd d)
 (sa:Sz G 500000) (sp:Sz J 500000) (sb:Sz H 500000) (a0:Sz I 500000) (aQ:(A9 d).length<=1000000) (aP:0<d):u t 117 #[r,a4,a2,a3,vd] w (N8 w ((zld G.num J.num H.num I.num d:Int):Rat)):=by
 have bf:=e ha;obtain⟨Z,ad,an,a5,bD,rfl,bn,cr,cl⟩:=G7 ha;have bi:=e Y;obtain⟨ac,ag,ar,a8,bG,rfl,br,cu,cq⟩:=G7 Y;have bg:=e i;obtain⟨aa,ae,ao,a6,bE,rfl,bp,cs,cm⟩:=G7 i;have bh:=e hc;obtain⟨ab,af,aq,a7,bF,rfl,bq,ct,cn⟩:=G7 hc;have be:=e hd;obtain⟨C,dh,rfl,dz⟩:=zta hd;have ah:=e sa.1;have ak:=e sp.1;have ai:=e sb.1;have aj:=e a0.1;obtain⟨bm,bj⟩:=C5 aQ aP;obtain⟨T,zoh⟩:∃T:Bool,(!(Z==ac))=T:=⟨_,rfl⟩;obtain⟨U,znr⟩:∃U:Bool,(aa==ab)=U:=⟨_,rfl⟩;have bd:Hid (∀s n,sg s n=sg T (G.num.natAbs*J.num.natAbs)+sg U (H.num.natAbs*I.num.natAbs)->zld G.num J.num H.num I.num d=sg s (n/d)):=(by intro s n h;rw[<-zoh,<-znr] at h;exact yrm bn.out br.out bp.out bq.out h d);clear ha Y i hc hd sa sp sb a0 aQ aP;obtain⟨V,ck,O,ra,aZ,f,rc,aY,Q⟩:=yfc w #[.bool Z,.slice ad (A9 G.num.natAbs).length an,.slice a5 (A9 G.den).length bD] #[.bool ac,.slice ag (A9 J.num.natAbs).length ar,.slice a8 (A9 J.den).length bG] #[.bool aa,.slice ae (A9 H.num.natAbs).length ao,.slice a6 (A9 H.den).length bE] #[.bool ab,.slice af (A9 I.num.natAbs).length aq,.slice a7 (A9 I.den).length bF] #[.bool false,.slice none 0 0,.slice none 0 0] 30 30 30 30 30;have bx:=nQ bf O;have m:=e (ra);have bC:=nQ bi O;have A:=e (aZ);have bA:=nQ bg O;have v:=e (f);have bB:=nQ bh O;obtain⟨x,c,S⟩:=G0 (rc) (aY) (O);have M:Hid (w.heap.size+5<=V.heap.size):=e (Nat.le_of_eq Q.out.symm);clear ra aZ f rc aY O;obtain⟨bH,bL,cB⟩:=B9 m.out;obtain⟨cb,cg,cY⟩:=B9 A.out;obtain⟨bR,bX,cL⟩:=B9 v.out;obtain⟨b1,b7,cS⟩:=B9 x.out;obtain⟨c5,da,df⟩:=B9 c.out;obtain⟨dn,dt,dy⟩:=E0 c.out;have a9:=e (IsN.next be.out S.out);go_in;go_wp2_with fail;clear ck
 go_region_held3 (fun w'=>w'.cell? ⟨w.heap.size,0,none⟩=some (.bool Z)/\w'.cell? ⟨w.heap.size,1,none⟩=some (.slice ad (A9 G.num.natAbs).length an)/\w'.cell? ⟨w.heap.size+1,0,none⟩=some (.bool ac)/\w'.cell? ⟨w.heap.size+1,1,none⟩=some (.slice ag (A9 J.num.natAbs).length ar)/\w'.cell? ⟨w.heap.size+2,0,none⟩=some (.bool aa)/\w'.cell? ⟨w.heap.size+2,1,none⟩=some (.slice ae (A9 H.num.natAbs).length ao)/\w'.cell? ⟨w.heap.size+3,0,none⟩=some (.bool ab)/\w'.cell? ⟨w.heap.size+3,1,none⟩=some (.slice af (A9 I.num.natAbs).length aq))
  (first
    |exact⟨bH,bL,cb,cg,bR,bX,b1,b7⟩
    |exact⟨bK,bO,cc,ch,bT,bY,b3,b8⟩
    |exact⟨bI,bM,b9,cd,bP,bU,bZ,b4⟩
    |exact⟨bJ,bN,ca,cf,bQ,bV,b0,b5⟩)
  (first
    |(go_at_call 160;have hc:=znt (E9 (zkx (uQ V.drew bx))) (E9 (zkx (uQ V.drew bC))) (o _) (o _) (g ah.out og) (g ak.out og);(with_reducible refine hc.mono ?_);clear hc;rintro N j ⟨⟨dE,rfl,aT⟩,i⟩;have bv:=e (M6 aT (uS V.drew M));obtain⟨cv,dA,rfl,_,_,_⟩:=id aT;obtain⟨bK,bO,cF⟩:=B9 (uR j m);obtain⟨cc,ch,c0⟩:=B9 (uR j A);obtain⟨bT,bY,cM⟩:=B9 (uR j v);obtain⟨b3,b8,cT⟩:=B9 (uR j x);obtain⟨c1,c6,db⟩:=B9 (uR j c);obtain⟨di,dp,du⟩:=E0 (uR j c))
    |(go_at_call 160;have hc:=znt (E9 (zkx (uQ j bA))) (E9 (zkx (uQ j bB))) (o _) (o _) (g ai.out og) (g aj.out og);(with_reducible refine hc.mono ?_);clear hc;rintro N K ⟨⟨dF,rfl,aU⟩,i⟩;have bw:=e (M6 aU (uS j M));obtain⟨cw,dB,rfl,_,_,_⟩:=id aU;obtain⟨bI,bM,cC⟩:=B9 (uR K m);obtain⟨b9,cd,cW⟩:=B9 (uR K A);obtain⟨bP,bU,cI⟩:=B9 (uR K v);obtain⟨bZ,b4,cP⟩:=B9 (uR K x);obtain⟨c2,c7,dc⟩:=B9 (uR K c);obtain⟨dj,dq,dv⟩:=E0 (uR K c))
    |(go_at_call 168;have hc:=yij T U (E9 (IsK.stb.old (uF K bv))) (E9 (IsK.stb.old bw.out)) (g (znk ah.out ak.out) og) (g (znk ai.out aj.out) og);(with_reducible refine hc.mono ?_);clear hc;rintro N L ⟨⟨s,dG,n,rfl,aS,aV,aR⟩,i⟩;have bu:=e (M6 aV (uS K M));obtain⟨cx,dC,rfl,_,_,_⟩:=id aV;have bt:=e aR;have X:=e (bd.out s n aS.out);clear aS aR;obtain⟨bJ,bN,cD⟩:=B9 (uR L m);obtain⟨ca,cf,cX⟩:=B9 (uR L A);obtain⟨bQ,bV,cJ⟩:=B9 (uR L v);obtain⟨b0,b5,cQ⟩:=B9 (uR L x);obtain⟨c3,c8,dd⟩:=B9 (uR L c);obtain⟨dk,dr,dw⟩:=E0 (uR L c)))
 go_wp2_with fail;clear zoh znr;refine(ykf bu.out (uS L M) (uN L a9) (g bt.out og) (g bm.out og) bj.out).mono ?_;rintro N k ⟨⟨dH,rfl,aW⟩,i⟩;have W:=e (aW);obtain⟨cy,dD,rfl,_,_,_⟩:=id aW;obtain⟨cz,cA,cE⟩:=B9 (uR k m);obtain⟨cU,cV,cZ⟩:=B9 (uR k A);obtain⟨cG,cH,cK⟩:=B9 (uR k v);obtain⟨cN,cO,cR⟩:=B9 (uR k x);obtain⟨c4,c9,de⟩:=B9 (uR k c);obtain⟨dm,ds,dx⟩:=E0 (uR k c);cases s with
 |false=>go_wp2_with fail;refine(znv _).mono ?_;rintro N b ⟨⟨a1,rfl,F⟩,i⟩;have R:=e (M6 F (uS k M));obtain⟨al,aX,rfl,_,_,_⟩:=id F;obtain⟨au,av,ay⟩:=B9 (uR b m);obtain⟨aG,aH,aI⟩:=B9 (uR b A);obtain⟨az,aA,aB⟩:=B9 (uR b v);obtain⟨aC,aD,aE⟩:=B9 (uR b x);obtain⟨aJ,aK,aL⟩:=B9 (uR b c);obtain⟨aM,aN,aO⟩:=E0 (uR b c);go_wp2_with fail;refine M7 Tryz.results117 rfl rfl (Row.put3 (uR b c) _ _ _) (zme (by rw[X.out,ydo];rfl) (uB b S) og (uF b W) R.out og og)
 |true=>
  rcases Nat.eq_zero_or_pos (n/d) with P|P
  ·have cj:decide (0<(A9 (n/d)).length)=false:=(by rw[P,N6];rfl);have Q:=e P;clear P;go_wp2_with fail;refine(znv _).mono ?_;rintro N b ⟨⟨a1,rfl,F⟩,i⟩;have R:=e (M6 F (uS k M));obtain⟨al,aX,rfl,_,_,_⟩:=id F;obtain⟨au,av,ay⟩:=B9 (uR b m);obtain⟨aG,aH,aI⟩:=B9 (uR b A);obtain⟨az,aA,aB⟩:=B9 (uR b v);obtain⟨aC,aD,aE⟩:=B9 (uR b x);obtain⟨aJ,aK,aL⟩:=B9 (uR b c);obtain⟨aM,aN,aO⟩:=E0 (uR b c);go_wp2_with fail;refine M7 Tryz.results117 rfl rfl (Row.put3 (uR b c) _ _ _) (zme (by rw[X.out,ydo];rw[Q.out];rfl) (uB b S) og (uF b W) R.out og og)
  ·have cj:decide (0<(A9 (n/d)).length)=true:=decide_eq_true (ywe og);have Q:=e P;clear P;go_wp2_with fail;refine(znv _).mono ?_;rintro N b ⟨⟨a1,rfl,F⟩,i⟩;have R:=e (M6 F (uS k M));obtain⟨al,aX,rfl,_,_,_⟩:=id F;obtain⟨au,av,ay⟩:=B9 (uR b m);obtain⟨aG,aH,aI⟩:=B9 (uR b A);obtain⟨az,aA,aB⟩:=B9 (uR b v);obtain⟨aC,aD,aE⟩:=B9 (uR b x);obtain⟨aJ,aK,aL⟩:=B9 (uR b c);obtain⟨aM,aN,aO⟩:=E0 (uR b c);go_wp2_with fail;refine M7 Tryz.results117 rfl rfl (Row.put3 (uR b c) _ _ _) (zme (by rw[X.out,ydo];rw[decide_eq_true Q.out];rfl) (uB b S) og (uF b W) R.out og og)
structure MatW (w:p) (S:Nat->Prop) (r0:Nat) (f cp:Nat->Nat) (n m:Nat) (A:Nat->Nat->Int):Prop where
 hd:∀i,i<n->w.cell? ⟨r0,i,none⟩=some (.slice (some ⟨f i,0,none⟩) m (cp i))
 hf:∀i,i<n->w.frozen? ⟨r0,i,none⟩=false
 cap:∀i,i<n->m<=cp i/\cp i<=maxLen
 el:∀i j,i<n->j<m->∃P k Q l,w.cell? ⟨f i,j*3,none⟩=some (.bool (decide (A i j<0)))/\w.cell? ⟨f i,j*3+1,none⟩=some (.slice P (A9 (A i j).natAbs).length k)/\w.cell? ⟨f i,j*3+2,none⟩=some (.slice Q (A9 1).length l)/\
  IsQ w S (.agg #[.bool (decide (A i j<0)),.slice P (A9 (A i j).natAbs).length k,.slice Q (A9 1).length l]) ((A i j:Int):Rat)
 ef:∀i o,i<n->o<m*3->w.frozen? ⟨f i,o,none⟩=false
 inj:∀i k,i<n->k<n->f i=f k->i=k
 sep:∀i,i<n->f i≠r0/\¬S (f i)/\f i<w.heap.size
 s0:¬S r0/\r0<w.heap.size
 sS:∀b,S b->b<w.heap.size
theorem MatW.keep {w w':p} {r0:Nat} {cp:Nat->Nat} {A:Nat->Nat->Int} (h:MatW w S r0 f cp n m A) (B:w.heap.size<=w'.heap.size)
 (l:w'.heap[r0]? =w.heap[r0]?) (hr:∀i,i<n->w'.heap[f i]? =w.heap[f i]?) (v:∀b,S b->w'.heap[b]? =w.heap[b]?)
 (x:∀b,S b->T b) (g:∀b,T b->S b\/(w.heap.size<=b/\b<w'.heap.size)):MatW w' T r0 f cp n m A where
 hd i hi:=(q l).trans (h.hd i hi)
 hf i hi:=(World.frozen?_of_block l).trans (h.hf i hi)
 cap:=h.cap
 el i j hi hj:=by
  obtain⟨s,k,t,z,d,e,o,u⟩:=h.el i j hi hj
  exact⟨s,k,t,z,(q (hr i hi)).trans d,(q (hr i hi)).trans e,(q (hr i hi)).trans o,IsQ.stb.to u fun b c=>⟨x b c,fun r=>q (v b c)⟩⟩
 ef i r hi y:=(World.frozen?_of_block (hr i hi)).trans (h.ef i r hi y);inj:=h.inj;sep i hi:=(by obtain⟨d,e,o⟩:=h.sep i hi;exact⟨d,fun h=>by rcases g _ h with h|h;exact e h;omega,by omega⟩);s0:=⟨fun a=>by rcases g _ a with a|a;exact h.s0.1 a;have:=h.s0.2;omega,by have:=h.s0.2;omega⟩
 sS b c:=by
  rcases g b c with a|a
  ·have:=h.sS b a;omega
  ·exact a.2
theorem MatW.next {w w':p} {r0:Nat} {cp:Nat->Nat} {A:Nat->Nat->Int} (h:MatW w S r0 f cp n m A) (a:Below w.heap.size w w')
 (c:∀b,S b->T b) (d:∀b,T b->S b\/(w.heap.size<=b/\b<w'.heap.size)):MatW w' T r0 f cp n m A:=
 h.keep a.size (a.block _ h.s0.2) (fun i g=>a.block _ (h.sep i g).2.2) (fun b e=>a.block _ (h.sS b e)) c d
theorem zrb (w:p) (b:Addr) (c:a):(w.setCell b c).heap.size=w.heap.size:=by simp[World.setCell]
abbrev L7 (w:p) (b j:Nat) (x y z:a):p:=((w.setCell ⟨b,j*3,none⟩ x).setCell ⟨b,j*3+1,none⟩ y).setCell ⟨b,j*3+2,none⟩ z
theorem zmd {w:p} {x y z:a} {e:Nat} (h:c≠b\/e<j*3\/j*3+3<=e):(L7 w b j x y z).cell? ⟨c,e,none⟩=w.cell? ⟨c,e,none⟩:=by unfold L7;rw[l _ _ _ _ (fun d=>by injection d with f g;omega),l _ _ _ _ (fun d=>by injection d with f g;omega),l _ _ _ _ (fun d=>by injection d with f g;omega)]
theorem ydh {w:p} {x y z i f g:a} (h:w.cell? ⟨b,j*3,none⟩=some i) (d:w.cell? ⟨b,j*3+1,none⟩=some f) (e:w.cell? ⟨b,j*3+2,none⟩=some g):
 (L7 w b j x y z).cell? ⟨b,j*3,none⟩=some x/\(L7 w b j x y z).cell? ⟨b,j*3+1,none⟩=some y/\(L7 w b j x y z).cell? ⟨b,j*3+2,none⟩=some z:=by
 unfold L7;refine⟨?_,?_,?_⟩
 ·rw[l _ _ _ _ (fun c=>by injection c with d e;omega),l _ _ _ _ (fun c=>by injection c with d e;omega)];exact World.cell?_setCell_same _ _ _ h
 ·rw[l _ _ _ _ (fun c=>by injection c with d e;omega)];refine World.cell?_setCell_same _ _ _ (u:=f) ?_;rw[l _ _ _ _ (fun c=>by injection c with d e;omega)];exact d
 ·refine World.cell?_setCell_same _ _ _ (u:=g) ?_;rw[l _ _ _ _ (fun c=>by injection c with d e;omega),l _ _ _ _ (fun c=>by injection c with d e;omega)];exact e
theorem ykx {w:p} {x y z:a} (c:Addr):(L7 w b j x y z).frozen? c=w.frozen? c:=by unfold L7;simp
theorem zom {w:p} {x y z:a}:(L7 w b j x y z).heap.size=w.heap.size:=by unfold L7;rw[zrb,zrb,zrb]
def zwz (A:Nat->Nat->Int) (i j:Nat) (z:Int):Nat->Nat->Int:=fun a b=>if a=i/\b=j then z else A a b
theorem MatW.put {w:p} {r0:Nat} {cp:Nat->Nat} {A:Nat->Nat->Int} (h:MatW w S r0 f cp n m A) (t:i<n) (K:j<m) {z:Int} {P Q:Option Addr} {l:Nat}
 (J:IsQ w S (.agg #[.bool (decide (z<0)),.slice P (A9 z.natAbs).length k,.slice Q (A9 1).length l]) ((z:Int):Rat)):
 MatW (L7 w (f i) j (.bool (decide (z<0))) (.slice P (A9 z.natAbs).length k) (.slice Q (A9 1).length l)) S r0 f cp n m (zwz A i j z) where
 hd a ha:=(zmd (.inl (Ne.symm (h.sep i t).1))).trans (h.hd a ha)
 hf a ha:=(ykx _).trans (h.hf a ha)
 cap:=h.cap
 el a b ha e:=by
  have y:K6 S S w (L7 w (f i) j (.bool (decide (z<0))) (.slice P (A9 z.natAbs).length k) (.slice Q (A9 1).length l)):=fun c hc=>⟨hc,fun D=>zmd (.inl fun d=>(h.sep i t).2.1 (by rw[<-d];exact hc))⟩
  by_cases s:a=i/\b=j
  ·obtain⟨rfl,rfl⟩:=s
   obtain⟨v,B,x,C,o,q,r,_⟩:=h.el a b ha e
   obtain⟨E,F,G⟩:=ydh (x:= .bool (decide (z<0))) (y:= .slice P (A9 z.natAbs).length k) (z:= .slice Q (A9 1).length l) o q r
   have u:zwz A a b z a b=z:=by unfold zwz;rw[if_pos ⟨rfl,rfl⟩]
   rw[u]
   exact⟨P,k,Q,l,E,F,G,IsQ.stb.to J y⟩
  ·obtain⟨v,B,x,C,o,q,r,H⟩:=h.el a b ha e
   have u:zwz A i j z a b=A a b:=by unfold zwz;rw[if_neg s]
   have L:f a≠f i\/b<j\/j<b:=by
    by_cases d:a=i
    ·have:b≠j:=fun g=>s ⟨d,g⟩
     omega
    ·exact .inl fun g=>d (h.inj a i ha t g)
   rw[u]
   exact⟨v,B,x,C,(zmd og).trans o,(zmd og).trans q,(zmd og).trans r,IsQ.stb.to H y⟩
 ef a D ha I:=(ykx _).trans (h.ef a D ha I);inj:=h.inj;sep a ha:=⟨(h.sep a ha).1,(h.sep a ha).2.1,by rw[zom];exact(h.sep a ha).2.2⟩;s0:=⟨h.s0.1,by rw[zom];exact h.s0.2⟩;sS b e:=by rw[zom];exact h.sS b e
def swF {c:Type} (b:Nat->c) (i k:Nat):Nat->c:=fun a=>if a=i then b k else if a=k then b i else b a
theorem zpw {b:Type} (a:Nat->b) (i k:Nat):swF a i k i=a k:=if_pos rfl
theorem zpx {b:Type} (a:Nat->b) (i k:Nat):swF a i k k=a i:=by
 unfold swF;split
 ·rename_i h;rw[h]
 ·rw[if_pos rfl]
theorem zos {e:Type} (b:Nat->e) {a:Nat} (c:a≠i) (d:a≠k):swF b i k a=b a:=by unfold swF;rw[if_neg c,if_neg d]
theorem MatW.swap {w:p} {r0:Nat} {cp:Nat->Nat} {A:Nat->Nat->Int} (h:MatW w S r0 f cp n m A) (q:i<n) (r:k<n) (I:i≠k):
 MatW ((w.setCell ⟨r0,i,none⟩ (.slice (some ⟨f k,0,none⟩) m (cp k))).setCell ⟨r0,k,none⟩ (.slice (some ⟨f i,0,none⟩) m (cp i))) S r0 (swF f i k) (swF cp i k) n m (swF A i k):=by
 have oth:∀b t,b≠r0->((w.setCell ⟨r0,i,none⟩ (.slice (some ⟨f k,0,none⟩) m (cp k))).setCell ⟨r0,k,none⟩ (.slice (some ⟨f i,0,none⟩) m (cp i))).cell? ⟨b,t,none⟩=w.cell? ⟨b,t,none⟩:=fun b t o=>(by rw[l _ _ _ _ (fun j=>by injection j with d e;exact o d.symm),l _ _ _ _ (fun j=>by injection j with d e;exact o d.symm)]);have s:∀a,a<n->a=i\/a=k\/(a≠i/\a≠k):=fun a _=>(by omega);refine⟨fun a ha=> ?_,fun a ha=> ?_,fun a ha=> ?_,fun a b ha o=> ?_,fun a t ha H=> ?_,fun a b ha o g=> ?_,fun a ha=> ?_,⟨h.s0.1,by rw[zrb,zrb];exact h.s0.2⟩,fun b o=>by rw[zrb,zrb];exact h.sS b o⟩
 ·rcases s a ha with rfl|rfl|⟨d,e⟩
  ·rw[zpw,zpw,l _ _ _ _ (fun j=>by injection j with d e;omega)];exact World.cell?_setCell_same _ _ _ (h.hd _ q)
  ·rw[zpx,zpx];refine World.cell?_setCell_same _ _ _ (u:= .slice (some ⟨f a,0,none⟩) m (cp a)) ?_;rw[l _ _ _ _ (fun j=>by injection j with d e;omega)];exact h.hd _ r
  ·rw[zos _ d e,zos _ d e,l _ _ _ _ (fun j=>by injection j with C D;omega),l _ _ _ _ (fun j=>by injection j with C D;omega)];exact h.hd a ha
 ·simp only[World.frozen?_setCell];exact h.hf a ha
 ·rcases s a ha with rfl|rfl|⟨d,e⟩
  ·rw[zpw];exact h.cap _ r
  ·rw[zpx];exact h.cap _ q
  ·rw[zos _ d e];exact h.cap _ ha
 ·have G:K6 S S w ((w.setCell ⟨r0,i,none⟩ (.slice (some ⟨f k,0,none⟩) m (cp k))).setCell ⟨r0,k,none⟩ (.slice (some ⟨f i,0,none⟩) m (cp i))):=fun c hc=>⟨hc,fun t=>oth c t fun j=>h.s0.1 (by rw[<-j];exact hc)⟩;rcases s a ha with rfl|rfl|⟨d,e⟩
  ·rw[zpw,zpw];obtain⟨u,E,v,F,x,y,z,B⟩:=h.el _ b r o;exact⟨u,E,v,F,(oth _ _ (h.sep _ r).1).trans x,(oth _ _ (h.sep _ r).1).trans y,(oth _ _ (h.sep _ r).1).trans z,IsQ.stb.to B G⟩
  ·rw[zpx,zpx];obtain⟨u,E,v,F,x,y,z,B⟩:=h.el _ b q o;exact⟨u,E,v,F,(oth _ _ (h.sep _ q).1).trans x,(oth _ _ (h.sep _ q).1).trans y,(oth _ _ (h.sep _ q).1).trans z,IsQ.stb.to B G⟩
  ·rw[zos _ d e,zos _ d e];obtain⟨u,E,v,F,x,y,z,B⟩:=h.el _ b ha o;exact⟨u,E,v,F,(oth _ _ (h.sep _ ha).1).trans x,(oth _ _ (h.sep _ ha).1).trans y,(oth _ _ (h.sep _ ha).1).trans z,IsQ.stb.to B G⟩
 ·simp only[World.frozen?_setCell];rcases s a ha with rfl|rfl|⟨d,e⟩
  ·rw[zpw];exact h.ef _ _ r H
  ·rw[zpx];exact h.ef _ _ q H
  ·rw[zos _ d e];exact h.ef _ _ ha H
 ·rcases s a ha with rfl|rfl|⟨d,e⟩<;>rcases s b o with rfl|rfl|⟨C,D⟩
  ·rfl
  ·rw[zpw,zpx] at g;exact absurd (h.inj _ _ r q g) og
  ·rw[zpw,zos _ C D] at g;exact absurd (h.inj _ _ r o g) og
  ·rw[zpx,zpw] at g;exact absurd (h.inj _ _ q r g) og
  ·rfl
  ·rw[zpx,zos _ C D] at g;exact absurd (h.inj _ _ q o g) og
  ·rw[zos _ d e,zpw] at g;exact absurd (h.inj _ _ ha r g) og
  ·rw[zos _ d e,zpx] at g;exact absurd (h.inj _ _ ha q g) og
  ·rw[zos _ d e,zos _ C D] at g;exact h.inj _ _ ha o g
 ·rw[zrb,zrb];rcases s a ha with rfl|rfl|⟨d,e⟩
  ·rw[zpw];exact h.sep _ r
  ·rw[zpx];exact h.sep _ q
  ·rw[zos _ d e];exact h.sep _ ha
theorem yck (w:p) (a n:Int) (k: -9223372036854775808<=a) (l:a<=9223372036854775807) (o:1<=n) (q:n<=1000000000):
 u t 22 #[.int .i64 a,.int .i64 n] w fun e w'=>e= .returned (.int .i64 (a%n))/\w=w':=by
 have i:=Int.emod_nonneg a (show n≠0 by omega);have j:=Int.emod_lt_of_pos a (show 0<n by omega)
 have b:(a.tmod n=a%n/\(a<0->a%n=0))\/a.tmod n=a%n-n:=by
  rw[Int.tmod_eq_emod];split
  ·rename_i hd;refine .inl ⟨by omega,fun s=> ?_⟩;rcases hd with hd|hd
   ·omega
   ·exact Int.emod_eq_zero_of_dvd hd
  ·exact .inr og
 rcases Int.lt_or_le a 0 with h|h
 ·have r:(n==0)=false:=beq_eq_false_iff_ne.2 og;rcases Int.lt_or_le (a.tmod n) 0 with f|f
  ·(have c:Hid (a.tmod n+n=a%n):=by unfold Hid;rcases b with⟨d,g⟩|d<;>omega);have m: -1000000000<=a.tmod n:=oh c;clear b;go_in;go_wp2;go_ret;exact⟨J0 c.out,rfl⟩
  ·(have c:Hid (a.tmod n=a%n):=by unfold Hid;rcases b with⟨d,g⟩|d<;>omega);clear b;go_in;go_wp2;go_ret;exact⟨J0 c.out,rfl⟩
 ·clear b;go_in;go_wp2;go_ret;exact⟨rfl,rfl⟩
end Go.Proofs.YtlhhbccgfkhflaaGreatDoor
