/-
 The contract of package long's Lcm.
-/
import Derived.Test.YtdgilbgdkmhcmaaGreatDoorProofSimplexProves02
import Derived.Deep.RegionLaw
import Derived.Lib.ConvBytes
namespace Go.Proofs.YtdgilbgdkmhcmaaGreatDoor
open Go.RowKit
set_option linter.unusedVariables false
set_option maxRecDepth 100000
set_option maxHeartbeats 8000000
open _root_.Go.Lib renaming hid → f
open _root_.Nat renaming le_refl → E, le_trans → H, lt_or_ge → s, zero_le → L, mul_le_mul_right → h
open _root_.List renaming getD_eq_getElem?_getD → N, mem_of_getElem? → B, length_append → J
open _root_.Go renaming World → u, Value → y, Calls → F, TypeId → d
open _root_.Go.RowKit renaming Below → p, Hid → b
open _root_.Go.Proofs.Tryz renaming prog → G
variable {M : List (List Rat)} {c g hi D i j k lo lo' m n : Nat} {l : List Nat} {r : List Rat} {v C I : y} {xs : List y}
theorem zmv (l:List Rat):(C0 l).length=l.length:=by simp[C0]
def zkk (l:List Rat):Nat:=l.foldl (fun o q=>Nat.lcm o q.den) 1
theorem ysx (l:List Rat) (q:Rat):zkk (l++[q])=Nat.lcm (zkk l) q.den:=by unfold zkk;rw[List.foldl_append];rfl
theorem ygu (a b:Nat):a*(b/Nat.gcd a b)=Nat.lcm a b:=by unfold Nat.lcm;rw[Nat.mul_div_assoc _ (Nat.gcd_dvd_right a b)]
theorem ysw (l:List Rat):∀o,0<o->0<l.foldl (fun o q=>Nat.lcm o q.den) o:=by
 induction l with
 |nil=>exact fun o h=>h
 |cons q l ih=>exact fun o h=>ih _ (Nat.lcm_pos h q.den_pos)
theorem zxl (l:List Rat):0<zkk l:=ysw l 1 og
theorem yqc (l:List Rat):∀o,o∣l.foldl (fun o q=>Nat.lcm o q.den) o:=by
 induction l with
 |nil=>exact fun o=>Nat.dvd_refl o
 |cons q l ih=>exact fun o=>Nat.dvd_trans (Nat.dvd_lcm_left o q.den) (ih _)
theorem ysu {q:Rat} (l:List Rat):∀o,q∈l->q.den∣l.foldl (fun o q=>Nat.lcm o q.den) o:=by
 induction l with
 |nil=>intro o h;cases h
 |cons a l ih=>
  intro o h;rcases List.mem_cons.1 h with rfl|h
  ·exact Nat.dvd_trans (Nat.dvd_lcm_right o q.den) (yqc l _)
  ·exact ih _ h
theorem yba {q:Rat} {l:List Rat} (h:q∈l):q.den∣zkk l:=ysu l 1 h
theorem ysv (l:List Rat) (a:∀q∈l,Sz q 1024):∀o k,(A9 o).length<=k->(A9 (l.foldl (fun o q=>Nat.lcm o q.den) o)).length<=k+1024*l.length:=by
 induction l with
 |nil=>intro o k h;simpa using h
 |cons q l ih=>intro o k h;have c:(A9 (Nat.lcm o q.den)).length<=k+1024:=(by rw[<-ygu];exact znt h (zsi (a q (by simp)).2));have:=ih (fun g e=>a g (by simp[e])) _ _ c;rw[List.length_cons];simp only[List.foldl_cons];omega
theorem ybc {l:List Rat} (a:∀q∈l,Sz q 1024):(A9 (zkk l)).length<=1+1024*l.length:=ysv l a 1 1 (by rw[zka];simp)
theorem ygt {w:u} {aB:y} {l:List Rat} (h:IsV w (C2 w) aB (C0 l)) (ao:Bru w) (az:∀q∈l,Sz q 1024) (aZ:l.length<=100):
 F G 173 #[aB] w fun e w'=>(∃v,e= .returned v/\IsN w' w.heap.size w'.heap.size v (zkk l))/\p w.heap.size w w':=by
 obtain⟨aa,aI,ae⟩:=G4 h ao az;obtain⟨D,d,rfl,a3⟩:=M5 h;obtain⟨n,A⟩:=nm (l.length);rw[zmv,<-A] at aa a3⊢;rw[<-A] at aZ;have ad:=f A;clear h ao az A;go_in;go_wp2_with fail;refine(zmt w).mono ?_;rintro e bD ⟨⟨bx,rfl,O⟩,aq⟩;obtain⟨aM,B0⟩:=C4 (zoq O) aq;obtain⟨a8,bp,rfl,_,_,_⟩:=id O;clear O aq;go_wp2_with fail;go_loopw [9,3,5] (fun i out _ wr=>∃k:Nat,k<=n/\i= .int .i64 (k:Int)/\p w.heap.size w wr/\b (IsN wr w.heap.size wr.heap.size out (zkk (l.take k)))) (fun i _ _ _=>n-(intOf i).toNat);case atStart=>exact⟨0,L _,rfl,B0.out,by rw[b];exact(IsK.isL aM.out fun bf aX=>aX)⟩
 case round=>
  obtain⟨k,bj,rfl,M,hv⟩:=hrel;have c:=f M;have o:=f hv.out;obtain⟨P,bu,rfl,_,_,_⟩:=id hv.out;rcases s k n with N|bi
  ·obtain⟨x,C,ay⟩:=zoe (l:=l) (j:=k) (by rw[<-ad.out];exact N);obtain⟨bg,bw,aN,aO,aP,aQ,rfl,_,m,ah,ai,aj⟩:=zlc (IsV.stb.to aa.out (E7 c.out)) ay;obtain⟨aR,ak⟩:=nm ((D8 x).neg);obtain⟨aS,al⟩:=nm ((D8 x).num.length);rw[<-ak] at ah m;rw[<-al] at ai m;have an:(D8 x).den=A9 x.den:=rfl;rw[an] at aj m;obtain⟨aL,a7,r⟩:=G4 (zsp m) C (ae.out x (B C));have af:b (zkk (l.take (k+1))=Nat.lcm (zkk (l.take k)) x.den):=(by rw[b,zpo C,ysx]);obtain⟨t,K⟩:=nm (zkk (l.take k));have ab:b ((A9 t).length<=200000):=(by rw[b,K];have:=ybc (l:=l.take k) fun q a1=>ae.out q (List.mem_of_mem_take a1);have:=List.length_take_le k l;omega);have a6:b (0<x.den):=x.den_pos;rw[<-K] at o af⊢;obtain⟨bv,av⟩:=nm ((A9 t).length);rw[<-av] at o⊢;have bh:=L7;have bm:(0:Int)<=(k:Int):=og;have bn:(k:Int)<(n:Int):=og;obtain⟨I,a2,j,aA,a4⟩:=K0 wr #[.bool aR,.slice aN aS aO,.slice aP (A9 x.den).length aQ] 37;have U:=f j;have ag:=nQ aL j;have z:=f ((zoq o.out));have z:=f (IsK.stb.fresh z.out j);have aE:=nU aI (C9 c.out j);have aG:=f ((C3 aA).2.2);have aJ:b (0<Nat.gcd t x.den):=yaj _ x.den_nz;have aK:b ((A9 (Nat.gcd t x.den)).length<=1024):=yah _ x.den_nz r.out.2;have ac:=f N;clear C ay m ak al M hv K av aA a4 j an N;go_wp2_with fail;clear a2 ah ai aj;have J:=zkf aG.out;have V:=f fun g (a:p I.heap.size I g)=>zva (E9 (IsK.stb.next (IsK.stb.old z.out) a)) (E9 (IsK.stb.next (zpy ag.out) a)) (Bru.next aE.out a) (H ab.out og) (H r.out.2 og)
   go_region_held3 (SH.mk _ J).s
    (exact J.out _ bel)
    (first
      |(go_at_call 185;(with_reducible refine Calls.mono (V.out _ bel) ?_);rintro e aC ⟨⟨bA,rfl,Q⟩,ar⟩;have Y:=f (znm Q);obtain⟨a9,bq,rfl,_,_,_⟩:=id Q;have W:=f fun g (a:p aC.heap.size aC g)=>ztw (IsK.stb.next (zpy ag.out) bel) (E9 (IsK.stb.next Y.out a)) (H r.out.2 og) (H aK.out og) aJ.out)
      |(go_at_call 177;(with_reducible refine Calls.mono (W.out _ bel) ?_);rintro e T ⟨⟨bB,rfl,R⟩,au⟩;have Z:=f R;obtain⟨bd,br,rfl,_,_,_⟩:=id R;have X:=f fun g (a:p T.heap.size T g)=>zre (E9 (IsK.stb.next (IsK.stb.old z.out) bel)) (E9 (IsK.stb.next Z.out a)) (E _) (E _) (H ab.out og) (H (zsi r.out.2) og))
      |(go_at_call 168;(with_reducible refine Calls.mono (X.out _ bel) ?_);rintro e a5 ⟨⟨bC,rfl,S⟩,aY⟩;have aH:=f S;obtain⟨be,bt,rfl,_,_,_⟩:=id S))
   have aD:b (p I.heap.size I a5):=(by rw[b];exact bel);have a0:w.heap.size<=T.heap.size:=(by have aT:=c.out.size;have aU:=U.out.size;have aV:=ar.size;have aW:=au.size;exact H aT (H aU (H (by simpa using aV) aW)));clear J V W X Q R S ar au aY Y Z;go_wp2_with fail;go_roundw;(case rel=>exact⟨k+1,ac.out,by go_num,C9 (C9 c.out U.out) aD.out,by rw[b,af.out,<-ygu];exact aH.out.wide a0 (E _)⟩);case measure=>have:=ac.out;simp[intOf];omega
  ·obtain rfl:k=n:=og;clear M hv;go_wp2_with fail;go_ret;refine⟨⟨_,rfl,?_⟩,c.out⟩;have h:=o.out;rw[List.take_of_length_le (Nat.le_of_eq ad.out.symm)] at h⊢;exact h
theorem zz1363 {a:Int} {d:Nat} {z:Int} (hd:0<d) (h:(a:Rat)/((d:Int):Rat)=(z:Rat)):a.tdiv (d:Int)=z:=by have f:((d:Int):Rat)≠0:=(by intro e;have:(d:Int)=0:=Rat.intCast_inj.1 (by rw[e];rfl);omega);have b:(a:Rat)=(z:Rat)*((d:Int):Rat):=(by rw[<-h,Rat.div_mul_cancel f]);have c:a=z*(d:Int):=(by rw[<-Rat.intCast_mul] at b;exact Rat.intCast_inj.1 b);rw[c];exact Int.mul_tdiv_cancel _ og
def zlw (M:List (List Rat)) (i j:Nat):Int:=((M.getD i []).getD j 0).num*((zkk (M.getD i [])/((M.getD i []).getD j 0).den:Nat):Int)
theorem zsq {x:Rat} (hr:M[i]? =some r) (c:r[j]? =some x):zlw M i j=x.num*((zkk r/x.den:Nat):Int):=by unfold zlw;have a:M.getD i []=r:=(by rw[N,hr,Option.getD_some]);have b:r.getD j 0=x:=(by rw[N,c,Option.getD_some]);rw[a,b]
theorem zxr {b:List (List Rat)} {x:Rat} (hr:b[i]? =some r) (e:r[j]? =some x):((zlw b i j:Int):Rat)=x*((zkk r:Nat):Rat):=by rw[zsq hr e,Rat.intCast_mul];have hd:x.den∣zkk r:=yba (B e);obtain⟨c,hc⟩:=hd;have f:zkk r/x.den=c:=(by rw[hc];exact Nat.mul_div_cancel_left c x.den_pos);rw[f,hc,Rat.natCast_mul];have g:(x.num:Rat)=x*((x.den:Nat):Rat):=(by have a:=Rat.mkRat_self x;rw[Rat.mkRat_eq_div] at a;have h:((x.den:Nat):Rat)≠0:=ynr x.den_pos;have d:=Rat.div_mul_cancel (a:=(x.num:Rat)) h;rw[a] at d;exact d.symm);rw[g];show x*_*((c:Nat):Rat)=_;grind
def zuj (M:List (List Rat)) (a:List Rat) (k:Nat):List (List Rat):=(List.range k).map fun i=>M.getD i []++[a.getD i 0]
theorem ycu {b:List Rat} {m:Nat} (hi:i<n) (hr:M[i]? =some r):(zuj M b n)[i]? =some (r++[b.getD i 0]):=by unfold zuj;rw[List.getElem?_map,List.getElem?_range hi,Option.map_some,N,hr];rfl
theorem zxc {x:Rat} (b:r.length=m) (a:j<m):(r++[x])[j]? =some (r.getD j 0):=by rw[List.getElem?_append_left og,N,List.getElem?_eq_getElem og];rfl
theorem yal {x:Rat} (a:r.length=m):(r++[x])[m]? =some x:=by rw[List.getElem?_append_right og,a,Nat.sub_self];rfl
def OwnV (w w':u) (v:y) (l:List Rat):Prop:=∃a:Nat->Prop,OwnS 3 37 IsR w' w.heap.size a v (C0 l)/\∀b,a b->w.heap.size<=b
theorem yiy (j:Nat):C0 (List.replicate (j+1) (0:Rat))=C0 (List.replicate j 0)++[D8 0]:=by unfold C0;rw[List.replicate_succ',List.map_append];rfl
theorem zzi (w:u) (U:n<=1000):
 F G 179 #[.int .i64 (n:Int)] w fun e w'=>(∃v,e= .returned v/\OwnV w w' v (List.replicate n 0))/\p w.heap.size w w':=by
 have R:=L7;go_in;go_wp2_with (at_make;refine zzh zli rfl _ _ rfl IsR n rfl rfl rfl og (base:=w.heap.size) (S:=fun _=>False) (E _) (fun a h=>h.elim) ?_;intro ab ad B y W);obtain⟨H,D⟩:=C4 B y;clear B y;go_loopw [7,3] (fun o out wr=>∃(j:Nat) (c:Nat->Prop),j<=n/\o= .int .i64 (j:Int)/\p w.heap.size w wr/\OwnS 3 37 IsR wr w.heap.size c out (C0 (List.replicate j 0))/\b (∀a,c a->w.heap.size<=a)) (fun o _ _=>n-(intOf o).toNat);case atStart=>exact⟨0,fun _=>False,L _,rfl,D.out,H.out,fun a h=>h.elim⟩
 case round=>
  obtain⟨j,c,S,rfl,z,A,x⟩:=hrel;obtain⟨i,t⟩:=C4 z A;clear z A;rcases s j n with l|l
  ·have r:=f l;clear l;have T:=r.out;go_wp2_with fail;refine(zwf wr).mono ?_;rintro e d ⟨⟨O,rfl,m⟩,k⟩;obtain⟨P,Y,Q,Z,rfl⟩:=zku (show IsQ d (F6 wr.heap.size d) O (((0:Int)):Rat) from m);have M:=OwnS.step IsR.stb (T:=fun a=>c a\/(wr.heap.size<=a/\a<d.heap.size)) t.out k (fun a h=> .inl h) (fun a h=>h);have K:=IsQ.stb.to m (E0 (T:=fun a=>c a\/(wr.heap.size<=a/\a<d.heap.size)) fun a h=> .inr h);have q:=nB i k;have J:w.heap.size<=d.heap.size:=q.out.size;have V:=i.out.size;clear k m;go_wp2_with (at_builtin;refine zoz zli rfl _ _ rfl IsR.stb rfl rfl rfl M K rfl (by intro aa C;simp[Value.cells] at C;rcases C with rfl|rfl|rfl<;>rfl) (by rw[show(C0 (List.replicate j (0:Rat))).length=j by simp[C0]];omega) J ?_;intro ac ae N I X);go_roundw;(case rel=>exact⟨j+1,fun a=>c a\/(wr.heap.size<=a/\a<d.heap.size),r.out,by go_num,q.out.trans I,by rw[yiy];exact N,fun a g=>by rcases g with g|g;exact x.out a g;omega⟩);case measure=>simp[intOf];omega
  ·obtain rfl:j=n:=og;go_wp2_with fail;go_ret;exact⟨⟨_,rfl,c,t.out,x.out⟩,i.out⟩
def zph (l:List Rat) (a:Nat) (j:Nat):Int:=(l.getD j 0).num*((a/(l.getD j 0).den:Nat):Int)
theorem yhd {w:u} {ay:y} {l:List Rat} {d:Nat} (h:IsV w (C2 w) v (C0 l)) (K:IsN w 0 w.heap.size ay d) (M:l.length=m) (bi:m<=1000) (an:∀q∈l,Sz q 100000) (ac:(A9 d).length<=1000000) (hd:∀q∈l,0<d/q.den):
 F G 174 #[v,ay] w fun e w'=>(∃av,e= .returned av/\OwnV w w' av (ints m (zph l d)))/\p w.heap.size w w':=by
 obtain⟨I,aE,aD,aB,aA,T⟩:=zpe h an M hd ac (zsn K);obtain⟨A,c,rfl,aZ⟩:=M5 h;obtain⟨C,a8,rfl,_,_,_⟩:=id K;obtain⟨br,ai⟩:=nm ((A9 d).length);have el:(C0 l).length=m:=(by simp[C0,M]);rw[el] at I aZ⊢;rw[<-ai] at T⊢;obtain⟨a4,J,bd,k,aU,ah,_⟩:=id I.out;simp only[Value.slice.injEq] at k;obtain⟨-,-,rfl⟩:=k;have be:c<=9223372036854775807:=(by unfold maxLen at ah;omega);rw[el] at aU;clear h K M an ac hd el ai ah;have a9:=L7;go_in;go_wp2_with (at_make;refine zzh zli rfl _ _ rfl IsR m rfl rfl rfl og (base:=w.heap.size) (S:=fun _=>False) (E _) (fun a h=>h.elim) ?_;intro bv bA ak ae bm);obtain⟨aH,az⟩:=C4 ak ae;clear ak ae;go_loopw [13,5,7] (fun P out _ wr=>∃(j:Nat) (g:Nat->Prop),j<=m/\P= .int .i64 (j:Int)/\p w.heap.size w wr/\OwnS 3 37 IsR wr w.heap.size g out (C0 (ints j (zph l d)))/\b (∀a,g a->w.heap.size<=a)) (fun P _ _ _=>m-(intOf P).toNat);case atStart=>exact⟨0,fun _=>False,L _,rfl,az.out,aH.out,fun a h=>h.elim⟩
 case round=>
  obtain⟨j,g,bf,rfl,ag,aj,ad⟩:=hrel;obtain⟨n,W⟩:=C4 ag aj;clear ag aj;rcases s j m with i|i
  ·obtain⟨x,k,al⟩:=zoe (l:=l) (j:=j) (by rw[aD.out];exact i);obtain⟨a7,bt,aL,aM,aN,aO,rfl,_,o,X,J,Y⟩:=zlc (IsV.stb.to I.out (E7 n.out)) al;obtain⟨aP,Z⟩:=nm ((D8 x).neg);obtain⟨aQ,aa⟩:=nm ((D8 x).num.length);obtain⟨aR,ab⟩:=nm ((D8 x).den.length);rw[<-Z] at X o;rw[<-aa] at J o;rw[<-ab] at Y o;obtain⟨aI,V⟩:=C4 (zsp o) (B k);have ar:zph l d j=x.num*((d/x.den:Nat):Int):=(by unfold zph;rw[N,k];rfl);have aG:=f ar;have bg:(0:Int)<=(j:Int):=og;have bh:(j:Int)<(m:Int):=og;obtain⟨bC,aY,t,au,a0⟩:=K0 wr #[.bool aP,.slice aL aQ aM,.slice aN aR aO] 37;have R:=f t;have aJ:=nQ aI t;have aK:=f (E9 (IsK.stb.next (IsK.stb.next T.out n.out) t));obtain⟨a1,a2,a3⟩:=C3 au;have aC:=f i;obtain⟨z,aq⟩:=nm (x.num*((d/x.den:Nat):Int));have U:=f aq;clear k al o Z aa ab au a0 t i aq ar;go_wp2_with fail;clear aY X J Y;refine(ybf aJ.out aK.out (aE.out x V.out) aA.out (aB.out x V.out)).mono ?_;rw[<-U.out];rintro e D ⟨⟨bw,rfl,O⟩,af⟩;obtain⟨a5,bp,a6,bq,rfl⟩:=zku O;have Q:=nB R af;have aW:=OwnS.step IsR.stb (T:=fun a=>g a\/(wr.heap.size<=a/\a<D.heap.size)) W.out Q.out (fun a h=> .inl h) (fun a h=>h);have aV:=IsQ.stb.to O (E0 (T:=fun a=>g a\/(wr.heap.size<=a/\a<D.heap.size)) fun a h=> .inr ⟨H R.out.size h.1,h.2⟩);have S:=f (C9 n.out Q.out);have aT:w.heap.size<=D.heap.size:=S.out.size;have bj:=n.out.size;have i:=aC.out;clear af O a1 a2 a3;go_wp2_with (at_builtin;refine zoz zli rfl _ _ rfl IsR.stb rfl rfl rfl aW aV rfl (by intro bu ao;simp[Value.cells] at ao;rcases ao with rfl|rfl|rfl<;>rfl) (by rw[show(C0 (ints j (zph l d))).length=j by simp[C0,zpx]];omega) aT ?_;intro bx bB aX aS bn);go_roundw;(case rel=>refine⟨j+1,fun a=>g a\/(wr.heap.size<=a/\a<D.heap.size),i,by go_num,S.out.trans aS,?_,fun a r=>by rcases r with r|r;exact ad.out a r;omega⟩;rw[ygm,C0,List.map_append,aG.out,<-U.out];exact aX);case measure=>simp[intOf];omega
  ·obtain rfl:j=m:=og;go_wp2_with fail;go_ret;exact⟨⟨_,rfl,g,W.out,ad.out⟩,n.out⟩
theorem yjh (A:Option Addr) (c:Nat) (l:List Nat) (w:u) (lo hi:Nat) (t:Lo l) (K:l.length<=c) (v:c<=maxLen) (C:SV w lo hi A (C8 .u32 l)):
 F G 146 #[.slice A l.length c] w fun e w'=>(∃m,e= .returned (.slice A m c)/\m<=l.length/\A9 (val l)=l.take m)/\w=w':=by
 have D:=f v;unfold maxLen at v;have k:=f t;clear t;go_in;go_wp2;go_loop [0] (fun s=>∃m:Nat,m<=l.length/\s= .slice A m c/\b (∀j,m<=j->j<l.length->l.getD j 0=0)) (fun s=>match s with| .slice _ m _=>m|_=>0);case atStart=>exact⟨l.length,E _,rfl,f (by intro j o q;omega)⟩
 case round=>
  obtain⟨m,g,rfl,i⟩:=hrel;rcases m with _|m
  ·go_wp2;go_ret;exact⟨⟨0,rfl,L _,ycl k.out (L _) i.out (.inl rfl)⟩,rfl⟩
  ·obtain⟨ba,oa,rfl,_,_,r⟩:=C (L5 g);obtain⟨x,z,M,O⟩:=zmz (j:=m) r og;clear r;by_cases n:x=0
   ·subst n;go_wp2;go_round
    case rel=>exact⟨m,by omega,rfl,f (by
     intro j o q;rcases Nat.eq_or_lt_of_le o with a|a
     ·subst a;have:=z.out;omega
     ·exact i.out j a q)⟩
    case measure=>simp
   ·have I:(x==0)=false:=(by simpa using n);go_wp2;go_ret;exact⟨⟨m+1,rfl,g,ycl k.out g i.out (.inr (by have:=z.out;simp only[Nat.add_sub_cancel];omega))⟩,rfl⟩
theorem yjg (A:Option Addr) (c:Nat) (l:List Nat) (w:u) (lo hi:Nat) (k:Lo l) (n:l.length<=c) (i:c<=maxLen) (g:SV w lo hi A (C8 .u32 l)):
 F G 146 #[.slice A l.length c] w fun e w'=>(∃v,e= .returned v/\IsN w lo hi v (val l))/\w=w':=
 (yjh A c l w lo hi k n i g).mono fun e w' ⟨⟨m,j,o,a⟩,q⟩=>⟨⟨_,j,A,c,by rw[a,List.length_take,Nat.min_eq_left o],by rw[a,List.length_take];omega,i,by rw[a,zwp];exact g.take m⟩,q⟩
theorem zyo {w:u} (ha:IsL .u32 w lo hi C l) (d:Lo l):
 F G 146 #[C] w fun e w'=>(∃v,e= .returned v/\IsN w lo hi v (val l))/\w=w':=by obtain⟨A,c,rfl,hc,b,a⟩:=ha;exact yjg A c l w lo hi d hc b a
theorem yyr {w:u} {x y:Nat} (ha:IsN w lo hi C x) (ai:IsN w lo' D I y) (aj:hi<=w.heap.size) (Z:D<=w.heap.size) (aD:(A9 x).length<=4294967296) (aI:(A9 y).length<=4294967296):
 F G 71 #[C,I] w fun e w'=>(∃v,e= .returned v/\IsN w' w.heap.size w'.heap.size v (x+y))/\p w.heap.size w w':=by
 obtain⟨A,c,rfl,_,_,af⟩:=ha;obtain⟨B,d,rfl,_,_,V⟩:=ai;obtain⟨M,aq,ar,X⟩:∃M:Nat,(A9 x).length<=M/\(A9 y).length<=M/\(M=(A9 x).length\/M=(A9 y).length):=⟨max (A9 x).length (A9 y).length,by omega,by omega,by omega⟩
 have ag:b (∀k,k<M->pw k<=x+y):=by
  intro k ak;rcases X with h|h
  ·have:=zyi (x:=x) (k:=k) og;omega
  ·have:=zyi (x:=y) (k:=k) og;omega
 generalize aa:A9 x=a at*;generalize ab:A9 y=r at*;have S:b (Lo a/\val a=x):=(by rw[b,<-aa];exact⟨L3 x,N6 x⟩);have N:b (Lo r/\val r=y):=(by rw[b,<-ab];exact⟨L3 y,N6 y⟩);have au:M<=4294967296:=og;clear aa ab X;generalize W:w.heap.size=bs at*;have ad:=f W;clear W;go_in;go_wp2
 go_loopw [5,6,7] (fun v ae i wr=>∃(k:Nat) (g:List Nat) (q:Int),k<=M+1/\i= .int .i64 (k:Int)/\ae= .int .u32 q/\0<=q/\q<=1/\Own wr bs 115 v (C8 .u32 g)/\p bs w wr/\
  b (g.length=k/\Lo g/\(val g:Int)+q*pw k=val (a.take k)+val (r.take k)/\(M<k->q=0/\pw M<=val g))) (fun _ _ i _=>M+1-(intOf i).toNat)
 case atStart=>exact⟨0,[],0,by omega,rfl,rfl,by omega,by omega,Own.nil _ _ _,Below.refl _ _,rfl,zvg,by simp[val],fun h=>by omega⟩
 case round=>
  obtain⟨k,g,q,ak,rfl,rfl,az,aA,z,m,hrel⟩:=hrel;have H:bs<=wr.heap.size:=(by have:=m.size;have:=ad.out;omega);have ay:k<=4294967297:=og;have K:b ((C8 .u32 g).length<=4294967297):=(by rw[b,zls,hrel.out.1];omega);rcases s k a.length with o|o
  ·obtain⟨ba,oa,rfl,_,_,Y⟩:=(af.below m aj) (L5 (j:=k) o);obtain⟨L,ac,aE,aG,aH⟩:=T3 (j:=k) S.out.1 Y o;clear Y;rcases s k r.length with l|l
   ·obtain⟨bb,ob,rfl,_,_,t⟩:=(V.below m Z) (L5 (j:=k) l);obtain⟨E,O,al,an,ao⟩:=T3 (j:=k) N.out.1 t l;clear t;go_wp2_with (at_builtin;refine zkz R6 rfl _ _ rfl rfl z rfl rfl (oh K) H ?_;intro Q R j n P);go_roundw;(case rel=>rw[zks .u32 g ((q+L+E)%1000000000).toNat _ og] at j;exact⟨k+1,_,(q+L+E)/1000000000,by omega,by go_num,rfl,by omega,by omega,j,m.trans n,by rw[J];simp[hrel.out.1],zlm hrel.out.2.1 og,zod hrel.out.1 ac.out O.out og og hrel.out.2.2.1,fun h=>by omega⟩);case measure=>simp[intOf];omega
   ·go_wp2_with (at_builtin;refine zkz R6 rfl _ _ rfl rfl z rfl rfl (oh K) H ?_;intro Q R j n P);go_roundw;(case rel=>rw[zks .u32 g ((q+L)%1000000000).toNat _ og] at j;exact⟨k+1,_,(q+L)/1000000000,by omega,by go_num,rfl,by omega,by omega,j,m.trans n,by rw[J];simp[hrel.out.1],zlm hrel.out.2.1 og,zod (y:=0) hrel.out.1 ac.out (by rw[zlu l];rfl) og og hrel.out.2.2.1,fun h=>by omega⟩);case measure=>simp[intOf];omega
  ·rcases s k r.length with l|l
   ·obtain⟨bb,ob,rfl,_,_,t⟩:=(V.below m Z) (L5 (j:=k) l);obtain⟨E,O,al,an,ao⟩:=T3 (j:=k) N.out.1 t l;clear t;go_wp2_with (at_builtin;refine zkz R6 rfl _ _ rfl rfl z rfl rfl (oh K) H ?_;intro Q R j n P);go_roundw;(case rel=>rw[zks .u32 g ((q+E)%1000000000).toNat _ og] at j;exact⟨k+1,_,(q+E)/1000000000,by omega,by go_num,rfl,by omega,by omega,j,m.trans n,by rw[J];simp[hrel.out.1],zlm hrel.out.2.1 og,zod (x:=0) hrel.out.1 (by rw[zlu o];rfl) O.out og og hrel.out.2.2.1,fun h=>by omega⟩);case measure=>simp[intOf];omega
   ·have ah:b ((val g:Int)+q*pw k=x+y):=(by have:=hrel.out.2.2.1;rw[zkb o,zkb l,S.out.2,N.out.2] at this;exact this);rcases Int.lt_or_le 0 q with aB|aC
    ·have av:k<=M:=by
      rcases s M k with h|h
      ·have:=hrel.out.2.2.2 h;omega
      ·exact h
     go_wp2_with (at_builtin;refine zkz R6 rfl _ _ rfl rfl z rfl rfl (oh K) H ?_;intro Q R j n P);go_roundw;(case rel=>rw[zks .u32 g (q%1000000000).toNat _ og] at j;refine⟨k+1,_,q/1000000000,by omega,by go_num,rfl,by omega,by omega,j,m.trans n,by rw[J];simp[hrel.out.1],zlm hrel.out.2.1 og,zod (x:=0) (y:=0) hrel.out.1 (by rw[zlu o];rfl) (by rw[zlu l];rfl) og og hrel.out.2.2.1,fun h=>⟨by omega,?_⟩⟩;rw[znj,hrel.out.1,show(q%1000000000).toNat=1 from by omega,show k=M from by omega,zrt,zoy];omega);case measure=>simp[intOf];omega
    ·obtain rfl:q=0:=og
     have hfin:b (A9 (x+y)=g):=by
      have U:val g=x+y:=oh ah;rw[b,<-U];refine ztp hrel.out.2.1 ?_;rcases s M k with h|h
      ·exact .inr (by rw[hrel.out.1,show k-1=M from by omega];exact(hrel.out.2.2.2 h).2)
      ·rcases Nat.eq_zero_or_pos k with T|T
       ·exact .inl (List.eq_nil_of_length_eq_zero (by rw[hrel.out.1];exact T))
       ·exact .inr (by rw[hrel.out.1,U];exact ag.out (k-1) og)
     go_wp2;go_ret;refine⟨⟨_,rfl,?_⟩,m⟩;unfold IsN;rw[hfin.out];exact Own.isL z
theorem zqf {w:u} {x y:Nat} (ha:IsN w lo hi C x) (ac:IsN w lo' D I y) (af:hi<=w.heap.size) (ag:D<=w.heap.size) (r:(A9 x).length<=4294967296) (X:(A9 y).length<=4294967296):
 F G 69 #[C,I] w fun e w'=>(∃v,e= .returned v/\IsN w' w.heap.size w'.heap.size v (x*y))/\p w.heap.size w w':=by
 obtain⟨A,c,rfl,_,_,R⟩:=ha;obtain⟨B,d,rfl,_,_,ab⟩:=ac;generalize U:A9 x=a at*;generalize V:A9 y=f at*;have P:b (Lo a/\val a=x):=(by rw[b,<-U];exact⟨L3 x,N6 x⟩);have Q:b (Lo f/\val f=y):=(by rw[b,<-V];exact⟨L3 y,N6 y⟩);clear U V;go_in;go_wp2_with (at_make;refine ztc R6 rfl _ _ rfl (a.length+f.length) rfl rfl rfl rfl og ?_;intro l aE J ah ad Z)
 go_loopw [6] (fun i wr=>∃k:Nat,∃g:List Nat,k<=a.length/\i= .int .i64 (k:Int)/\Row wr l 115 (C8 .u32 g)/\p l w wr/\b (wr.heap.size=l+1)/\
  b (g.length=a.length+f.length/\Lo g/\(∀j,k+f.length<=j->g.getD j 0=0)/\val g=val (a.take k)*val f)) (fun i _=>a.length-(intOf i).toNat)
 case atStart=>exact⟨0,_,L _,rfl,ah,ad,Z,by simp,zrd _,fun j _=>by rw[N,List.getElem?_replicate];split<;>rfl,by rw[ylk,Nat.zero_mul];exact zzd (fun x r=>(List.mem_replicate.1 r).2)⟩
 case round=>
  obtain⟨k,g,az,rfl,hr,m,n,hrel⟩:=hrel;have q:p w.heap.size w wr:=(by have:=J.out;subst this;exact m);rcases s k a.length with W|au
  ·obtain⟨ba,oa,rfl,_,_,_⟩:=R (L5 (j:=k) W);have t:=hrel;clear hrel;obtain⟨aH,rfl⟩:=nm (wr:u);go_wp2
   go_loopw [7,8] (fun aa i O=>∃j:Nat,∃M:List Nat,∃h:Int,j<=f.length/\i= .int .i64 (j:Int)/\aa= .int .u64 h/\0<=h/\h<=999999999/\Row O l 115 (C8 .u32 M)/\p l w O/\b (O.heap.size=l+1)/\
    b (M.length=a.length+f.length/\Lo M/\(∀j,k+f.length<=j->M.getD j 0=0)/\(val M:Int)+h*pw (k+j)=val g+((a.getD k 0:Nat):Int)*pw k*val (f.take j))) (fun _ i _=>f.length-(intOf i).toNat)
   case atStart=>exact⟨0,g,0,L _,rfl,rfl,by omega,by omega,hr,m,n,t.out.1,t.out.2.1,t.out.2.2.1,by simp[val]⟩
   case round=>
    clear hr m q n;obtain⟨j,M,h,av,rfl,rfl,ae,ar,hr,m,n,hrel⟩:=hrel;have q:p w.heap.size w wr:=(by have:=J.out;subst this;exact m);have H:b (k+f.length<M.length):=(by rw[hrel.out.1];unfold b;omega);rcases s j f.length with T|ay
    ·obtain⟨x,r,ai,aj,aA⟩:=T3 (j:=k) P.out.1 (R.below q af).at_ W;obtain⟨bb,ob,rfl,_,_,S⟩:=(ab.below q ag) (L5 (j:=j) T);obtain⟨y,X,ak,al,aD⟩:=T3 (j:=j) Q.out.1 S T;clear S;obtain⟨z,Y,an,Z,ao⟩:=hr.lo hrel.out.2.1 (i:=k+j) (oh H);have aq:=hr.frozen (k+j);have K:=zpi ai aj ak al;have aB:=K.1;have aC:=K.2;clear K;go_wp2;go_quiet (fail);go_wp2;go_roundw
     case rel=>
      refine⟨j+1,M.set (k+j) ((h+z+x*y)%1000000000).toNat,(h+z+x*y)/1000000000,by omega,by go_num,rfl,by omega,by omega,(hr.drewN _).setNum (k+j) _ _ og,(below_drewN m _).setCell (E _) _,
       by have:=n.out;simpa[b,World.setCell] using this,by rw[List.length_set];exact hrel.out.1,T4 hrel.out.2.1 og,fun i hi=>by rw[znc og];exact hrel.out.2.2.1 i hi,?_⟩
      rw[<-r.out];exact yhp (oh H) X.out Y.out (t:=h+z+x*y) (c:=h) (c':=(h+z+x*y)/1000000000) (r:=(h+z+x*y)%1000000000) og og og (by rw[r.out];exact hrel.out.2.2.2)
     case measure=>simp[intOf];omega
    ·obtain rfl:j=f.length:=og;obtain⟨z,Y,an,ao⟩:=hr.num (i:=k+f.length) H.out;have aq:=hr.frozen (k+f.length);go_wp2;go_roundw
     case rel=>
      exact⟨k+1,M.set (k+f.length) h.toNat,by omega,by go_num,hr.setNum (k+f.length) _ _ og,m.setCell (E _) _,
       by have:=n.out;simpa[b,World.setCell] using this,by rw[List.length_set];exact hrel.out.1,T4 hrel.out.2.1 og,fun i hi=>by rw[znc og];exact hrel.out.2.2.1 i og,
       yho rfl H.out rfl (hrel.out.2.2.1 _ (E _)) ae t.out.2.2.2 hrel.out.2.2.2⟩
     case measure=>simp[intOf];omega
  ·obtain rfl:k=a.length:=og;have o:b (Row wr l 115 (C8 .u32 g)/\val g=x*y/\g.length=a.length+f.length/\Lo g):=⟨hr,by have:=hrel.out.2.2.2;rw[zkb (E _),P.out.2,Q.out.2] at this;exact this,hrel.out.1,hrel.out.2.1⟩;clear hr hrel;go_wp2_with fail;rw[<-o.out.2.2.1];refine(yjg _ _ g wr l (l+1) o.out.2.2.2 (E _) (by have:=o.out.2.2.1;unfold maxLen;omega) o.out.1.sv).mono ?_;rintro e aG ⟨⟨v,rfl,hv⟩,rfl⟩;go_wp2_with fail;go_ret;refine⟨⟨_,rfl,?_⟩,q⟩;rw[<-o.out.2.1];exact hv.wide (oh J) (oh n)
def WrN (w:u) (base:Nat) (v:y) (n:Nat):Prop:=(v= .slice none 0 0/\n=0)\/∃g cap a,v= .slice (some ⟨g,0,none⟩) (A9 n).length cap/\base<=g/\Row w g 115 a/\a.take (A9 n).length=C8 .u32 (A9 n)/\(A9 n).length<=cap/\cap<=maxLen
theorem zz1362 {d:Type} {a c:List d} (h:a.take n=c):∀(j:Nat) (x:d),c[j]? =some x->a[j]? =some x:=by
 intro j x b;rw[<-h,List.getElem?_take] at b;split at b
 ·exact b
 ·cases b
theorem WrN.isN {w:u} {base:Nat} (h:WrN w base v n):IsN w base w.heap.size v n:=by
 rcases h with⟨rfl,rfl⟩|⟨g,cap,i,rfl,c,hr,d,a,b⟩
 ·exact IsN.zero
 ·exact⟨_,cap,rfl,a,b,fun _=>⟨g,0,rfl,c,hr.lt,fun j f e=>by rw[Nat.zero_add,hr.cell];exact zz1362 d j f e⟩⟩
theorem WrN.setFar {w:u} {base:Nat} (h:WrN w base v n) {p:Addr} (i:p.block<base) (a:y):WrN (w.setCell p a) base v n:=by
 rcases h with h|⟨g,cap,b,rfl,e,hr,f,c,d⟩
 ·exact .inl h
 ·exact .inr ⟨g,cap,b,rfl,e,hr.far og a,f,c,d⟩
theorem WrN.mono {w:u} {base a:Nat} (h:WrN w base v n) (f:a<=base):WrN w a v n:=by
 rcases h with h|⟨g,cap,b,rfl,i,hr,e,c,d⟩
 ·exact .inl h
 ·exact .inr ⟨g,cap,b,rfl,by omega,hr,e,c,d⟩
theorem Own.wr {w:u} {base:Nat} {A:Option Addr} {len:Nat} (h:Own w base 115 (.slice A len c) (C8 .u32 l)) (a:m<=l.length) (e:A9 (val l)=l.take m):WrN w base (.slice A m c) (val l):=by
 have b:(A9 (val l)).length=m:=(by rw[e,List.length_take,Nat.min_eq_left a]);rcases h.2 with⟨hv,d⟩|⟨g,cap,i,hv,j,n,d,k,p,f⟩
 ·have o:l=[]:=cel_nil_iff.1 (List.eq_nil_of_length_eq_zero d);subst o;simp only[Value.slice.injEq] at hv;obtain⟨rfl,_,rfl⟩:=hv;simp at a;subst a;exact .inl ⟨rfl,rfl⟩
 ·simp only[Value.slice.injEq] at hv;obtain⟨rfl,_,rfl⟩:=hv;rw[zls] at d f;refine .inr ⟨g,c,i.toList,by rw[b],j,?_,?_,by rw[b];omega,k⟩
  ·unfold Row;simpa using n
  ·rw[b,e,zwp,<-f,Nat.mul_one,List.take_take,Nat.min_eq_left a]
theorem yjd {w:u} {x y:Nat} (ha:IsN w lo hi C x) (au:IsN w lo' D I y) (av:hi<=w.heap.size) (ay:D<=w.heap.size) (P:y<=x) (aI:(A9 x).length<=4294967296):
 F G 73 #[C,I] w fun e w'=>(∃v,e= .returned v/\WrN w' w.heap.size v (x-y))/\p w.heap.size w w':=by
 have ar:=U1 P;obtain⟨A,c,rfl,_,_,ao⟩:=ha;obtain⟨B,d,rfl,_,_,aq⟩:=au;generalize aa:A9 x=a at*;generalize ab:A9 y=t at*;have L:b (Lo a/\val a=x):=(by rw[b,<-aa];exact⟨L3 x,N6 x⟩);have M:b (Lo t/\val t=y):=(by rw[b,<-ab];exact⟨L3 y,N6 y⟩);have aj:=f P;clear aa ab P;generalize X:w.heap.size=bs at*;have ai:=f X;clear X;go_in;go_wp2
 go_loopw [5,6,7] (fun v al i wr=>∃(k:Nat) (g:List Nat) (q:Int),k<=a.length/\i= .int .i64 (k:Int)/\al= .int .i64 q/\0<=q/\q<=1/\Own wr bs 115 v (C8 .u32 g)/\p bs w wr/\
  b (g.length=k/\Lo g/\(val g:Int)=val (a.take k)-val (t.take k)+q*pw k)) (fun _ _ i _=>a.length-(intOf i).toNat)
 case atStart=>exact⟨0,[],0,by omega,rfl,rfl,by omega,by omega,Own.nil _ _ _,Below.refl _ _,rfl,zvg,by simp[val]⟩
 case round=>
  obtain⟨k,g,q,aD,rfl,rfl,aG,aH,o,l,hrel⟩:=hrel;have E:bs<=wr.heap.size:=(by have:=l.size;have:=ai.out;omega);have aE:k<=4294967297:=og;have H:b ((C8 .u32 g).length<=4294967297):=(by rw[b,zls,hrel.out.1];omega);rcases s k a.length with O|O
  ·obtain⟨ba,oa,rfl,_,_,Y⟩:=(ao.below l av) (L5 (j:=k) O);obtain⟨r,K,aJ,aK,aL⟩:=T3 (j:=k) L.out.1 Y O;clear Y;rcases s k t.length with z|z
   ·obtain⟨bb,ob,rfl,_,_,Z⟩:=(aq.below l ay) (L5 (j:=k) z);obtain⟨T,ad,aM,aN,aO⟩:=T3 (j:=k) M.out.1 Z z;clear Z;rcases Int.lt_or_le (r-q-T) 0 with aA|aB
    ·go_wp2_with (at_builtin;refine zkz R6 rfl _ _ rfl rfl o rfl rfl (oh H) E ?_;intro R S j n Q);go_roundw;(case rel=>rw[zks .u32 g (r-q-T+1000000000).toNat _ og] at j;exact⟨k+1,_,1,by omega,by go_num,rfl,by omega,by omega,j,l.trans n,by rw[J];simp[hrel.out.1],zlm hrel.out.2.1 og,zxv hrel.out.1 K.out ad.out og og hrel.out.2.2⟩);case measure=>simp[intOf];omega
    ·go_wp2_with (at_builtin;refine zkz R6 rfl _ _ rfl rfl o rfl rfl (oh H) E ?_;intro R S j n Q);go_roundw;(case rel=>rw[zks .u32 g (r-q-T).toNat _ og] at j;exact⟨k+1,_,0,by omega,by go_num,rfl,by omega,by omega,j,l.trans n,by rw[J];simp[hrel.out.1],zlm hrel.out.2.1 og,zxv hrel.out.1 K.out ad.out og og hrel.out.2.2⟩);case measure=>simp[intOf];omega
   ·rcases Int.lt_or_le (r-q) 0 with aA|aB
    ·go_wp2_with (at_builtin;refine zkz R6 rfl _ _ rfl rfl o rfl rfl (oh H) E ?_;intro R S j n Q);go_roundw;(case rel=>rw[zks .u32 g (r-q+1000000000).toNat _ og] at j;exact⟨k+1,_,1,by omega,by go_num,rfl,by omega,by omega,j,l.trans n,by rw[J];simp[hrel.out.1],zlm hrel.out.2.1 og,zxv (y:=0) hrel.out.1 K.out (by rw[zlu z];rfl) og og hrel.out.2.2⟩);case measure=>simp[intOf];omega
    ·go_wp2_with (at_builtin;refine zkz R6 rfl _ _ rfl rfl o rfl rfl (oh H) E ?_;intro R S j n Q);go_roundw;(case rel=>rw[zks .u32 g (r-q).toNat _ og] at j;exact⟨k+1,_,0,by omega,by go_num,rfl,by omega,by omega,j,l.trans n,by rw[J];simp[hrel.out.1],zlm hrel.out.2.1 og,zxv (y:=0) hrel.out.1 K.out (by rw[zlu z];rfl) og og hrel.out.2.2⟩);case measure=>simp[intOf];omega
  ·obtain rfl:k=a.length:=og;have hv:b (val g=x-y):=(by have h:=yko (L:=g) (b:=t) (bw:=q) hrel.out.1 rfl ar hrel.out.2.1 og (by rw[L.out.2,M.out.2];exact aj.out) (by rw[zkb (l:=g) (Nat.le_of_eq hrel.out.1)];exact hrel.out.2.2);rw[L.out.2,M.out.2] at h;exact h);have hlo:=f hrel.out.2.1;obtain⟨ae,an,aC,N,V,W⟩:=o.sl;subst aC;rw[zls] at N;obtain⟨U,af,ag,ah⟩:=Z5 o N V W;clear o hrel N V W;rw[zls] at U⊢;go_wp2_with fail;refine(yjh ae an g wr bs wr.heap.size hlo.out af.out ag.out ah.out).mono ?_;rintro e aP ⟨⟨m,rfl,az,ac⟩,rfl⟩;have ak:=f ac;clear ac;go_wp2_with fail;go_ret;refine⟨⟨_,rfl,?_⟩,l⟩;rw[<-hv.out];exact Own.wr U.out az ak.out
theorem yjc {w:u} {x y:Nat} (ha:IsN w lo hi C x) (a:IsN w lo' D I y) (g:hi<=w.heap.size) (i:D<=w.heap.size) (j:y<=x) (l:(A9 x).length<=4294967296):
 F G 73 #[C,I] w fun e w'=>(∃v,e= .returned v/\IsN w' w.heap.size w'.heap.size v (x-y))/\p w.heap.size w w':=
 (yjd ha a g i j l).mono fun e w' ⟨⟨v,c,hv⟩,k⟩=>⟨⟨v,c,hv.isN⟩,k⟩
theorem yyi (A B:Option Addr) (c d:Nat) (a g:List Nat) (w:u) (lo hi lo' D:Nat) (ha:Lo a) (z:Lo g) (O:a.length<=maxLen) (P:g.length<=maxLen) (M:SV w lo hi A (C8 .u32 a)) (N:SV w lo' D B (C8 .u32 g))
 (r:Int) (m:a.length<g.length->r= -1) (o:g.length<a.length->r=1) (K:a.length=g.length->r=U4 (val a) (val g)):
 F G 72 #[.slice A a.length c,.slice B g.length d] w fun e w'=>e= .returned (.int .i64 r)/\Dr w w':=by
 unfold maxLen at O P;have s:=f ha;clear ha;have t:=f z;clear z;have v:=f K;clear K;rcases Nat.lt_trichotomy a.length g.length with h|h|h
 ·have j:=f (m h);clear m o;go_in;go_wp2;go_ret;exact⟨I0 j.out.symm,Dr.refl w⟩
 ·have j:=f (v.out h);clear m o v;have U:(((a.length:Int)) !=(g.length:Int))=false:=(by simp[h]);have l:=f h;have L:a.length<=g.length:=og;have T:g.length<=a.length:=og;clear h;go_in;go_wp2;go_loopw [5] (fun i wr=>∃k:Nat,k<=a.length/\i= .int .i64 ((k:Int)-1)/\Dr w wr/\b (a.drop k=g.drop k)) (fun i _=>(intOf i+1).toNat);case atStart=>exact⟨a.length,E _,rfl,Dr.refl w,by rw[List.drop_length,l.out,List.drop_length];rfl⟩
  case round=>
   obtain⟨k,J,rfl,⟨n,rfl⟩,hd⟩:=hrel;rcases k with _|k
   ·go_wp2;go_ret;refine⟨I0 ?_,(Dr.refl w).drewN n⟩;have:=hd.out;simp only[List.drop_zero] at this;rw[j.out,zys (by rw[this])]
   ·obtain⟨ba,oa,rfl,_,_,C⟩:=M (L5 J);obtain⟨bb,ob,rfl,_,_,I⟩:=N (L5 (H J L));obtain⟨x,p,V,W⟩:=zmz (j:=k) C og;obtain⟨y,q,X,Y⟩:=zmz (j:=k) I og;clear C I;rw[show(((k+1:Nat):Int)-1)=(k:Int) from by omega];go_wp2;go_quiet (fail);go_wp2
    ·go_ret;refine⟨I0 ?_,((Dr.refl w).drewN n).drewN _⟩;have Q:x<y:=(by assumption);rw[j.out,zqi (zza s.out t.out l.out og hd.out (zkn p q))]
    ·go_quiet (fail);go_wp2
     ·go_ret;refine⟨I0 ?_,(((Dr.refl w).drewN n).drewN _).drewN _⟩;have Q:y<x:=(by assumption);rw[j.out,zsx (zza t.out s.out l.out.symm og hd.out.symm (zkn p q))]
     ·go_roundw;(case rel=>have R:y<=x:=(by assumption);have S:x<=y:=(by assumption);exact⟨k,by omega,rfl,⟨_,rfl⟩,f (yfc l.out og hd.out (zkn p q))⟩);case measure=>simp[intOf]
 ·have j:=f (o h);clear m o;go_in;go_wp2;go_ret;exact⟨I0 j.out.symm,Dr.refl w⟩
theorem zvu {w:u} {x y:Nat} (ha:IsN w lo hi C x) (a:IsN w lo' D I y):
 F G 72 #[C,I] w fun e w'=>e= .returned (.int .i64 (U4 x y))/\Dr w w':=by
 have b:=ha.length_le;have f:=a.length_le;obtain⟨A,c,rfl,_,_,g⟩:=ha;obtain⟨B,d,rfl,_,_,i⟩:=a;refine yyi A B c d (A9 x) (A9 y) w _ _ _ _ (L3 x) (L3 y) b f g i _ ?_ ?_ ?_
 ·intro h;exact zqi (zxt h)
 ·intro h;exact zsx (zxt h)
 ·intro _;rw[N6,N6]
section
variable {P : Program} {w : u} {ops : Array Oper} {o : Oper} {a : Act} {K : Act → u → Prop} {Q : Exit → Act → u → Prop} {t e : d} {z : y} {bytes base : Nat} {q : Prop}
theorem yuc {k:IntKind} (P:Program) {t e:d} {bytes:Nat} (b:ElT P t e (.int k 0) bytes) (a:Int) (n:Nat) (l:a=(n:Int)) (m:n*(bytes+1)<=140737488355328):
 ∃c:Array y,c=(C8 k (List.replicate n 0)).toArray/\∀w:u,(Instr.makeSlice t (.int .i64 a) (.int .i64 a)).run P w= .ok (.slice (some ⟨w.heap.size,0,none⟩) n n) (w.alloc (.cells c e)):=by obtain⟨i,f,g,j,p⟩:=b.info;rw[Nat.mul_add,Nat.mul_one] at m;have b2:i.bytes*n<=281474976710656:=(by rw[p,Nat.mul_comm];omega);have o:(i.bytes:Int)*(n:Int)<=281474976710656:=(by have h:((i.bytes*n:Nat):Int)<=281474976710656:=og;rwa[Int.natCast_mul] at h);refine⟨_,rfl,fun w=> ?_⟩;have hr:=run_make (P:=P) w t e i (.int k 0) b.und f g .i64 .i64 n n og (Int.le_refl _) o og;simp only[Int.toNat_natCast] at hr;(have q:(C8 k (List.replicate n 0)).toArray=madeCells (Value.int k 0).cells (n*i.size):=by apply Array.ext';rw[j,Nat.mul_one];show _=(madeCells #[.int k 0] n).toList;rw[toList_madeCells_one];simp[C8]);rw[l,q];exact hr
theorem yzu (d:ElT P t e z bytes) (B:o.guard=none) (s x:Operand) (E:o.op= .call {callee:= .builtin .append,args:= #[s,x],argTypes:= #[t,t]})
 (F:a.eval s=v) (j:Own w base e v xs) {A:Option Addr} {news:List y} (I:a.eval x= .slice A m c) (D:news.length=m) (hr:SV w lo hi A news)
 (l:∀M∈news,M.oneCell'=true) (r:(xs.length+m)*(bytes+1)<=140737488355328) (g:base<=w.heap.size)
 (h:∀b w',Own w' base e b (xs++news)->p base w w'->w.heap.size<=w'.heap.size->K (a.put o.dst b) w'):
 if Region.wanted o (yielded ops a.tmps)=true then Oper.wp P o a w K Q else q:=by
 obtain⟨i,hi,L,G,u⟩:=d.info
 rw[Nat.mul_add,Nat.mul_one] at r
 have H:Region.wanted o (yielded ops a.tmps)=true:=by simp[Region.wanted,B]
 rw[if_pos H]
 refine ylq w s x t E base e i z 1 bytes d.und hi L G u d.zc og v xs.length xs F j lo _ A m c news I og hr l (by unfold maxLen;omega) og g fun b w' n f _=>
  h b w' (by unfold Own;rw[J,D];exact n) ((Below.refl _ _).grown f g (fun k C=>(World.ownsRow.lt j k C).1)) f.size
end
theorem yfa (h:Lo l) (c:l.length<=k+n):val (l.drop k)<pw n:=by have a:=zlq (zvf h k);have b:pw (l.drop k).length<=pw n:=zvn (by rw[List.length_drop];omega);omega
theorem ylj (R k:Nat):val ((A9 R).drop k)=R/pw k:=by
 rcases s (A9 R).length k with h|h
 ·rw[List.drop_eq_nil_of_le og,zoy,Nat.div_eq_of_lt (lim_len_le.1 og)]
 ·have a:=zpq (A9 R) k h;rw[N6] at a;have b:=zlq (zmk (L3 R) k);rw[List.length_take,Nat.min_eq_left h] at b;conv=>rhs;rw[a]
  rw[Nat.add_mul_div_left _ _ (zng k),Nat.div_eq_of_lt b,Nat.zero_add]
theorem top_le {B:Nat}:(A9 B).getD n 0*pw n<=B:=by rw[zrc];have a:=Nat.div_mul_le_self B (pw n);have b:=h (pw n) (Nat.mod_le (B/pw n) 1000000000);omega
theorem yck {B:Nat} (d:(A9 B).length=n+1):1<=(A9 B).getD n 0:=by rw[zrc];have b:pw n<=B:=lim_len_lt.1 og;have a:B<pw (n+1):=lim_len_le.1 og;rw[Z7] at a;have c:B/pw n<1000000000:=(by rw[Nat.div_lt_iff_lt_mul (zng n)];exact a);rw[Nat.mod_eq_of_lt c];exact Nat.div_pos b (zng n)
theorem yry {R B:Nat} (e:(A9 B).length=n+1) (c:R<B*1000000000) {d:Nat} (hd:d=999999999\/d=R/pw n/(A9 B).getD n 0):R<(d+1)*B:=by
 rcases hd with rfl|rfl
 ·rw[Nat.mul_comm];exact c
 ·have k:=yck e;have f:=Nat.lt_div_mul_add (a:=R/pw n) (b:=(A9 B).getD n 0) og;have g:=Nat.lt_div_mul_add (a:=R) (b:=pw n) (zng n);generalize R/pw n/(A9 B).getD n 0=d at*;generalize j:R/pw n=l at*;have b:l+1<=(d+1)*(A9 B).getD n 0:=(by rw[Nat.add_mul,Nat.one_mul];omega);have a:=h (pw n) b;have i:=Nat.mul_le_mul_left (d+1) (top_le (B:=B) (n:=n));rw[Nat.add_mul,Nat.one_mul] at a;rw[Nat.mul_assoc] at a;omega
theorem ytb {R B:Nat} (d:(A9 B).length=n+1) (c:R<B*1000000000):(A9 R).length<=n+2/\R/pw n<1000000000000000000:=by have b:B<pw (n+1):=lim_len_le.1 og;have a:R<pw (n+2):=(by rw[show n+2=(n+1)+1 from rfl,Z7,Nat.mul_comm];exact Nat.lt_of_lt_of_le c (h _ (Nat.le_of_lt b)));refine⟨lim_len_le.2 a,?_⟩;rw[Nat.div_lt_iff_lt_mul (zng n)];rw[show n+2=(n+1)+1 from rfl,Z7,Z7] at a;omega
theorem ysz {R q:Nat} (h:q=val ((A9 R).drop j)) (b:j=n\/(j=(A9 R).length/\j<=n)):q=R/pw n:=by
 rcases b with rfl|⟨rfl,a⟩
 ·rw[h,ylj]
 ·rw[h,List.drop_length,zoy,Nat.div_eq_of_lt (lim_len_le.1 a)]
theorem yoy {a R:Nat}:val (a::A9 R)=a+1000000000*R:=by rw[zrt,N6]
theorem yox {a R B:Nat} (ha:a<1000000000) (b:R<B):a+1000000000*R<B*1000000000:=og
theorem ypr {R B d:Nat} (h:R<B*d):1<=d/\R<(d-1+1)*B:=by
 rcases d with _|d
 ·simp at h
 ·exact⟨by omega,by rw[Nat.add_sub_cancel,Nat.mul_comm];exact h⟩
theorem yps {R B d:Nat} (c:d*B<=R) (a:R<(d+1)*B):R-d*B<B/\R-d*B=R%B/\d=R/B:=by
 have e:0<B:=by
  rcases Nat.eq_zero_or_pos B with h|h
  ·subst h;simp at a
  ·exact h
 have b:R/B=d:=Nat.div_eq_of_lt_le c a;rw[Nat.add_mul,Nat.one_mul] at a;exact⟨by omega,by rw[Nat.mod_eq_sub_mul_div,b,Nat.mul_comm],b.symm⟩
theorem yvu {A Q:List Nat} {B R d a:Nat} (b:k<A.length) (c:k<Q.length) (h:val (A.drop (k+1))=B*val (Q.drop (k+1))+R) (g:A.getD k 0+1000000000*R=a) (f:d*B<=a):
 val (A.drop k)=B*val ((Q.set k d).drop k)+(a-d*B):=by rw[zru b,h,yfb c];have e:B*(d+1000000000*val (Q.drop (k+1)))=d*B+1000000000*(B*val (Q.drop (k+1))):=(by grind);rw[e,Nat.mul_add];omega
theorem ypy (X k:Nat):A9 (val ((A9 X).drop k))=(A9 X).drop k:=by
 apply ztp (zvf (L3 X) k);rcases s k (A9 X).length with h|h
 ·right;rw[List.length_drop,ylj,Nat.le_div_iff_mul_le (zng k),<-zvm];exact lim_len_lt.1 og
 ·exact .inl (List.drop_eq_nil_of_le h)
def bs (l:List Nat):ByteArray:=⟨(l.map UInt8.ofNat).toArray⟩

theorem Own.row {w:u} {base:Nat} {e:d} (h:Own w base e v xs) (k:xs≠[]):
 ∃g sp cap,v= .slice (some ⟨g,0,none⟩) xs.length cap/\base<=g/\Row w g e (xs++sp)/\xs.length<=cap/\cap<=maxLen:=by
 rcases h.2 with⟨_,b⟩|⟨g,cap,a,hv,f,j,b,i,l,c⟩
 ·exact absurd (List.eq_nil_of_length_eq_zero b) k
 ·refine⟨g,a.toList.drop xs.length,cap,hv,f,?_,b,i⟩;unfold Row;rw[Nat.mul_one] at c
  have e:xs++List.drop xs.length a.toList=a.toList:=by
   conv=>lhs;lhs;rw[<-c]
   exact List.take_append_drop _ _
  rw[e];exact j
theorem Row.numS {w:u} {t:d} {k:IntKind} {sp:List y} (h:Row w g t (C8 k l++sp)) (hi:i<l.length):
 ∃x:Int,b (x=(l.getD i 0:Nat))/\0<=x/\w.cell? ⟨g,i,none⟩=some (.int k x):=by refine⟨_,rfl,by omega,?_⟩;rw[h.cell,List.getElem?_append_left (by rw[zls];exact hi),zon hi]
theorem Row.setS {w:u} {t:d} {k:IntKind} {sp:List y} (h:Row w g t (C8 k l++sp)) (i n:Nat) (hi:i<l.length) (x:Int) (a:x=(n:Int)):
 Row (w.setCell ⟨g,i,none⟩ (.int k x)) g t (C8 k (l.set i n)++sp):=by subst a;rw[ydp,<-List.set_append_left _ _ (by rw[zls];exact hi)];exact h.set_ i _
end Go.Proofs.YtdgilbgdkmhcmaaGreatDoor
