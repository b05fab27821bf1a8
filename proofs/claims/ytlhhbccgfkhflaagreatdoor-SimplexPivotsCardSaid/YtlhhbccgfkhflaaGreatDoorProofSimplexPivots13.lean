/-
 Numbers that are laid at places told by a list.
-/
import Derived.Test.YtlhhbccgfkhflaaGreatDoorProofSimplexPivots12
namespace Go.Proofs.YtlhhbccgfkhflaaGreatDoor
open Go.RowKit
set_option linter.unusedVariables false
set_option maxRecDepth 100000
set_option maxHeartbeats 8000000
open _root_.Go.Lib renaming hid → b
open _root_.Go.RowKit renaming Below → a
variable {N base j k off : Nat} {b0 : Nat → Rat} {key : Nat → Nat} {l : List Rat} {v : Value}
def R3 (N off:Nat) (b0:Nat->Rat) (key:Nat->Nat) (X:Nat->Rat) (k:Nat):List Rat:=G9 N fun v=>b0 v+C4 k fun a=>if key a=off+v then X a else 0
theorem ztl (N off:Nat) (b0:Nat->Rat) (key:Nat->Nat) (X:Nat->Rat) (k:Nat):(R3 N off b0 key X k).length=N:=T4 _ _
theorem ymc (N off:Nat) (b0:Nat->Rat) (key:Nat->Nat) (X:Nat->Rat):R3 N off b0 key X 0=G9 N b0:=by unfold R3;congr 1;funext v;simp only[C4];grind
theorem ynw (N:Nat):G9 N (fun _=>0)=List.replicate N 0:=by
 unfold G9;apply List.ext_getElem
 ·simp
 ·intro c a b;simp
theorem ymb {X:Nat->Rat} (h:key k<off\/off+N<=key k):R3 N off b0 key X (k+1)=R3 N off b0 key X k:=by unfold R3 G9;refine List.map_congr_left fun v hv=> ?_;have:=List.mem_range.1 hv;rw[C4,if_neg og];grind
theorem yma {X:Nat->Rat} (i:off<=key k) (j:key k<off+N) (e:∀a,a<k->key a≠key k) (f:b0 (key k-off)=0):R3 N off b0 key X (k+1)=(R3 N off b0 key X k).set (key k-off) (X k):=by
 apply List.ext_getElem?;intro v;rw[List.getElem?_set,ztl];by_cases hv:v<N
 ·have c:(R3 N off b0 key X (k+1))[v]? =some (b0 v+C4 (k+1) fun a=>if key a=off+v then X a else 0):=znz hv;have d:(R3 N off b0 key X k)[v]? =some (b0 v+C4 k fun a=>if key a=off+v then X a else 0):=znz hv;rw[c];by_cases b:key k-off=v
  ·rw[if_pos b,if_pos og,C4,if_pos og,zlp fun a g=>if_neg fun h=>e a g og,<-b,f];congr 1;grind
  ·rw[if_neg b,d,C4,if_neg og];congr 1;grind
 ·have c:(R3 N off b0 key X (k+1))[v]? =none:=List.getElem?_eq_none (by rw[ztl];omega);have d:(R3 N off b0 key X k)[v]? =none:=List.getElem?_eq_none (by rw[ztl];omega);rw[c,if_neg og,d]
theorem zz1358 (l:List Rat) (j:Nat) (q:Rat):C2 (l.set j q)=(C2 l).set j (C7 q):=by unfold C2;rw[List.map_set]
theorem zrz (l:List Rat):(C2 l).length=l.length:=by simp[C2]
theorem ykj {w:World} {a cap:Nat} {S:Nat->Prop} (h:OwnS 3 30 IsR w base S (.slice (some ⟨a,0,none⟩) N cap) (C2 l)) (c:l.length=N) (e:j<N) {x y z:Value} {q:Rat} (d:IsQ w S (.agg #[x,y,z]) q):
 OwnS 3 30 IsR (L7 w a j x y z) base S (.slice (some ⟨a,0,none⟩) N cap) (C2 (l.set j q)):=by have b:(C2 l).length=N:=(by rw[zrz,c]);rw[<-b] at h;have:=OwnS.set3 IsR.stb h (j:=j) (by rw[b];exact e) d;rw[<-zz1358,zrz,List.length_set,c] at this;exact this
theorem yki {w:World} {cap:Nat} {S:Nat->Prop} {A:Option Addr} (h:OwnS 3 30 IsR w base S (.slice A N cap) (C2 l)) (g:l.length=N) (u:j<N):
 ∃a,A=some ⟨a,0,none⟩/\base<=a/\a<w.heap.size/\N<=cap/\cap<=9223372036854775807/\(∀m,w.frozen? ⟨a,m,none⟩=false)/\∃x y z,w.cell? ⟨a,j*3,none⟩=some x/\w.cell? ⟨a,j*3+1,none⟩=some y/\w.cell? ⟨a,j*3+2,none⟩=some z:=by have v:C2 l≠[]:=fun b=>(by have:=congrArg List.length b;rw[zrz,g] at this;simp at this;omega);obtain⟨o,D,E,G,b,p,c,i,r,d,e,s,-,-⟩:=h.shape v;simp only[Value.slice.injEq] at b;obtain⟨rfl,F,rfl⟩:=b;obtain⟨n,hr⟩:∃n,(C2 l)[j]? =some n:=⟨_,List.getElem?_eq_getElem (by rw[zrz,g];exact u)⟩;obtain⟨b,f,t⟩:=s.get hr;obtain⟨B,k,C,q,rfl,_,_⟩:=t;refine⟨o,rfl,p,(Array.getElem?_eq_some_iff.1 c).1,by rw[zrz,g] at i;exact i,by unfold maxLen at r;omega,fun m=>by simp[World.frozen?,c],_,_,_,znp c d (zmi e (i:=0) f rfl),znp c d (zmi e (i:=1) f rfl),znp c d (zmi e (i:=2) f rfl)⟩
structure ScOk (sc:Nat->Nat) (top:Nat):Prop where
 sl:∀v,(A9 (sc v)).length<=100000
 sp:∀v,0<sc v
 tl:(A9 top).length<=100000
 tp:0<top
theorem ycp {z:Int} (h:Sz ((z:Int):Rat) 100000):(A9 z.natAbs).length<=100000:=by have a:=h.1;rwa[Rat.num_intCast] at a
theorem zz1447 {w:World} {q:Rat} (h:IsQ w (C3 w) v q):Calls Tryz.prog 94 #[v] w fun f w'=>f= .returned (.bool (!(zlm q)))/\a w.heap.size w w':=by
 have e:=b h;obtain⟨neg,A,p,B,r,rfl,_,_,_⟩:=G7 h;obtain⟨t,j⟩:=nm ((A9 q.num.natAbs).length);obtain⟨u,k⟩:=nm ((A9 q.den).length);rw[<-j,<-k] at e⊢;obtain⟨o,c⟩:=nm (zlm q);rw[<-c];have m:=b c;clear h j k c;have y:=T3;obtain⟨z,s,g,l,n⟩:=J5 w #[.bool neg,.slice A t p,.slice B u r] 30;obtain⟨b0,x,b2⟩:=B9 l;have B0:=b g;clear g l n;go_in;go_wp2_with fail;clear s;refine(yud (IsQ.stb.next e.out B0.out)).mono ?_;rw[<-m.out];rintro f C ⟨rfl,i⟩;have d:=nB B0 i;clear i;cases o
 ·go_wp2_with fail;go_ret;exact⟨rfl,d.out⟩
 ·go_wp2_with fail;go_ret;exact⟨rfl,d.out⟩
theorem yva {w:World} (h:IsV w (C3 w) v (C2 l)) (t:∀q∈l,zlm q=true):
 Calls Tryz.prog 157 #[v,.func (.func 94) #[] #[]] w fun j w'=>j= .returned (.int .i64 (-1))/\a w.heap.size w w':=by
 obtain⟨i,z⟩:=C5 h t;obtain⟨A,L,rfl,F⟩:=X8 h;obtain⟨n,d⟩:=nm (l.length);rw[zrz,<-d] at i F⊢;have y:=b d;clear h t d;have M:=T3;go_in;go_wp2_with fail;go_loopw [8,5] (fun e _ wr=>∃k:Nat,k<=n/\e= .int .i64 (k:Int)/\a w.heap.size w wr) (fun e _ _=>n-(intOf e).toNat);case atStart=>exact⟨0,Nat.zero_le _,rfl,Below.refl _ _⟩
 case round=>
  obtain⟨k,Q,rfl,c⟩:=hrel;have g:=b c;rcases Nat.lt_or_ge k n with p|N
  ·obtain⟨q,r,s⟩:=zry (l:=l) (j:=k) (by rw[<-y.out];exact p);obtain⟨K,R,G,H,I,J,rfl,_,o,C,D,E⟩:=zml (IsV.stb.to i.out (E7 c)) s;obtain⟨B,x⟩:=C5 (zrr o) (z.out q (List.mem_of_getElem? r));have f:Hid (k+1<=n):=p;have O:(0:Int)<=(k:Int):=og;have P:(k:Int)<(n:Int):=og;clear r s o c;go_wp2_with fail;refine(zz1447 B.out).mono ?_;rw[x.out];rintro j S ⟨rfl,m⟩;have u:=nB g m;clear m C D E;go_wp2_with fail;go_roundw;(case rel=>exact⟨k+1,f.out,by go_num,u.out⟩);case measure=>simp[intOf];have:=f.out;omega
  ·obtain rfl:k=n:=og;clear c;go_wp2_with fail;go_ret;exact⟨rfl,g.out⟩
theorem ybm {w:World} (h:IsV w (C3 w) v (C2 l)) (e:∀q∈l,zlm q=true):
 Calls Tryz.prog 93 #[v,.func (.func 94) #[] #[]] w fun c w'=>c= .returned (.bool false)/\a w.heap.size w w':=by obtain⟨g,i⟩:=C5 h e;clear h e;go_in;go_wp2_with fail;refine(yva g.out i.out).mono ?_;rintro c j ⟨rfl,d⟩;have f:=b d;clear d;go_wp2_with fail;go_ret;exact⟨rfl,f.out⟩
section
variable {w : World} {S : Nat → Prop} {lo0 lo g m n : Nat} {L : Lay} {F : Nat → Nat → Rat} {z : Rat} {bas oth : List Nat}
theorem ExG.rowsS (h:ExG w S lo0 lo g L m n F z bas oth):IsS 1 IsSl w (C3 w) (.slice L.ra m L.rc) (O9 L m n):=by
 have b:(O9 L m n).length=m:=by unfold O9;simp
 have key:∀l:List Value,(∀x∈l,∃A m a,x=Value.slice A m a)->cellsOf l=l:=fun l b=>by
  induction l with
  |nil=>rfl
  |cons x l ih=>obtain⟨A,m,a,rfl⟩:=b x (by simp);have p:cellsOf (Value.slice A m a::l)=(Value.slice A m a).cells.toList++cellsOf l:=(by simp[cellsOf]);rw[p,ih fun y d=>b y (by simp[d])];rfl
 have i:∀x∈O9 L m n,∃A m a,x=Value.slice A m a:=fun x c=>(by unfold O9 at c;obtain⟨q,_,rfl⟩:=List.mem_map.1 c;exact⟨_,_,_,rfl⟩);refine⟨L.ra,L.rc,O9 L m n,by rw[b],by rw[b];exact h.caps.1,h.caps.2.1,fun o=> ?_,fun x c=>by obtain⟨A,m,a,rfl⟩:=i x c;rfl,rfl,fun j x y c d=>by rw[c] at d;cases d;exact⟨rfl,i x (List.mem_of_getElem? c)⟩⟩;rw[key _ i] at o⊢
 have k:0<m:=by
  rcases Nat.eq_zero_or_pos m with e|e
  ·exact absurd (List.eq_nil_of_length_eq_zero (by rw[b,e])) o
  ·exact e
 refine⟨L.r0,0,(h.hd 0 k).1,h.sn_lt _ (.inl (h.hd 0 k).2.1),fun j v hv=> ?_⟩;have f:j<m:=(by have:=(List.getElem?_eq_some_iff.1 hv).1;rwa[b] at this);unfold O9 at hv;rw[List.getElem?_map,List.getElem?_range f] at hv;cases hv;rw[Nat.zero_add];have:=(h.hd j f).2.2;unfold zog;rw[J4 f];exact this
theorem ExG.isV (h:ExG w S lo0 lo g L m n F z bas oth) {l:Nat} (b:l<m+2):IsV w (C3 w) (zog L m n l) (C2 (G9 (F9 m n l) (F l))):=by
 unfold zog;rcases Nat.eq_zero_or_pos (F9 m n l) with a|a
 ·rw[a];exact⟨L.ha l,L.cp l,[],rfl,Nat.zero_le _,(h.cap l b).2,fun c=>absurd rfl c,fun v hv=>absurd hv (by simp),⟨rfl,fun j x y d=>by simp at d⟩⟩
 ·rw[h.hv l b a];exact(h.tab.line l b a).isV h.sn_lt (Nat.lt_of_lt_of_le (h.tab.sep l b a).1 h.tab.hlo)
end
theorem ycs {w:World} {h n g f:Nat} {s:Bool} {c d:Option Addr} {z:Rat} (hr:Row w h 30 [.bool s,.slice c n k,.slice d g f]) (o:IsQ w (C3 w) (.agg #[.bool s,.slice c n k,.slice d g f]) z):IsV w (C3 w) (.slice (some ⟨h,0,none⟩) 1 1) (C2 [z]):=
 ⟨some ⟨h,0,none⟩,1,[.agg #[.bool s,.slice c n k,.slice d g f]],rfl,Nat.le_refl _,by unfold maxLen;omega,fun _=>⟨h,0,rfl,hr.lt,fun p q l=>by
   have m:cellsOf [Value.agg #[.bool s,.slice c n k,.slice d g f]]=[.bool s,.slice c n k,.slice d g f]:=by simp[cellsOf,Value.cells]
   rw[m] at l
   rw[Nat.zero_add,hr.cell p];exact l⟩,fun v hv=>by rw[List.mem_singleton.1 hv];rfl,⟨rfl,fun j x y e i=>by
   match j,e,i with
   |0,e,i=>cases e;cases i;exact o
   |_+1,e,_=>simp at e⟩⟩
theorem ybd {w:World} {S D:Nat->Prop} {lo0 lo g m n o:Nat} {L:Lay} {F:Nat->Nat->Rat} {z:Rat} {bas oth:List Nat} (h:ExG w S lo0 lo g L m n F z bas oth) (hv:IsV w (C3 w) (.slice (some ⟨o,0,none⟩) 1 1) (C2 [z]))
 (M:∀l j,l<m+2->j<F9 m n l->Sz (F l j) 1024) (P:Sz z 1024) (K:OwnS 1 26 IsSl w base D v (O9 L m n++[.slice (L.ha m) m (L.cp m),.slice (L.ha (m+1)) n (L.cp (m+1)),.slice (some ⟨o,0,none⟩) 1 1])):
 ∃bl f,v= .slice (some ⟨bl,0,none⟩) (m+3) f/\m+3<=f/\f<=9223372036854775807/\Hid (bl<w.heap.size)/\Hid (∀i,i<m+3->∃A k d l,w.cell? ⟨bl,i,none⟩=some (.slice A k d)/\IsV w (C3 w) (.slice A k d) (C2 l)/\∀q∈l,zlm q=true):=by
 have s:(O9 L m n).length=m:=(by unfold O9;simp);have t:(O9 L m n++[Value.slice (L.ha m) m (L.cp m),Value.slice (L.ha (m+1)) n (L.cp (m+1)),Value.slice (some ⟨o,0,none⟩) 1 1]).length=m+3:=(by rw[List.length_append,s];rfl);obtain⟨bl,f,Q,R,x,T,C,B,G,N,O,E,-,-⟩:=K.shape (fun p=>by rw[p] at t;simp at t);rw[t] at x B;refine⟨bl,f,x,B,by unfold maxLen at G;omega,(Array.getElem?_eq_some_iff.1 C).1,fun i U=> ?_⟩
 have I:∃A k d l,(O9 L m n++[Value.slice (L.ha m) m (L.cp m),Value.slice (L.ha (m+1)) n (L.cp (m+1)),Value.slice (some ⟨o,0,none⟩) 1 1])[i]? =some (.slice A k d)/\IsV w (C3 w) (.slice A k d) (C2 l)/\∀q∈l,zlm q=true:=by
  rcases Nat.lt_or_ge i (m+2) with e|e
  ·refine⟨L.ha i,F9 m n i,L.cp i,G9 (F9 m n i) (F i),?_,h.isV e,fun q u=> ?_⟩
   ·have c:=yls (L:=L) (m:=m) (n:=n) e;rw[List.getElem?_append,s] at c⊢;split
    ·rename_i r;rw[if_pos r] at c;exact c
    ·rename_i r;rw[if_neg r] at c;have:i-m<2:=og;match k:i-m,this with
     |0,_=>rw[k] at c;exact c
     |1,_=>rw[k] at c;exact c
   ·obtain⟨j,J,rfl⟩:=zpi u;exact fitsQ_true.2 (M i j e J)
  ·obtain rfl:i=m+2:=og;refine⟨_,_,_,[z],?_,hv,fun q u=>by rw[List.mem_singleton.1 u];exact fitsQ_true.2 P⟩;rw[List.getElem?_append,s,if_neg (show¬m+2<m by omega),show m+2-m=2 by omega];rfl
 obtain⟨A,k,d,l,hg,e,c⟩:=I;obtain⟨p,H,y,_⟩:=E.get hg;have hc:=znp C N (zmi O (i:=0) H (u:=p) (by rw[y];rfl));rw[Nat.mul_one,Nat.add_zero] at hc;exact⟨A,k,d,l,by rw[hc,y],e,c⟩
theorem ysw {w:World} {S:Nat->Prop} {lo0 lo g m n:Nat} {L:Lay} {F:Nat->Nat->Rat} {z:Rat} {bas oth:List Nat} (h:ExG w S lo0 lo g L m n F z bas oth) (aO:m<=100) (aP:n<=100) (ay:∀l j,l<m+2->j<F9 m n l->Sz (F l j) 1024) (az:Sz z 1024):
 Calls Tryz.prog 69 #[.pointer (some ⟨g,0,none⟩)] w fun e w'=>e= .returned (.bool true)/\a w.heap.size w w':=by
 obtain⟨U,V,W⟩:=G0 h ay az;obtain⟨N,E,K,I,G,M,J,H,ao⟩:=h.open3;have ai:w.cell? ⟨g,2,none⟩=some (.slice L.ra m L.rc):=H.cell 2;have aj:w.cell? ⟨g,3,none⟩=some (.slice (L.ha m) m (L.cp m)):=H.cell 3;have ak:w.cell? ⟨g,4,none⟩=some (.slice (L.ha (m+1)) n (L.cp (m+1))):=H.cell 4;have al:w.cell? ⟨g,5,none⟩=some (.bool N):=H.cell 5;have g6:w.cell? ⟨g,6,none⟩=some (.slice E K I):=H.cell 6;have an:w.cell? ⟨g,7,none⟩=some (.slice G M J):=H.cell 7;have Q:=b (h.old ao);have RV:=b h.rowsS;have av:(O9 L m n).length=m:=(by unfold O9;simp);have R:=b av;have i:=zmx ai aj ak al g6 an;have P:=b fun aG (aH:a w.heap.size w aG)=>yfx ((IsS.stb IsSl.stb).to RV.out (E7 aH)) (by rw[R.out];omega);have aJ:=T3;clear h ay az H ao ai aj ak al g6 an av;go_in;go_wp2_with fail;refine wp_region_noPanic ?_;refine zkq i fun q=> ?_;refine sT 0 5 ?_;refine sT 1 6 ?_;refine sT 2 7 ?_;refine sT 3 8 ?_;refine sT 4 9 ?_;refine sT 6 11 ?_;refine sT 7 12 ?_;refine sT 8 13 ?_;refine sT 9 14 ?_;refine sT 10 15 ?_;refine sT 11 16 ?_;refine sT 12 17 ?_;refine sT 13 18 ?_;refine sT 14 19 ?_;refine sT 15 20 ?_;refine sT 16 21 ?_;refine sT 17 22 ?_;refine sT 18 23 ?_;refine sT 19 24 ?_;refine sT 20 25 ?_;refine sT 25 30 ?_;refine wpAnyH_ready (rs:=[5,21]) kr (by simp) ?_;refine AllReadyH.cons rfl (fun d c=> ?_) (AllReadyH.cons rfl (fun d c=> ?_) AllReadyH.nil);rotate_left 1;go_simp;refine c.out _ _ (i.out _ bel) (fun q=> ?_);clear c d;refine sP ?_;refine wpAnyH_ready (rs:=[5,22]) kr (by simp) ?_;refine AllReadyH.cons rfl (fun d c=> ?_) (AllReadyH.cons rfl (fun d c=> ?_) AllReadyH.nil);go_simp;go_at_call 134;(with_reducible refine Calls.mono (P.out _ bel) ?_)
 rintro e f ⟨⟨aA,rfl,u⟩,r⟩;have p:=b u;have O:=bW w f;obtain⟨ad,ag,rfl⟩:=u.slice;(focus go_wp2_with fail)
 refine c.out _ _ (i.out _ bel) (fun q=> ?_);clear c d;refine sP ?_;refine wpAnyH_ready (rs:=[22]) kr (by simp) ?_;refine AllReadyH.cons rfl (fun d c=> ?_) AllReadyH.nil;go_simp;refine c.out _ _ (i.out _ bel) (fun q=> ?_);clear c d;refine sP ?_;refine wpAnyH_ready (rs:=[23]) kr (by simp) ?_;refine AllReadyH.cons rfl (fun d c=> ?_) AllReadyH.nil;refine zwv zoy rfl (.tmp 10) (.tmp 27) rfl (news:=[.slice (L.ha m) m (L.cp m),.slice (L.ha (m+1)) n (L.cp (m+1)),.slice (some ⟨w.heap.size,0,none⟩) 1 1]) (by simp[Act.eval]) (by simp[Act.eval];rfl) (heap_alloc_new _ _) (OwnS.step IsSl.stb p.out (L8 _ _) (fun X h=>h) (fun X h=> .inl h)) (by intro x D;simp at D;rcases D with h|h|h<;>exact⟨_,_,_,h⟩) (by rw[R.out];simp;omega) (by have:=r.size;simp at this⊢;omega) ?_;intro aB y B s;have t:=OwnS.own_lt p.out;have o:Hid (a w.heap.size w y):=Below.grown (show a w.heap.size w (f.alloc (.cells #[.slice (L.ha m) m (L.cp m),.slice (L.ha (m+1)) n (L.cp (m+1)),.slice (some ⟨w.heap.size,0,none⟩) 1 1] 26)) from bel) s (Below.size (show a w.heap.size w (f.alloc (.cells #[.slice (L.ha m) m (L.cp m),.slice (L.ha (m+1)) n (L.cp (m+1)),.slice (some ⟨w.heap.size,0,none⟩) 1 1] 26)) from bel)) (fun k e=>by have:=(t k e).1;simp at this;omega);have C:Row y w.heap.size 30 [.bool N,.slice E K I,.slice G M J]:=Row.grownN (Row.next (Row.next (heap_alloc_new w.drew _) r) (L8 _ _)) s (fun k e=>by have:=t k e;simp at this;omega);obtain⟨bl,ah,rfl,ar,au,Z,aa⟩:=ybd (U.out.next o.out) (ycs C (IsQ.stb.next Q.out o.out)) V.out W.out B;clear t B s C p O r u;go_simp;refine c.out _ _ (i.out _ o.out) (fun q=> ?_);clear c d;refine sP ?_;refine sT 24 29 ?_;refine wpAnyH_done kr ?_ _;refine NoPanic.normal ?_;rotate_left 1;go_simp;refine c.out _ _ (i.out _ bel) (fun q=> ?_);clear c d;refine sP ?_;refine wpAnyH_ready (rs:=[5]) kr (by simp) ?_;refine AllReadyH.cons rfl (fun d c=> ?_) AllReadyH.nil;go_simp;go_at_call 134;(with_reducible refine Calls.mono (P.out _ bel) ?_)
 rintro e f ⟨⟨aA,rfl,u⟩,r⟩;have p:=b u;have O:=bW w f;obtain⟨ad,ag,rfl⟩:=u.slice;(focus go_wp2_with fail)
 refine c.out _ _ (i.out _ bel) (fun q=> ?_);clear c d;refine sP ?_;refine wpAnyH_ready (rs:=[23]) kr (by simp) ?_;refine AllReadyH.cons rfl (fun d c=> ?_) AllReadyH.nil;refine zwv zoy rfl (.tmp 10) (.tmp 27) rfl (news:=[.slice (L.ha m) m (L.cp m),.slice (L.ha (m+1)) n (L.cp (m+1)),.slice (some ⟨w.heap.size,0,none⟩) 1 1]) (by simp[Act.eval]) (by simp[Act.eval];rfl) (show Row f (w.heap.size+1) 26 [.slice (L.ha m) m (L.cp m),.slice (L.ha (m+1)) n (L.cp (m+1)),.slice (some ⟨w.heap.size,0,none⟩) 1 1] from by have h:=Row.next (Row.drew (heap_alloc_new (w.alloc (.cells #[.bool N,.slice E K I,.slice G M J] 30)) (.cells #[.slice (L.ha m) m (L.cp m),.slice (L.ha (m+1)) n (L.cp (m+1)),.slice (some ⟨w.heap.size,0,none⟩) 1 1] 26))) r;rw[World.size_alloc] at h;exact h) p.out (by intro x D;simp at D;rcases D with h|h|h<;>exact⟨_,_,_,h⟩) (by rw[R.out];simp;omega) (by have:=r.size;simp at this⊢;omega) ?_;intro aB y B s;have t:=OwnS.own_lt p.out;have o:Hid (a w.heap.size w y):=Below.grown (show a w.heap.size w f from bel) s (Below.size (show a w.heap.size w f from bel)) (fun k e=>by have:=(t k e).1;simp at this;omega);have C:Row y w.heap.size 30 [.bool N,.slice E K I,.slice G M J]:=Row.grownN (Row.next (Row.drew (Row.next (heap_alloc_new w _) (L8 _ _))) r) s (fun k e=>by have:=t k e;simp at this;omega);obtain⟨bl,ah,rfl,ar,au,Z,aa⟩:=ybd (U.out.next o.out) (ycs C (IsQ.stb.next Q.out o.out)) V.out W.out B;clear t B s C p O r u;go_simp;refine c.out _ _ (i.out _ o.out) (fun q=> ?_);clear c d;refine sP ?_;refine sT 24 29 ?_;refine wpAnyH_done kr ?_ _;refine NoPanic.normal ?_;rotate_left 1;go_simp;go_at_call 134;(with_reducible refine Calls.mono (P.out _ bel) ?_)
 rintro e f ⟨⟨aA,rfl,u⟩,r⟩;have p:=b u;have O:=bW w f;obtain⟨ad,ag,rfl⟩:=u.slice;(focus go_wp2_with fail)
 refine c.out _ _ (i.out _ bel) (fun q=> ?_);clear c d;refine sP ?_;refine wpAnyH_ready (rs:=[21]) kr (by simp) ?_;refine AllReadyH.cons rfl (fun d c=> ?_) AllReadyH.nil;go_simp;refine c.out _ _ (i.out _ bel) (fun q=> ?_);clear c d;refine sP ?_;refine wpAnyH_ready (rs:=[22]) kr (by simp) ?_;refine AllReadyH.cons rfl (fun d c=> ?_) AllReadyH.nil;go_simp;refine c.out _ _ (i.out _ bel) (fun q=> ?_);clear c d;refine sP ?_;refine wpAnyH_ready (rs:=[23]) kr (by simp) ?_;refine AllReadyH.cons rfl (fun d c=> ?_) AllReadyH.nil;refine zwv zoy rfl (.tmp 10) (.tmp 27) rfl (news:=[.slice (L.ha m) m (L.cp m),.slice (L.ha (m+1)) n (L.cp (m+1)),.slice (some ⟨f.heap.size,0,none⟩) 1 1]) (by simp[Act.eval]) (by simp[Act.eval];rfl) (heap_alloc_new _ _) (OwnS.step IsSl.stb p.out (C6 (L8 _ _) (L8 _ _)) (fun X h=>h) (fun X h=> .inl h)) (by intro x D;simp at D;rcases D with h|h|h<;>exact⟨_,_,_,h⟩) (by rw[R.out];simp;omega) (by have:=r.size;simp at this⊢;omega) ?_;intro aB y B s;have t:=OwnS.own_lt p.out;have o:Hid (a w.heap.size w y):=Below.grown (show a w.heap.size w ((f.alloc (.cells #[.bool N,.slice E K I,.slice G M J] 30)).alloc (.cells #[.slice (L.ha m) m (L.cp m),.slice (L.ha (m+1)) n (L.cp (m+1)),.slice (some ⟨f.heap.size,0,none⟩) 1 1] 26)) from bel) s (Below.size (show a w.heap.size w ((f.alloc (.cells #[.bool N,.slice E K I,.slice G M J] 30)).alloc (.cells #[.slice (L.ha m) m (L.cp m),.slice (L.ha (m+1)) n (L.cp (m+1)),.slice (some ⟨f.heap.size,0,none⟩) 1 1] 26)) from bel)) (fun k e=>by have:=(t k e).1;simp at this;omega);have C:Row y f.heap.size 30 [.bool N,.slice E K I,.slice G M J]:=Row.grownN (Row.next (heap_alloc_new f _) (L8 _ _)) s (fun k e=>by have:=t k e;simp at this;omega);obtain⟨bl,ah,rfl,ar,au,Z,aa⟩:=ybd (U.out.next o.out) (ycs C (IsQ.stb.next Q.out o.out)) V.out W.out B;clear t B s C p O r u;go_simp;refine c.out _ _ (i.out _ o.out) (fun q=> ?_);clear c d;refine sP ?_;refine sT 24 29 ?_;refine wpAnyH_done kr ?_ _;refine NoPanic.normal ?_
 all_goals
  clear i P RV Q
  go_wp2_with fail
  go_loopw [30,4] (fun ac _ wr=>∃v:Nat,v<=m+3/\ac= .int .i64 (v:Int)/\a y.heap.size y wr) (fun ac _ _=>m+3-(intOf ac).toNat)
  case atStart=>exact⟨0,Nat.zero_le _,rfl,Below.refl _ _⟩
  case round=>
   obtain⟨v,aL,rfl,T⟩:=hrel
   have ae:=b T
   rcases Nat.lt_or_ge v (m+3) with ab|aK
   ·obtain⟨A,k,aI,l,Y,hv,hf⟩:=aa.out v ab
    have Y:=(T.cell (p:=⟨bl,v,none⟩) Z.out).trans Y
    obtain⟨aE,aD⟩:=C5 (IsV.stb.next hv T) hf
    have aM:(0:Int)<=(v:Int):=og
    have aN:(v:Int)<(m:Int)+3:=og
    have af:=b ab
    clear hv hf T ab
    go_wp2_with fail
    refine(ybm aE.out aD.out).mono ?_
    rintro e aQ ⟨rfl,aq⟩
    have aC:=nB ae aq
    clear Y aq
    go_wp2_with fail
    go_roundw
    case rel=>exact⟨v+1,af.out,by go_num,aC.out⟩
    case measure=>simp[intOf];have:=af.out;omega
   ·obtain rfl:v=m+3:=og
    go_wp2_with fail
    go_ret
    exact⟨rfl,C6 o.out ae.out⟩
end Go.Proofs.YtlhhbccgfkhflaaGreatDoor
