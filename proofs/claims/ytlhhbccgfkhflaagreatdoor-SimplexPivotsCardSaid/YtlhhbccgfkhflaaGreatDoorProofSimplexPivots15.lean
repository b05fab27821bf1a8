/-
 Contracts of b.Grow (a nil slice) and b.Concat (two b) of ints.
-/
import Derived.Test.YtlhhbccgfkhflaaGreatDoorProofSimplexPivots13
import Derived.Lib.AppendZerosOnto
import Derived.Laws.AppendOwnNone
namespace Go.Proofs.YtlhhbccgfkhflaaGreatDoor
open Go.RowKit
set_option linter.unusedVariables false
set_option maxRecDepth 100000
set_option maxHeartbeats 8000000
open _root_.Go.Lib renaming hid → f
open _root_.Nat renaming le_refl → b, le_trans → e, lt_or_ge → F, zero_le → H
open _root_.List renaming getD_eq_getElem?_getD → d, getElem?_eq_getElem → C, mem_of_getElem? → G, length_append → D, length_map → B, getElem?_map → E
open _root_.And renaming intro → o
variable {K c g i j r u v : Nat} {l : List Nat}
theorem yuo (w:World) {k:Nat} (t:k<=100):Calls Tryz.prog 138 #[.slice none 0 0,.int .i64 (k:Int)] w fun n w'=>(∃v,n= .returned v/\OwnS 1 3 IsIV w' w.heap.size (fun _=>False) v ([]:List Int))/\Below w.heap.size w w':=by
 obtain⟨i,q,r,y,g⟩:=info_parts yib;have x:¬((k:Int)<0):=og;rcases Nat.eq_zero_or_pos k with rfl|o
 ·go_in;go_wp2_with fail;go_ret;exact⟨⟨_,rfl,OwnS.nil fun m h=>h.elim⟩,Below.refl _ _⟩
 ·have j:∀d,(Builtin.append_ #[22,3] d #[.slice none 0 0,.int .i64 (k:Int)]).run Tryz.prog w= .ok (.slice (some ⟨w.heap.size,0,none⟩) k (grownCap w k 0 3)) (w.drew.alloc (.cells (Builtin.zeroCells (Value.int .i64 0).cells k++Builtin.zeroCells (Value.int .i64 0).cells (grownCap w k 0 3-k)) 3)):=fun d=>(by have h:=Lib.run_append_grow_zeros w 22 3 d 3 i (.int .i64 0) .i64 .i64 Tryz.underlying22 Tryz.underlying3 q r none 0 0 [] (run_firstCells_none w.drew i.size 0 0 0) k o og og og (by rw[g];omega) (by rw[g];exact growslice_fits og og);simpa using h);have p:=grownCap_ge w k 0 3;have c:=grownCap_le_maxLen w k 0 3 (by unfold maxLen;omega);obtain⟨a,e⟩:=nm (grownCap w k 0 3);rw[<-e] at j p c;have s:a<=9223372036854775807:=(by unfold maxLen at c;omega);have l:=f c;have u:(0:Int)<(k:Int):=og;have zoh:IntKind.i64.wrap ((k:Int)-0)=(k:Int):=(by rw[IntKind.wrap_i64];omega);clear e c;go_in;go_wp2_with (at_builtin;refine Lib.wpList_append_run _ rfl _ _ _ _ rfl _ _ rfl rfl _ _ (j _) ?_);go_ret;refine⟨⟨_,rfl,[],?_,Wid.nil,All2.nil,fun m h=>h.elim⟩,zvh (yez (Below.refl _ _)) _⟩;exact World.ownsRow_made w.drew _ a (b _) l.out (by rw[Array.size_append,size_zeroCells,size_zeroCells];show k*1+(a-k)*1=a*1;omega)
theorem yog {P:Program} {w:World} {ops:Array Oper} {rest:List Oper} {M:Oper} {a:Act} {T:Exit->Act->World->Prop} {t g:TypeId} {bytes:Nat} (O:ElN P t g 1 bytes) (Z:M.guard=none) (s x:Operand) (ac:M.op= .call {callee:= .builtin .append,args:= #[s,x],argTypes:= #[t,t]})
 {base:Nat} {v:Value} {A:Option Addr} {m:Nat} {l K:List Int} (ae:a.eval s=v) (p:a.eval x= .slice A m c) (ad:OwnS 1 g IsIV w base (fun _=>False) v l) (hv:IsS 1 IsIV w (C3 w) (.slice A m c) K) (ak:(l.length+K.length)*(bytes+1)<=140737488355328) (Y:base<=w.heap.size) (av:A=none->c=0)
 (h:∀N w',OwnS 1 g IsIV w' base (fun _=>False) N (l++K)->Below base w w'->w.heap.size<=w'.heap.size->wpList P ops T rest (a.put M.dst N) w'):wpList P ops T (M::rest) a w:=by
 obtain⟨i,z,aa,aA,az,al,aB⟩:=O.info
 obtain⟨aC,aD,q,af,aH,aI,W,X,J⟩:=id hv
 simp only[Value.slice.injEq] at af
 obtain⟨rfl,rfl,rfl⟩:=af
 obtain⟨I,S,ag,L,aK⟩:=id ad
 have R:=zqc X
 have aJ:=zqc ag
 rw[Nat.mul_add,Nat.mul_one] at ak
 cases A with
 |none=>
  have au:cellsOf q=[]:=Classical.byContradiction fun g=>by obtain⟨U,off,Q,_⟩:=W g;cases Q
  have ar:K=[]:=by
   have:q.length=0:=by rw[au] at R;simpa using R.symm
   exact List.length_eq_zero_iff.1 (by rw[<-J.1];exact this)
  subst ar
  have an:c=0:=av rfl
  subst an
  exact wpList_append_own_none Z s x t ac base g i 1 O.und aa v l.length (cellsOf I) ae S p (h _ _ (by rw[List.append_nil];exact ad) (Below.refl _ _) (b _))
 |some ah=>
  refine wpList_append_own _ Z s x t ac base g i z 1 bytes O.und aa aA az al aB (Nat.one_pos) v l.length (cellsOf I) ae S ah K.length c (cellsOf q) p (by rw[R,J.1]) (fun j u n=> ?_) (fun u n=> ?_) (by unfold maxLen;omega) og Y
   fun N w' aj V aE=>h N w' ?_ ?_ V.size
  ·have ay:cellsOf q≠[]:=fun g=>by rw[g] at n;simp at n
   obtain⟨U,off,Q,aG,ao⟩:=W ay
   cases Q
   rw[Addr.add_lit]
   exact ao j u n
  ·unfold cellsOf at n
   obtain⟨x,p,n⟩:=List.mem_flatMap.1 n
   obtain⟨j,ab⟩:=List.getElem?_of_mem p
   obtain⟨y,r⟩:∃y,K[j]? =some y:=⟨_,C (by rw[<-J.1];exact(List.getElem?_eq_some_iff.1 ab).1)⟩
   have g:=J.2 j _ _ ab r
   rw[g] at n
   simp[Value.cells] at n
   rw[n];rfl
  ·refine⟨I++q,?_,fun v hv=> ?_,?_,fun U h=>h.elim⟩
   ·rw[D]
    have ai:cellsOf (I++q)=cellsOf I++cellsOf q:=by unfold cellsOf;rw[List.flatMap_append]
    rw[ai];exact aj
   ·rcases List.mem_append.1 hv with h|h
    ·exact ag v h
    ·exact X v h
   ·exact⟨by rw[D,D,L.1,J.1],fun j x y p r=>by
     rcases F j I.length with h|h
     ·rw[List.getElem?_append_left h] at p
      rw[List.getElem?_append_left (by rw[<-L.1];exact h)] at r
      exact L.2 j x y p r
     ·rw[List.getElem?_append_right h] at p
      rw[List.getElem?_append_right (by rw[<-L.1];exact h)] at r
      rw[<-L.1] at r
      exact J.2 _ x y p r⟩
  ·exact(Below.refl base w).grown V Y (fun k aq=>(S.lt k aq).1)
theorem yrf {w:World} {t:TypeId} {A B:Option Addr} {m n d e:Nat} {c lb:List Int} (hr:Row w g t [.slice A m d,.slice B n e]) (ha:IsS 1 IsIV w (C3 w) (.slice A m d) c) (x:IsS 1 IsIV w (C3 w) (.slice B n e) lb) (lA:c.length=m) (lB:lb.length=n) (nA:A=none->d=0) (nB:B=none->e=0) (S:m<=45) (T:n<=45):
 Calls Tryz.prog 77 #[.slice (some ⟨g,0,none⟩) 2 2] w fun u w'=>(∃v,u= .returned v/\IsS 1 IsIV w' (G4 w.heap.size w') v (c++lb))/\Below w.heap.size w w':=by
 obtain⟨p,C,D,F,G,q,E⟩:=hd7 hr ha x nA nB lA lB;obtain⟨r,s⟩:w.cell? ⟨g,0,none⟩=some (.slice A m d)/\w.cell? ⟨g,1,none⟩=some (.slice B n e):=⟨hr.cell 0,hr.cell 1⟩;clear ha x nA nB lA lB hr;go_in;go_wp2_with fail;go_loopw [3,11,5] (fun o i _ wr=>w=wr/\((i= .int .i64 0/\o= .int .i64 0)\/(i= .int .i64 1/\o= .int .i64 (m:Int))\/(i= .int .i64 2/\o= .int .i64 ((m+n:Nat):Int)))) (fun _ i _ _=>2-(intOf i).toNat);case atStart=>exact⟨rfl,.inl ⟨rfl,rfl⟩⟩
 case round=>
  obtain⟨rfl,⟨rfl,rfl⟩|⟨rfl,rfl⟩|⟨rfl,rfl⟩⟩:=hrel
  ·have J:IntKind.i64.wrap ((0:Int)+(m:Int))=(m:Int):=(by rw[IntKind.wrap_i64];omega);have K:¬((m:Int)<0):=og;go_wp2_with fail;go_roundw;(case rel=>exact⟨trivial,.inr (.inl ⟨rfl,rfl⟩)⟩);case measure=>simp[intOf]
  ·have J:IntKind.i64.wrap ((m:Int)+(n:Int))=((m+n:Nat):Int):=(by rw[IntKind.wrap_i64];omega);have K:¬(((m+n:Nat):Int)<0):=og;go_wp2_with fail;go_roundw;(case rel=>exact⟨trivial,.inr (.inr ⟨rfl,rfl⟩)⟩);case measure=>simp[intOf]
  ·go_wp2_with fail;refine(yuo w (k:=m+n) og).mono ?_;rintro u V ⟨⟨U,rfl,b⟩,y⟩;obtain⟨H,z⟩:=C5 b y;clear r s b y;go_wp2_with fail;go_loopw [6,27,8] (fun v i _ wr=>Below w.heap.size w wr/\((i= .int .i64 0/\OwnS 1 3 IsIV wr w.heap.size (fun _=>False) v ([]:List Int))\/(i= .int .i64 1/\OwnS 1 3 IsIV wr w.heap.size (fun _=>False) v c)\/(i= .int .i64 2/\OwnS 1 3 IsIV wr w.heap.size (fun _=>False) v (c++lb)))) (fun _ i _ _=>2-(intOf i).toNat);case atStart=>exact⟨z.out,.inl ⟨rfl,H.out⟩⟩
   case round=>
    obtain⟨a,⟨rfl,b⟩|⟨rfl,b⟩|⟨rfl,b⟩⟩:=hrel
    ·have r:=(Row.next p.out a).cell 0;have N:=(IsS.stb IsIV.stb).to C.out (E7 a);have l:=a.size;have j:((([]:List Int)).length+c.length)*(8+1)<=140737488355328:=(by rw[q.out];simp;omega);go_wp2_with (at_builtin;refine yog zsw rfl _ _ rfl rfl rfl b N j l F.out ?_;intro Q R k f P);go_roundw;(case rel=>exact⟨a.trans f,.inr (.inl ⟨rfl,k⟩)⟩);case measure=>simp[intOf]
    ·have s:=(Row.next p.out a).cell 1;have O:=(IsS.stb IsIV.stb).to D.out (E7 a);have l:=a.size;have j:(c.length+lb.length)*(8+1)<=140737488355328:=(by rw[q.out,E.out];omega);go_wp2_with (at_builtin;refine yog zsw rfl _ _ rfl rfl rfl b O j l G.out ?_;intro Q R k f P);go_roundw;(case rel=>exact⟨a.trans f,.inr (.inr ⟨rfl,k⟩)⟩);case measure=>simp[intOf]
    ·go_wp2_with fail;go_ret;exact⟨⟨_,rfl,b.isS IsIV.stb (fun I h=>h.elim) (fun I L M=>⟨L,M⟩)⟩,a⟩
theorem ytu {w:World} {x y z u:Int} (s:w.cell? ⟨g,0,none⟩=some (.int .i64 x)) (t:w.cell? ⟨g,1,none⟩=some (.int .i64 y)) (v:w.cell? ⟨g,2,none⟩=some (.int .i64 z)) (A:w.cell? ⟨g,3,none⟩=some (.int .i64 u)):
 Calls Tryz.prog 72 #[.slice (some ⟨g,0,none⟩) 4 4] w fun c w'=>c= .returned (.int .i64 (zke [x,y,z,u]))/\w=w':=by
 have hc:Hid (∀j c,[x,y,z,u][j]? =some c->w.cell? ⟨g,j,none⟩=some (.int .i64 c)):=by
  intro j c a;match j,a with
  |0,a=>simp at a;rw[<-a];exact s
  |1,a=>simp at a;rw[<-a];exact t
  |2,a=>simp at a;rw[<-a];exact v
  |3,a=>simp at a;rw[<-a];exact A
 obtain⟨l,q⟩:=nm ([x,y,z,u]);rw[<-q] at hc⊢;have I:Hid (l.length=4):=(by rw[q];rfl);clear s t v A q;go_in;go_wp2_with fail;go_loop [7] (fun i=>∃k:Nat,k<=4/\i= .int .i64 (k:Int)/\Hid (∀j,j<k->l.getD j 0=0)) (fun i=>4-(intOf i).toNat);case atStart=>exact⟨0,by omega,rfl,fun j a=>by omega⟩
 case round=>
  obtain⟨k,O,rfl,hrel⟩:=hrel;rcases F k 4 with L|N
  ·obtain⟨c,p⟩:=zlj (l:=l) (j:=k) (by rw[I.out];exact L);have M:=hc.out k c p;have r:=f p;clear p;by_cases m:c=0
   ·have K:(c !=0)=false:=(by rw[m];rfl);have J:=f m;clear m;go_wp2_with fail;go_round
    case rel=>
     refine⟨k+1,by omega,by go_num,fun j a=> ?_⟩;rcases F j k with h|h
     ·exact hrel.out j h
     ·obtain rfl:j=k:=og;rw[d,r.out,J.out];rfl
    case measure=>simp[intOf];omega
   ·have K:(c !=0)=true:=bne_iff_ne.2 m;have n:Hid (zke l=c):=zvp hrel.out r.out m;clear m;go_wp2_with fail;go_ret;exact⟨J0 n.out.symm,rfl⟩
  ·obtain rfl:k=4:=og;have n:Hid (zke l=0):=zty (by rw[I.out];exact hrel.out);go_wp2_with fail;go_ret;exact⟨J0 n.out.symm,rfl⟩
theorem ytw (w:World) (x y z u t:Int) (g:t=zke [x,y,z,u]):Calls Tryz.prog 72 #[.slice (some ⟨w.heap.size,0,none⟩) 4 4] (w.alloc (.cells #[.int .i64 x,.int .i64 y,.int .i64 z,.int .i64 u] 38)) fun a w'=>a= .returned (.int .i64 t)/\Below w.heap.size w w':=by have h:Row (w.alloc (.cells #[.int .i64 x,.int .i64 y,.int .i64 z,.int .i64 u] 38)) w.heap.size 38 [.int .i64 x,.int .i64 y,.int .i64 z,.int .i64 u]:=heap_alloc_new w _;have b:=h.cell 0;have c:=h.cell 1;have d:=h.cell 2;have e:=h.cell 3;rw[g];refine(ytu b c d e).mono ?_;rintro a w' ⟨f,rfl⟩;exact⟨f,L8 _ _⟩
theorem yqv {m:List (List Rat)} (l:m.length<=40) (hc:c<=40) (f:∀r∈m,r.length=c) (k:∀r∈m,∀q∈r,Sz q 1024):zlt (G6 m)=0:=by
 have i:∀row∈G6 m,row.length=((G6 m).headD []).length:=by
  intro row hr;obtain⟨r,b,rfl⟩:=List.mem_map.1 hr;cases m with
  |nil=>cases b
  |cons a t=>simp only[G6,List.map_cons,List.headD_cons,C2,B];rw[f r b,f a (by simp)]
 unfold zlt;rw[if_neg (by simp[G6];omega)];refine zty fun j e=> ?_;rw[B] at e;rw[d,E,C e];have g:=List.getElem_mem e;simp only[Option.map_some,Option.getD_some];rw[if_neg (by rw[i _ g];simp)];obtain⟨r,b,h⟩:=List.mem_map.1 g;rw[<-h];exact ztv (by rw[f r b];exact hc) (k r b)
theorem yty {R:List (List Rat)} {m n:Nat} (a:R.length=m) (c:∀r∈R,r.length=n):zqf (G6 R) m n=0:=by
 unfold zqf;rw[if_neg];rintro(h|⟨h,b⟩)
 ·exact h (by unfold G6;rw[B,a])
 ·cases R with
  |nil=>simp at a;omega
  |cons r R=>exact b (by simp[G6,C2,c r (List.mem_cons_self ..)])
theorem yqe:(Tryz.prog.info? 4).map (fun i=>(i.zero,i.size,i.bytes))=some (some (.bool false),1,1):=by kernel_rfl
theorem ysx:ElT Tryz.prog 115 4 (.bool false) 1:=⟨Tryz.underlying115,by obtain⟨i,a,b,c,d⟩:=info_parts yqe;exact⟨i,a,b,c,d⟩,rfl⟩
def zql (N:Nat) (l:List Nat) (k:Nat):List Value:=(List.range N).map fun x=> .bool (decide (x∈l.take k))
theorem zz1458 (N:Nat) (l:List Nat):zql N l 0=List.replicate N (.bool false):=by
 unfold zql;apply List.ext_getElem
 ·simp
 ·intro i a b;simp
theorem yef {N:Nat} {k x:Nat} (a:x<N):(zql N l k)[x]? =some (.bool (decide (x∈l.take k))):=by unfold zql;rw[E,List.getElem?_range a];rfl
theorem zz1457 {N:Nat} {k x:Nat} (g:x<N) (e:l[k]? =some x):(zql N l k).set x (.bool true)=zql N l (k+1):=by
 apply List.ext_getElem?;intro y;have c:∀k,(zql N l k).length=N:=fun k=>(by unfold zql;simp);have f:=zrc e;rw[List.getElem?_set,c];by_cases d:y<N
 ·rw[yef d,yef d,f];by_cases a:x=y
  ·subst a;rw[if_pos rfl,if_pos g];simp
  ·rw[if_neg a];have:decide (y∈l.take k)=decide (y∈l.take k++[x]):=decide_eq_decide.2 ⟨fun h=>List.mem_append_left _ h,fun h=>(List.mem_append.1 h).resolve_right fun h=>a (List.mem_singleton.1 h).symm⟩;rw[this]
 ·have b:∀k,(zql N l k)[y]? =none:=fun k=>List.getElem?_eq_none (by rw[c];omega);rw[b,b];by_cases a:x=y
  ·rw[if_pos a,if_neg og]
  ·rw[if_neg a]
theorem yue (h:l.Nodup) {k x:Nat} (b:l[k]? =some x):x∉l.take k:=by intro g;obtain⟨j,a⟩:=List.getElem?_of_mem g;have f:j<k:=(by have:=(List.getElem?_eq_some_iff.1 a).1;rw[List.length_take] at this;omega);rw[List.getElem?_take,if_pos f] at a;obtain⟨c,i⟩:=List.getElem?_eq_some_iff.1 a;obtain⟨e,m⟩:=List.getElem?_eq_some_iff.1 b;have:=zqj h c e (by rw[d,d,a,b]);omega
theorem ybe {w:World} {b z aH aE ar T U:Option Addr} {m n d A aI aG au ah ae ai af:Nat} {ag:Bool} {bas oth:List Nat} {R:List (List Rat)} {V c:List Rat} {ab:Rat}
 (a3:IsS 1 IsIV w (C3 w) (.slice b m d) (bas.map fun(x:Nat)=>(x:Int))) (bf:IsS 1 IsIV w (C3 w) (.slice z n A) (oth.map fun(x:Nat)=>(x:Int))) (hr:IsM w (C3 w) (.slice aH m aI) (G6 R)) (bg:IsV w (C3 w) (.slice aE m aG) (C2 V)) (hc:IsV w (C3 w) (.slice ar n au) (C2 c)) (hv:IsQ w (C3 w) (.agg #[.bool ag,.slice T ah ae,.slice U ai af]) ab) (a1:Bru w)
 (lb:bas.length=m) (lo:oth.length=n) (Z:R.length=m) (aD:V.length=m) (aC:c.length=n) (aa:∀r∈R,r.length=n) (a8:m<=40) (a9:n<=40) (I:∀x∈bas++oth,x<m+n) (bd:(bas++oth).Nodup) (bn:∀r∈R,∀q∈r,Sz q 1024) (sb:∀q∈V,Sz q 1024) (sc:∀q∈c,Sz q 1024) (bp:Sz ab 1024) (bi:b=none->d=0) (bj:z=none->A=0):
 Calls Tryz.prog 18 #[.agg #[.slice b m d,.slice z n A,.slice aH m aI,.slice aE m aG,.slice ar n au,.bool ag,.slice T ah ae,.slice U ai af]] w fun a w'=>a= .returned (.int .i64 0)/\Below w.heap.size w w':=by
 obtain⟨aL,aQ,ak,aR,aM⟩:=hd5 a3 bf hr bg hc;have aS:Hid (IsR w (C3 w) (.agg #[.bool ag,.slice T ah ae,.slice U ai af]) (C7 ab)):=hv;obtain⟨L,M,aO,aP,al⟩:=hd5 a1 (o lb (o lo (o Z (o aD (o aC aa))))) I bd (o bi bj);have aT:Hid (zlt (G6 R)=0):=yqv (by rw[Z];exact a8) a9 aa bn;have aU:Hid (Z9 (C2 V)=0):=ztv (by rw[aD];exact a8) sb;have aV:Hid (Z9 (C2 c)=0):=ztv (by rw[aC];exact a9) sc;have aW:Hid (Y0 (C7 ab)=0):=yas bp;have aX:Hid (zqf (G6 R) m n=0):=yty Z aa;obtain⟨ac,bK,a4,bm,bU⟩:=J5 w #[.slice b m d,.slice z n A,.slice aH m aI,.slice aE m aG,.slice ar n au,.bool ag,.slice T ah ae,.slice U ai af] 32;obtain⟨d0,h,j,p,s,t,u,v⟩:=K8 bm;have C:=hs8 d0 h j p s t u v;have bX:=zox;have bZ:=T3;have ao:=a4;clear a3 bf hr bg hc hv a1 lb lo Z aD aC aa I bd bn sb sc bp bi bj d0 h j p s t u v bm a4;go_in;obtain⟨d0,h,j,p,s,t,u,v⟩:=C.out ac bel;go_wp2_with fail;clear bK d0 h j p s t u v
 go_region_held3 (SH.mk _ C).s
  (exact C.out _ bel)
  (first
    |(go_at_call 73;(with_reducible refine Calls.mono (yhg (uM _ ak) (uU _ L)) ?_);rw[aT.out];rintro a cj ⟨rfl,bD⟩)
    |(go_at_call 74;(with_reducible refine Calls.mono (zuz (uV _ aR) (uU _ L)) ?_);rw[aU.out];rintro a ck ⟨rfl,bE⟩)
    |(go_at_call 74;(with_reducible refine Calls.mono (zuz (uV _ aM) (uU _ L)) ?_);rw[aV.out];rintro a cl ⟨rfl,bF⟩)
    |(go_at_call 75;(with_reducible refine Calls.mono (yaq (IsR.stb.next aS.out bl) (uU _ L)) ?_);rw[aW.out];rintro a bO ⟨rfl,bG⟩)
    |(go_at_call 72;(with_reducible refine Calls.mono (ytw bO 0 0 0 0 0 rfl) ?_);rintro a ad ⟨rfl,bH⟩))
 have aJ:Hid (Below ac.heap.size ac ad):=bW ac ad;clear bD bE bF bG bH;have O:=aJ.out;obtain⟨d0,h,j,p,s,t,u,v⟩:=C.out ad O;have bM:((m:Int) !=(m:Int))=false:=(by simp);have bN:((n:Int) !=(n:Int))=false:=(by simp);go_wp2_with fail;refine(yhd (uM _ ak) og og).mono ?_;rw[aX.out];rintro a K ⟨rfl,rfl⟩;have bJ:IntKind.i64.wrap ((m:Int)+(n:Int))=((m+n:Nat):Int):=(by rw[IntKind.wrap_i64];omega);go_wp2_with (at_make;refine zz1475 ysx rfl rfl _ _ rfl (m+n) rfl rfl rfl rfl og ?_;intro K Q ay bL;clear d0 h j p s t u v;obtain⟨d0,h,j,p,s,t,u,v⟩:=C.out K (C6 O ay));have Y:=L8 K (.cells #[.slice b m d,.slice z n A] 22);have W:Below w.heap.size w (K.alloc (.cells #[.slice b m d,.slice z n A] 22)):=C6 (C6 (C6 ao O) ay) Y;refine(yrf (heap_alloc_new K (.cells #[.slice b m d,.slice z n A] 22)) ((IsS.stb IsIV.stb).to aL.out (E7 W)) ((IsS.stb IsIV.stb).to aQ.out (E7 W)) (by rw[B,M.out.1]) (by rw[B,M.out.2.1]) al.out.1 al.out.2 og og).mono ?_;rintro a bP ⟨⟨ch,rfl,J⟩,az⟩;have aZ:(bas.map fun(x:Nat)=>(x:Int))++(oth.map fun(x:Nat)=>(x:Int))=(bas++oth).map fun(x:Nat)=>(x:Int):=(List.map_append ..).symm;rw[aZ] at J;obtain⟨l,P⟩:=nm (bas++oth);obtain⟨N,X⟩:=nm (m+n);have aB:l.length=N:=(by rw[P,X,D,M.out.1,M.out.2.1]);have bu:Hid (∀x∈l,x<N):=(by rw[Hid,P,X];exact aO.out);have bv:Hid l.Nodup:=(by rw[Hid,P];exact aP.out);have bt:=f aB;have b5:N<=90:=(by omega);rw[<-P] at J;rw[<-X] at Q⊢;obtain⟨bQ,aY,b0,rfl,av,a0,_⟩:=id J;rw[B,aB] at J av⊢;have bR:N<=aY:=av;have bT:aY<=9223372036854775807:=(by unfold maxLen at a0;omega);have bw:=f J;obtain⟨g,hg⟩:=nm (ad.heap.size);rw[<-hg] at Q⊢;have bB:=f (Row.next (Row.next Q Y) az);have a6:g<(K.alloc (.cells #[.slice b m d,.slice z n A] 22)).heap.size:=(Row.next Q Y).lt;obtain⟨bq,aK⟩:=C5 a6 (C6 W az);have br:Hid (w.heap.size<=g):=(by rw[Hid,hg];exact e ao.size O.size);clear d0 h j p s t u v Q ay bL Y W az aZ P X aB av a0 J hg ao O bJ bM bN a6 C aJ aL aQ ak aR aM aS L M aO aP al aT aU aV aW aX;go_wp2_with fail;go_loopw [68,7] (fun i _ wr=>∃k:Nat,k<=N/\i= .int .i64 (k:Int)/\bP.grownBy wr (some g)/\Row wr g 4 (zql N l k)) (fun i _ _=>N-(intOf i).toNat);case atStart=>exact⟨0,H _,rfl,I7 _ _,by rw[zz1458];exact bB.out⟩
 case round=>
  obtain⟨k,b8,rfl,a7,bh⟩:=hrel;obtain⟨aj,an⟩:=C5 a7 bh;clear a7 bh;rcases F k N with I|b7
  ·obtain⟨x,S⟩:=zlj (l:=l) (j:=k) (by rw[bt.out];exact I);have aA:=bu.out x (G S);have bx:=f S;obtain⟨bV,cg,a,rfl,a2,bI,_,a5⟩:=IsS.get bw.out (Nat.one_pos) (show((l.map fun(x:Nat)=>(x:Int)))[k]? =some (x:Int) by rw[E,S];rfl);obtain rfl:a= .int .i64 (x:Int):=bI;have aq:=a5 0 _ rfl;rw[Nat.mul_one,Nat.add_zero] at aq;have bY:=aj.out.cell aq (fun a=>by injection a with a;have b3:=a2.1;have b4:=bq.out;simp at a;omega);have bC:=(an.out.cell x).trans (yef aA);have b1:=an.out.frozen x;have be:=yue bv.out S;rw[decide_eq_false be] at bC;have aN:=f I;have b9:(0:Int)<=(k:Int):=og;have ca:(k:Int)<(N:Int):=og;have cb:¬((x:Int)<0):=og;have cd:(0:Int)<=(x:Int):=og;have cc:(x:Int)<(N:Int):=og;have cf:¬((x:Int)>=(N:Int)):=og;have bA:=f aA;clear S a5 aq a2 be I aA;go_wp2_with fail;go_roundw;(case rel=>exact⟨k+1,aN.out,by go_num,J7 aj.out (I9 _ _ _ _),by rw[<-zz1457 bA.out bx.out];exact an.out.set_ x _⟩);case measure=>simp[intOf];have:=aN.out;omega
  ·obtain rfl:k=N:=og;go_wp2_with fail;go_ret;exact⟨rfl,aK.out.grown aj.out aK.out.size (fun y a=>by cases a;exact br.out)⟩
theorem zup {z:Int} {d:Nat}:M3 z u d v=(z:Rat)*((d:Int):Rat)⁻¹*((u:Nat):Rat)*((v:Nat):Rat)⁻¹:=by unfold M3;have h:(((d:Nat):Rat)*((v:Nat):Rat))⁻¹=((v:Nat):Rat)⁻¹*((d:Nat):Rat)⁻¹:=Rat.inv_mul_rev _ _;have a:((d:Int):Rat)=((d:Nat):Rat):=rfl;rw[Rat.div_def,h,a];grind
section
variable {sc : Nat → Nat} {top m n : Nat} {t : TB}
theorem ysc (a:i<m):(L6 sc top m n t).D i n=M3 (t.A i n) 1 t.d (sc (t.bas.getD i 0)):=by rw[zup];show(if i<=m/\n<=n then _ else _)=_;rw[if_pos ⟨by omega,b _⟩];unfold uc ur;rw[if_neg (Nat.lt_irrefl _),if_pos a];rfl
theorem ysb (a:j<n):(L6 sc top m n t).D m j=M3 (t.A m j) (sc (t.oth.getD j 0)) t.d top:=by rw[zup];show(if m<=m/\j<=n then _ else _)=_;rw[if_pos ⟨b _,by omega⟩];unfold uc ur;rw[if_pos a,if_neg (Nat.lt_irrefl _)]
theorem ygj (a:i<m) (b:j<n):(L6 sc top m n t).D i j=M3 (t.A i j) (sc (t.oth.getD j 0)) t.d (sc (t.bas.getD i 0)):=by rw[zup];show(if i<=m/\j<=n then _ else _)=_;rw[if_pos ⟨by omega,by omega⟩];unfold uc ur;rw[if_pos b,if_pos a]
theorem ysd:(L6 sc top m n t).D m n=M3 (t.A m n) 1 t.d top:=by rw[zup];show(if m<=m/\n<=n then _ else _)=_;rw[if_pos ⟨b _,b _⟩];unfold uc ur;rw[if_neg (Nat.lt_irrefl _),if_neg (Nat.lt_irrefl _)];rfl
theorem yya {z:Int} {d:Nat}:M3 (-z) u d v= -M3 z u d v:=by rw[zup,zup,Rat.intCast_neg];grind
theorem yku:R3 n 0 (fun _=>0) (fun i=>t.bas.getD i 0) (fun i=>M3 (t.A i n) 1 t.d (sc (t.bas.getD i 0))) m=ztg m n (L6 sc top m n t):=by
 unfold R3 ztg G9;refine List.map_congr_left fun v hv=> ?_;unfold zka;have b:C4 n (fun j=>if(L6 sc top m n t).oth j=v then(0:Rat) else 0)=0:=zlp fun j d=>(by split<;>rfl);rw[b,Nat.zero_add,R4 (f:=fun i=>if t.bas.getD i 0=v then M3 (t.A i n) 1 t.d (sc (t.bas.getD i 0)) else 0) (g:=fun i=>if(L6 sc top m n t).bas i=v then(L6 sc top m n t).D i n*1-C4 n (fun j=>(L6 sc top m n t).D i j*0) else 0) fun i c=> ?_]
 ·grind
 ·have a:C4 n (fun j=>(L6 sc top m n t).D i j*0)=0:=zlp fun j d=>Rat.mul_zero _;rw[a,ysc c];show(if t.bas.getD i 0=v then _ else _)=(if t.bas.getD i 0=v then _ else _);split
  ·grind
  ·rfl
theorem yzt:R3 m n (fun _=>0) (fun j=>t.oth.getD j 0) (fun j=>M3 (t.A m j) (sc (t.oth.getD j 0)) t.d top) n=zwd m n (L6 sc top m n t):=by unfold R3 zwd G9 Z7;refine List.map_congr_left fun v hv=> ?_;rw[R4 (f:=fun j=>if t.oth.getD j 0=n+v then M3 (t.A m j) (sc (t.oth.getD j 0)) t.d top else 0) (g:=fun j=>if(L6 sc top m n t).oth j=n+v then(L6 sc top m n t).D m j else 0) fun j a=>by rw[ysb a];rfl];grind
theorem yzv (hr:r<m):R3 m n (fun v=>if t.bas.getD r 0=n+v then 1 else 0) (fun j=>t.oth.getD j 0) (fun j=>M3 (t.A r j) (sc (t.oth.getD j 0)) t.d (sc (t.bas.getD r 0))) n=zwc m n (L6 sc top m n t) r:=by unfold R3 zwc G9 Z7;refine List.map_congr_left fun v hv=> ?_;rw[R4 (f:=fun j=>if t.oth.getD j 0=n+v then M3 (t.A r j) (sc (t.oth.getD j 0)) t.d (sc (t.bas.getD r 0)) else 0) (g:=fun j=>if(L6 sc top m n t).oth j=n+v then(L6 sc top m n t).D r j else 0) fun j a=>by rw[ygj hr a];rfl];show(if t.bas.getD r 0=n+v then(1:Rat) else 0)+_=_+(if t.bas.getD r 0=n+v then(1:Rat) else 0);exact Rat.add_comm _ _
theorem zz1366 (hc:c<n):R3 n 0 (fun v=>if t.oth.getD c 0=0+v then 1 else 0) (fun i=>t.bas.getD i 0) (fun i=>M3 (-(t.A i c)) (sc (t.oth.getD c 0)) t.d (sc (t.bas.getD i 0))) m=zwk m n (L6 sc top m n t) c:=by
 unfold R3 zwk G9;refine List.map_congr_left fun v hv=> ?_;unfold zka;have d:C4 n (fun j=>if(L6 sc top m n t).oth j=v then(if j=c then(1:Rat) else 0) else 0)=if t.oth.getD c 0=v then 1 else 0:=(by rw[znb hc fun j f a=>by rw[if_neg a];split<;>rfl,if_pos rfl];rfl);rw[d,Nat.zero_add,R4 (f:=fun i=>if t.bas.getD i 0=v then M3 (-(t.A i c)) (sc (t.oth.getD c 0)) t.d (sc (t.bas.getD i 0)) else 0) (g:=fun i=>if(L6 sc top m n t).bas i=v then(L6 sc top m n t).D i n*0-C4 n (fun j=>(L6 sc top m n t).D i j*(if j=c then 1 else 0)) else 0) fun i e=> ?_]
 ·show(if t.oth.getD c 0=0+v then(1:Rat) else 0)+_=_+(if t.oth.getD c 0=v then(1:Rat) else 0);rw[Nat.zero_add];exact Rat.add_comm _ _
 ·have b:C4 n (fun j=>(L6 sc top m n t).D i j*(if j=c then 1 else 0))=(L6 sc top m n t).D i c:=(by rw[znb hc fun j f a=>by rw[if_neg a];exact Rat.mul_zero _,if_pos rfl];exact Rat.mul_one _);rw[b,ygj e hc,yya];show(if t.bas.getD i 0=v then _ else _)=(if t.bas.getD i 0=v then _ else _);split
  ·grind
  ·rfl
end
structure FineP (p:ProgQ) (N M:Nat):Prop where
 good:Good p 1024
 n0:0<N
 m0:0<M
 fA:∀row∈p.A,∀q∈row,q.den∣N/\q.num.natAbs<=M
 fB:∀q∈p.B,q.den∣N/\q.num.natAbs<=M
 fC:∀q∈p.C,q.den∣N/\q.num.natAbs<=M
def zpk (q:Rat):Prop:=Sz q 3/\q.den∣2/\q.num.natAbs<=8
theorem yxb {a:Int} {b:Nat} (ha:a.natAbs<=8) (d:b=1\/b=2):(mkRat a b).den∣2/\(mkRat a b).num.natAbs<=8:=by
 have c:(mkRat a b).den∣b:=by
  have:=Rat.den_mkRat a b;rw[this];split
  ·exact Nat.one_dvd b
  ·exact Nat.div_dvd_of_dvd (Nat.gcd_dvd_left _ _)
 have e:(mkRat a b).num.natAbs<=a.natAbs:=by
  rw[Rat.num_mkRat];split
  ·simp
  ·exact Int.natAbs_ediv_le_natAbs _ _
 refine⟨?_,by omega⟩;rcases d with rfl|rfl
 ·exact Nat.dvd_trans c (by decide)
 ·exact c
theorem yts {p:ProgQ} (h:Good p 1024) (b:∀row∈p.A,∀q∈row,zpk q) (c:∀q∈p.B,zpk q) (d:∀q∈p.C,zpk q):FineP p 2 8:=
 ⟨h,by omega,by omega,fun r hr q a=>(b r hr q a).2,fun q a=>(c q a).2,fun q a=>(d q a).2⟩
theorem yhf {N:Nat}:∀(l:List Rat) (a:Nat),a∣N->(∀q∈l,q.den∣N)->l.foldl (fun a q=>Nat.lcm a q.den) a∣N
 |[],a,c,_=>c
 |q::l,a,c,h=>yhf l _ (Nat.lcm_dvd c (h q (by simp))) fun r hr=>h r (by simp[hr])
theorem ybw {N:Nat} {l:List Rat} (h:∀q∈l,q.den∣N):zks l∣N:=yhf l 1 (Nat.one_dvd N) h
theorem yiy {N M:Nat} {l:List Rat} {x:Rat} (a:0<N) (h:∀q∈l,q.den∣N) (b:x.num.natAbs<=M):(x.num*((zks l/x.den:Nat):Int)).natAbs<=M*N:=by rw[Int.natAbs_mul,Int.natAbs_natCast];exact Nat.mul_le_mul b (e (Nat.div_le_self _ _) (Nat.le_of_dvd a (ybw h)))
def Y6 (m n:Nat):List Nat:=(List.range m).map fun i=>n+i
theorem ztt (m n:Nat):(Y6 m n).length=m:=by unfold Y6;simp
theorem ypt {m n:Nat} (a:i<m):(Y6 m n).getD i 0=n+i:=by unfold Y6;rw[d,E,List.getElem?_range a];rfl
theorem yyg {n:Nat} (a:j<n):(List.range n).getD j 0=j:=by rw[d,List.getElem?_range a];rfl
theorem ywx {l:List Rat} (h:j<l.length):l.getD j 0∈l:=by rw[d,C h];exact List.getElem_mem h
def newP (p:ProgQ):TB:=zmp p.A p.B p.C 0 (Y6 p.B.length p.C.length) (List.range p.C.length) p.B.length p.C.length
def Z5 (p:ProgQ):Nat->Nat:=zna p.A p.B (Y6 p.B.length p.C.length) p.B.length
def zkm (p:ProgQ):Nat:=zkz p.C 0
section
variable {p : ProgQ} {N M : Nat}
theorem yjq (m n:Nat):(Y6 m n++List.range n).Nodup:=zun fun i j b c a=>by
 have e:(List.range n).length=n:=by simp
 rw[D,ztt,e] at b c
 have key:∀k,k<m+n->(Y6 m n++List.range n).getD k 0=if k<m then n+k else k-m:=fun k f=>by
  rw[d,List.getElem?_append,ztt]
  split
  ·rename_i h;rw[<-d];exact ypt h
  ·rename_i h;rw[<-d];exact yyg og
 rw[key i b,key j c] at a
 split at a<;>split at a<;>omega
theorem FineP.row (h:FineP p N M) (a:i<p.B.length):∃r,p.A[i]? =some r/\p.A.getD i []=r/\r∈p.A/\r.length=p.C.length:=by have hr:p.A[i]? =some (p.A.getD i []):=(by rw[d,C (by have:=h.good.rows;omega)];rfl);exact⟨_,hr,rfl,G hr,h.good.cols _ (G hr)⟩
theorem FineP.wide (h:FineP p N M) (b:i<p.B.length):∀q∈p.A.getD i []++[p.B.getD i 0],q.den∣N/\q.num.natAbs<=M:=fun q a=>by
 obtain⟨r,hr,c,d,e⟩:=h.row b
 rw[c] at a
 rcases List.mem_append.1 a with a|a
 ·exact h.fA r d q a
 ·rw[List.mem_singleton] at a
  subst a
  exact h.fB _ (ywx b)
theorem FineP.cost (h:FineP p N M):∀q∈p.C++[0],q.den∣N/\q.num.natAbs<=M:=fun q a=>by
 rcases List.mem_append.1 a with a|a
 ·exact h.fC q a
 ·rw[List.mem_singleton] at a
  subst a
  exact⟨Nat.one_dvd N,H _⟩
theorem FineP.small (h:FineP p N M):∀i j,i<=p.B.length->j<=p.C.length->((newP p).A i j).natAbs<=M*N:=fun i j l b=>by
 have e:∀j,j<=p.C.length->(zmn [p.C++[0]] 0 j).natAbs<=M*N:=fun j b=>by
  have c:j<(p.C++[(0:Rat)]).length:=by simp;omega
  rw[ztc (M:=[p.C++[0]]) (i:=0) rfl (C c)]
  exact yiy h.n0 (fun q d=>(h.cost q d).1) (h.cost _ (List.getElem_mem c)).2
 show(if i<p.B.length then zmn (zvb p.A p.B p.B.length) i j else if j<p.C.length then -(zmn [p.C++[0]] 0 j) else zmn [p.C++[0]] 0 j:Int).natAbs<=_
 split
 ·rename_i a
  obtain⟨r,hr,g,m,c⟩:=h.row a
  have k:=yei (b:=p.B) (n:=p.B.length) (m:=p.C.length) a hr
  have f:j<(r++[p.B.getD i 0]).length:=by simp;omega
  rw[ztc k (C f)]
  have hd:=h.wide a
  rw[g] at hd
  exact yiy h.n0 (fun q d=>(hd q d).1) (hd _ (List.getElem_mem f)).2
 ·split
  ·rw[Int.natAbs_neg];exact e j b
  ·exact e j b
theorem FineP.inv (h:FineP p N M):TInv (M*N) p.B.length p.C.length (newP p):=
 zz1417 rfl (ztt _ _) (by show(List.range _).length=_;simp) (yjq _ _) (fun v hv=>by
  rcases List.mem_append.1 hv with hv|hv
  ·unfold newP zmp Y6 at hv
   obtain⟨i,a,rfl⟩:=List.mem_map.1 hv
   have:=List.mem_range.1 a
   omega
  ·have:v∈List.range p.C.length:=hv
   have:=List.mem_range.1 this
   omega) (Nat.mul_pos h.m0 h.n0) h.small
theorem FineP.ok (h:FineP p N M):OkT (M*N) p.B.length p.C.length (Z5 p) (zkm p) (M0 p.B.length p.C.length (aF p.A) (lF p.B) (lF p.C)) (newP p) where
 inv:=h.inv
 eqv:=yxp h.good.rows rfl h.good.cols rfl rfl rfl
theorem ylx {bas:List Nat} {a:Nat->Nat} {N:Nat} (c:0<N):∀k,(∀i,i<k->a i<=N)->∀v,zon bas a k v<=N
 |0,_,_=>c
 |k+1,h,v=>by
  rw[zon]
  split
  ·exact h k og
  ·exact ylx c k (fun i g=>h i og) v
theorem FineP.sc_le (h:FineP p N M) (v:Nat):Z5 p v<=N:=ylx h.n0 _ (fun i a=>Nat.le_of_dvd h.n0 (ybw fun q b=>(h.wide a q b).1)) v
theorem FineP.top_le (h:FineP p N M):zkm p<=N:=Nat.le_of_dvd h.n0 (ybw fun q a=>(h.cost q a).1)
theorem FineP.sc0 (h:FineP p N M) (v:Nat):0<Z5 p v:=zz1403 _ _ _ _ _
theorem FineP.top0 (h:FineP p N M):0<zkm p:=ynm _ _
theorem FineP.scok (h:FineP p N M) (a:(A9 N).length<=100000):ScOk (Z5 p) (zkm p):=
 ⟨fun v=>e (W9 (h.sc_le v)) a,h.sc0,e (W9 h.top_le) a,h.top0⟩
end
theorem yxc {z:Int} {d k:Nat} (b:z.natAbs<=K) (c:d<=K) (a:(A9 K).length<=k) (g:1<=k):Sz (mkRat z d) k:=by
 by_cases hd:d=0
 ·subst hd;rw[Rat.mkRat_zero];exact⟨by show(A9 0).length<=k;rw[N6];simp,by show(A9 1).length<=k;rw[zkf];exact g⟩
 ·have h:(mkRat z d).num=z/(d.gcd z.natAbs:Int):=(by rw[Rat.num_mkRat,if_neg hd]);have f:(mkRat z d).den=d/d.gcd z.natAbs:=(by rw[Rat.den_mkRat];simp[hd]);refine⟨e (W9 ?_) a,e (W9 ?_) a⟩
  ·rw[h];exact e (Int.natAbs_ediv_le_natAbs _ _) b
  ·rw[f];exact e (Nat.div_le_self _ _) c
theorem yjs {z:Int} {d N k:Nat} (e:z.natAbs<=K) (c:u<=N) (hd:d<=K) (hv:v<=N) (b:(A9 (K*N)).length<=k) (a:1<=k):Sz (M3 z u d v) k:=by rw[yjr];refine yxc ?_ (Nat.mul_le_mul hd hv) b a;unfold sg;have:=Nat.mul_le_mul e c;split<;>omega
theorem yjz {k:Nat} (a:1<=k):Sz (1:Rat) k:=⟨by show(A9 1).length<=k;rw[zkf];exact a,by show(A9 1).length<=k;rw[zkf];exact a⟩
theorem zsm {k:Nat} (a:1<=k):Sz (0:Rat) k:=⟨by show(A9 0).length<=k;rw[N6];simp,by show(A9 1).length<=k;rw[zkf];exact a⟩
theorem zwo {f off k:Nat} {b:Nat->Rat} {key:Nat->Nat} {X:Nat->Rat} (l:∀i j,i<k->j<k->key i=key j->i=j) {q:Rat} (h:q∈R3 f off b key X k):(∃v,q=b v)\/∃i v,i<k/\key i=off+v/\q=b v+X i:=by
 unfold R3 at h;obtain⟨v,hv,rfl⟩:=zpi h;by_cases e:∃i,i<k/\key i=off+v
 ·obtain⟨i,a,d⟩:=e;refine .inr ⟨i,v,a,d,?_⟩;rw[znb a fun j g m=>by rw[if_neg fun c=>m (l j i g a (c.trans d.symm))],if_pos d]
 ·refine .inl ⟨v,?_⟩;rw[zlp fun i a=>by rw[if_neg fun c=>e ⟨i,a,c⟩]];exact Rat.add_zero _
def zqa (p:ProgQ) (k:Nat) (s:Sol):Prop:=
 (∃X a v,s=⟨1,C7 v,C2 X,C2 a,[]⟩/\CertOpt p.A p.B p.C X a v/\Sz v k/\(∀q∈X,Sz q k)/\∀q∈a,Sz q k)\/
 (∃a,s=⟨2,C7 0,[],C2 a,[]⟩/\CertNone p.A p.B p.C a/\∀q∈a,Sz q k)\/
 ∃X b,s=⟨3,C7 0,C2 X,[],C2 b⟩/\CertRay p.A p.B p.C X b/\(∀q∈X,Sz q k)/\∀q∈b,Sz q k
section
variable {p : ProgQ} {N M k : Nat} {t : TB} {a : Dic}
theorem yam {m n:Nat} (h:TInv M m n t):∀i j,i<m->j<m->t.bas.getD i 0=t.bas.getD j 0->i=j:=fun i j c d a=>by
 have b:=h.bl
 exact zqj (List.nodup_append.1 h.dist).1 og og a
theorem yke {m n:Nat} (h:TInv M m n t):∀i j,i<n->j<n->t.oth.getD i 0=t.oth.getD j 0->i=j:=fun i j c d a=>by
 have b:=h.ol
 exact zqj (List.nodup_append.1 h.dist).2.1 og og a
theorem yfb {m n:Nat} (h:TInv M m n t) (b:i<m) (c:j<n):t.bas.getD i 0≠t.oth.getD j 0:=by have a:=h.bl;have d:=h.ol;exact(List.nodup_append.1 h.dist).2.2 _ (zlw og) _ (zlw og)
theorem ycm {m n:Nat} {sc:Nat->Nat} {top:Nat} (hI:TInv M m n t) (g:K=N9 M (m+1)) (l:∀v,sc v<=N) (o:top<=N) (h:0<N) (e:(A9 (K*N)).length<=k) (a:1<=k) {d:Nat} (b:i<=m) (c:j<=n) (f:u<=N) (hd:d<=N):Sz (M3 (t.A i j) u t.d d) k/\Sz (M3 (-(t.A i j)) u t.d d) k:=by subst g;refine⟨yjs (hI.small.2 i j b c) f hI.small.1 hd e a,yjs ?_ f hI.small.1 hd e a⟩;rw[Int.natAbs_neg];exact hI.small.2 i j b c
theorem ypm (h:FineP p N M) (n:(A9 (N9 (M*N) (p.B.length+1)*N)).length<=k) (c:1<=k) (a:OkT (M*N) p.B.length p.C.length (Z5 p) (zkm p) (M0 p.B.length p.C.length (aF p.A) (lF p.B) (lF p.C)) t) (g:∀i,i<p.B.length->0<=t.A i p.C.length) (l:zkw p.B.length p.C.length t=none):
 zqa p k ⟨1,C7 (M3 (t.A p.B.length p.C.length) 1 t.d (zkm p)),C2 (R3 p.C.length 0 (fun _=>0) (fun i=>t.bas.getD i 0) (fun i=>M3 (t.A i p.C.length) 1 t.d (Z5 p (t.bas.getD i 0))) p.B.length),C2 (R3 p.B.length p.C.length (fun _=>0) (fun j=>t.oth.getD j 0) (fun j=>M3 (t.A p.B.length j) (Z5 p (t.oth.getD j 0)) t.d (zkm p)) p.C.length),[]⟩:=by
 have hc:=ytb h.sc0 h.top0 h.good.rows rfl rfl h.good.cols a g l;have f:=fun {i j u d:Nat}=>ycm a.inv rfl h.sc_le h.top_le h.n0 n c (i:=i) (j:=j) (u:=u) (d:=d);rw[<-yku,<-yzt,ysd] at hc;refine .inl ⟨_,_,_,rfl,hc,(f (b _) (b _) h.n0 h.top_le).1,fun q e=> ?_,fun q e=> ?_⟩
 ·rcases zwo (yam a.inv) e with⟨v,rfl⟩|⟨i,v,m,_,rfl⟩
  ·exact zsm c
  ·rw[Rat.zero_add];exact(f og (b _) h.n0 (h.sc_le _)).1
 ·rcases zwo (yke a.inv) e with⟨v,rfl⟩|⟨i,v,m,_,rfl⟩
  ·exact zsm c
  ·rw[Rat.zero_add];exact(f (b _) og (h.sc_le _) h.top_le).1
theorem ypl (h:FineP p N M) (l:(A9 (N9 (M*N) (p.B.length+1)*N)).length<=k) (b:1<=k) (a:OkT (M*N) p.B.length p.C.length (Z5 p) (zkm p) (M0 p.B.length p.C.length (aF p.A) (lF p.B) (lF p.C)) t) (c:zok p.B.length p.C.length t=some r) (f:zpa p.C.length t r=none):
 zqa p k ⟨2,C7 0,[],C2 (R3 p.B.length p.C.length (fun v=>if t.bas.getD r 0=p.C.length+v then 1 else 0) (fun j=>t.oth.getD j 0) (fun j=>M3 (t.A r j) (Z5 p (t.oth.getD j 0)) t.d (Z5 p (t.bas.getD r 0))) p.C.length),[]⟩:=by
 have hc:=yta h.sc0 h.top0 h.good.rows rfl rfl a c f;have hr:=(znl c).1;have n:=fun {i j u d:Nat}=>ycm a.inv rfl h.sc_le h.top_le h.n0 l b (i:=i) (j:=j) (u:=u) (d:=d);rw[<-yzv hr] at hc;refine .inr (.inl ⟨_,rfl,hc,fun q m=> ?_⟩);rcases zwo (yke a.inv) m with⟨v,rfl⟩|⟨i,v,g,hv,rfl⟩
 ·split
  ·exact yjz b
  ·exact zsm b
 ·rw[if_neg fun e=>yfb a.inv hr g (e.trans hv.symm),Rat.zero_add];exact(n og og (h.sc_le _) (h.sc_le _)).1
theorem ypn (h:FineP p N M) (s:(A9 (N9 (M*N) (p.B.length+1)*N)).length<=k) (e:1<=k) (a:OkT (M*N) p.B.length p.C.length (Z5 p) (zkm p) (M0 p.B.length p.C.length (aF p.A) (lF p.B) (lF p.C)) t) (r:∀i,i<p.B.length->0<=t.A i p.C.length) (l:zkw p.B.length p.C.length t=some c) (w:zmo p.B.length p.C.length t c=none):
 zqa p k ⟨3,C7 0,C2 (R3 p.C.length 0 (fun _=>0) (fun i=>t.bas.getD i 0) (fun i=>M3 (t.A i p.C.length) 1 t.d (Z5 p (t.bas.getD i 0))) p.B.length),[],C2 (R3 p.C.length 0 (fun v=>if t.oth.getD c 0=0+v then 1 else 0) (fun i=>t.bas.getD i 0) (fun i=>M3 (-(t.A i c)) (Z5 p (t.oth.getD c 0)) t.d (Z5 p (t.bas.getD i 0))) p.B.length)⟩:=by
 have hc:=ytc h.sc0 h.top0 h.good.rows rfl rfl h.good.cols a r l w;have g:=(znl l).1;have n:=fun {i j u d:Nat}=>ycm a.inv rfl h.sc_le h.top_le h.n0 s e (i:=i) (j:=j) (u:=u) (d:=d);rw[<-yku,<-zz1366 g] at hc;refine .inr (.inr ⟨_,_,rfl,hc,fun q f=> ?_,fun q f=> ?_⟩)
 ·rcases zwo (yam a.inv) f with⟨v,rfl⟩|⟨i,v,m,_,rfl⟩
  ·exact zsm e
  ·rw[Rat.zero_add];exact(n og (b _) h.n0 (h.sc_le _)).1
 ·rcases zwo (yam a.inv) f with⟨v,rfl⟩|⟨i,v,m,hv,rfl⟩
  ·split
   ·exact yjz e
   ·exact zsm e
  ·rw[if_neg fun o=>yfb a.inv m g (hv.trans o.symm),Rat.zero_add];exact(n og og (h.sc_le _) (h.sc_le _)).2
theorem ztp {q:Rat} {k:Nat} (h:Sz q k) (a:k<=1024):zlm q=true:=by unfold zlm;rw[decide_eq_true_eq];exact⟨e h.1 a,e h.2 a⟩
end
end Go.Proofs.YtlhhbccgfkhflaaGreatDoor
