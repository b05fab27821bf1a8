/-
 The walk of the law's own awake.
-/
import Derived.Test.YtdgilbgdkmhcmaaGreatDoorProofSimplexDuals23
namespace Go.Proofs.YtdgilbgdkmhcmaaGreatDoor
open Go.RowKit
set_option linter.unusedVariables false
set_option maxRecDepth 100000
set_option maxHeartbeats 8000000
open _root_.Go.Lib renaming hid → e
open _root_.Option.some renaming inj → b
open _root_.Go.RowKit.Below renaming refl → c
open _root_.Go renaming undef → d
variable {g : Nat} {l : List Nat} {t : TypeId} {v : Value}
theorem zrg {w:World} {a c e d f i h:Value} (b:Row w g t [a,c,e,d,f,i,h]):w.cell? ⟨g,0,none⟩=some a/\w.cell? ⟨g,1,none⟩=some c/\w.cell? ⟨g,2,none⟩=some e/\w.cell? ⟨g,3,none⟩=some d/\w.cell? ⟨g,4,none⟩=some f/\w.cell? ⟨g,5,none⟩=some i/\w.cell? ⟨g,6,none⟩=some h:=
 ⟨b.cell 0,b.cell 1,b.cell 2,b.cell 3,b.cell 4,b.cell 5,b.cell 6⟩
theorem ysc {w:World} {a:Nat->Prop} (h:IsS 1 IsIV w a v (l.map fun(x:Nat)=>(x:Int))):IsIs w a v l:=by obtain⟨A,c,d,rfl,e,f,g,i,b⟩:=h;refine⟨A,c,d,by rw[List.length_map],by simpa using e,f,g,i,by simpa using b.1,fun m x y j k=> ?_⟩;exact b.2 m x (y:Int) j (by rw[List.getElem?_map,k];rfl)
def IsDx (w:World) (a b c d e f:Value):Prop:=
 IsS 1 IsIV w (C2 w) a ([2,3].map fun(x:Nat)=>(x:Int))/\IsS 1 IsIV w (C2 w) b ([0,1].map fun(x:Nat)=>(x:Int))/\IsM w (C2 w) c (E9 exQ.A)/\IsV w (C2 w) d (C0 exQ.B)/\IsV w (C2 w) e (C0 exQ.C)/\IsQ w (C2 w) f 0
theorem IsDx.to {w w':World} {b c d e f g:Value} (h:IsDx w b c d e f g) (a:Below w.heap.size w w'):IsDx w' b c d e f g:=
 ⟨(IsS.stb IsIV.stb).to h.1 (F7 a),(IsS.stb IsIV.stb).to h.2.1 (F7 a),IsM.stb.to h.2.2.1 (F7 a),IsV.stb.to h.2.2.2.1 (F7 a),IsV.stb.to h.2.2.2.2.1 (F7 a),IsQ.stb.to h.2.2.2.2.2 (F7 a)⟩
theorem yzn {w:World} (x:IsP w (C2 w) v (O7 exQ)) (t:Bru w):
 Calls Tryz.prog 41 #[v] w fun s w'=>(∃c e h i l m j k f g p a q n b r o,s= .returned (.tuple #[.agg #[.slice c 2 e,.slice h 2 i,.slice l 2 m,.slice j 2 k,.slice f 2 g,.bool p,.slice a q n,.slice b r o],.int .i64 0])/\IsDx w' (.slice c 2 e) (.slice h 2 i) (.slice l 2 m) (.slice j 2 k) (.slice f 2 g) (.agg #[.bool p,.slice a q n,.slice b r o]))/\Below w.heap.size w w':=by refine(yly x t good_ex4).mono ?_;rintro s w' ⟨⟨d,rfl,c,e,h,i,l,m,j,k,f,g,p,a,q,n,b,r,o,hd,y,z,A,B,C,D⟩,u⟩;injection hd with hd;subst hd;exact⟨⟨c,e,h,i,l,m,j,k,f,g,p,a,q,n,b,r,o,rfl,(IsS.stb IsIV.stb).old y,(IsS.stb IsIV.stb).old z,IsM.stb.old A,IsV.stb.old B,IsV.stb.old C,IsQ.stb.old D⟩,u⟩
theorem yuz {w:World} {e j n l g c d:Option Addr} {f k o m i s p t q:Nat} {r:Bool} (h:IsDx w (.slice e 2 f) (.slice j 2 k) (.slice n 2 o) (.slice l 2 m) (.slice g 2 i) (.agg #[.bool r,.slice c s p,.slice d t q])) (u:Bru w):
 Calls Tryz.prog 39 #[.agg #[.slice e 2 f,.slice j 2 k,.slice n 2 o,.slice l 2 m,.slice g 2 i,.bool r,.slice c s p,.slice d t q]] w fun a w'=>a= .returned (.tuple #[.int .i64 0,.int .i64 0,.int .i64 0,.int .i64 0])/\Below w.heap.size w w':=
 yvb (bas:=[2,3]) (oth:=[0,1]) (R:=exQ.A) (b:=exQ.B) (c:=exQ.C) (vq:=0) (M:=8*2) (r:=0) (c0:=0) h.1 h.2.1 h.2.2.1 h.2.2.2.1 h.2.2.2.2.1 h.2.2.2.2.2 u rfl rfl rfl rfl rfl good_ex4.cols og og (by decide) (by decide) good_ex4.szA good_ex4.szB good_ex4.szC (zpc og)
  (fun a=>by obtain⟨_,_,_,b,_⟩:=IsS.get h.1 (j:=0) og rfl;rw[a] at b;cases b) (fun a=>by obtain⟨_,_,_,b,_⟩:=IsS.get h.2.1 (j:=0) og rfl;rw[a] at b;cases b) (by decide+kernel) fine_ex4.inv yws fac_ex4.2 yqe ytr
theorem yzl {w:World} (z:IsP w (C2 w) v (O7 exQ)) (x:Bru w):
 Calls Tryz.prog 12 #[v] w fun e w'=>(∃k SP f j b g sl c h sa d i sb o F G,e= .returned (.tuple #[.agg #[.int .i64 1,.bool k,.slice SP f j,.slice b g sl,.slice c h sa,.slice d i sb,.slice o F G],.int .i64 0])/\IsR w' (C2 w') (.agg #[.bool k,.slice SP f j,.slice b g sl]) (E7 (zkq 12 1))/\IsV w' (C2 w') (.slice c h sa) (C0 (O8 [4,0]))/\IsV w' (C2 w') (.slice d i sb) (C0 (O8 [3,0])))/\Below w.heap.size w w':=by refine(zye (k:=1) z x fine_ex4 (lim_len_le.2 (Nat.lt_of_lt_of_le (by decide:2<pw 1) (zuz og))) fac_ex4.1 (Nat.le_refl _) og fac_ex4.2).mono ?_;rintro e w' ⟨⟨H,s,rfl,D,ha⟩,y⟩;obtain rfl:=ymo ha;obtain⟨m,E,n,l,A,a,B,p,C,q,rfl,r,t,u,_⟩:=D;exact⟨⟨_,m,_,E,n,_,l,A,_,a,B,_,p,C,_,q,rfl,IsR.stb.old r,IsV.stb.old t,IsV.stb.old u⟩,y⟩
theorem ysd {w:World} {b:Nat} (h:Row w g t (l.map fun(x:Nat)=>Value.int .i64 (x:Int))) (f:b=l.length) (e:l.length<=1000):IsIs w (C2 w) (.slice (some ⟨g,0,none⟩) b b) l:=by
 subst f;refine⟨some ⟨g,0,none⟩,l.length,l.map fun(x:Nat)=>Value.int .i64 (x:Int),rfl,Nat.le_refl _,by unfold maxLen;omega,fun j=>⟨g,0,rfl,h.lt,fun d v hv=> ?_⟩,?_,?_⟩
 ·have hc:cellsOf (l.map fun(x:Nat)=>Value.int .i64 (x:Int))=l.map fun(x:Nat)=>Value.int .i64 (x:Int):=by
   clear h hv e j;induction l with
   |nil=>rfl
   |cons a l ih=>rw[List.map_cons,cellsOf,List.flatMap_cons,<-cellsOf,ih];rfl
  rw[hc] at hv;rw[Nat.zero_add,h.cell d];exact hv
 ·intro v hv;obtain⟨x,_,rfl⟩:=List.mem_map.1 hv;rfl
 ·refine⟨by simp,fun d x y c i=> ?_⟩;rw[List.getElem?_map,i] at c;cases c;rfl
theorem yvl {l:List Value} (h:l.length=79):∃a:Nat->Value,l=[a 0,a 1,a 2,a 3,a 4,a 5,a 6,a 7,a 8,a 9,a 10,a 11,a 12,a 13,a 14,a 15,a 16,a 17,a 18,a 19,a 20,a 21,a 22,a 23,a 24,a 25,a 26,a 27,a 28,a 29,a 30,a 31,a 32,a 33,a 34,a 35,a 36,a 37,a 38,a 39,a 40,a 41,a 42,a 43,a 44,a 45,a 46,a 47,a 48,a 49,a 50,a 51,a 52,a 53,a 54,a 55,a 56,a 57,a 58,a 59,a 60,a 61,a 62,a 63,a 64,a 65,a 66,a 67,a 68,a 69,a 70,a 71,a 72,a 73,a 74,a 75,a 76,a 77,a 78]:=by
 refine⟨fun b=>l.getD b d,?_⟩
 have c:l=(List.range 79).map (fun b=>l.getD b d):=by
  apply List.ext_getElem
  ·simp[h]
  ·intro b e f;simp[List.getD_eq_getElem?_getD,List.getElem?_eq_getElem e]
 exact c.trans rfl
def Aw4 (f a:Nat) (h:Nat) (v:Value) (w:World):Prop:=
 match h with
 |0=>v= .int .i64 0
 |1=>v= .bool true
 |2=>v= .bool true
 |3=>true=true->v= .pointer (some ⟨f,0,none⟩)
 |4=>true=true->IsIs w (C2 w) v [2,3]
 |5=>true=true->∃g,v= .slice (some ⟨g,0,none⟩) 2 2/\Row w g 3 [.int .i64 2,.int .i64 3]
 |6=>true=true->v= .bool true
 |7=>v= .bool true
 |8=>v= .bool true
 |9=>true=true->v= .int .i64 0
 |10=>true=true->v= .bool true
 |11=>v= .bool true
 |12=>v= .bool true
 |13=>true=true->v= .int .i64 0
 |14=>true=true->v= .bool true
 |15=>v= .bool true
 |16=>v= .bool true
 |17=>true=true->v= .int .i64 0
 |18=>true=true->v= .bool true
 |19=>v= .bool true
 |20=>v= .bool true
 |21=>true=true->v= .int .i64 0
 |22=>true=true->v= .bool true
 |23=>v= .bool true
 |24=>v= .bool true
 |25=>true=true->v= .int .i64 0
 |26=>true=true->v= .bool true
 |27=>v= .bool true
 |28=>v= .bool true
 |29=>true=true->v= .pointer (some ⟨a,0,none⟩)
 |30=>true=true->v= .int .i64 1
 |31=>true=true->v= .bool true
 |32=>v= .bool true
 |33=>v= .bool true
 |34=>true=true->v= .pointer (some ⟨a,4,none⟩)
 |35=>true=true->IsV w (C2 w) v (C0 (O8 [4,0]))
 |36=>true=true->∃g,v= .slice (some ⟨g,0,none⟩) 2 2/\Row w g 3 [.int .i64 4,.int .i64 0]
 |37=>true=true->IsV w (C2 w) v (C0 (O8 [4,0]))
 |38=>true=true->v= .bool true
 |39=>v= .bool true
 |40=>v= .bool true
 |41=>true=true->v= .pointer (some ⟨a,5,none⟩)
 |42=>true=true->IsV w (C2 w) v (C0 (O8 [3,0]))
 |43=>true=true->∃g,v= .slice (some ⟨g,0,none⟩) 2 2/\Row w g 3 [.int .i64 3,.int .i64 0]
 |44=>true=true->IsV w (C2 w) v (C0 (O8 [3,0]))
 |45=>true=true->v= .bool true
 |46=>v= .bool true
 |47=>v= .bool true
 |48=>true=true->v= .pointer (some ⟨a,1,none⟩)
 |49=>true=true->IsR w (C2 w) v (E7 (zkq 12 1))
 |50=>true=true->IsQ w (C2 w) v (zkq 12 1)
 |51=>true=true->v= .bool true
 |52=>v= .bool true
 |53=>v= .bool true
 |_=>True
theorem ymt (k l:Nat):∀(j:Nat) (v:Value) (w w':World),Aw4 k l j v w->Below w.heap.size w w'->Aw4 k l j v w':=fun j v w w' h a=>match j,h with
 |0,h=>h
 |1,h=>h
 |2,h=>h
 |3,h=>h
 |4,h=>fun hc=>IsIs.stb.next (h hc) a
 |5,h=>fun hc=>by obtain⟨g,f,i⟩:=(h hc);exact⟨g,f,i.next a⟩
 |6,h=>h
 |7,h=>h
 |8,h=>h
 |9,h=>h
 |10,h=>h
 |11,h=>h
 |12,h=>h
 |13,h=>h
 |14,h=>h
 |15,h=>h
 |16,h=>h
 |17,h=>h
 |18,h=>h
 |19,h=>h
 |20,h=>h
 |21,h=>h
 |22,h=>h
 |23,h=>h
 |24,h=>h
 |25,h=>h
 |26,h=>h
 |27,h=>h
 |28,h=>h
 |29,h=>h
 |30,h=>h
 |31,h=>h
 |32,h=>h
 |33,h=>h
 |34,h=>h
 |35,h=>fun hc=>IsV.stb.next (h hc) a
 |36,h=>fun hc=>by obtain⟨g,f,i⟩:=(h hc);exact⟨g,f,i.next a⟩
 |37,h=>fun hc=>IsV.stb.next (h hc) a
 |38,h=>h
 |39,h=>h
 |40,h=>h
 |41,h=>h
 |42,h=>fun hc=>IsV.stb.next (h hc) a
 |43,h=>fun hc=>by obtain⟨g,f,i⟩:=(h hc);exact⟨g,f,i.next a⟩
 |44,h=>fun hc=>IsV.stb.next (h hc) a
 |45,h=>h
 |46,h=>h
 |47,h=>h
 |48,h=>h
 |49,h=>fun hc=>IsR.stb.next (h hc) a
 |50,h=>fun hc=>IsQ.stb.next (h hc) a
 |51,h=>h
 |52,h=>h
 |53,h=>h
 |_+54,_=>trivial
theorem zvu {w:World} (bQ:Bru w):Calls Tryz.prog 23 #[] w fun aG w'=>aG= .returned (.bool true)/\Below w.heap.size w w':=by
 have a2:=e bQ;have cG:=zqc;have cI:=zvm;have cH:=R4;clear bQ;go_in;go_wp2_with fail;refine(yez _).mono ?_;rintro aG dW ⟨⟨dB,rfl,h⟩,aE⟩;obtain⟨aI,aP⟩:=C4 aE h;clear h aE;go_wp2_with fail;refine(yzn aP.out (Bru.next a2.out aI.out)).mono ?_;rintro aG aO ⟨⟨bh,bi,cq,cr,cx,cy,cs,ct,b8,b9,cC,b5,cD,cA,b7,cE,cB,rfl,h⟩,aE⟩;replace aI:=nB aI aE;obtain⟨dX,ck,a9,r3,_⟩:=K7 aO #[.slice bh 2 bi,.slice cq 2 cr,.slice cx 2 cy,.slice cs 2 ct,.slice b8 2 b9,.bool cC,.slice b5 cD cA,.slice b7 cE cB] 59;replace aI:=nB aI a9;obtain⟨aL,aM⟩:=C4 (h.to a9) r3;clear h aE a9 aP r3;obtain⟨d0,ca,cb,cc,cd,cf,cg,ch⟩:=Z0 aM.out;go_wp2_with fail;clear ck d0 ca cb cc cd cf cg ch;refine(yuz aL.out (Bru.next a2.out aI.out)).mono ?_;rintro aG dY ⟨rfl,aE⟩;replace aI:=nB aI aE;replace aL:=e (aL.out.to aE);replace aM:=e (aM.out.next aE);clear aE;go_wp2_with fail;refine(yez _).mono ?_;rintro aG dZ ⟨⟨dI,rfl,h⟩,aE⟩;replace aI:=nB aI aE;replace aL:=e (aL.out.to aE);replace aM:=e (aM.out.next aE);have aP:=e h;clear h aE;go_wp2_with fail;refine(yzl aP.out (Bru.next a2.out aI.out)).mono ?_;rintro aG aJ ⟨⟨b0,SP,bT,bZ,be,bU,sl,bf,bV,sa,bg,bX,sb,b1,cn,cz,rfl,bN,bO,bP⟩,aE⟩;replace aI:=nB aI aE;replace aL:=e (aL.out.to aE);replace aM:=e (aM.out.next aE);obtain⟨ec,cl,aN,bY,_⟩:=K7 aJ #[.int .i64 1,.bool b0,.slice SP bT bZ,.slice be bU sl,.slice bf bV sa,.slice bg bX sb,.slice b1 cn cz] 39;replace aI:=nB aI aN;replace aL:=e (aL.out.to aN);replace aM:=e (aM.out.next aN);obtain⟨b3,SV,b4,aS⟩:=X6 (IsR.stb.next bN aN) (IsV.stb.next bO aN) (IsV.stb.next bP aN) bY;clear bN bO bP aE aN aP bY;go_wp2_with fail;clear cl;refine zoj fun ops m=> ?_;have E:=C7 (j:=0) m rfl;have F:=C7 (j:=1) m rfl;have s:=C7 (j:=2) m rfl;have V:=C7 (j:=3) m rfl;have ag:=C7 (j:=4) m rfl;have ar:=C7 (j:=5) m rfl;have aA:=C7 (j:=6) m rfl;have aB:=C7 (j:=7) m rfl;have D:=C7 (j:=8) m rfl;have aC:=C7 (j:=9) m rfl;have G:=C7 (j:=10) m rfl;have H:=C7 (j:=11) m rfl;have z:=C7 (j:=12) m rfl;have I:=C7 (j:=13) m rfl;have J:=C7 (j:=14) m rfl;have K:=C7 (j:=15) m rfl;have A:=C7 (j:=16) m rfl;have L:=C7 (j:=17) m rfl;have M:=C7 (j:=18) m rfl;have N:=C7 (j:=19) m rfl;have B:=C7 (j:=20) m rfl;have O:=C7 (j:=21) m rfl;have P:=C7 (j:=22) m rfl;have Q:=C7 (j:=23) m rfl;have C:=C7 (j:=24) m rfl;have R:=C7 (j:=25) m rfl;have S:=C7 (j:=26) m rfl;have T:=C7 (j:=27) m rfl;have x:=C7 (j:=28) m rfl;have U:=C7 (j:=29) m rfl;have W:=C7 (j:=30) m rfl;have X:=C7 (j:=31) m rfl;have Y:=C7 (j:=32) m rfl;have p:=C7 (j:=33) m rfl;have Z:=C7 (j:=34) m rfl;have aa:=C7 (j:=35) m rfl;have ac:=C7 (j:=36) m rfl;have ad:=C7 (j:=37) m rfl;have ae:=C7 (j:=38) m rfl;have af:=C7 (j:=39) m rfl;have q:=C7 (j:=40) m rfl;have ah:=C7 (j:=41) m rfl;have ai:=C7 (j:=42) m rfl;have aj:=C7 (j:=43) m rfl;have ak:=C7 (j:=44) m rfl;have al:=C7 (j:=45) m rfl;have an:=C7 (j:=46) m rfl;have u:=C7 (j:=47) m rfl;have ao:=C7 (j:=48) m rfl;have aq:=C7 (j:=49) m rfl;have au:=C7 (j:=50) m rfl;have av:=C7 (j:=51) m rfl;have ay:=C7 (j:=52) m rfl;have az:=C7 (j:=53) m rfl;have r:=fun t h=>zyd m t h;refine zz1389 (Aw4 aO.heap.size aJ.heap.size) kr (ymt aO.heap.size aJ.heap.size) (by rw[m];kernel_rfl) ?step ?fin
 case step=>
  intro cm dA k a aH y bd aK o i;obtain⟨j,a3⟩:=a;replace y:j.size=79:=y;obtain rfl:a3=[]:=bd;match cm,k with
  |0,k=>obtain rfl:=b (E.symm.trans k);have cK:j[2]? =some (.int .i64 0):=o 2 (r 2 kr);refine F9 rfl ?_;clear i o y m r E F s V ag ar aA aB D aC G H z I J K A L M N B O P Q C R S T x U W X Y p Z aa ac ad ae af q ah ai aj ak al an u ao aq au av ay az;refine J8 fun aD n=> ?_;go_simp;exact n (.int .i64 0) _ (c _ _) (rfl)
  |1,k=>obtain rfl:=b (F.symm.trans k);have cL:j[26]? =some (.int .i64 0):=I8 og (i 0 _ 26 (C6 kr) E rfl);refine F9 rfl ?_;clear i o y m r E F s V ag ar aA aB D aC G H z I J K A L M N B O P Q C R S T x U W X Y p Z aa ac ad ae af q ah ai aj ak al an u ao aq au av ay az;refine J8 fun aD n=> ?_;go_simp;exact n (.bool true) _ (c _ _) (rfl)
  |2,k=>obtain rfl:=b (s.symm.trans k);have cM:j[27]? =some (.bool true):=I8 og (i 1 _ 27 (C6 kr) F rfl);refine F9 rfl ?_;clear i o y m r E F s V ag ar aA aB D aC G H z I J K A L M N B O P Q C R S T x U W X Y p Z aa ac ad ae af q ah ai aj ak al an u ao aq au av ay az;refine J8 fun aD n=> ?_;go_simp;exact n (.bool true) _ (c _ _) (rfl)
  |3,k=>obtain rfl:=b (V.symm.trans k);have cJ:j[1]? =some (.pointer (some ⟨aO.heap.size,0,none⟩)):=o 1 (r 1 kr);refine R9 (T:=j) (j:=2) rfl s rfl (i 2 _ 28 (C6 kr) s rfl) og (fun f a0=> ?_) (fun f h=>by first|exact absurd f (by decide)|(rw[f] at h;cases h));clear i o y m r E F s V ag ar aA aB D aC G H z I J K A L M N B O P Q C R S T x U W X Y p Z aa ac ad ae af q ah ai aj ak al an u ao aq au av ay az;refine J8 fun aD n=> ?_;go_simp;exact n (.pointer (some ⟨aO.heap.size,0,none⟩)) _ (c _ _) (fun _=>rfl)
  |4,k=>obtain rfl:=b (ag.symm.trans k);refine R9 (T:=j) (j:=2) rfl s rfl (i 2 _ 28 (C6 kr) s rfl) og (fun f a0=> ?_) (fun f h=>by first|exact absurd f (by decide)|(rw[f] at h;cases h));have cN:j[29]? =some (.pointer (some ⟨aO.heap.size,0,none⟩)):=I8 og (i 3 _ 29 (C6 kr) V rfl f);clear i o y m r E F s V ag ar aA aB D aC G H z I J K A L M N B O P Q C R S T x U W X Y p Z aa ac ad ae af q ah ai aj ak al an u ao aq au av ay az;obtain⟨aT,aU,aV,aW,aX,aY,aZ,cF⟩:=Z0 (aM.out.next aK);refine J8 fun aD n=> ?_;go_simp;exact n (.slice bh 2 bi) _ (c _ _) (fun _=>ysc (IsDx.to aL.out aK).1)
  |5,k=>obtain rfl:=b (ar.symm.trans k);refine R9 (T:=j) (j:=2) rfl s rfl (i 2 _ 28 (C6 kr) s rfl) og (fun f a0=> ?_) (fun f h=>by first|exact absurd f (by decide)|(rw[f] at h;cases h));clear i o y m r E F s V ag ar aA aB D aC G H z I J K A L M N B O P Q C R S T x U W X Y p Z aa ac ad ae af q ah ai aj ak al an u ao aq au av ay az;refine J8 fun aD n=> ?_;go_simp;exact n (.slice (some ⟨aH.heap.size,0,none⟩) 2 2) _ (O0 _ _) (fun _=>⟨_,rfl,heap_alloc_new _ _⟩)
  |6,k=>obtain rfl:=b (aA.symm.trans k);refine R9 (T:=j) (j:=2) rfl s rfl (i 2 _ 28 (C6 kr) s rfl) og (fun f a0=> ?_) (fun f h=>by first|exact absurd f (by decide)|(rw[f] at h;cases h));have d30:IsIs aH (C2 aH) (j.getD 30 d) [2,3]:=i 4 _ 30 (C6 kr) ag rfl f;obtain⟨v30,cP,bu⟩:=L7 (T:=j) (t:=30) og;rw[bu] at d30;clear bu;have d31:∃g,(j.getD 31 d)= .slice (some ⟨g,0,none⟩) 2 2/\Row aH g 3 [.int .i64 2,.int .i64 3]:=i 5 _ 31 (C6 kr) ar rfl f;obtain⟨dC,cQ,a6⟩:=L7 (T:=j) (t:=31) og;rw[a6] at d31;clear a6;clear i o y m r E F s V ag ar aA aB D aC G H z I J K A L M N B O P Q C R S T x U W X Y p Z aa ac ad ae af q ah ai aj ak al an u ao aq au av ay az;obtain⟨a6,rfl,cu⟩:=d31;refine J8 fun aD n=> ?_;go_simp;refine(ymd d30 (ysd (l:=[2,3]) cu rfl (by decide))).mono ?_;rw[decide_eq_true rfl];rintro aG w' ⟨rfl,aE⟩;exact n _ w' aE (fun _=>rfl)
  |7,k=>
   obtain rfl:=b (aB.symm.trans k);have a0:j[28]? =some (.bool true):=I8 og (i 2 _ 28 (C6 kr) s rfl);have d32:true=true->(j.getD 32 d)= .bool true:=i 6 _ 32 (C6 kr) aA rfl;refine F9 rfl ?_;obtain⟨dD,cR,bv⟩:=L7 (T:=j) (t:=32) og;rw[bv] at d32;clear bv;have f:true=true:=rfl
   ·have aG:=d32 f;subst aG;clear d32;clear i o y m r E F s V ag ar aA aB D aC G H z I J K A L M N B O P Q C R S T x U W X Y p Z aa ac ad ae af q ah ai aj ak al an u ao aq au av ay az;refine J8 fun aD n=> ?_;go_simp;exact n (.bool true) _ (c _ _) rfl
  |8,k=>obtain rfl:=b (D.symm.trans k);have cS:j[33]? =some (.bool true):=I8 og (i 7 _ 33 (C6 kr) aB rfl);refine F9 rfl ?_;clear i o y m r E F s V ag ar aA aB D aC G H z I J K A L M N B O P Q C R S T x U W X Y p Z aa ac ad ae af q ah ai aj ak al an u ao aq au av ay az;refine J8 fun aD n=> ?_;go_simp;exact n (.bool true) _ (c _ _) (rfl)
  |9,k=>obtain rfl:=b (aC.symm.trans k);have cO:j[3]? =some (.int .i64 0):=o 3 (r 3 kr);refine R9 (T:=j) (j:=8) rfl D rfl (i 8 _ 34 (C6 kr) D rfl) og (fun f bm=> ?_) (fun f h=>by first|exact absurd f (by decide)|(rw[f] at h;cases h));clear i o y m r E F s V ag ar aA aB D aC G H z I J K A L M N B O P Q C R S T x U W X Y p Z aa ac ad ae af q ah ai aj ak al an u ao aq au av ay az;refine J8 fun aD n=> ?_;go_simp;exact n (.int .i64 0) _ (c _ _) (fun _=>rfl)
  |10,k=>obtain rfl:=b (G.symm.trans k);refine R9 (T:=j) (j:=8) rfl D rfl (i 8 _ 34 (C6 kr) D rfl) og (fun f bm=> ?_) (fun f h=>by first|exact absurd f (by decide)|(rw[f] at h;cases h));have cT:j[35]? =some (.int .i64 0):=I8 og (i 9 _ 35 (C6 kr) aC rfl f);clear i o y m r E F s V ag ar aA aB D aC G H z I J K A L M N B O P Q C R S T x U W X Y p Z aa ac ad ae af q ah ai aj ak al an u ao aq au av ay az;refine J8 fun aD n=> ?_;go_simp;exact n (.bool true) _ (c _ _) (fun _=>rfl)
  |11,k=>
   obtain rfl:=b (H.symm.trans k);have bm:j[34]? =some (.bool true):=I8 og (i 8 _ 34 (C6 kr) D rfl);have d36:true=true->(j.getD 36 d)= .bool true:=i 10 _ 36 (C6 kr) G rfl;refine F9 rfl ?_;obtain⟨dE,cU,bw⟩:=L7 (T:=j) (t:=36) og;rw[bw] at d36;clear bw;have f:true=true:=rfl
   ·have aG:=d36 f;subst aG;clear d36;clear i o y m r E F s V ag ar aA aB D aC G H z I J K A L M N B O P Q C R S T x U W X Y p Z aa ac ad ae af q ah ai aj ak al an u ao aq au av ay az;refine J8 fun aD n=> ?_;go_simp;exact n (.bool true) _ (c _ _) rfl
  |12,k=>obtain rfl:=b (z.symm.trans k);have cV:j[37]? =some (.bool true):=I8 og (i 11 _ 37 (C6 kr) H rfl);refine F9 rfl ?_;clear i o y m r E F s V ag ar aA aB D aC G H z I J K A L M N B O P Q C R S T x U W X Y p Z aa ac ad ae af q ah ai aj ak al an u ao aq au av ay az;refine J8 fun aD n=> ?_;go_simp;exact n (.bool true) _ (c _ _) (rfl)
  |13,k=>obtain rfl:=b (I.symm.trans k);have cX:j[4]? =some (.int .i64 0):=o 4 (r 4 kr);refine R9 (T:=j) (j:=12) rfl z rfl (i 12 _ 38 (C6 kr) z rfl) og (fun f bp=> ?_) (fun f h=>by first|exact absurd f (by decide)|(rw[f] at h;cases h));clear i o y m r E F s V ag ar aA aB D aC G H z I J K A L M N B O P Q C R S T x U W X Y p Z aa ac ad ae af q ah ai aj ak al an u ao aq au av ay az;refine J8 fun aD n=> ?_;go_simp;exact n (.int .i64 0) _ (c _ _) (fun _=>rfl)
  |14,k=>obtain rfl:=b (J.symm.trans k);refine R9 (T:=j) (j:=12) rfl z rfl (i 12 _ 38 (C6 kr) z rfl) og (fun f bp=> ?_) (fun f h=>by first|exact absurd f (by decide)|(rw[f] at h;cases h));have cW:j[39]? =some (.int .i64 0):=I8 og (i 13 _ 39 (C6 kr) I rfl f);clear i o y m r E F s V ag ar aA aB D aC G H z I J K A L M N B O P Q C R S T x U W X Y p Z aa ac ad ae af q ah ai aj ak al an u ao aq au av ay az;refine J8 fun aD n=> ?_;go_simp;exact n (.bool true) _ (c _ _) (fun _=>rfl)
  |15,k=>
   obtain rfl:=b (K.symm.trans k);have bp:j[38]? =some (.bool true):=I8 og (i 12 _ 38 (C6 kr) z rfl);have d40:true=true->(j.getD 40 d)= .bool true:=i 14 _ 40 (C6 kr) J rfl;refine F9 rfl ?_;obtain⟨dF,cY,bx⟩:=L7 (T:=j) (t:=40) og;rw[bx] at d40;clear bx;have f:true=true:=rfl
   ·have aG:=d40 f;subst aG;clear d40;clear i o y m r E F s V ag ar aA aB D aC G H z I J K A L M N B O P Q C R S T x U W X Y p Z aa ac ad ae af q ah ai aj ak al an u ao aq au av ay az;refine J8 fun aD n=> ?_;go_simp;exact n (.bool true) _ (c _ _) rfl
  |16,k=>obtain rfl:=b (A.symm.trans k);have cZ:j[41]? =some (.bool true):=I8 og (i 15 _ 41 (C6 kr) K rfl);refine F9 rfl ?_;clear i o y m r E F s V ag ar aA aB D aC G H z I J K A L M N B O P Q C R S T x U W X Y p Z aa ac ad ae af q ah ai aj ak al an u ao aq au av ay az;refine J8 fun aD n=> ?_;go_simp;exact n (.bool true) _ (c _ _) (rfl)
  |17,k=>obtain rfl:=b (L.symm.trans k);have c6:j[5]? =some (.int .i64 0):=o 5 (r 5 kr);refine R9 (T:=j) (j:=16) rfl A rfl (i 16 _ 42 (C6 kr) A rfl) og (fun f bq=> ?_) (fun f h=>by first|exact absurd f (by decide)|(rw[f] at h;cases h));clear i o y m r E F s V ag ar aA aB D aC G H z I J K A L M N B O P Q C R S T x U W X Y p Z aa ac ad ae af q ah ai aj ak al an u ao aq au av ay az;refine J8 fun aD n=> ?_;go_simp;exact n (.int .i64 0) _ (c _ _) (fun _=>rfl)
  |18,k=>obtain rfl:=b (M.symm.trans k);refine R9 (T:=j) (j:=16) rfl A rfl (i 16 _ 42 (C6 kr) A rfl) og (fun f bq=> ?_) (fun f h=>by first|exact absurd f (by decide)|(rw[f] at h;cases h));have c0:j[43]? =some (.int .i64 0):=I8 og (i 17 _ 43 (C6 kr) L rfl f);clear i o y m r E F s V ag ar aA aB D aC G H z I J K A L M N B O P Q C R S T x U W X Y p Z aa ac ad ae af q ah ai aj ak al an u ao aq au av ay az;refine J8 fun aD n=> ?_;go_simp;exact n (.bool true) _ (c _ _) (fun _=>rfl)
  |19,k=>
   obtain rfl:=b (N.symm.trans k);have bq:j[42]? =some (.bool true):=I8 og (i 16 _ 42 (C6 kr) A rfl);have d44:true=true->(j.getD 44 d)= .bool true:=i 18 _ 44 (C6 kr) M rfl;refine F9 rfl ?_;obtain⟨dG,c1,bA⟩:=L7 (T:=j) (t:=44) og;rw[bA] at d44;clear bA;have f:true=true:=rfl
   ·have aG:=d44 f;subst aG;clear d44;clear i o y m r E F s V ag ar aA aB D aC G H z I J K A L M N B O P Q C R S T x U W X Y p Z aa ac ad ae af q ah ai aj ak al an u ao aq au av ay az;refine J8 fun aD n=> ?_;go_simp;exact n (.bool true) _ (c _ _) rfl
  |20,k=>obtain rfl:=b (B.symm.trans k);have c2:j[45]? =some (.bool true):=I8 og (i 19 _ 45 (C6 kr) N rfl);refine F9 rfl ?_;clear i o y m r E F s V ag ar aA aB D aC G H z I J K A L M N B O P Q C R S T x U W X Y p Z aa ac ad ae af q ah ai aj ak al an u ao aq au av ay az;refine J8 fun aD n=> ?_;go_simp;exact n (.bool true) _ (c _ _) (rfl)
  |21,k=>obtain rfl:=b (O.symm.trans k);have de:j[6]? =some (.int .i64 0):=o 6 (r 6 kr);refine R9 (T:=j) (j:=20) rfl B rfl (i 20 _ 46 (C6 kr) B rfl) og (fun f br=> ?_) (fun f h=>by first|exact absurd f (by decide)|(rw[f] at h;cases h));clear i o y m r E F s V ag ar aA aB D aC G H z I J K A L M N B O P Q C R S T x U W X Y p Z aa ac ad ae af q ah ai aj ak al an u ao aq au av ay az;refine J8 fun aD n=> ?_;go_simp;exact n (.int .i64 0) _ (c _ _) (fun _=>rfl)
  |22,k=>obtain rfl:=b (P.symm.trans k);refine R9 (T:=j) (j:=20) rfl B rfl (i 20 _ 46 (C6 kr) B rfl) og (fun f br=> ?_) (fun f h=>by first|exact absurd f (by decide)|(rw[f] at h;cases h));have c3:j[47]? =some (.int .i64 0):=I8 og (i 21 _ 47 (C6 kr) O rfl f);clear i o y m r E F s V ag ar aA aB D aC G H z I J K A L M N B O P Q C R S T x U W X Y p Z aa ac ad ae af q ah ai aj ak al an u ao aq au av ay az;refine J8 fun aD n=> ?_;go_simp;exact n (.bool true) _ (c _ _) (fun _=>rfl)
  |23,k=>
   obtain rfl:=b (Q.symm.trans k);have br:j[46]? =some (.bool true):=I8 og (i 20 _ 46 (C6 kr) B rfl);have d48:true=true->(j.getD 48 d)= .bool true:=i 22 _ 48 (C6 kr) P rfl;refine F9 rfl ?_;obtain⟨dH,c4,bB⟩:=L7 (T:=j) (t:=48) og;rw[bB] at d48;clear bB;have f:true=true:=rfl
   ·have aG:=d48 f;subst aG;clear d48;clear i o y m r E F s V ag ar aA aB D aC G H z I J K A L M N B O P Q C R S T x U W X Y p Z aa ac ad ae af q ah ai aj ak al an u ao aq au av ay az;refine J8 fun aD n=> ?_;go_simp;exact n (.bool true) _ (c _ _) rfl
  |24,k=>obtain rfl:=b (C.symm.trans k);have c5:j[49]? =some (.bool true):=I8 og (i 23 _ 49 (C6 kr) Q rfl);refine F9 rfl ?_;clear i o y m r E F s V ag ar aA aB D aC G H z I J K A L M N B O P Q C R S T x U W X Y p Z aa ac ad ae af q ah ai aj ak al an u ao aq au av ay az;refine J8 fun aD n=> ?_;go_simp;exact n (.bool true) _ (c _ _) (rfl)
  |25,k=>obtain rfl:=b (R.symm.trans k);have dz:j[8]? =some (.int .i64 0):=o 8 (r 8 kr);refine R9 (T:=j) (j:=24) rfl C rfl (i 24 _ 50 (C6 kr) C rfl) og (fun f bt=> ?_) (fun f h=>by first|exact absurd f (by decide)|(rw[f] at h;cases h));clear i o y m r E F s V ag ar aA aB D aC G H z I J K A L M N B O P Q C R S T x U W X Y p Z aa ac ad ae af q ah ai aj ak al an u ao aq au av ay az;refine J8 fun aD n=> ?_;go_simp;exact n (.int .i64 0) _ (c _ _) (fun _=>rfl)
  |26,k=>obtain rfl:=b (S.symm.trans k);refine R9 (T:=j) (j:=24) rfl C rfl (i 24 _ 50 (C6 kr) C rfl) og (fun f bt=> ?_) (fun f h=>by first|exact absurd f (by decide)|(rw[f] at h;cases h));have c7:j[51]? =some (.int .i64 0):=I8 og (i 25 _ 51 (C6 kr) R rfl f);clear i o y m r E F s V ag ar aA aB D aC G H z I J K A L M N B O P Q C R S T x U W X Y p Z aa ac ad ae af q ah ai aj ak al an u ao aq au av ay az;refine J8 fun aD n=> ?_;go_simp;exact n (.bool true) _ (c _ _) (fun _=>rfl)
  |27,k=>
   obtain rfl:=b (T.symm.trans k);have bt:j[50]? =some (.bool true):=I8 og (i 24 _ 50 (C6 kr) C rfl);have d52:true=true->(j.getD 52 d)= .bool true:=i 26 _ 52 (C6 kr) S rfl;refine F9 rfl ?_;obtain⟨dJ,c8,bC⟩:=L7 (T:=j) (t:=52) og;rw[bC] at d52;clear bC;have f:true=true:=rfl
   ·have aG:=d52 f;subst aG;clear d52;clear i o y m r E F s V ag ar aA aB D aC G H z I J K A L M N B O P Q C R S T x U W X Y p Z aa ac ad ae af q ah ai aj ak al an u ao aq au av ay az;refine J8 fun aD n=> ?_;go_simp;exact n (.bool true) _ (c _ _) rfl
  |28,k=>obtain rfl:=b (x.symm.trans k);have c9:j[53]? =some (.bool true):=I8 og (i 27 _ 53 (C6 kr) T rfl);refine F9 rfl ?_;clear i o y m r E F s V ag ar aA aB D aC G H z I J K A L M N B O P Q C R S T x U W X Y p Z aa ac ad ae af q ah ai aj ak al an u ao aq au av ay az;refine J8 fun aD n=> ?_;go_simp;exact n (.bool true) _ (c _ _) (rfl)
  |29,k=>obtain rfl:=b (U.symm.trans k);have a5:j[7]? =some (.pointer (some ⟨aJ.heap.size,0,none⟩)):=o 7 (r 7 kr);refine R9 (T:=j) (j:=28) rfl x rfl (i 28 _ 54 (C6 kr) x rfl) og (fun f a4=> ?_) (fun f h=>by first|exact absurd f (by decide)|(rw[f] at h;cases h));clear i o y m r E F s V ag ar aA aB D aC G H z I J K A L M N B O P Q C R S T x U W X Y p Z aa ac ad ae af q ah ai aj ak al an u ao aq au av ay az;refine J8 fun aD n=> ?_;go_simp;exact n (.pointer (some ⟨aJ.heap.size,0,none⟩)) _ (c _ _) (fun _=>rfl)
  |30,k=>obtain rfl:=b (W.symm.trans k);refine R9 (T:=j) (j:=28) rfl x rfl (i 28 _ 54 (C6 kr) x rfl) og (fun f a4=> ?_) (fun f h=>by first|exact absurd f (by decide)|(rw[f] at h;cases h));have da:j[55]? =some (.pointer (some ⟨aJ.heap.size,0,none⟩)):=I8 og (i 29 _ 55 (C6 kr) U rfl f);clear i o y m r E F s V ag ar aA aB D aC G H z I J K A L M N B O P Q C R S T x U W X Y p Z aa ac ad ae af q ah ai aj ak al an u ao aq au av ay az;obtain⟨aT,aU,aV,aW,aX,aY,aZ⟩:=zrg (aS.out.next aK);refine J8 fun aD n=> ?_;go_simp;exact n (.int .i64 1) _ (c _ _) (fun _=>rfl)
  |31,k=>obtain rfl:=b (X.symm.trans k);refine R9 (T:=j) (j:=28) rfl x rfl (i 28 _ 54 (C6 kr) x rfl) og (fun f a4=> ?_) (fun f h=>by first|exact absurd f (by decide)|(rw[f] at h;cases h));have db:j[56]? =some (.int .i64 1):=I8 og (i 30 _ 56 (C6 kr) W rfl f);clear i o y m r E F s V ag ar aA aB D aC G H z I J K A L M N B O P Q C R S T x U W X Y p Z aa ac ad ae af q ah ai aj ak al an u ao aq au av ay az;refine J8 fun aD n=> ?_;go_simp;exact n (.bool true) _ (c _ _) (fun _=>rfl)
  |32,k=>
   obtain rfl:=b (Y.symm.trans k);have a4:j[54]? =some (.bool true):=I8 og (i 28 _ 54 (C6 kr) x rfl);have d57:true=true->(j.getD 57 d)= .bool true:=i 31 _ 57 (C6 kr) X rfl;refine F9 rfl ?_;obtain⟨dK,dc,bD⟩:=L7 (T:=j) (t:=57) og;rw[bD] at d57;clear bD;have f:true=true:=rfl
   ·have aG:=d57 f;subst aG;clear d57;clear i o y m r E F s V ag ar aA aB D aC G H z I J K A L M N B O P Q C R S T x U W X Y p Z aa ac ad ae af q ah ai aj ak al an u ao aq au av ay az;refine J8 fun aD n=> ?_;go_simp;exact n (.bool true) _ (c _ _) rfl
  |33,k=>obtain rfl:=b (p.symm.trans k);have dd:j[58]? =some (.bool true):=I8 og (i 32 _ 58 (C6 kr) Y rfl);refine F9 rfl ?_;clear i o y m r E F s V ag ar aA aB D aC G H z I J K A L M N B O P Q C R S T x U W X Y p Z aa ac ad ae af q ah ai aj ak al an u ao aq au av ay az;refine J8 fun aD n=> ?_;go_simp;exact n (.bool true) _ (c _ _) (rfl)
  |34,k=>obtain rfl:=b (Z.symm.trans k);have a5:j[7]? =some (.pointer (some ⟨aJ.heap.size,0,none⟩)):=o 7 (r 7 kr);refine R9 (T:=j) (j:=33) rfl p rfl (i 33 _ 59 (C6 kr) p rfl) og (fun f aQ=> ?_) (fun f h=>by first|exact absurd f (by decide)|(rw[f] at h;cases h));clear i o y m r E F s V ag ar aA aB D aC G H z I J K A L M N B O P Q C R S T x U W X Y p Z aa ac ad ae af q ah ai aj ak al an u ao aq au av ay az;refine J8 fun aD n=> ?_;go_simp;exact n (.pointer (some ⟨aJ.heap.size,4,none⟩)) _ (c _ _) (fun _=>rfl)
  |35,k=>obtain rfl:=b (aa.symm.trans k);refine R9 (T:=j) (j:=33) rfl p rfl (i 33 _ 59 (C6 kr) p rfl) og (fun f aQ=> ?_) (fun f h=>by first|exact absurd f (by decide)|(rw[f] at h;cases h));have df:j[60]? =some (.pointer (some ⟨aJ.heap.size,4,none⟩)):=I8 og (i 34 _ 60 (C6 kr) Z rfl f);clear i o y m r E F s V ag ar aA aB D aC G H z I J K A L M N B O P Q C R S T x U W X Y p Z aa ac ad ae af q ah ai aj ak al an u ao aq au av ay az;obtain⟨aT,aU,aV,aW,aX,aY,aZ⟩:=zrg (aS.out.next aK);refine J8 fun aD n=> ?_;go_simp;exact n (.slice bf bV sa) _ (c _ _) (fun _=>IsV.stb.next SV.out aK)
  |36,k=>obtain rfl:=b (ac.symm.trans k);refine R9 (T:=j) (j:=33) rfl p rfl (i 33 _ 59 (C6 kr) p rfl) og (fun f aQ=> ?_) (fun f h=>by first|exact absurd f (by decide)|(rw[f] at h;cases h));clear i o y m r E F s V ag ar aA aB D aC G H z I J K A L M N B O P Q C R S T x U W X Y p Z aa ac ad ae af q ah ai aj ak al an u ao aq au av ay az;refine J8 fun aD n=> ?_;go_simp;exact n (.slice (some ⟨aH.heap.size,0,none⟩) 2 2) _ (O0 _ _) (fun _=>⟨_,rfl,heap_alloc_new _ _⟩)
  |37,k=>obtain rfl:=b (ad.symm.trans k);refine R9 (T:=j) (j:=33) rfl p rfl (i 33 _ 59 (C6 kr) p rfl) og (fun f aQ=> ?_) (fun f h=>by first|exact absurd f (by decide)|(rw[f] at h;cases h));have d62:∃g,(j.getD 62 d)= .slice (some ⟨g,0,none⟩) 2 2/\Row aH g 3 [.int .i64 4,.int .i64 0]:=i 36 _ 62 (C6 kr) ac rfl f;obtain⟨dM,di,a7⟩:=L7 (T:=j) (t:=62) og;rw[a7] at d62;clear a7;clear i o y m r E F s V ag ar aA aB D aC G H z I J K A L M N B O P Q C R S T x U W X Y p Z aa ac ad ae af q ah ai aj ak al an u ao aq au av ay az;obtain⟨a7,rfl,cv⟩:=d62;refine J8 fun aD n=> ?_;go_simp;refine(ztw (l:=[4,0]) cv (by decide) (by decide)).mono ?_;rintro aG w' ⟨⟨v,rfl,hv⟩,aE⟩;exact n v w' aE (fun _=>IsV.stb.old hv)
  |38,k=>obtain rfl:=b (ae.symm.trans k);refine R9 (T:=j) (j:=33) rfl p rfl (i 33 _ 59 (C6 kr) p rfl) og (fun f aQ=> ?_) (fun f h=>by first|exact absurd f (by decide)|(rw[f] at h;cases h));have d61:IsV aH (C2 aH) (j.getD 61 d) (C0 (O8 [4,0])):=i 35 _ 61 (C6 kr) aa rfl f;obtain⟨dL,dh,bE⟩:=L7 (T:=j) (t:=61) og;rw[bE] at d61;clear bE;have d63:IsV aH (C2 aH) (j.getD 63 d) (C0 (O8 [4,0])):=i 37 _ 63 (C6 kr) ad rfl f;obtain⟨dN,dj,bF⟩:=L7 (T:=j) (t:=63) og;rw[bF] at d63;clear bF;clear i o y m r E F s V ag ar aA aB D aC G H z I J K A L M N B O P Q C R S T x U W X Y p Z aa ac ad ae af q ah ai aj ak al an u ao aq au av ay az;refine J8 fun aD n=> ?_;go_simp;refine(yjk d61 d63).mono ?_;rw[decide_eq_true rfl];rintro aG w' ⟨rfl,aE⟩;exact n _ w' aE (fun _=>rfl)
  |39,k=>
   obtain rfl:=b (af.symm.trans k);have aQ:j[59]? =some (.bool true):=I8 og (i 33 _ 59 (C6 kr) p rfl);have d64:true=true->(j.getD 64 d)= .bool true:=i 38 _ 64 (C6 kr) ae rfl;refine F9 rfl ?_;obtain⟨dO,dk,bG⟩:=L7 (T:=j) (t:=64) og;rw[bG] at d64;clear bG;have f:true=true:=rfl
   ·have aG:=d64 f;subst aG;clear d64;clear i o y m r E F s V ag ar aA aB D aC G H z I J K A L M N B O P Q C R S T x U W X Y p Z aa ac ad ae af q ah ai aj ak al an u ao aq au av ay az;refine J8 fun aD n=> ?_;go_simp;exact n (.bool true) _ (c _ _) rfl
  |40,k=>obtain rfl:=b (q.symm.trans k);have dm:j[65]? =some (.bool true):=I8 og (i 39 _ 65 (C6 kr) af rfl);refine F9 rfl ?_;clear i o y m r E F s V ag ar aA aB D aC G H z I J K A L M N B O P Q C R S T x U W X Y p Z aa ac ad ae af q ah ai aj ak al an u ao aq au av ay az;refine J8 fun aD n=> ?_;go_simp;exact n (.bool true) _ (c _ _) (rfl)
  |41,k=>obtain rfl:=b (ah.symm.trans k);have a5:j[7]? =some (.pointer (some ⟨aJ.heap.size,0,none⟩)):=o 7 (r 7 kr);refine R9 (T:=j) (j:=40) rfl q rfl (i 40 _ 66 (C6 kr) q rfl) og (fun f aR=> ?_) (fun f h=>by first|exact absurd f (by decide)|(rw[f] at h;cases h));clear i o y m r E F s V ag ar aA aB D aC G H z I J K A L M N B O P Q C R S T x U W X Y p Z aa ac ad ae af q ah ai aj ak al an u ao aq au av ay az;refine J8 fun aD n=> ?_;go_simp;exact n (.pointer (some ⟨aJ.heap.size,5,none⟩)) _ (c _ _) (fun _=>rfl)
  |42,k=>obtain rfl:=b (ai.symm.trans k);refine R9 (T:=j) (j:=40) rfl q rfl (i 40 _ 66 (C6 kr) q rfl) og (fun f aR=> ?_) (fun f h=>by first|exact absurd f (by decide)|(rw[f] at h;cases h));have dn:j[67]? =some (.pointer (some ⟨aJ.heap.size,5,none⟩)):=I8 og (i 41 _ 67 (C6 kr) ah rfl f);clear i o y m r E F s V ag ar aA aB D aC G H z I J K A L M N B O P Q C R S T x U W X Y p Z aa ac ad ae af q ah ai aj ak al an u ao aq au av ay az;obtain⟨aT,aU,aV,aW,aX,aY,aZ⟩:=zrg (aS.out.next aK);refine J8 fun aD n=> ?_;go_simp;exact n (.slice bg bX sb) _ (c _ _) (fun _=>IsV.stb.next b4.out aK)
  |43,k=>obtain rfl:=b (aj.symm.trans k);refine R9 (T:=j) (j:=40) rfl q rfl (i 40 _ 66 (C6 kr) q rfl) og (fun f aR=> ?_) (fun f h=>by first|exact absurd f (by decide)|(rw[f] at h;cases h));clear i o y m r E F s V ag ar aA aB D aC G H z I J K A L M N B O P Q C R S T x U W X Y p Z aa ac ad ae af q ah ai aj ak al an u ao aq au av ay az;refine J8 fun aD n=> ?_;go_simp;exact n (.slice (some ⟨aH.heap.size,0,none⟩) 2 2) _ (O0 _ _) (fun _=>⟨_,rfl,heap_alloc_new _ _⟩)
  |44,k=>obtain rfl:=b (ak.symm.trans k);refine R9 (T:=j) (j:=40) rfl q rfl (i 40 _ 66 (C6 kr) q rfl) og (fun f aR=> ?_) (fun f h=>by first|exact absurd f (by decide)|(rw[f] at h;cases h));have d69:∃g,(j.getD 69 d)= .slice (some ⟨g,0,none⟩) 2 2/\Row aH g 3 [.int .i64 3,.int .i64 0]:=i 43 _ 69 (C6 kr) aj rfl f;obtain⟨dQ,dq,a8⟩:=L7 (T:=j) (t:=69) og;rw[a8] at d69;clear a8;clear i o y m r E F s V ag ar aA aB D aC G H z I J K A L M N B O P Q C R S T x U W X Y p Z aa ac ad ae af q ah ai aj ak al an u ao aq au av ay az;obtain⟨a8,rfl,cw⟩:=d69;refine J8 fun aD n=> ?_;go_simp;refine(ztw (l:=[3,0]) cw (by decide) (by decide)).mono ?_;rintro aG w' ⟨⟨v,rfl,hv⟩,aE⟩;exact n v w' aE (fun _=>IsV.stb.old hv)
  |45,k=>obtain rfl:=b (al.symm.trans k);refine R9 (T:=j) (j:=40) rfl q rfl (i 40 _ 66 (C6 kr) q rfl) og (fun f aR=> ?_) (fun f h=>by first|exact absurd f (by decide)|(rw[f] at h;cases h));have d68:IsV aH (C2 aH) (j.getD 68 d) (C0 (O8 [3,0])):=i 42 _ 68 (C6 kr) ai rfl f;obtain⟨dP,dp,bH⟩:=L7 (T:=j) (t:=68) og;rw[bH] at d68;clear bH;have d70:IsV aH (C2 aH) (j.getD 70 d) (C0 (O8 [3,0])):=i 44 _ 70 (C6 kr) ak rfl f;obtain⟨dR,dr,bI⟩:=L7 (T:=j) (t:=70) og;rw[bI] at d70;clear bI;clear i o y m r E F s V ag ar aA aB D aC G H z I J K A L M N B O P Q C R S T x U W X Y p Z aa ac ad ae af q ah ai aj ak al an u ao aq au av ay az;refine J8 fun aD n=> ?_;go_simp;refine(yjk d68 d70).mono ?_;rw[decide_eq_true rfl];rintro aG w' ⟨rfl,aE⟩;exact n _ w' aE (fun _=>rfl)
  |46,k=>
   obtain rfl:=b (an.symm.trans k);have aR:j[66]? =some (.bool true):=I8 og (i 40 _ 66 (C6 kr) q rfl);have d71:true=true->(j.getD 71 d)= .bool true:=i 45 _ 71 (C6 kr) al rfl;refine F9 rfl ?_;obtain⟨dS,ds,bJ⟩:=L7 (T:=j) (t:=71) og;rw[bJ] at d71;clear bJ;have f:true=true:=rfl
   ·have aG:=d71 f;subst aG;clear d71;clear i o y m r E F s V ag ar aA aB D aC G H z I J K A L M N B O P Q C R S T x U W X Y p Z aa ac ad ae af q ah ai aj ak al an u ao aq au av ay az;refine J8 fun aD n=> ?_;go_simp;exact n (.bool true) _ (c _ _) rfl
  |47,k=>obtain rfl:=b (u.symm.trans k);have dt:j[72]? =some (.bool true):=I8 og (i 46 _ 72 (C6 kr) an rfl);refine F9 rfl ?_;clear i o y m r E F s V ag ar aA aB D aC G H z I J K A L M N B O P Q C R S T x U W X Y p Z aa ac ad ae af q ah ai aj ak al an u ao aq au av ay az;refine J8 fun aD n=> ?_;go_simp;exact n (.bool true) _ (c _ _) (rfl)
  |48,k=>obtain rfl:=b (ao.symm.trans k);have a5:j[7]? =some (.pointer (some ⟨aJ.heap.size,0,none⟩)):=o 7 (r 7 kr);refine R9 (T:=j) (j:=47) rfl u rfl (i 47 _ 73 (C6 kr) u rfl) og (fun f a1=> ?_) (fun f h=>by first|exact absurd f (by decide)|(rw[f] at h;cases h));clear i o y m r E F s V ag ar aA aB D aC G H z I J K A L M N B O P Q C R S T x U W X Y p Z aa ac ad ae af q ah ai aj ak al an u ao aq au av ay az;refine J8 fun aD n=> ?_;go_simp;exact n (.pointer (some ⟨aJ.heap.size,1,none⟩)) _ (c _ _) (fun _=>rfl)
  |49,k=>obtain rfl:=b (aq.symm.trans k);refine R9 (T:=j) (j:=47) rfl u rfl (i 47 _ 73 (C6 kr) u rfl) og (fun f a1=> ?_) (fun f h=>by first|exact absurd f (by decide)|(rw[f] at h;cases h));have du:j[74]? =some (.pointer (some ⟨aJ.heap.size,1,none⟩)):=I8 og (i 48 _ 74 (C6 kr) ao rfl f);clear i o y m r E F s V ag ar aA aB D aC G H z I J K A L M N B O P Q C R S T x U W X Y p Z aa ac ad ae af q ah ai aj ak al an u ao aq au av ay az;obtain⟨aT,aU,aV,aW,aX,aY,aZ⟩:=zrg (aS.out.next aK);refine J8 fun aD n=> ?_;go_simp;exact n (.agg #[.bool b0,.slice SP bT bZ,.slice be bU sl]) _ (c _ _) (fun _=>IsR.stb.next b3.out aK)
  |50,k=>obtain rfl:=b (au.symm.trans k);refine R9 (T:=j) (j:=47) rfl u rfl (i 47 _ 73 (C6 kr) u rfl) og (fun f a1=> ?_) (fun f h=>by first|exact absurd f (by decide)|(rw[f] at h;cases h));clear i o y m r E F s V ag ar aA aB D aC G H z I J K A L M N B O P Q C R S T x U W X Y p Z aa ac ad ae af q ah ai aj ak al an u ao aq au av ay az;refine J8 fun aD n=> ?_;go_simp;refine(zxs (a:=12) (b:=1) og og og).mono ?_;rintro aG w' ⟨⟨v,rfl,hv⟩,aE⟩;exact n v w' aE (fun _=>IsQ.stb.old hv)
  |51,k=>obtain rfl:=b (av.symm.trans k);refine R9 (T:=j) (j:=47) rfl u rfl (i 47 _ 73 (C6 kr) u rfl) og (fun f a1=> ?_) (fun f h=>by first|exact absurd f (by decide)|(rw[f] at h;cases h));have d75:IsR aH (C2 aH) (j.getD 75 d) (E7 (zkq 12 1)):=i 49 _ 75 (C6 kr) aq rfl f;obtain⟨dT,dv,bK⟩:=L7 (T:=j) (t:=75) og;rw[bK] at d75;clear bK;have d76:IsQ aH (C2 aH) (j.getD 76 d) (zkq 12 1):=i 50 _ 76 (C6 kr) au rfl f;obtain⟨dU,dw,bL⟩:=L7 (T:=j) (t:=76) og;rw[bL] at d76;clear bL;clear i o y m r E F s V ag ar aA aB D aC G H z I J K A L M N B O P Q C R S T x U W X Y p Z aa ac ad ae af q ah ai aj ak al an u ao aq au av ay az;refine J8 fun aD n=> ?_;go_simp;refine(zve d75 d76).mono ?_;rw[decide_eq_true rfl];rintro aG w' ⟨rfl,aE⟩;exact n _ w' aE (fun _=>rfl)
  |52,k=>
   obtain rfl:=b (ay.symm.trans k);have a1:j[73]? =some (.bool true):=I8 og (i 47 _ 73 (C6 kr) u rfl);have d77:true=true->(j.getD 77 d)= .bool true:=i 51 _ 77 (C6 kr) av rfl;refine F9 rfl ?_;obtain⟨dV,dx,bM⟩:=L7 (T:=j) (t:=77) og;rw[bM] at d77;clear bM;have f:true=true:=rfl
   ·have aG:=d77 f;subst aG;clear d77;clear i o y m r E F s V ag ar aA aB D aC G H z I J K A L M N B O P Q C R S T x U W X Y p Z aa ac ad ae af q ah ai aj ak al an u ao aq au av ay az;refine J8 fun aD n=> ?_;go_simp;exact n (.bool true) _ (c _ _) rfl
  |53,k=>obtain rfl:=b (az.symm.trans k);have dy:j[78]? =some (.bool true):=I8 og (i 52 _ 78 (C6 kr) ay rfl);refine F9 rfl ?_;clear i o y m r E F s V ag ar aA aB D aC G H z I J K A L M N B O P Q C R S T x U W X Y p Z aa ac ad ae af q ah ai aj ak al an u ao aq au av ay az;refine J8 fun aD n=> ?_;go_simp;exact n (.bool true) _ (c _ _) (rfl)
  |_+54,k=>rw[m] at k;cases k
 case fin=>intro a aH y bd aK o bR;obtain⟨⟨l⟩,a3⟩:=a;replace y:l.length=79:=y;obtain⟨cj,rfl⟩:=yvl y;obtain rfl:a3=[]:=bd;have bj:cj 0= .bool true:=bR 53 _ 0 az rfl;clear m r E F s V ag ar aA aB D aC G H z I J K A L M N B O P Q C R S T x U W X Y p Z aa ac ad ae af q ah ai aj ak al an u ao aq au av ay az;clear bR o y;rw[bj];clear bj;go_wp2_with fail;go_ret;exact⟨rfl,C9 aI.out aK⟩
end Go.Proofs.YtdgilbgdkmhcmaaGreatDoor
