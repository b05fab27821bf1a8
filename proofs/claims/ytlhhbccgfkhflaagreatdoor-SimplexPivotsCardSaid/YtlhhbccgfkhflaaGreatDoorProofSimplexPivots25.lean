/-
 The walk of the law's own awake.
-/
import Derived.Test.YtlhhbccgfkhflaaGreatDoorProofSimplexPivots24
namespace Go.Proofs.YtlhhbccgfkhflaaGreatDoor
open Go.RowKit
set_option linter.unusedVariables false
set_option maxRecDepth 100000
set_option maxHeartbeats 8000000
open _root_.Go.Lib renaming hid → e
open _root_.Option.some renaming inj → b
open _root_.Go.RowKit.Below renaming refl → c
open _root_.Go renaming undef → d
variable {g : Nat} {l : List Nat} {t : TypeId} {v : Value}
theorem zxk {w:World} {a c e d f i h:Value} (b:Row w g t [a,c,e,d,f,i,h]):w.cell? ⟨g,0,none⟩=some a/\w.cell? ⟨g,1,none⟩=some c/\w.cell? ⟨g,2,none⟩=some e/\w.cell? ⟨g,3,none⟩=some d/\w.cell? ⟨g,4,none⟩=some f/\w.cell? ⟨g,5,none⟩=some i/\w.cell? ⟨g,6,none⟩=some h:=
 ⟨b.cell 0,b.cell 1,b.cell 2,b.cell 3,b.cell 4,b.cell 5,b.cell 6⟩
theorem zvq {w:World} {a:Nat->Prop} (h:IsS 1 IsIV w a v (l.map fun(x:Nat)=>(x:Int))):IsIs w a v l:=by obtain⟨A,c,d,rfl,e,f,g,i,b⟩:=h;refine⟨A,c,d,by rw[List.length_map],by simpa using e,f,g,i,by simpa using b.1,fun m x y j k=> ?_⟩;exact b.2 m x (y:Int) j (by rw[List.getElem?_map,k];rfl)
def IsDx (w:World) (a b c d e f:Value):Prop:=
 IsS 1 IsIV w (C3 w) a ([2,3].map fun(x:Nat)=>(x:Int))/\IsS 1 IsIV w (C3 w) b ([0,1].map fun(x:Nat)=>(x:Int))/\IsM w (C3 w) c (G6 exQ.A)/\IsV w (C3 w) d (C2 exQ.B)/\IsV w (C3 w) e (C2 exQ.C)/\IsQ w (C3 w) f 0
theorem IsDx.to {w w':World} {b c d e f g:Value} (h:IsDx w b c d e f g) (a:Below w.heap.size w w'):IsDx w' b c d e f g:=
 ⟨(IsS.stb IsIV.stb).to h.1 (E7 a),(IsS.stb IsIV.stb).to h.2.1 (E7 a),IsM.stb.to h.2.2.1 (E7 a),IsV.stb.to h.2.2.2.1 (E7 a),IsV.stb.to h.2.2.2.2.1 (E7 a),IsQ.stb.to h.2.2.2.2.2 (E7 a)⟩
theorem zz1416 {w:World} (x:IsP w (C3 w) v (X9 exQ)) (t:Bru w):
 Calls Tryz.prog 29 #[v] w fun s w'=>(∃c e h i l m j k f g p a q n b r o,s= .returned (.tuple #[.agg #[.slice c 2 e,.slice h 2 i,.slice l 2 m,.slice j 2 k,.slice f 2 g,.bool p,.slice a q n,.slice b r o],.int .i64 0])/\IsDx w' (.slice c 2 e) (.slice h 2 i) (.slice l 2 m) (.slice j 2 k) (.slice f 2 g) (.agg #[.bool p,.slice a q n,.slice b r o]))/\Below w.heap.size w w':=by refine(yer x t good_ex4).mono ?_;rintro s w' ⟨⟨d,rfl,c,e,h,i,l,m,j,k,f,g,p,a,q,n,b,r,o,hd,y,z,A,B,C,D⟩,u⟩;injection hd with hd;subst hd;exact⟨⟨c,e,h,i,l,m,j,k,f,g,p,a,q,n,b,r,o,rfl,(IsS.stb IsIV.stb).old y,(IsS.stb IsIV.stb).old z,IsM.stb.old A,IsV.stb.old B,IsV.stb.old C,IsQ.stb.old D⟩,u⟩
theorem yxt {w:World} {e j n l g c d:Option Addr} {f k o m i s p t q:Nat} {r:Bool} (h:IsDx w (.slice e 2 f) (.slice j 2 k) (.slice n 2 o) (.slice l 2 m) (.slice g 2 i) (.agg #[.bool r,.slice c s p,.slice d t q])) (u:Bru w):
 Calls Tryz.prog 20 #[.agg #[.slice e 2 f,.slice j 2 k,.slice n 2 o,.slice l 2 m,.slice g 2 i,.bool r,.slice c s p,.slice d t q]] w fun a w'=>a= .returned (.tuple #[.int .i64 0,.int .i64 0,.int .i64 0,.int .i64 0])/\Below w.heap.size w w':=
 yxv (bas:=[2,3]) (oth:=[0,1]) (R:=exQ.A) (b:=exQ.B) (c:=exQ.C) (vq:=0) (M:=8*2) (r:=0) (c0:=0) h.1 h.2.1 h.2.2.1 h.2.2.2.1 h.2.2.2.2.1 h.2.2.2.2.2 u rfl rfl rfl rfl rfl good_ex4.cols og og (by decide) (by decide) good_ex4.szA good_ex4.szB good_ex4.szC (zsm og)
  (fun a=>by obtain⟨_,_,_,b,_⟩:=IsS.get h.1 (j:=0) og rfl;rw[a] at b;cases b) (fun a=>by obtain⟨_,_,_,b,_⟩:=IsS.get h.2.1 (j:=0) og rfl;rw[a] at b;cases b) (by decide+kernel) fine_ex4.inv yzq fac_ex4.2 ytd yws
theorem zz1413 {w:World} (D:IsP w (C3 w) v (X9 exQ)) (y:Bru w):
 Calls Tryz.prog 35 #[v] w fun f w'=>(∃m SP g k c h sl d i sa e j sb p F G,f= .returned (.tuple #[.agg #[.int .i64 1,.bool m,.slice SP g k,.slice c h sl,.slice d i sa,.slice e j sb,.slice p F G],.int .i64 0])/\IsR w' (C3 w') (.agg #[.bool m,.slice SP g k,.slice c h sl]) (C7 (zlo 12 1))/\IsV w' (C3 w') (.slice d i sa) (C2 (U7 [4,0]))/\IsV w' (C3 w') (.slice e j sb) (C2 (U7 [3,0])))/\Below w.heap.size w w':=by refine(zz1414 (k:=1) D y fine_ex4 (lim_len_le.2 (Nat.lt_of_lt_of_le (by decide:2<pw 1) (zwi og))) fac_ex4.1 (Nat.le_refl _) og fac_ex4.2 fun s b=>by rw[yeu b]).mono ?_;rintro f w' ⟨⟨H,s,rfl,b,ha⟩,z⟩;obtain rfl:=yeu ha;obtain⟨n,E,o,l,A,a,B,q,C,r,rfl,t,u,x,_⟩:=b;exact⟨⟨_,n,_,E,o,_,l,A,_,a,B,_,q,C,_,r,rfl,IsR.stb.old t,IsV.stb.old u,IsV.stb.old x⟩,z⟩
theorem yvf {w:World} {b:Nat} (h:Row w g t (l.map fun(x:Nat)=>Value.int .i64 (x:Int))) (f:b=l.length) (e:l.length<=1000):IsIs w (C3 w) (.slice (some ⟨g,0,none⟩) b b) l:=by
 subst f;refine⟨some ⟨g,0,none⟩,l.length,l.map fun(x:Nat)=>Value.int .i64 (x:Int),rfl,Nat.le_refl _,by unfold maxLen;omega,fun j=>⟨g,0,rfl,h.lt,fun d v hv=> ?_⟩,?_,?_⟩
 ·have hc:cellsOf (l.map fun(x:Nat)=>Value.int .i64 (x:Int))=l.map fun(x:Nat)=>Value.int .i64 (x:Int):=by
   clear h hv e j;induction l with
   |nil=>rfl
   |cons a l ih=>rw[List.map_cons,cellsOf,List.flatMap_cons,<-cellsOf,ih];rfl
  rw[hc] at hv;rw[Nat.zero_add,h.cell d];exact hv
 ·intro v hv;obtain⟨x,_,rfl⟩:=List.mem_map.1 hv;rfl
 ·refine⟨by simp,fun d x y c i=> ?_⟩;rw[List.getElem?_map,i] at c;cases c;rfl
theorem yyd {l:List Value} (h:l.length=79):∃a:Nat->Value,l=[a 0,a 1,a 2,a 3,a 4,a 5,a 6,a 7,a 8,a 9,a 10,a 11,a 12,a 13,a 14,a 15,a 16,a 17,a 18,a 19,a 20,a 21,a 22,a 23,a 24,a 25,a 26,a 27,a 28,a 29,a 30,a 31,a 32,a 33,a 34,a 35,a 36,a 37,a 38,a 39,a 40,a 41,a 42,a 43,a 44,a 45,a 46,a 47,a 48,a 49,a 50,a 51,a 52,a 53,a 54,a 55,a 56,a 57,a 58,a 59,a 60,a 61,a 62,a 63,a 64,a 65,a 66,a 67,a 68,a 69,a 70,a 71,a 72,a 73,a 74,a 75,a 76,a 77,a 78]:=by
 refine⟨fun b=>l.getD b d,?_⟩
 have c:l=(List.range 79).map (fun b=>l.getD b d):=by
  apply List.ext_getElem
  ·simp[h]
  ·intro b e f;simp[List.getD_eq_getElem?_getD,List.getElem?_eq_getElem e]
 exact c.trans rfl
def Aw4 (f a:Nat) (h:Nat) (v:Value) (w:World):Prop:=
 match h with
 |0=>v= .int .i64 0
 |1=>v= .bool true
 |2=>v= .bool true
 |3=>true=true->v= .pointer (some ⟨f,0,none⟩)
 |4=>true=true->IsIs w (C3 w) v [2,3]
 |5=>true=true->∃g,v= .slice (some ⟨g,0,none⟩) 2 2/\Row w g 3 [.int .i64 2,.int .i64 3]
 |6=>true=true->v= .bool true
 |7=>v= .bool true
 |8=>v= .bool true
 |9=>true=true->v= .int .i64 0
 |10=>true=true->v= .bool true
 |11=>v= .bool true
 |12=>v= .bool true
 |13=>true=true->v= .int .i64 0
 |14=>true=true->v= .bool true
 |15=>v= .bool true
 |16=>v= .bool true
 |17=>true=true->v= .int .i64 0
 |18=>true=true->v= .bool true
 |19=>v= .bool true
 |20=>v= .bool true
 |21=>true=true->v= .int .i64 0
 |22=>true=true->v= .bool true
 |23=>v= .bool true
 |24=>v= .bool true
 |25=>true=true->v= .int .i64 0
 |26=>true=true->v= .bool true
 |27=>v= .bool true
 |28=>v= .bool true
 |29=>true=true->v= .pointer (some ⟨a,0,none⟩)
 |30=>true=true->v= .int .i64 1
 |31=>true=true->v= .bool true
 |32=>v= .bool true
 |33=>v= .bool true
 |34=>true=true->v= .pointer (some ⟨a,4,none⟩)
 |35=>true=true->IsV w (C3 w) v (C2 (U7 [4,0]))
 |36=>true=true->∃g,v= .slice (some ⟨g,0,none⟩) 2 2/\Row w g 3 [.int .i64 4,.int .i64 0]
 |37=>true=true->IsV w (C3 w) v (C2 (U7 [4,0]))
 |38=>true=true->v= .bool true
 |39=>v= .bool true
 |40=>v= .bool true
 |41=>true=true->v= .pointer (some ⟨a,5,none⟩)
 |42=>true=true->IsV w (C3 w) v (C2 (U7 [3,0]))
 |43=>true=true->∃g,v= .slice (some ⟨g,0,none⟩) 2 2/\Row w g 3 [.int .i64 3,.int .i64 0]
 |44=>true=true->IsV w (C3 w) v (C2 (U7 [3,0]))
 |45=>true=true->v= .bool true
 |46=>v= .bool true
 |47=>v= .bool true
 |48=>true=true->v= .pointer (some ⟨a,1,none⟩)
 |49=>true=true->IsR w (C3 w) v (C7 (zlo 12 1))
 |50=>true=true->IsQ w (C3 w) v (zlo 12 1)
 |51=>true=true->v= .bool true
 |52=>v= .bool true
 |53=>v= .bool true
 |_=>True
theorem ypq (k l:Nat):∀(j:Nat) (v:Value) (w w':World),Aw4 k l j v w->Below w.heap.size w w'->Aw4 k l j v w':=fun j v w w' h a=>match j,h with
 |0,h=>h
 |1,h=>h
 |2,h=>h
 |3,h=>h
 |4,h=>fun hc=>IsIs.stb.next (h hc) a
 |5,h=>fun hc=>by obtain⟨g,f,i⟩:=(h hc);exact⟨g,f,i.next a⟩
 |6,h=>h
 |7,h=>h
 |8,h=>h
 |9,h=>h
 |10,h=>h
 |11,h=>h
 |12,h=>h
 |13,h=>h
 |14,h=>h
 |15,h=>h
 |16,h=>h
 |17,h=>h
 |18,h=>h
 |19,h=>h
 |20,h=>h
 |21,h=>h
 |22,h=>h
 |23,h=>h
 |24,h=>h
 |25,h=>h
 |26,h=>h
 |27,h=>h
 |28,h=>h
 |29,h=>h
 |30,h=>h
 |31,h=>h
 |32,h=>h
 |33,h=>h
 |34,h=>h
 |35,h=>fun hc=>IsV.stb.next (h hc) a
 |36,h=>fun hc=>by obtain⟨g,f,i⟩:=(h hc);exact⟨g,f,i.next a⟩
 |37,h=>fun hc=>IsV.stb.next (h hc) a
 |38,h=>h
 |39,h=>h
 |40,h=>h
 |41,h=>h
 |42,h=>fun hc=>IsV.stb.next (h hc) a
 |43,h=>fun hc=>by obtain⟨g,f,i⟩:=(h hc);exact⟨g,f,i.next a⟩
 |44,h=>fun hc=>IsV.stb.next (h hc) a
 |45,h=>h
 |46,h=>h
 |47,h=>h
 |48,h=>h
 |49,h=>fun hc=>IsR.stb.next (h hc) a
 |50,h=>fun hc=>IsQ.stb.next (h hc) a
 |51,h=>h
 |52,h=>h
 |53,h=>h
 |_+54,_=>trivial
theorem ypr {w:World} (bO:Bru w):Calls Tryz.prog 11 #[] w fun aE w'=>aE= .returned (.bool true)/\Below w.heap.size w w':=by
 have a1:=e bO;have cE:=zox;have cG:=ymq;have cF:=T3;clear bO;go_in;go_wp2_with fail;refine(ygz _).mono ?_;rintro aE dU ⟨⟨dz,rfl,h⟩,aD⟩;obtain⟨aH,aO⟩:=C5 aD h;clear h aD;go_wp2_with fail;refine(zz1416 aO.out (Bru.next a1.out aH.out)).mono ?_;rintro aE aN ⟨⟨bg,bh,cm,cn,cv,cw,cq,cr,b5,b7,cA,b3,cB,cy,b4,cC,cz,rfl,h⟩,aD⟩;replace aH:=nB aH aD;obtain⟨dV,ch,a8,r3,_⟩:=J5 aN #[.slice bg 2 bh,.slice cm 2 cn,.slice cv 2 cw,.slice cq 2 cr,.slice b5 2 b7,.bool cA,.slice b3 cB cy,.slice b4 cC cz] 32;replace aH:=nB aH a8;obtain⟨aK,aL⟩:=C5 (h.to a8) r3;clear h aD a8 aO r3;obtain⟨d0,b8,b9,ca,cb,cc,cd,cf⟩:=K8 aL.out;go_wp2_with fail;clear ch d0 b8 b9 ca cb cc cd cf;refine(yxt aK.out (Bru.next a1.out aH.out)).mono ?_;rintro aE dW ⟨rfl,aD⟩;replace aH:=nB aH aD;replace aK:=e (aK.out.to aD);replace aL:=e (aL.out.next aD);clear aD;go_wp2_with fail;refine(ygz _).mono ?_;rintro aE dX ⟨⟨dG,rfl,h⟩,aD⟩;replace aH:=nB aH aD;replace aK:=e (aK.out.to aD);replace aL:=e (aL.out.next aD);have aO:=e h;clear h aD;go_wp2_with fail;refine(zz1413 aO.out (Bru.next a1.out aH.out)).mono ?_;rintro aE aI ⟨⟨bY,SP,bQ,bX,bd,bR,sl,be,bT,sa,bf,bU,sb,bZ,cl,cx,rfl,bL,bM,bN⟩,aD⟩;replace aH:=nB aH aD;replace aK:=e (aK.out.to aD);replace aL:=e (aL.out.next aD);obtain⟨dY,cj,aM,bV,_⟩:=J5 aI #[.int .i64 1,.bool bY,.slice SP bQ bX,.slice bd bR sl,.slice be bT sa,.slice bf bU sb,.slice bZ cl cx] 69;replace aH:=nB aH aM;replace aK:=e (aK.out.to aM);replace aL:=e (aL.out.next aM);obtain⟨b0,SV,b1,aR⟩:=X7 (IsR.stb.next bL aM) (IsV.stb.next bM aM) (IsV.stb.next bN aM) bV;clear bL bM bN aD aM aO bV;go_wp2_with fail;clear cj;refine zpt fun ops m=> ?_;have E:=D8 (j:=0) m rfl;have F:=D8 (j:=1) m rfl;have s:=D8 (j:=2) m rfl;have V:=D8 (j:=3) m rfl;have af:=D8 (j:=4) m rfl;have aq:=D8 (j:=5) m rfl;have az:=D8 (j:=6) m rfl;have aA:=D8 (j:=7) m rfl;have D:=D8 (j:=8) m rfl;have aB:=D8 (j:=9) m rfl;have G:=D8 (j:=10) m rfl;have H:=D8 (j:=11) m rfl;have z:=D8 (j:=12) m rfl;have I:=D8 (j:=13) m rfl;have J:=D8 (j:=14) m rfl;have K:=D8 (j:=15) m rfl;have A:=D8 (j:=16) m rfl;have L:=D8 (j:=17) m rfl;have M:=D8 (j:=18) m rfl;have N:=D8 (j:=19) m rfl;have B:=D8 (j:=20) m rfl;have O:=D8 (j:=21) m rfl;have P:=D8 (j:=22) m rfl;have Q:=D8 (j:=23) m rfl;have C:=D8 (j:=24) m rfl;have R:=D8 (j:=25) m rfl;have S:=D8 (j:=26) m rfl;have T:=D8 (j:=27) m rfl;have x:=D8 (j:=28) m rfl;have U:=D8 (j:=29) m rfl;have W:=D8 (j:=30) m rfl;have X:=D8 (j:=31) m rfl;have Y:=D8 (j:=32) m rfl;have p:=D8 (j:=33) m rfl;have Z:=D8 (j:=34) m rfl;have aa:=D8 (j:=35) m rfl;have ab:=D8 (j:=36) m rfl;have ac:=D8 (j:=37) m rfl;have ad:=D8 (j:=38) m rfl;have ae:=D8 (j:=39) m rfl;have q:=D8 (j:=40) m rfl;have ag:=D8 (j:=41) m rfl;have ah:=D8 (j:=42) m rfl;have ai:=D8 (j:=43) m rfl;have aj:=D8 (j:=44) m rfl;have ak:=D8 (j:=45) m rfl;have al:=D8 (j:=46) m rfl;have u:=D8 (j:=47) m rfl;have an:=D8 (j:=48) m rfl;have ao:=D8 (j:=49) m rfl;have ar:=D8 (j:=50) m rfl;have au:=D8 (j:=51) m rfl;have av:=D8 (j:=52) m rfl;have ay:=D8 (j:=53) m rfl;have r:=fun t h=>zzr m t h;refine zz1476 (Aw4 aN.heap.size aI.heap.size) kr (ypq aN.heap.size aI.heap.size) (by rw[m];kernel_rfl) ?step ?fin
 case step=>
  intro ck dy k a aG y a9 aJ o i;obtain⟨j,a2⟩:=a;replace y:j.size=79:=y;obtain rfl:a2=[]:=a9;match ck,k with
  |0,k=>obtain rfl:=b (E.symm.trans k);have cI:j[2]? =some (.int .i64 0):=o 2 (r 2 kr);refine H7 rfl ?_;clear i o y m r E F s V af aq az aA D aB G H z I J K A L M N B O P Q C R S T x U W X Y p Z aa ab ac ad ae q ag ah ai aj ak al u an ao ar au av ay;refine L5 fun aC n=> ?_;go_simp;exact n (.int .i64 0) _ (c _ _) (rfl)
  |1,k=>obtain rfl:=b (F.symm.trans k);have cJ:j[26]? =some (.int .i64 0):=J6 og (i 0 _ 26 (C9 kr) E rfl);refine H7 rfl ?_;clear i o y m r E F s V af aq az aA D aB G H z I J K A L M N B O P Q C R S T x U W X Y p Z aa ab ac ad ae q ag ah ai aj ak al u an ao ar au av ay;refine L5 fun aC n=> ?_;go_simp;exact n (.bool true) _ (c _ _) (rfl)
  |2,k=>obtain rfl:=b (s.symm.trans k);have cK:j[27]? =some (.bool true):=J6 og (i 1 _ 27 (C9 kr) F rfl);refine H7 rfl ?_;clear i o y m r E F s V af aq az aA D aB G H z I J K A L M N B O P Q C R S T x U W X Y p Z aa ab ac ad ae q ag ah ai aj ak al u an ao ar au av ay;refine L5 fun aC n=> ?_;go_simp;exact n (.bool true) _ (c _ _) (rfl)
  |3,k=>obtain rfl:=b (V.symm.trans k);have cH:j[1]? =some (.pointer (some ⟨aN.heap.size,0,none⟩)):=o 1 (r 1 kr);refine W8 (T:=j) (j:=2) rfl s rfl (i 2 _ 28 (C9 kr) s rfl) og (fun f aZ=> ?_) (fun f h=>by first|exact absurd f (by decide)|(rw[f] at h;cases h));clear i o y m r E F s V af aq az aA D aB G H z I J K A L M N B O P Q C R S T x U W X Y p Z aa ab ac ad ae q ag ah ai aj ak al u an ao ar au av ay;refine L5 fun aC n=> ?_;go_simp;exact n (.pointer (some ⟨aN.heap.size,0,none⟩)) _ (c _ _) (fun _=>rfl)
  |4,k=>obtain rfl:=b (af.symm.trans k);refine W8 (T:=j) (j:=2) rfl s rfl (i 2 _ 28 (C9 kr) s rfl) og (fun f aZ=> ?_) (fun f h=>by first|exact absurd f (by decide)|(rw[f] at h;cases h));have cL:j[29]? =some (.pointer (some ⟨aN.heap.size,0,none⟩)):=J6 og (i 3 _ 29 (C9 kr) V rfl f);clear i o y m r E F s V af aq az aA D aB G H z I J K A L M N B O P Q C R S T x U W X Y p Z aa ab ac ad ae q ag ah ai aj ak al u an ao ar au av ay;obtain⟨aS,aT,aU,aV,aW,aX,aY,cD⟩:=K8 (aL.out.next aJ);refine L5 fun aC n=> ?_;go_simp;exact n (.slice bg 2 bh) _ (c _ _) (fun _=>zvq (IsDx.to aK.out aJ).1)
  |5,k=>obtain rfl:=b (aq.symm.trans k);refine W8 (T:=j) (j:=2) rfl s rfl (i 2 _ 28 (C9 kr) s rfl) og (fun f aZ=> ?_) (fun f h=>by first|exact absurd f (by decide)|(rw[f] at h;cases h));clear i o y m r E F s V af aq az aA D aB G H z I J K A L M N B O P Q C R S T x U W X Y p Z aa ab ac ad ae q ag ah ai aj ak al u an ao ar au av ay;refine L5 fun aC n=> ?_;go_simp;exact n (.slice (some ⟨aG.heap.size,0,none⟩) 2 2) _ (L8 _ _) (fun _=>⟨_,rfl,heap_alloc_new _ _⟩)
  |6,k=>obtain rfl:=b (az.symm.trans k);refine W8 (T:=j) (j:=2) rfl s rfl (i 2 _ 28 (C9 kr) s rfl) og (fun f aZ=> ?_) (fun f h=>by first|exact absurd f (by decide)|(rw[f] at h;cases h));have d30:IsIs aG (C3 aG) (j.getD 30 d) [2,3]:=i 4 _ 30 (C9 kr) af rfl f;obtain⟨v30,cN,br⟩:=M8 (T:=j) (t:=30) og;rw[br] at d30;clear br;have d31:∃g,(j.getD 31 d)= .slice (some ⟨g,0,none⟩) 2 2/\Row aG g 3 [.int .i64 2,.int .i64 3]:=i 5 _ 31 (C9 kr) aq rfl f;obtain⟨dA,cO,a5⟩:=M8 (T:=j) (t:=31) og;rw[a5] at d31;clear a5;clear i o y m r E F s V af aq az aA D aB G H z I J K A L M N B O P Q C R S T x U W X Y p Z aa ab ac ad ae q ag ah ai aj ak al u an ao ar au av ay;obtain⟨a5,rfl,cs⟩:=d31;refine L5 fun aC n=> ?_;go_simp;refine(yak d30 (yvf (l:=[2,3]) cs rfl (by decide))).mono ?_;rw[decide_eq_true rfl];rintro aE w' ⟨rfl,aD⟩;exact n _ w' aD (fun _=>rfl)
  |7,k=>
   obtain rfl:=b (aA.symm.trans k);have aZ:j[28]? =some (.bool true):=J6 og (i 2 _ 28 (C9 kr) s rfl);have d32:true=true->(j.getD 32 d)= .bool true:=i 6 _ 32 (C9 kr) az rfl;refine H7 rfl ?_;obtain⟨dB,cP,bt⟩:=M8 (T:=j) (t:=32) og;rw[bt] at d32;clear bt;have f:true=true:=rfl
   ·have aE:=d32 f;subst aE;clear d32;clear i o y m r E F s V af aq az aA D aB G H z I J K A L M N B O P Q C R S T x U W X Y p Z aa ab ac ad ae q ag ah ai aj ak al u an ao ar au av ay;refine L5 fun aC n=> ?_;go_simp;exact n (.bool true) _ (c _ _) rfl
  |8,k=>obtain rfl:=b (D.symm.trans k);have cQ:j[33]? =some (.bool true):=J6 og (i 7 _ 33 (C9 kr) aA rfl);refine H7 rfl ?_;clear i o y m r E F s V af aq az aA D aB G H z I J K A L M N B O P Q C R S T x U W X Y p Z aa ab ac ad ae q ag ah ai aj ak al u an ao ar au av ay;refine L5 fun aC n=> ?_;go_simp;exact n (.bool true) _ (c _ _) (rfl)
  |9,k=>obtain rfl:=b (aB.symm.trans k);have cM:j[3]? =some (.int .i64 0):=o 3 (r 3 kr);refine W8 (T:=j) (j:=8) rfl D rfl (i 8 _ 34 (C9 kr) D rfl) og (fun f bj=> ?_) (fun f h=>by first|exact absurd f (by decide)|(rw[f] at h;cases h));clear i o y m r E F s V af aq az aA D aB G H z I J K A L M N B O P Q C R S T x U W X Y p Z aa ab ac ad ae q ag ah ai aj ak al u an ao ar au av ay;refine L5 fun aC n=> ?_;go_simp;exact n (.int .i64 0) _ (c _ _) (fun _=>rfl)
  |10,k=>obtain rfl:=b (G.symm.trans k);refine W8 (T:=j) (j:=8) rfl D rfl (i 8 _ 34 (C9 kr) D rfl) og (fun f bj=> ?_) (fun f h=>by first|exact absurd f (by decide)|(rw[f] at h;cases h));have cR:j[35]? =some (.int .i64 0):=J6 og (i 9 _ 35 (C9 kr) aB rfl f);clear i o y m r E F s V af aq az aA D aB G H z I J K A L M N B O P Q C R S T x U W X Y p Z aa ab ac ad ae q ag ah ai aj ak al u an ao ar au av ay;refine L5 fun aC n=> ?_;go_simp;exact n (.bool true) _ (c _ _) (fun _=>rfl)
  |11,k=>
   obtain rfl:=b (H.symm.trans k);have bj:j[34]? =some (.bool true):=J6 og (i 8 _ 34 (C9 kr) D rfl);have d36:true=true->(j.getD 36 d)= .bool true:=i 10 _ 36 (C9 kr) G rfl;refine H7 rfl ?_;obtain⟨dC,cS,bu⟩:=M8 (T:=j) (t:=36) og;rw[bu] at d36;clear bu;have f:true=true:=rfl
   ·have aE:=d36 f;subst aE;clear d36;clear i o y m r E F s V af aq az aA D aB G H z I J K A L M N B O P Q C R S T x U W X Y p Z aa ab ac ad ae q ag ah ai aj ak al u an ao ar au av ay;refine L5 fun aC n=> ?_;go_simp;exact n (.bool true) _ (c _ _) rfl
  |12,k=>obtain rfl:=b (z.symm.trans k);have cT:j[37]? =some (.bool true):=J6 og (i 11 _ 37 (C9 kr) H rfl);refine H7 rfl ?_;clear i o y m r E F s V af aq az aA D aB G H z I J K A L M N B O P Q C R S T x U W X Y p Z aa ab ac ad ae q ag ah ai aj ak al u an ao ar au av ay;refine L5 fun aC n=> ?_;go_simp;exact n (.bool true) _ (c _ _) (rfl)
  |13,k=>obtain rfl:=b (I.symm.trans k);have cV:j[4]? =some (.int .i64 0):=o 4 (r 4 kr);refine W8 (T:=j) (j:=12) rfl z rfl (i 12 _ 38 (C9 kr) z rfl) og (fun f bm=> ?_) (fun f h=>by first|exact absurd f (by decide)|(rw[f] at h;cases h));clear i o y m r E F s V af aq az aA D aB G H z I J K A L M N B O P Q C R S T x U W X Y p Z aa ab ac ad ae q ag ah ai aj ak al u an ao ar au av ay;refine L5 fun aC n=> ?_;go_simp;exact n (.int .i64 0) _ (c _ _) (fun _=>rfl)
  |14,k=>obtain rfl:=b (J.symm.trans k);refine W8 (T:=j) (j:=12) rfl z rfl (i 12 _ 38 (C9 kr) z rfl) og (fun f bm=> ?_) (fun f h=>by first|exact absurd f (by decide)|(rw[f] at h;cases h));have cU:j[39]? =some (.int .i64 0):=J6 og (i 13 _ 39 (C9 kr) I rfl f);clear i o y m r E F s V af aq az aA D aB G H z I J K A L M N B O P Q C R S T x U W X Y p Z aa ab ac ad ae q ag ah ai aj ak al u an ao ar au av ay;refine L5 fun aC n=> ?_;go_simp;exact n (.bool true) _ (c _ _) (fun _=>rfl)
  |15,k=>
   obtain rfl:=b (K.symm.trans k);have bm:j[38]? =some (.bool true):=J6 og (i 12 _ 38 (C9 kr) z rfl);have d40:true=true->(j.getD 40 d)= .bool true:=i 14 _ 40 (C9 kr) J rfl;refine H7 rfl ?_;obtain⟨dD,cW,bv⟩:=M8 (T:=j) (t:=40) og;rw[bv] at d40;clear bv;have f:true=true:=rfl
   ·have aE:=d40 f;subst aE;clear d40;clear i o y m r E F s V af aq az aA D aB G H z I J K A L M N B O P Q C R S T x U W X Y p Z aa ab ac ad ae q ag ah ai aj ak al u an ao ar au av ay;refine L5 fun aC n=> ?_;go_simp;exact n (.bool true) _ (c _ _) rfl
  |16,k=>obtain rfl:=b (A.symm.trans k);have cX:j[41]? =some (.bool true):=J6 og (i 15 _ 41 (C9 kr) K rfl);refine H7 rfl ?_;clear i o y m r E F s V af aq az aA D aB G H z I J K A L M N B O P Q C R S T x U W X Y p Z aa ab ac ad ae q ag ah ai aj ak al u an ao ar au av ay;refine L5 fun aC n=> ?_;go_simp;exact n (.bool true) _ (c _ _) (rfl)
  |17,k=>obtain rfl:=b (L.symm.trans k);have c4:j[5]? =some (.int .i64 0):=o 5 (r 5 kr);refine W8 (T:=j) (j:=16) rfl A rfl (i 16 _ 42 (C9 kr) A rfl) og (fun f bn=> ?_) (fun f h=>by first|exact absurd f (by decide)|(rw[f] at h;cases h));clear i o y m r E F s V af aq az aA D aB G H z I J K A L M N B O P Q C R S T x U W X Y p Z aa ab ac ad ae q ag ah ai aj ak al u an ao ar au av ay;refine L5 fun aC n=> ?_;go_simp;exact n (.int .i64 0) _ (c _ _) (fun _=>rfl)
  |18,k=>obtain rfl:=b (M.symm.trans k);refine W8 (T:=j) (j:=16) rfl A rfl (i 16 _ 42 (C9 kr) A rfl) og (fun f bn=> ?_) (fun f h=>by first|exact absurd f (by decide)|(rw[f] at h;cases h));have cY:j[43]? =some (.int .i64 0):=J6 og (i 17 _ 43 (C9 kr) L rfl f);clear i o y m r E F s V af aq az aA D aB G H z I J K A L M N B O P Q C R S T x U W X Y p Z aa ab ac ad ae q ag ah ai aj ak al u an ao ar au av ay;refine L5 fun aC n=> ?_;go_simp;exact n (.bool true) _ (c _ _) (fun _=>rfl)
  |19,k=>
   obtain rfl:=b (N.symm.trans k);have bn:j[42]? =some (.bool true):=J6 og (i 16 _ 42 (C9 kr) A rfl);have d44:true=true->(j.getD 44 d)= .bool true:=i 18 _ 44 (C9 kr) M rfl;refine H7 rfl ?_;obtain⟨dE,cZ,bw⟩:=M8 (T:=j) (t:=44) og;rw[bw] at d44;clear bw;have f:true=true:=rfl
   ·have aE:=d44 f;subst aE;clear d44;clear i o y m r E F s V af aq az aA D aB G H z I J K A L M N B O P Q C R S T x U W X Y p Z aa ab ac ad ae q ag ah ai aj ak al u an ao ar au av ay;refine L5 fun aC n=> ?_;go_simp;exact n (.bool true) _ (c _ _) rfl
  |20,k=>obtain rfl:=b (B.symm.trans k);have c0:j[45]? =some (.bool true):=J6 og (i 19 _ 45 (C9 kr) N rfl);refine H7 rfl ?_;clear i o y m r E F s V af aq az aA D aB G H z I J K A L M N B O P Q C R S T x U W X Y p Z aa ab ac ad ae q ag ah ai aj ak al u an ao ar au av ay;refine L5 fun aC n=> ?_;go_simp;exact n (.bool true) _ (c _ _) (rfl)
  |21,k=>obtain rfl:=b (O.symm.trans k);have dc:j[6]? =some (.int .i64 0):=o 6 (r 6 kr);refine W8 (T:=j) (j:=20) rfl B rfl (i 20 _ 46 (C9 kr) B rfl) og (fun f bp=> ?_) (fun f h=>by first|exact absurd f (by decide)|(rw[f] at h;cases h));clear i o y m r E F s V af aq az aA D aB G H z I J K A L M N B O P Q C R S T x U W X Y p Z aa ab ac ad ae q ag ah ai aj ak al u an ao ar au av ay;refine L5 fun aC n=> ?_;go_simp;exact n (.int .i64 0) _ (c _ _) (fun _=>rfl)
  |22,k=>obtain rfl:=b (P.symm.trans k);refine W8 (T:=j) (j:=20) rfl B rfl (i 20 _ 46 (C9 kr) B rfl) og (fun f bp=> ?_) (fun f h=>by first|exact absurd f (by decide)|(rw[f] at h;cases h));have c1:j[47]? =some (.int .i64 0):=J6 og (i 21 _ 47 (C9 kr) O rfl f);clear i o y m r E F s V af aq az aA D aB G H z I J K A L M N B O P Q C R S T x U W X Y p Z aa ab ac ad ae q ag ah ai aj ak al u an ao ar au av ay;refine L5 fun aC n=> ?_;go_simp;exact n (.bool true) _ (c _ _) (fun _=>rfl)
  |23,k=>
   obtain rfl:=b (Q.symm.trans k);have bp:j[46]? =some (.bool true):=J6 og (i 20 _ 46 (C9 kr) B rfl);have d48:true=true->(j.getD 48 d)= .bool true:=i 22 _ 48 (C9 kr) P rfl;refine H7 rfl ?_;obtain⟨dF,c2,bx⟩:=M8 (T:=j) (t:=48) og;rw[bx] at d48;clear bx;have f:true=true:=rfl
   ·have aE:=d48 f;subst aE;clear d48;clear i o y m r E F s V af aq az aA D aB G H z I J K A L M N B O P Q C R S T x U W X Y p Z aa ab ac ad ae q ag ah ai aj ak al u an ao ar au av ay;refine L5 fun aC n=> ?_;go_simp;exact n (.bool true) _ (c _ _) rfl
  |24,k=>obtain rfl:=b (C.symm.trans k);have c3:j[49]? =some (.bool true):=J6 og (i 23 _ 49 (C9 kr) Q rfl);refine H7 rfl ?_;clear i o y m r E F s V af aq az aA D aB G H z I J K A L M N B O P Q C R S T x U W X Y p Z aa ab ac ad ae q ag ah ai aj ak al u an ao ar au av ay;refine L5 fun aC n=> ?_;go_simp;exact n (.bool true) _ (c _ _) (rfl)
  |25,k=>obtain rfl:=b (R.symm.trans k);have dx:j[8]? =some (.int .i64 0):=o 8 (r 8 kr);refine W8 (T:=j) (j:=24) rfl C rfl (i 24 _ 50 (C9 kr) C rfl) og (fun f bq=> ?_) (fun f h=>by first|exact absurd f (by decide)|(rw[f] at h;cases h));clear i o y m r E F s V af aq az aA D aB G H z I J K A L M N B O P Q C R S T x U W X Y p Z aa ab ac ad ae q ag ah ai aj ak al u an ao ar au av ay;refine L5 fun aC n=> ?_;go_simp;exact n (.int .i64 0) _ (c _ _) (fun _=>rfl)
  |26,k=>obtain rfl:=b (S.symm.trans k);refine W8 (T:=j) (j:=24) rfl C rfl (i 24 _ 50 (C9 kr) C rfl) og (fun f bq=> ?_) (fun f h=>by first|exact absurd f (by decide)|(rw[f] at h;cases h));have c5:j[51]? =some (.int .i64 0):=J6 og (i 25 _ 51 (C9 kr) R rfl f);clear i o y m r E F s V af aq az aA D aB G H z I J K A L M N B O P Q C R S T x U W X Y p Z aa ab ac ad ae q ag ah ai aj ak al u an ao ar au av ay;refine L5 fun aC n=> ?_;go_simp;exact n (.bool true) _ (c _ _) (fun _=>rfl)
  |27,k=>
   obtain rfl:=b (T.symm.trans k);have bq:j[50]? =some (.bool true):=J6 og (i 24 _ 50 (C9 kr) C rfl);have d52:true=true->(j.getD 52 d)= .bool true:=i 26 _ 52 (C9 kr) S rfl;refine H7 rfl ?_;obtain⟨dH,c6,bA⟩:=M8 (T:=j) (t:=52) og;rw[bA] at d52;clear bA;have f:true=true:=rfl
   ·have aE:=d52 f;subst aE;clear d52;clear i o y m r E F s V af aq az aA D aB G H z I J K A L M N B O P Q C R S T x U W X Y p Z aa ab ac ad ae q ag ah ai aj ak al u an ao ar au av ay;refine L5 fun aC n=> ?_;go_simp;exact n (.bool true) _ (c _ _) rfl
  |28,k=>obtain rfl:=b (x.symm.trans k);have c7:j[53]? =some (.bool true):=J6 og (i 27 _ 53 (C9 kr) T rfl);refine H7 rfl ?_;clear i o y m r E F s V af aq az aA D aB G H z I J K A L M N B O P Q C R S T x U W X Y p Z aa ab ac ad ae q ag ah ai aj ak al u an ao ar au av ay;refine L5 fun aC n=> ?_;go_simp;exact n (.bool true) _ (c _ _) (rfl)
  |29,k=>obtain rfl:=b (U.symm.trans k);have a4:j[7]? =some (.pointer (some ⟨aI.heap.size,0,none⟩)):=o 7 (r 7 kr);refine W8 (T:=j) (j:=28) rfl x rfl (i 28 _ 54 (C9 kr) x rfl) og (fun f a3=> ?_) (fun f h=>by first|exact absurd f (by decide)|(rw[f] at h;cases h));clear i o y m r E F s V af aq az aA D aB G H z I J K A L M N B O P Q C R S T x U W X Y p Z aa ab ac ad ae q ag ah ai aj ak al u an ao ar au av ay;refine L5 fun aC n=> ?_;go_simp;exact n (.pointer (some ⟨aI.heap.size,0,none⟩)) _ (c _ _) (fun _=>rfl)
  |30,k=>obtain rfl:=b (W.symm.trans k);refine W8 (T:=j) (j:=28) rfl x rfl (i 28 _ 54 (C9 kr) x rfl) og (fun f a3=> ?_) (fun f h=>by first|exact absurd f (by decide)|(rw[f] at h;cases h));have c8:j[55]? =some (.pointer (some ⟨aI.heap.size,0,none⟩)):=J6 og (i 29 _ 55 (C9 kr) U rfl f);clear i o y m r E F s V af aq az aA D aB G H z I J K A L M N B O P Q C R S T x U W X Y p Z aa ab ac ad ae q ag ah ai aj ak al u an ao ar au av ay;obtain⟨aS,aT,aU,aV,aW,aX,aY⟩:=zxk (aR.out.next aJ);refine L5 fun aC n=> ?_;go_simp;exact n (.int .i64 1) _ (c _ _) (fun _=>rfl)
  |31,k=>obtain rfl:=b (X.symm.trans k);refine W8 (T:=j) (j:=28) rfl x rfl (i 28 _ 54 (C9 kr) x rfl) og (fun f a3=> ?_) (fun f h=>by first|exact absurd f (by decide)|(rw[f] at h;cases h));have c9:j[56]? =some (.int .i64 1):=J6 og (i 30 _ 56 (C9 kr) W rfl f);clear i o y m r E F s V af aq az aA D aB G H z I J K A L M N B O P Q C R S T x U W X Y p Z aa ab ac ad ae q ag ah ai aj ak al u an ao ar au av ay;refine L5 fun aC n=> ?_;go_simp;exact n (.bool true) _ (c _ _) (fun _=>rfl)
  |32,k=>
   obtain rfl:=b (Y.symm.trans k);have a3:j[54]? =some (.bool true):=J6 og (i 28 _ 54 (C9 kr) x rfl);have d57:true=true->(j.getD 57 d)= .bool true:=i 31 _ 57 (C9 kr) X rfl;refine H7 rfl ?_;obtain⟨dI,da,bB⟩:=M8 (T:=j) (t:=57) og;rw[bB] at d57;clear bB;have f:true=true:=rfl
   ·have aE:=d57 f;subst aE;clear d57;clear i o y m r E F s V af aq az aA D aB G H z I J K A L M N B O P Q C R S T x U W X Y p Z aa ab ac ad ae q ag ah ai aj ak al u an ao ar au av ay;refine L5 fun aC n=> ?_;go_simp;exact n (.bool true) _ (c _ _) rfl
  |33,k=>obtain rfl:=b (p.symm.trans k);have db:j[58]? =some (.bool true):=J6 og (i 32 _ 58 (C9 kr) Y rfl);refine H7 rfl ?_;clear i o y m r E F s V af aq az aA D aB G H z I J K A L M N B O P Q C R S T x U W X Y p Z aa ab ac ad ae q ag ah ai aj ak al u an ao ar au av ay;refine L5 fun aC n=> ?_;go_simp;exact n (.bool true) _ (c _ _) (rfl)
  |34,k=>obtain rfl:=b (Z.symm.trans k);have a4:j[7]? =some (.pointer (some ⟨aI.heap.size,0,none⟩)):=o 7 (r 7 kr);refine W8 (T:=j) (j:=33) rfl p rfl (i 33 _ 59 (C9 kr) p rfl) og (fun f aP=> ?_) (fun f h=>by first|exact absurd f (by decide)|(rw[f] at h;cases h));clear i o y m r E F s V af aq az aA D aB G H z I J K A L M N B O P Q C R S T x U W X Y p Z aa ab ac ad ae q ag ah ai aj ak al u an ao ar au av ay;refine L5 fun aC n=> ?_;go_simp;exact n (.pointer (some ⟨aI.heap.size,4,none⟩)) _ (c _ _) (fun _=>rfl)
  |35,k=>obtain rfl:=b (aa.symm.trans k);refine W8 (T:=j) (j:=33) rfl p rfl (i 33 _ 59 (C9 kr) p rfl) og (fun f aP=> ?_) (fun f h=>by first|exact absurd f (by decide)|(rw[f] at h;cases h));have dd:j[60]? =some (.pointer (some ⟨aI.heap.size,4,none⟩)):=J6 og (i 34 _ 60 (C9 kr) Z rfl f);clear i o y m r E F s V af aq az aA D aB G H z I J K A L M N B O P Q C R S T x U W X Y p Z aa ab ac ad ae q ag ah ai aj ak al u an ao ar au av ay;obtain⟨aS,aT,aU,aV,aW,aX,aY⟩:=zxk (aR.out.next aJ);refine L5 fun aC n=> ?_;go_simp;exact n (.slice be bT sa) _ (c _ _) (fun _=>IsV.stb.next SV.out aJ)
  |36,k=>obtain rfl:=b (ab.symm.trans k);refine W8 (T:=j) (j:=33) rfl p rfl (i 33 _ 59 (C9 kr) p rfl) og (fun f aP=> ?_) (fun f h=>by first|exact absurd f (by decide)|(rw[f] at h;cases h));clear i o y m r E F s V af aq az aA D aB G H z I J K A L M N B O P Q C R S T x U W X Y p Z aa ab ac ad ae q ag ah ai aj ak al u an ao ar au av ay;refine L5 fun aC n=> ?_;go_simp;exact n (.slice (some ⟨aG.heap.size,0,none⟩) 2 2) _ (L8 _ _) (fun _=>⟨_,rfl,heap_alloc_new _ _⟩)
  |37,k=>obtain rfl:=b (ac.symm.trans k);refine W8 (T:=j) (j:=33) rfl p rfl (i 33 _ 59 (C9 kr) p rfl) og (fun f aP=> ?_) (fun f h=>by first|exact absurd f (by decide)|(rw[f] at h;cases h));have d62:∃g,(j.getD 62 d)= .slice (some ⟨g,0,none⟩) 2 2/\Row aG g 3 [.int .i64 4,.int .i64 0]:=i 36 _ 62 (C9 kr) ab rfl f;obtain⟨dK,df,a6⟩:=M8 (T:=j) (t:=62) og;rw[a6] at d62;clear a6;clear i o y m r E F s V af aq az aA D aB G H z I J K A L M N B O P Q C R S T x U W X Y p Z aa ab ac ad ae q ag ah ai aj ak al u an ao ar au av ay;obtain⟨a6,rfl,ct⟩:=d62;refine L5 fun aC n=> ?_;go_simp;refine(zva (l:=[4,0]) ct (by decide) (by decide)).mono ?_;rintro aE w' ⟨⟨v,rfl,hv⟩,aD⟩;exact n v w' aD (fun _=>IsV.stb.old hv)
  |38,k=>obtain rfl:=b (ad.symm.trans k);refine W8 (T:=j) (j:=33) rfl p rfl (i 33 _ 59 (C9 kr) p rfl) og (fun f aP=> ?_) (fun f h=>by first|exact absurd f (by decide)|(rw[f] at h;cases h));have d61:IsV aG (C3 aG) (j.getD 61 d) (C2 (U7 [4,0])):=i 35 _ 61 (C9 kr) aa rfl f;obtain⟨dJ,de,bC⟩:=M8 (T:=j) (t:=61) og;rw[bC] at d61;clear bC;have d63:IsV aG (C3 aG) (j.getD 63 d) (C2 (U7 [4,0])):=i 37 _ 63 (C9 kr) ac rfl f;obtain⟨dL,dh,bD⟩:=M8 (T:=j) (t:=63) og;rw[bD] at d63;clear bD;clear i o y m r E F s V af aq az aA D aB G H z I J K A L M N B O P Q C R S T x U W X Y p Z aa ab ac ad ae q ag ah ai aj ak al u an ao ar au av ay;refine L5 fun aC n=> ?_;go_simp;refine(zut d61 d63).mono ?_;rw[decide_eq_true rfl];rintro aE w' ⟨rfl,aD⟩;exact n _ w' aD (fun _=>rfl)
  |39,k=>
   obtain rfl:=b (ae.symm.trans k);have aP:j[59]? =some (.bool true):=J6 og (i 33 _ 59 (C9 kr) p rfl);have d64:true=true->(j.getD 64 d)= .bool true:=i 38 _ 64 (C9 kr) ad rfl;refine H7 rfl ?_;obtain⟨dM,di,bE⟩:=M8 (T:=j) (t:=64) og;rw[bE] at d64;clear bE;have f:true=true:=rfl
   ·have aE:=d64 f;subst aE;clear d64;clear i o y m r E F s V af aq az aA D aB G H z I J K A L M N B O P Q C R S T x U W X Y p Z aa ab ac ad ae q ag ah ai aj ak al u an ao ar au av ay;refine L5 fun aC n=> ?_;go_simp;exact n (.bool true) _ (c _ _) rfl
  |40,k=>obtain rfl:=b (q.symm.trans k);have dj:j[65]? =some (.bool true):=J6 og (i 39 _ 65 (C9 kr) ae rfl);refine H7 rfl ?_;clear i o y m r E F s V af aq az aA D aB G H z I J K A L M N B O P Q C R S T x U W X Y p Z aa ab ac ad ae q ag ah ai aj ak al u an ao ar au av ay;refine L5 fun aC n=> ?_;go_simp;exact n (.bool true) _ (c _ _) (rfl)
  |41,k=>obtain rfl:=b (ag.symm.trans k);have a4:j[7]? =some (.pointer (some ⟨aI.heap.size,0,none⟩)):=o 7 (r 7 kr);refine W8 (T:=j) (j:=40) rfl q rfl (i 40 _ 66 (C9 kr) q rfl) og (fun f aQ=> ?_) (fun f h=>by first|exact absurd f (by decide)|(rw[f] at h;cases h));clear i o y m r E F s V af aq az aA D aB G H z I J K A L M N B O P Q C R S T x U W X Y p Z aa ab ac ad ae q ag ah ai aj ak al u an ao ar au av ay;refine L5 fun aC n=> ?_;go_simp;exact n (.pointer (some ⟨aI.heap.size,5,none⟩)) _ (c _ _) (fun _=>rfl)
  |42,k=>obtain rfl:=b (ah.symm.trans k);refine W8 (T:=j) (j:=40) rfl q rfl (i 40 _ 66 (C9 kr) q rfl) og (fun f aQ=> ?_) (fun f h=>by first|exact absurd f (by decide)|(rw[f] at h;cases h));have dk:j[67]? =some (.pointer (some ⟨aI.heap.size,5,none⟩)):=J6 og (i 41 _ 67 (C9 kr) ag rfl f);clear i o y m r E F s V af aq az aA D aB G H z I J K A L M N B O P Q C R S T x U W X Y p Z aa ab ac ad ae q ag ah ai aj ak al u an ao ar au av ay;obtain⟨aS,aT,aU,aV,aW,aX,aY⟩:=zxk (aR.out.next aJ);refine L5 fun aC n=> ?_;go_simp;exact n (.slice bf bU sb) _ (c _ _) (fun _=>IsV.stb.next b1.out aJ)
  |43,k=>obtain rfl:=b (ai.symm.trans k);refine W8 (T:=j) (j:=40) rfl q rfl (i 40 _ 66 (C9 kr) q rfl) og (fun f aQ=> ?_) (fun f h=>by first|exact absurd f (by decide)|(rw[f] at h;cases h));clear i o y m r E F s V af aq az aA D aB G H z I J K A L M N B O P Q C R S T x U W X Y p Z aa ab ac ad ae q ag ah ai aj ak al u an ao ar au av ay;refine L5 fun aC n=> ?_;go_simp;exact n (.slice (some ⟨aG.heap.size,0,none⟩) 2 2) _ (L8 _ _) (fun _=>⟨_,rfl,heap_alloc_new _ _⟩)
  |44,k=>obtain rfl:=b (aj.symm.trans k);refine W8 (T:=j) (j:=40) rfl q rfl (i 40 _ 66 (C9 kr) q rfl) og (fun f aQ=> ?_) (fun f h=>by first|exact absurd f (by decide)|(rw[f] at h;cases h));have d69:∃g,(j.getD 69 d)= .slice (some ⟨g,0,none⟩) 2 2/\Row aG g 3 [.int .i64 3,.int .i64 0]:=i 43 _ 69 (C9 kr) ai rfl f;obtain⟨dO,dn,a7⟩:=M8 (T:=j) (t:=69) og;rw[a7] at d69;clear a7;clear i o y m r E F s V af aq az aA D aB G H z I J K A L M N B O P Q C R S T x U W X Y p Z aa ab ac ad ae q ag ah ai aj ak al u an ao ar au av ay;obtain⟨a7,rfl,cu⟩:=d69;refine L5 fun aC n=> ?_;go_simp;refine(zva (l:=[3,0]) cu (by decide) (by decide)).mono ?_;rintro aE w' ⟨⟨v,rfl,hv⟩,aD⟩;exact n v w' aD (fun _=>IsV.stb.old hv)
  |45,k=>obtain rfl:=b (ak.symm.trans k);refine W8 (T:=j) (j:=40) rfl q rfl (i 40 _ 66 (C9 kr) q rfl) og (fun f aQ=> ?_) (fun f h=>by first|exact absurd f (by decide)|(rw[f] at h;cases h));have d68:IsV aG (C3 aG) (j.getD 68 d) (C2 (U7 [3,0])):=i 42 _ 68 (C9 kr) ah rfl f;obtain⟨dN,dm,bF⟩:=M8 (T:=j) (t:=68) og;rw[bF] at d68;clear bF;have d70:IsV aG (C3 aG) (j.getD 70 d) (C2 (U7 [3,0])):=i 44 _ 70 (C9 kr) aj rfl f;obtain⟨dP,dp,bG⟩:=M8 (T:=j) (t:=70) og;rw[bG] at d70;clear bG;clear i o y m r E F s V af aq az aA D aB G H z I J K A L M N B O P Q C R S T x U W X Y p Z aa ab ac ad ae q ag ah ai aj ak al u an ao ar au av ay;refine L5 fun aC n=> ?_;go_simp;refine(zut d68 d70).mono ?_;rw[decide_eq_true rfl];rintro aE w' ⟨rfl,aD⟩;exact n _ w' aD (fun _=>rfl)
  |46,k=>
   obtain rfl:=b (al.symm.trans k);have aQ:j[66]? =some (.bool true):=J6 og (i 40 _ 66 (C9 kr) q rfl);have d71:true=true->(j.getD 71 d)= .bool true:=i 45 _ 71 (C9 kr) ak rfl;refine H7 rfl ?_;obtain⟨dQ,dq,bH⟩:=M8 (T:=j) (t:=71) og;rw[bH] at d71;clear bH;have f:true=true:=rfl
   ·have aE:=d71 f;subst aE;clear d71;clear i o y m r E F s V af aq az aA D aB G H z I J K A L M N B O P Q C R S T x U W X Y p Z aa ab ac ad ae q ag ah ai aj ak al u an ao ar au av ay;refine L5 fun aC n=> ?_;go_simp;exact n (.bool true) _ (c _ _) rfl
  |47,k=>obtain rfl:=b (u.symm.trans k);have dr:j[72]? =some (.bool true):=J6 og (i 46 _ 72 (C9 kr) al rfl);refine H7 rfl ?_;clear i o y m r E F s V af aq az aA D aB G H z I J K A L M N B O P Q C R S T x U W X Y p Z aa ab ac ad ae q ag ah ai aj ak al u an ao ar au av ay;refine L5 fun aC n=> ?_;go_simp;exact n (.bool true) _ (c _ _) (rfl)
  |48,k=>obtain rfl:=b (an.symm.trans k);have a4:j[7]? =some (.pointer (some ⟨aI.heap.size,0,none⟩)):=o 7 (r 7 kr);refine W8 (T:=j) (j:=47) rfl u rfl (i 47 _ 73 (C9 kr) u rfl) og (fun f a0=> ?_) (fun f h=>by first|exact absurd f (by decide)|(rw[f] at h;cases h));clear i o y m r E F s V af aq az aA D aB G H z I J K A L M N B O P Q C R S T x U W X Y p Z aa ab ac ad ae q ag ah ai aj ak al u an ao ar au av ay;refine L5 fun aC n=> ?_;go_simp;exact n (.pointer (some ⟨aI.heap.size,1,none⟩)) _ (c _ _) (fun _=>rfl)
  |49,k=>obtain rfl:=b (ao.symm.trans k);refine W8 (T:=j) (j:=47) rfl u rfl (i 47 _ 73 (C9 kr) u rfl) og (fun f a0=> ?_) (fun f h=>by first|exact absurd f (by decide)|(rw[f] at h;cases h));have ds:j[74]? =some (.pointer (some ⟨aI.heap.size,1,none⟩)):=J6 og (i 48 _ 74 (C9 kr) an rfl f);clear i o y m r E F s V af aq az aA D aB G H z I J K A L M N B O P Q C R S T x U W X Y p Z aa ab ac ad ae q ag ah ai aj ak al u an ao ar au av ay;obtain⟨aS,aT,aU,aV,aW,aX,aY⟩:=zxk (aR.out.next aJ);refine L5 fun aC n=> ?_;go_simp;exact n (.agg #[.bool bY,.slice SP bQ bX,.slice bd bR sl]) _ (c _ _) (fun _=>IsR.stb.next b0.out aJ)
  |50,k=>obtain rfl:=b (ar.symm.trans k);refine W8 (T:=j) (j:=47) rfl u rfl (i 47 _ 73 (C9 kr) u rfl) og (fun f a0=> ?_) (fun f h=>by first|exact absurd f (by decide)|(rw[f] at h;cases h));clear i o y m r E F s V af aq az aA D aB G H z I J K A L M N B O P Q C R S T x U W X Y p Z aa ab ac ad ae q ag ah ai aj ak al u an ao ar au av ay;refine L5 fun aC n=> ?_;go_simp;refine(zze (a:=12) (b:=1) og og og).mono ?_;rintro aE w' ⟨⟨v,rfl,hv⟩,aD⟩;exact n v w' aD (fun _=>IsQ.stb.old hv)
  |51,k=>obtain rfl:=b (au.symm.trans k);refine W8 (T:=j) (j:=47) rfl u rfl (i 47 _ 73 (C9 kr) u rfl) og (fun f a0=> ?_) (fun f h=>by first|exact absurd f (by decide)|(rw[f] at h;cases h));have d75:IsR aG (C3 aG) (j.getD 75 d) (C7 (zlo 12 1)):=i 49 _ 75 (C9 kr) ao rfl f;obtain⟨dR,dt,bI⟩:=M8 (T:=j) (t:=75) og;rw[bI] at d75;clear bI;have d76:IsQ aG (C3 aG) (j.getD 76 d) (zlo 12 1):=i 50 _ 76 (C9 kr) ar rfl f;obtain⟨dS,du,bJ⟩:=M8 (T:=j) (t:=76) og;rw[bJ] at d76;clear bJ;clear i o y m r E F s V af aq az aA D aB G H z I J K A L M N B O P Q C R S T x U W X Y p Z aa ab ac ad ae q ag ah ai aj ak al u an ao ar au av ay;refine L5 fun aC n=> ?_;go_simp;refine(zzm d75 d76).mono ?_;rw[decide_eq_true rfl];rintro aE w' ⟨rfl,aD⟩;exact n _ w' aD (fun _=>rfl)
  |52,k=>
   obtain rfl:=b (av.symm.trans k);have a0:j[73]? =some (.bool true):=J6 og (i 47 _ 73 (C9 kr) u rfl);have d77:true=true->(j.getD 77 d)= .bool true:=i 51 _ 77 (C9 kr) au rfl;refine H7 rfl ?_;obtain⟨dT,dv,bK⟩:=M8 (T:=j) (t:=77) og;rw[bK] at d77;clear bK;have f:true=true:=rfl
   ·have aE:=d77 f;subst aE;clear d77;clear i o y m r E F s V af aq az aA D aB G H z I J K A L M N B O P Q C R S T x U W X Y p Z aa ab ac ad ae q ag ah ai aj ak al u an ao ar au av ay;refine L5 fun aC n=> ?_;go_simp;exact n (.bool true) _ (c _ _) rfl
  |53,k=>obtain rfl:=b (ay.symm.trans k);have dw:j[78]? =some (.bool true):=J6 og (i 52 _ 78 (C9 kr) av rfl);refine H7 rfl ?_;clear i o y m r E F s V af aq az aA D aB G H z I J K A L M N B O P Q C R S T x U W X Y p Z aa ab ac ad ae q ag ah ai aj ak al u an ao ar au av ay;refine L5 fun aC n=> ?_;go_simp;exact n (.bool true) _ (c _ _) (rfl)
  |_+54,k=>rw[m] at k;cases k
 case fin=>intro a aG y a9 aJ o bP;obtain⟨⟨l⟩,a2⟩:=a;replace y:l.length=79:=y;obtain⟨cg,rfl⟩:=yyd y;obtain rfl:a2=[]:=a9;have bi:cg 0= .bool true:=bP 53 _ 0 ay rfl;clear m r E F s V af aq az aA D aB G H z I J K A L M N B O P Q C R S T x U W X Y p Z aa ab ac ad ae q ag ah ai aj ak al u an ao ar au av ay;clear bP o y;rw[bi];clear bi;go_wp2_with fail;go_ret;exact⟨rfl,C6 aH.out aJ⟩
end Go.Proofs.YtlhhbccgfkhflaaGreatDoor
