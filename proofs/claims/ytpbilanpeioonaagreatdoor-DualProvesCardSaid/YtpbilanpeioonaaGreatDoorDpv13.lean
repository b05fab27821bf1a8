/-
 Package dual's last check of a solution that has a greatest value,and b walk.
-/
import Derived.Test.YtpbilanpeioonaaGreatDoorDpv12
import Derived.Maps.OwnSet
import Derived.OrdersHeld
import Derived.Below
namespace Go.Proofs.YtpbilanpeioonaaGreatDoor
open Go.RowKit
set_option linter.unusedVariables false
open Go.RowKit Go.Maps
set_option maxRecDepth 100000
set_option maxHeartbeats 8000000
open _root_.Go.Lib renaming hid → n
open _root_.Array renaming getElem?_eq_getElem → q, getD_eq_getD_getElem? → r
open _root_.Bool renaming and_eq_true → u
open _root_.Go renaming World → f, Value → k, Calls → j, TypeId → s, Program → y, undef → m, Oper → h
open _root_.Go.RowKit renaming Below → e, Hid → a
open _root_.Go.Proofs.Tryz renaming prog → d
variable {b : Bool} {g i : Nat} {o : h} {p : Prog} {t : s} {v : k}
theorem yib {a b:Rat}:(Z0 a b==0)=decide (a=b):=by rw[Bool.eq_iff_iff,beq_iff_eq,decide_eq_true_eq];exact yia
def zrj (q:ProgQ) (x y:List Rat) (z:Rat):Bool:=decide (K9 q.C x=z)&&decide (K9 q.B y=z)
theorem yzt {w:f} {s:Sol} {q:ProgQ} {x y:List Rat} {z:Rat} (h:IsPS w (C6 w) v p s) (a0:Bru w) (u:OptQ p s q x y z):j d 224 #[v] w fun g w'=>g= .returned (.bool (zrj q x y z))/\e w.heap.size w w':=by
 obtain⟨A,be,B,ad,C,U,P,G,Q,H,X,V,D,ae,R,bf,rfl,aZ,aG,aH,a2,aJ,hD,aI⟩:=h;obtain⟨bm,a6,a7,a9,bd,a8,bp,L⟩:=zmc aZ aG aH a2 aJ hD aI a0;have bw:=M6 aG;have bx:=M6 aH;have bC:=M6 aJ;have bA:=M6 hD;have bB:=M6 aI;clear aZ aG aH a2 aJ hD aI a0;have i:=n u;unfold zrj;obtain⟨m,af⟩:=nm (K9 q.C x);obtain⟨t,C7⟩:=nm (K9 q.B y);rw[<-af,<-C7];obtain⟨aY,aK⟩:=nm (decide (m=z));obtain⟨b2,aL⟩:=nm (decide (t=z));obtain⟨ag,aM⟩:=nm (Z0 m z);obtain⟨aR,aN⟩:=nm (Z0 t z);have bD:(ag==0)=aY:=(by rw[aM,aK];exact yib);have bE:(aR==0)=b2:=(by rw[aN,aL];exact yib);rw[<-aK,<-aL];obtain⟨al,aV,an,aW⟩:=U2 af C7 aM aN;have ao:a (Sz m 100000):=(by rw[a,af];exact zve u.good.szC u.sx u.good.nC);have aX:a (Sz t 100000):=(by rw[a,C7];exact zve u.good.szB u.sy u.good.nB);have N:a (Sz z 100000):=u.sz.le og;have aT:a (∀b:f,e w.heap.size w b->IsV b (C6 b) (.slice B p.B.length ad) (C5 q.B)):=fun b l=>(by have g:p.B=C5 q.B:=(by rw[i.out.prog];rfl);rw[<-g];exact IsV.stb.to a6.out (E0 l));have aj:a (∀b:f,e w.heap.size w b->IsV b (C6 b) (.slice C p.C.length U) (C5 q.C)):=fun b l=>(by have g:p.C=C5 q.C:=(by rw[i.out.prog];rfl);rw[<-g];exact IsV.stb.to a7.out (E0 l));have ak:a (∀b:f,e w.heap.size w b->IsV b (C6 b) (.slice X s.X.length V) (C5 x)):=fun b l=>(by rw[<-i.out.X];exact IsV.stb.to bd.out (E0 l));have aU:a (∀b:f,e w.heap.size w b->IsV b (C6 b) (.slice D s.D.length ae) (C5 y)):=fun b l=>(by rw[<-i.out.D];exact IsV.stb.to a8.out (E0 l));have M:a (∀b:f,e w.heap.size w b->IsQ b (C6 b) (.agg #[.bool s.val.neg,.slice P s.val.num.length G,.slice Q s.val.den.length H]) z):=fun b l=>(by have h:=IsR.stb.to a9.out (E0 l);have g:=i.out.val;unfold IsQ;rw[<-g];exact h);clear aK aL u af C7 aM aN;obtain⟨c,aO,k,o,bq⟩:=J7 w #[.slice A p.A.length be,.slice B p.B.length ad,.slice C p.C.length U,.int .i64 s.st,.bool s.val.neg,.slice P s.val.num.length G,.slice Q s.val.den.length H,.slice X s.X.length V,.slice D s.D.length ae,.slice R s.R.length bf] 145;obtain⟨bn,br⟩:=C7 k o;have bt:=(o.cell 0:c.cell? ⟨w.heap.size,0,none⟩=some _);have ay:=(o.cell 1:c.cell? ⟨w.heap.size,1,none⟩=some _);have az:=(o.cell 2:c.cell? ⟨w.heap.size,2,none⟩=some _);have bu:=(o.cell 3:c.cell? ⟨w.heap.size,3,none⟩=some _);have aA:=(o.cell 4:c.cell? ⟨w.heap.size,4,none⟩=some _);have aB:=(o.cell 5:c.cell? ⟨w.heap.size,5,none⟩=some _);have aC:=(o.cell 6:c.cell? ⟨w.heap.size,6,none⟩=some _);have aD:=(o.cell 7:c.cell? ⟨w.heap.size,7,none⟩=some _);have aE:=(o.cell 8:c.cell? ⟨w.heap.size,8,none⟩=some _);have bv:=(o.cell 9:c.cell? ⟨w.heap.size,9,none⟩=some _);clear o;cases aY with
 |false=>
  go_in;go_wp2_with fail;clear aO;have r:=hs7 ay az aA aB aC aD aE;have J:a (∀b:f,e c.heap.size c b->j d 117 #[.slice C p.C.length U,.slice X s.X.length V] b (L5 b m)):=fun b l=>(by rw[al.out];exact znr (M:=q.C.length) (aj.out _ (C8 k (show e c.heap.size c b from bel))) (ak.out _ (C8 k (show e c.heap.size c b from bel))) (Bru.next L.out (C8 k (show e c.heap.size c b from bel))) rfl i.out.lx i.out.good.nC i.out.good.szC i.out.sx);refine wp_region_noPanic ?_;refine zmd r fun a1=> ?_;refine sT 0 3 ?_;refine sT 1 4 ?_;refine sT 2 5 ?_;refine sT 3 6 ?_;refine sT 4 7 ?_;refine sT 5 8 ?_;refine sT 6 9 ?_;refine sT 8 11 ?_;refine sT 9 12 ?_;refine sT 10 13 ?_;refine wpAnyH_ready (rs:=[7]) kr (by simp) ?_;refine AllReadyH.cons rfl (fun aq W=> ?_) AllReadyH.nil;go_simp;go_at_call 117;(with_reducible refine Calls.mono (J.out _ bel) ?_)
  rintro g F ⟨⟨a5,rfl,E⟩,a3⟩;have T:=n (IsQ.stb.old E);obtain⟨ab,S,Z,O,aa,rfl,_,_,_⟩:=G4 E;have K:a (∀b:f,e F.heap.size F b->j d 116 #[.agg #[.bool ab,.slice S (A9 m.num.natAbs).length Z,.slice O (A9 m.den).length aa],.agg #[.bool s.val.neg,.slice P s.val.num.length G,.slice Q s.val.den.length H]] b (fun g w'=>g= .returned (.int .i64 ag)/\e b.heap.size b w')):=fun b l=>(by rw[an.out];exact zsf (IsQ.stb.next T.out bel) (M.out _ (C8 k (show e c.heap.size c b from bel))) ao.out N.out);go_wp2_with fail;refine W.out _ _ (r.out _ bel) (fun a1=> ?_);clear W aq;refine wpAnyH_ready (rs:=[11]) kr (by simp) ?_;refine AllReadyH.cons rfl (fun aq W=> ?_) AllReadyH.nil;go_simp;go_at_call 116;(with_reducible refine Calls.mono (K.out _ bel) ?_)
  rintro g I ⟨rfl,a4⟩;go_wp2_with fail;refine W.out _ _ (r.out _ bel) (fun a1=> ?_);clear W aq;refine sT 12 15 ?_;refine sT 13 16 ?_;refine sU 14 17 ?_;refine sU 15 18 ?_;refine sU 16 19 ?_;refine sU 17 20 ?_;refine sU 18 21 ?_;refine sU 19 22 ?_;refine sU 20 23 ?_;refine sU 21 24 ?_;refine sU 22 25 ?_;refine sU 23 26 ?_;refine sU 24 27 ?_;refine sU 25 28 ?_;refine sU 26 29 ?_;refine sT 27 30 ?_;refine sT 28 2 ?_;refine wpAnyH_done kr ?_ _;refine NoPanic.normal ?_
  all_goals
   go_wp2_with fail
   go_ret
   exact⟨rfl,C8 k (show e c.heap.size c _ from bel)⟩
 |true=>
  cases b2 with
  |false=>
   go_in;go_wp2_with fail;clear aO;have r:=hs7 ay az aA aB aC aD aE;have J:a (∀b:f,e c.heap.size c b->j d 117 #[.slice C p.C.length U,.slice X s.X.length V] b (L5 b m)):=fun b l=>by rw[al.out];exact znr (M:=q.C.length) (aj.out _ (C8 k (show e c.heap.size c b from bel))) (ak.out _ (C8 k (show e c.heap.size c b from bel))) (Bru.next L.out (C8 k (show e c.heap.size c b from bel))) rfl i.out.lx i.out.good.nC i.out.good.szC i.out.sx
   go_region_held3 (SH.mk _ r).s
    (exact r.out _ bel)
    (first
      |(go_at_call 117;(with_reducible refine Calls.mono (J.out _ bel) ?_);rintro g F ⟨⟨a5,rfl,E⟩,a3⟩;have T:=n (IsQ.stb.old E);obtain⟨ab,S,Z,O,aa,rfl,_,_,_⟩:=G4 E;have K:a (∀b:f,e F.heap.size F b->j d 116 #[.agg #[.bool ab,.slice S (A9 m.num.natAbs).length Z,.slice O (A9 m.den).length aa],.agg #[.bool s.val.neg,.slice P s.val.num.length G,.slice Q s.val.den.length H]] b (fun g w'=>g= .returned (.int .i64 ag)/\e b.heap.size b w')):=fun b l=>by rw[an.out];exact zsf (IsQ.stb.next T.out bel) (M.out _ (C8 k (show e c.heap.size c b from bel))) ao.out N.out)
      |(go_at_call 116;(with_reducible refine Calls.mono (K.out _ bel) ?_);rintro g I ⟨rfl,a4⟩;have ah:a (∀b:f,e I.heap.size I b->j d 117 #[.slice B p.B.length ad,.slice D s.D.length ae] b (L5 b t)):=fun b l=>by rw[aV.out];exact znr (M:=q.B.length) (aT.out _ (C8 k (show e c.heap.size c b from bel))) (aU.out _ (C8 k (show e c.heap.size c b from bel))) (Bru.next L.out (C8 k (show e c.heap.size c b from bel))) rfl i.out.ly i.out.good.nB i.out.good.szB i.out.sy)
      |(go_at_call 117;(with_reducible refine Calls.mono (ah.out _ bel) ?_);rintro g ac ⟨⟨bi,rfl,Y⟩,bg⟩;have av:=n (IsQ.stb.old Y);obtain⟨aS,au,aP,ar,aQ,rfl,_,_,_⟩:=G4 Y;have ai:a (∀b:f,e ac.heap.size ac b->j d 116 #[.agg #[.bool aS,.slice au (A9 t.num.natAbs).length aP,.slice ar (A9 t.den).length aQ],.agg #[.bool s.val.neg,.slice P s.val.num.length G,.slice Q s.val.den.length H]] b (fun g w'=>g= .returned (.int .i64 aR)/\e b.heap.size b w')):=fun b l=>by rw[aW.out];exact zsf (IsQ.stb.next av.out bel) (M.out _ (C8 k (show e c.heap.size c b from bel))) aX.out N.out)
      |(go_at_call 116;(with_reducible refine Calls.mono (ai.out _ bel) ?_);rintro g bj ⟨rfl,bh⟩))
   all_goals
    go_wp2_with fail
    go_ret
    exact⟨rfl,C8 k (show e c.heap.size c _ from bel)⟩
  |true=>
   go_in;go_wp2_with fail;clear aO;have r:=hs7 ay az aA aB aC aD aE;have J:a (∀b:f,e c.heap.size c b->j d 117 #[.slice C p.C.length U,.slice X s.X.length V] b (L5 b m)):=fun b l=>by rw[al.out];exact znr (M:=q.C.length) (aj.out _ (C8 k (show e c.heap.size c b from bel))) (ak.out _ (C8 k (show e c.heap.size c b from bel))) (Bru.next L.out (C8 k (show e c.heap.size c b from bel))) rfl i.out.lx i.out.good.nC i.out.good.szC i.out.sx
   go_region_held3 (SH.mk _ r).s
    (exact r.out _ bel)
    (first
      |(go_at_call 117;(with_reducible refine Calls.mono (J.out _ bel) ?_);rintro g F ⟨⟨a5,rfl,E⟩,a3⟩;have T:=n (IsQ.stb.old E);obtain⟨ab,S,Z,O,aa,rfl,_,_,_⟩:=G4 E;have K:a (∀b:f,e F.heap.size F b->j d 116 #[.agg #[.bool ab,.slice S (A9 m.num.natAbs).length Z,.slice O (A9 m.den).length aa],.agg #[.bool s.val.neg,.slice P s.val.num.length G,.slice Q s.val.den.length H]] b (fun g w'=>g= .returned (.int .i64 ag)/\e b.heap.size b w')):=fun b l=>by rw[an.out];exact zsf (IsQ.stb.next T.out bel) (M.out _ (C8 k (show e c.heap.size c b from bel))) ao.out N.out)
      |(go_at_call 116;(with_reducible refine Calls.mono (K.out _ bel) ?_);rintro g I ⟨rfl,a4⟩;have ah:a (∀b:f,e I.heap.size I b->j d 117 #[.slice B p.B.length ad,.slice D s.D.length ae] b (L5 b t)):=fun b l=>by rw[aV.out];exact znr (M:=q.B.length) (aT.out _ (C8 k (show e c.heap.size c b from bel))) (aU.out _ (C8 k (show e c.heap.size c b from bel))) (Bru.next L.out (C8 k (show e c.heap.size c b from bel))) rfl i.out.ly i.out.good.nB i.out.good.szB i.out.sy)
      |(go_at_call 117;(with_reducible refine Calls.mono (ah.out _ bel) ?_);rintro g ac ⟨⟨bi,rfl,Y⟩,bg⟩;have av:=n (IsQ.stb.old Y);obtain⟨aS,au,aP,ar,aQ,rfl,_,_,_⟩:=G4 Y;have ai:a (∀b:f,e ac.heap.size ac b->j d 116 #[.agg #[.bool aS,.slice au (A9 t.num.natAbs).length aP,.slice ar (A9 t.den).length aQ],.agg #[.bool s.val.neg,.slice P s.val.num.length G,.slice Q s.val.den.length H]] b (fun g w'=>g= .returned (.int .i64 aR)/\e b.heap.size b w')):=fun b l=>by rw[aW.out];exact zsf (IsQ.stb.next av.out bel) (M.out _ (C8 k (show e c.heap.size c b from bel))) aX.out N.out)
      |(go_at_call 116;(with_reducible refine Calls.mono (ai.out _ bel) ?_);rintro g bj ⟨rfl,bh⟩))
   all_goals
    go_wp2_with fail
    go_ret
    exact⟨rfl,C8 k (show e c.heap.size c _ from bel)⟩
theorem ymd {w:f} {s:Sol} {b2 b3:Bool} (h:IsPS w (C6 w) v p s) (O:Bru w) (N:znj p s=true->∃q x y z,OptQ p s q x y z/\b2=zse q x y/\b3=zrj q x y z):
 j d 225 #[v] w fun M w'=>M= .returned (.bool (znj p s&&b2&&b3))/\e w.heap.size w w':=by obtain⟨H,I,K⟩:=H7 h O N;obtain⟨A,l,B,m,C,n,P,r,Q,t,X,E,D,o,R,u,rfl,_⟩:=h;clear O N;have V:a (∀b,e w.heap.size w b->zpi b 226 (.agg #[.slice A p.A.length l,.slice B p.B.length m,.slice C p.C.length n,.int .i64 s.st,.bool s.val.neg,.slice P s.val.num.length r,.slice Q s.val.den.length t,.slice X s.X.length E,.slice D s.D.length o,.slice R s.R.length u]) (znj p s)):=fun b i L k=>yzv (IsPS.to H.out (E0 (C8 i k))) (Bru.next I.out (C8 i k));have W:a (znj p s=true->∀b,e w.heap.size w b->zpi b 227 (.agg #[.slice A p.A.length l,.slice B p.B.length m,.slice C p.C.length n,.int .i64 s.st,.bool s.val.neg,.slice P s.val.num.length r,.slice Q s.val.den.length t,.slice X s.X.length E,.slice D s.D.length o,.slice R s.R.length u]) b2):=fun F b i L k=>(by obtain⟨q,x,y,z,J,aa,_⟩:=K.out F;rw[aa];exact yzu (IsPS.to H.out (E0 (C8 i k))) (Bru.next I.out (C8 i k)) J);have Y:a (znj p s=true->∀b,e w.heap.size w b->zpi b 224 (.agg #[.slice A p.A.length l,.slice B p.B.length m,.slice C p.C.length n,.int .i64 s.st,.bool s.val.neg,.slice P s.val.num.length r,.slice Q s.val.den.length t,.slice X s.X.length E,.slice D s.D.length o,.slice R s.R.length u]) b3):=fun F b i L k=>(by obtain⟨q,x,y,z,J,_,ab⟩:=K.out F;rw[ab];exact yzt (IsPS.to H.out (E0 (C8 i k))) (Bru.next I.out (C8 i k)) J);obtain⟨c,ad,S,g,af⟩:=J7 w #[.slice A p.A.length l,.slice B p.B.length m,.slice C p.C.length n,.int .i64 s.st,.bool s.val.neg,.slice P s.val.num.length r,.slice Q s.val.den.length t,.slice X s.X.length E,.slice D s.D.length o,.slice R s.R.length u] 145;have ah:=(g.cell 0:c.cell? ⟨w.heap.size,0,none⟩=some _);have ai:=(g.cell 1:c.cell? ⟨w.heap.size,1,none⟩=some _);have aj:=(g.cell 2:c.cell? ⟨w.heap.size,2,none⟩=some _);have ak:=(g.cell 3:c.cell? ⟨w.heap.size,3,none⟩=some _);have al:=(g.cell 4:c.cell? ⟨w.heap.size,4,none⟩=some _);have an:=(g.cell 5:c.cell? ⟨w.heap.size,5,none⟩=some _);have ao:=(g.cell 6:c.cell? ⟨w.heap.size,6,none⟩=some _);have aq:=(g.cell 7:c.cell? ⟨w.heap.size,7,none⟩=some _);have ar:=(g.cell 8:c.cell? ⟨w.heap.size,8,none⟩=some _);have au:=(g.cell 9:c.cell? ⟨w.heap.size,9,none⟩=some _);obtain⟨av,ae,T,U,ag⟩:=J7 c #[.func (.func 226) #[.agg #[.slice A p.A.length l,.slice B p.B.length m,.slice C p.C.length n,.int .i64 s.st,.bool s.val.neg,.slice P s.val.num.length r,.slice Q s.val.den.length t,.slice X s.X.length E,.slice D s.D.length o,.slice R s.R.length u]] #[],.func (.func 227) #[.agg #[.slice A p.A.length l,.slice B p.B.length m,.slice C p.C.length n,.int .i64 s.st,.bool s.val.neg,.slice P s.val.num.length r,.slice Q s.val.den.length t,.slice X s.X.length E,.slice D s.D.length o,.slice R s.R.length u]] #[],.func (.func 224) #[.agg #[.slice A p.A.length l,.slice B p.B.length m,.slice C p.C.length n,.int .i64 s.st,.bool s.val.neg,.slice P s.val.num.length r,.slice Q s.val.den.length t,.slice X s.X.length E,.slice D s.D.length o,.slice R s.R.length u]] #[]] 239;obtain⟨G,Z⟩:=C7 (C8 S T) U;clear S g T U;go_in;go_wp2_with fail;refine(ycd (b2:=b2) (b3:=b3) Z.out (fun _=>by kernel_rfl) (fun _=>by kernel_rfl) (fun _=>by kernel_rfl) (V.out _ G.out) (fun F=>W.out F _ G.out) (fun F _=>Y.out F _ G.out)).mono ?_;rintro M ay ⟨rfl,ac⟩;clear ad ae;go_wp2_with fail;go_ret;exact⟨rfl,C8 G.out ac⟩
def zvb (v:k):Option (DataW k×List MemPlace):=some (.held v,[])
theorem yfy {e:Type} {P:y} (w:f) {ops:Array h} {rest:List h} {a:Act} {Q:Exit->Act->f->Prop}
 (r:o.guard=none) (j x v:Operand) (t:s) (B:o.op=Op.insert t j x v)
 (c n:s) (l:Keyed P c) (F:P.underlying t=some (.map c n)) (R:k->Option (DataW e×List MemPlace)) (b g:Nat) (D:DataW e)
 (z:a.eval j= .map (some b)) (C:w.ownsMap P c R b g D) (A:g<maxLen) (key val:k) (i:Lit) (H:a.eval x=key) (hv:a.eval v=val) (u:keyOf P c key=some i)
 (d:DataW e) (I:List MemPlace) (G:R val=some (d,I))
 (p:∀w',w'.ownsMap P c R b (g+1) (D.put i d)->w.grownBy w' (some b)->wpList P ops Q rest (a.put o.dst m) w'):
 wpList P ops Q (o::rest) a w:=by refine wpList_plain r fun L q=> ?_;obtain⟨w',E,J,K⟩:=C.update l F A u G;unfold Oper.wp;simp[execOp,B,z,H,hv,E,Result.andThen];exact q _ _ (p w' J K)
theorem Row.grownB {w w':f} {b:Nat} {a:List k} (h:Row w g t a) (d:w.grownBy w' (some b)) (e:g≠b):Row w' g t a:=(d.block g h.lt (fun c=>e (by cases c;rfl))).trans h
theorem zz1519 {P:y} (w:f) {ops:Array h} {rest:List h} {a:Act} {Q:Exit->Act->f->Prop} (r:o.guard=none) (g x:Operand) (t:s) (A:o.op=Op.lookup t g x true)
 (c e:s) (m:Keyed P c) (C:P.underlying t=some (.map c e)) (F:(zeroValue e).run P w= .ok .nilIface w) (b l:Nat) (D:DataW k) (z:a.eval g= .map (some b)) (B:w.ownsMap P c zvb b l D) (key:k) (d:Lit) (E:a.eval x=key) (u:keyOf P c key=some d)
 (v:k) (i:Bool) (n:D.atKey d (.held .nilIface)= .held v) (p:Maps.has D d=i) (q:wpList P ops Q rest (a.put o.dst (.tuple #[v,.bool i])) w):wpList P ops Q (o::rest) a w:=
 wpList_lookup_own_ok w r g x t A c e m C zvb F (.held .nilIface) [] rfl b l D z B key d E u (fun G H hv=>by
  have j:DataW.held G=D.atKey d (.held .nilIface):=congrArg Prod.fst (Option.some.inj hv)
  rw[n] at j
  cases j
  rw[p]
  exact q)
theorem zzn:Keyed d 3:=int_keyed Tryz.underlying3
theorem zzm {x:Int} (h:(Lit.int .i64 x).wf=true):keyOf d 3 (.int .i64 x)=some (.int .i64 x):=keyOf_int_mk Tryz.underlying3 h
theorem zz1524 (w:f):(zeroValue 150).run d w= .ok .nilIface w:=by kernel_rfl
theorem zwq {w:f} {a b e d i j h:k} (c:Row w g t [a,b,e,d,i,j,h]):w.cell? ⟨g,0,none⟩=some a/\w.cell? ⟨g,1,none⟩=some b/\w.cell? ⟨g,2,none⟩=some e/\w.cell? ⟨g,3,none⟩=some d/\w.cell? ⟨g,4,none⟩=some i/\w.cell? ⟨g,5,none⟩=some j/\w.cell? ⟨g,6,none⟩=some h:=
 ⟨c.cell 0,c.cell 1,c.cell 2,c.cell 3,c.cell 4,c.cell 5,c.cell 6⟩
abbrev ygs (v:k):DataW k:=(((DataW.map []).put (.int .i64 1) (.held (.iface 145 v))).put (.int .i64 2) (.held (.iface 146 v))).put (.int .i64 3) (.held (.iface 147 v))
theorem ycb {g:Int} {T x:Nat} {w:f} {vp vs:k} {s:Sol} (ag:IsP w (C6 w) vp p) (aV:IsSol w (C6 w) vs s) (aL:Bru w) (aC:znq p=0) (hst:s.st=g) (aP:(Lit.int .i64 g).wf=true) (U:∀(v:k) (w:f),(method 295 T v "parlour/dual.proves").run d w= .ok (x,v) w/\(method 303 T v "parlour/dual.proves").run d w= .ok (x,v) w/\(method 343 T v "parlour/dual.proves").run d w= .ok (x,v) w)
 (hF:∀(a:Array k) (w:f),(callFunc x a).run d w= .ok (.enter x a) w) (aN:∀v:k,(ygs v).atKey (.int .i64 g) (.held .nilIface)= .held (.iface T v)) (aM:∀v:k,Maps.has (ygs v) (.int .i64 g)=true)
 (hD:∀v,IsPS w (C6 w) v p s->∀G,e w.heap.size w G->j d x #[v] G fun z w'=>z= .returned (.bool b)/\e G.heap.size G w'):
 j d 45 #[vp,vs] w fun z w'=>z= .returned (.tuple #[.bool b,.int .i64 0])/\e w.heap.size w w':=by
 have aU:∃A h B i C l P o Q q X t D m R r,vp= .agg #[.slice A p.A.length h,.slice B p.B.length i,.slice C p.C.length l]/\vs= .agg #[.int .i64 s.st,.bool s.val.neg,.slice P s.val.num.length o,.slice Q s.val.den.length q,.slice X s.X.length t,.slice D s.D.length m,.slice R s.R.length r]/\IsPS w (C6 w) (.agg #[.slice A p.A.length h,.slice B p.B.length i,.slice C p.C.length l,.int .i64 s.st,.bool s.val.neg,.slice P s.val.num.length o,.slice Q s.val.den.length q,.slice X s.X.length t,.slice D s.D.length m,.slice R s.R.length r]) p s:=(by obtain⟨A,h,B,i,C,l,rfl,aD,aE,aG⟩:=ag;obtain⟨P,o,Q,q,X,t,D,m,R,r,rfl,aH,aI,aJ,aK⟩:=aV;exact⟨A,h,B,i,C,l,P,o,Q,q,X,t,D,m,R,r,rfl,rfl,A,h,B,i,C,l,P,o,Q,q,X,t,D,m,R,r,rfl,aD,aE,aG,aH,aI,aJ,aK⟩);obtain⟨av,ar⟩:=C7 ag aL;obtain⟨A,h,B,i,C,l,P,o,Q,q,X,t,D,m,R,r,rfl,rfl,hv⟩:=aU;have ay:=n aC;rw[hst] at hv⊢;have au:=n (hD _ hv);obtain⟨c,a6,aO,ah,al,az⟩:=zkn w #[.slice A p.A.length h,.slice B p.B.length i,.slice C p.C.length l] #[.int .i64 g,.bool s.val.neg,.slice P s.val.num.length o,.slice Q s.val.den.length q,.slice X s.X.length t,.slice D s.D.length m,.slice R s.R.length r] 32 39;obtain⟨ab,aA,aB⟩:=H7 aO ah al;obtain⟨H,I,J⟩:=C4 ah;obtain⟨s0,K,L,M,N,O,S⟩:=zwq al;have a4:= @run_makeMap d;have a1:=fun w=>(U (.agg #[.slice A p.A.length h,.slice B p.B.length i,.slice C p.C.length l,.int .i64 g,.bool s.val.neg,.slice P s.val.num.length o,.slice Q s.val.den.length q,.slice X s.X.length t,.slice D s.D.length m,.slice R s.R.length r]) w).1;have a2:=fun w=>(U (.agg #[.slice A p.A.length h,.slice B p.B.length i,.slice C p.C.length l,.int .i64 g,.bool s.val.neg,.slice P s.val.num.length o,.slice Q s.val.den.length q,.slice X s.X.length t,.slice D s.D.length m,.slice R s.R.length r]) w).2.1;have a3:=fun w=>(U (.agg #[.slice A p.A.length h,.slice B p.B.length i,.slice C p.C.length l,.int .i64 g,.bool s.val.neg,.slice P s.val.num.length o,.slice Q s.val.den.length q,.slice X s.X.length t,.slice D s.D.length m,.slice R s.R.length r]) w).2.2;go_in;go_wp2_with fail;refine(yaf av.out ar.out ab.out).mono ?_;rw[ay.out];rintro z u ⟨rfl,y⟩;have E:=C8 ab.out y;have a0:=n E;have aW:=aA.out.next y;have aY:=aB.out.next y;have a7:=az.out;have hs1:=y.size;have Z:w.heap.size≠u.heap.size:=og;have aa:w.heap.size+1≠u.heap.size:=og;have aQ:=World.ownsMap_made u d 3 zvb;have ac:e w.heap.size w (u.alloc (.map #[] 0)):=U9 E _;have a5:(u.alloc (.map #[] 0)).heap.size=u.heap.size+1:=World.size_alloc _ _;have ai:=aW.alloc (.map #[] 0);have an:=aY.alloc (.map #[] 0);obtain⟨H,I,J⟩:=C4 ai;obtain⟨s0,K,L,M,N,O,S⟩:=zwq an
 go_wp2_with (first
  |(at_lookup;refine zz1519 _ rfl _ _ 148 rfl 3 150 zzn Tryz.underlying148 (zz1524 _) u.heap.size 3 _ rfl aT _ _ rfl (zzm aP) (.iface T (.agg #[.slice A p.A.length h,.slice B p.B.length i,.slice C p.C.length l,.int .i64 g,.bool s.val.neg,.slice P s.val.num.length o,.slice Q s.val.den.length q,.slice X s.X.length t,.slice D s.D.length m,.slice R s.R.length r])) true (aN _) (aM _) ?_)
  |(refine yfy _ rfl _ _ _ 148 rfl 3 150 zzn Tryz.underlying148 zvb u.heap.size 2 _ rfl aS (by unfold maxLen;omega) (.int .i64 3) (.iface 147 (.agg #[.slice A p.A.length h,.slice B p.B.length i,.slice C p.C.length l,.int .i64 g,.bool s.val.neg,.slice P s.val.num.length o,.slice Q s.val.den.length q,.slice X s.X.length t,.slice D s.D.length m,.slice R s.R.length r])) _ rfl rfl (zzm (x:=3) (by decide)) _ [] rfl ?_;intro be aT Y;have aX:=Row.grownB ak Y Z;have aZ:=Row.grownB aq Y aa;have af:=Below.grown ae Y ae.size (fun g F=>by cases F;exact E.size);obtain⟨H,I,J⟩:=C4 aX;obtain⟨s0,K,L,M,N,O,S⟩:=zwq aZ)
  |(refine yfy _ rfl _ _ _ 148 rfl 3 150 zzn Tryz.underlying148 zvb u.heap.size 1 _ rfl aR (by unfold maxLen;omega) (.int .i64 2) (.iface 146 (.agg #[.slice A p.A.length h,.slice B p.B.length i,.slice C p.C.length l,.int .i64 g,.bool s.val.neg,.slice P s.val.num.length o,.slice Q s.val.den.length q,.slice X s.X.length t,.slice D s.D.length m,.slice R s.R.length r])) _ rfl rfl (zzm (x:=2) (by decide)) _ [] rfl ?_;intro bd aS W;have ak:=Row.grownB aj W Z;have aq:=Row.grownB ao W aa;have ae:=Below.grown ad W ad.size (fun g F=>by cases F;exact E.size);obtain⟨H,I,J⟩:=C4 ak;obtain⟨s0,K,L,M,N,O,S⟩:=zwq aq)
  |(refine yfy _ rfl _ _ _ 148 rfl 3 150 zzn Tryz.underlying148 zvb u.heap.size 0 _ rfl aQ (by unfold maxLen;omega) (.int .i64 1) (.iface 145 (.agg #[.slice A p.A.length h,.slice B p.B.length i,.slice C p.C.length l,.int .i64 g,.bool s.val.neg,.slice P s.val.num.length o,.slice Q s.val.den.length q,.slice X s.X.length t,.slice D s.D.length m,.slice R s.R.length r])) _ rfl rfl (zzm (x:=1) (by decide)) _ [] rfl ?_;intro a9 aR V;have aj:=Row.grownB ai V Z;have ao:=Row.grownB an V aa;have ad:=Below.grown ac V ac.size (fun g F=>by cases F;exact E.size);obtain⟨H,I,J⟩:=C4 aj;obtain⟨s0,K,L,M,N,O,S⟩:=zwq ao))
 refine(au.out _ af).mono ?_;rintro z a8 ⟨rfl,y⟩;go_wp2_with fail;go_ret2;exact⟨rfl,C8 af y⟩
theorem ygu {w:f} {vp vs:k} {s:Sol} (i:IsP w (C6 w) vp p) (l:IsSol w (C6 w) vs s) (h:Bru w) (g:znq p=0) (hst:s.st=1)
 (hD:∀v,IsPS w (C6 w) v p s->∀a,e w.heap.size w a->j d 225 #[v] a fun c w'=>c= .returned (.bool b)/\e a.heap.size a w'):
 j d 45 #[vp,vs] w fun c w'=>c= .returned (.tuple #[.bool b,.int .i64 0])/\e w.heap.size w w':=
 ycb (T:=145) i l h g hst (by decide) (fun _ _=>⟨by kernel_rfl,by kernel_rfl,by kernel_rfl⟩) (fun _ _=>by kernel_rfl) (fun _=>rfl) (fun _=>rfl) hD
theorem yqg {w:f} {vp vs:k} {s:Sol} (i:IsP w (C6 w) vp p) (l:IsSol w (C6 w) vs s) (h:Bru w) (g:znq p=0) (hst:s.st=2)
 (hD:∀v,IsPS w (C6 w) v p s->∀a,e w.heap.size w a->j d 231 #[v] a fun c w'=>c= .returned (.bool b)/\e a.heap.size a w'):
 j d 45 #[vp,vs] w fun c w'=>c= .returned (.tuple #[.bool b,.int .i64 0])/\e w.heap.size w w':=
 ycb (T:=146) i l h g hst (by decide) (fun _ _=>⟨by kernel_rfl,by kernel_rfl,by kernel_rfl⟩) (fun _ _=>by kernel_rfl) (fun _=>rfl) (fun _=>rfl) hD
theorem yqh {w:f} {vp vs:k} {s:Sol} (i:IsP w (C6 w) vp p) (l:IsSol w (C6 w) vs s) (h:Bru w) (g:znq p=0) (hst:s.st=3)
 (hD:∀v,IsPS w (C6 w) v p s->∀a,e w.heap.size w a->j d 236 #[v] a fun c w'=>c= .returned (.bool b)/\e a.heap.size a w'):
 j d 45 #[vp,vs] w fun c w'=>c= .returned (.tuple #[.bool b,.int .i64 0])/\e w.heap.size w w':=
 ycb (T:=147) i l h g hst (by decide) (fun _ _=>⟨by kernel_rfl,by kernel_rfl,by kernel_rfl⟩) (fun _ _=>by kernel_rfl) (fun _=>rfl) (fun _=>rfl) hD
def zla:List Bool->Nat
 |[]=>0
 |b::l=>(if b then 0 else 1)+zla l
theorem zyv:∀{l:List Bool} {i:Nat},l[i]? =some false->zla (l.set i true)+1=zla l
 |b::l,0,h=>by simp at h;subst h;simp[zla];omega
 |b::l,i+1,h=>by
  have:=zyv (l:=l) (i:=i) (by simpa using h)
  simp only[List.set_cons_succ,zla]
  omega
theorem zyw:∀{l:List Bool} {i:Nat} {b:Bool},zla l=0->l[i]? =some b->b=true
 |c::l,0,b,h,a=>by
  simp at a
  subst a
  cases c
  ·simp[zla] at h
  ·rfl
 |c::l,i+1,b,h,a=>by
  refine zyw (l:=l) (i:=i) ?_ (by simpa using a)
  simp only[zla] at h
  omega
theorem zyu (a:Nat):zla (List.replicate a false)=a:=by
 induction a with
 |zero=>rfl
 |succ a ih=>rw[List.replicate_succ,zla,ih];simp;omega
def zkb (o:h):List Nat:=(o.after.toList.filter (Region.binds .any)).map (·.on)
def zmz (ops:Array h) (t:Nat):Bool:=ops.toList.any fun o=>o.dst==some t
def zzh (ops:Array h) (b:Nat):Bool:=
 (List.range ops.size).all fun i=>(ops[i]?).any fun o=>
  (o.dst.any fun d=>decide (d<b)&&(List.range ops.size).all fun a=>decide (a=i)|| !((ops[a]?).any fun c=>c.dst==some d))&&(zkb o).all fun a=>decide (a<i)
section
variable {P : y} {ops : Array h} {Q : Exit → Act → f → Prop} {Φ : Nat → k → f → Prop} {l : Act} {c : f}
theorem yju {k:Nat} (h:zzh ops k=true) (j:ops[i]? =some o):
 ∃d,o.dst=some d/\d<k/\(∀a g,ops[a]? =some g->g.dst=some d->a=i)/\∀a∈zkb o,a<i:=by
 unfold zzh at h;have n:i<ops.size:=(Array.getElem?_eq_some_iff.1 j).1;have e:=List.all_eq_true.1 h i (List.mem_range.2 n);rw[j] at e;simp only[Option.any_some,u] at e;obtain⟨b,l⟩:=e;cases hd:o.dst with
 |none=>rw[hd] at b;simp at b
 |some d=>rw[hd] at b;simp only[Option.any_some,u,decide_eq_true_eq] at b;refine⟨d,rfl,b.1,fun a g c p=> ?_,fun a c=>by simpa using List.all_eq_true.1 l a c⟩;have m:a<ops.size:=(Array.getElem?_eq_some_iff.1 c).1;have f:=List.all_eq_true.1 b.2 a (List.mem_range.2 m);rw[c] at f;simp only[Option.any_some,p,beq_self_eq_true,Bool.not_true,Bool.or_false,decide_eq_true_eq] at f;exact f
structure GrowInv (ops:Array h) (Φ:Nat->k->f->Prop) (l:Act) (c:f) (listed:Array Bool) (a:Act) (w:f):Prop where
 size:a.tmps.size=l.tmps.size
 defers:a.defers=l.defers
 below:e c.heap.size c w
 free:∀t,zmz ops t=false->a.tmps[t]? =l.tmps[t]?
 holds:∀j oj d,ops[j]? =some oj->listed[j]? =some true->oj.dst=some d->Φ j (a.tmps.getD d m) w
theorem yex (a:Act) (d:Tmp) (v:k):(a.put (some d) v).tmps.size=a.tmps.size:=by simp[Act.put]
theorem yaj (a:Act) {d t:Nat} (v:k) (h:t≠d):(a.put (some d) v).tmps[t]? =a.tmps[t]? :=by simp only[Act.put];rw[Array.getElem?_setIfInBounds_ne (Ne.symm h)]
theorem yew (a:Act) {d:Nat} (v:k) (h:d<a.tmps.size):(a.put (some d) v).tmps.getD d m=v:=by simp[Act.put,h]
theorem ydd {a b:Array k} {t:Nat} (h:a[t]? =b[t]?):a.getD t m=b.getD t m:=by simp only[r,h]
theorem zxt {listed:Array Bool} (g:ops[i]? =some o) (hr:i∈Region.ready .any ops listed):listed.getD i true=false/\∀d∈zkb o,listed.getD d false=true:=by unfold Region.ready at hr;have a:=(List.mem_filter.1 hr).2;rw[g] at a;simp only[Option.map_some,Option.getD_some,u,Bool.not_eq_true'] at a;refine⟨a.1,fun d h=> ?_⟩;obtain⟨e,b,rfl⟩:=List.mem_map.1 h;obtain⟨b,f⟩:=List.mem_filter.1 b;have c:=(Array.all_eq_true'.1 a.2) e (by simpa using b);rw[f] at c;simpa using c
theorem zz1513 (hst:∀i v w w',Φ i v w->e w.heap.size w w'->Φ i v w') (O:zzh ops l.tmps.size=true)
 (ab:∀i o,ops[i]? =some o->∀(a:Act) (w:f),a.tmps.size=l.tmps.size->a.defers=l.defers->e c.heap.size c w->(∀t,zmz ops t=false->a.tmps[t]? =l.tmps[t]?)->
   (∀b g d,b∈zkb o->ops[b]? =some g->g.dst=some d->Φ b (a.tmps.getD d m) w)->
   if Region.wanted o (yielded ops a.tmps)=true then o.wp P a w (fun M w'=>∃v,M=a.put o.dst v/\e w.heap.size w w'/\Φ i v w') Q else Φ i m w)
 (X:∀(a:Act) (w:f),a.tmps.size=l.tmps.size->a.defers=l.defers->e c.heap.size c w->(∀t,zmz ops t=false->a.tmps[t]? =l.tmps[t]?)->
   (∀b g d,ops[b]? =some g->g.dst=some d->Φ b (a.tmps.getD d m) w)->Q .normal a w):
 ∀(z:Nat) (listed:Array Bool) (a:Act) (w:f),listed.size=ops.size->zla listed.toList<=z->GrowInv ops Φ l c listed a w->wpAny P .any ops Q z listed a w:=by
 have done:∀(listed:Array Bool) (a:Act) (w:f),listed.size=ops.size->Region.ready .any ops listed=[]->GrowInv ops Φ l c listed a w->Q .normal a w:=by
  intro listed a w C hr inv
  have all:∀B i,i<B->i<ops.size->listed[i]? =some true:=by
   intro B;induction B with
   |zero=>intro i n;omega
   |succ B ih=>
    intro i n x;rcases Nat.lt_or_ge i B with h|h
    ·exact ih i h x
    ·obtain rfl:i=B:=og;have s:i<listed.size:=og;cases E:listed[i] with
     |true=>rw[q s,E]
     |false=>
      exfalso
      have p:i∈Region.ready .any ops listed:=by
       unfold Region.ready;refine List.mem_filter.2 ⟨List.mem_range.2 x,?_⟩;have n:ops[i]? =some ops[i]:=q x;obtain⟨d,hd,_,_,Z⟩:=yju O n;rw[n];simp only[Option.map_some,Option.getD_some,u,Bool.not_eq_true'];refine⟨by simp[r,q s,E],Array.all_eq_true'.2 fun y W=> ?_⟩;cases T:Region.binds .any y with
       |false=>rfl
       |true=>have j:=Z y.on (List.mem_map.2 ⟨y,List.mem_filter.2 ⟨by simpa using W,T⟩,rfl⟩);have:=ih y.on j og;simp[r,this]
      rw[hr] at p;cases p
  exact X a w inv.size inv.defers inv.below inv.free fun b g d j hd=>inv.holds b g d j (all (b+1) b og (Array.getElem?_eq_some_iff.1 j).1) hd
 intro z;induction z with
 |zero=>
  intro listed a w C hc inv
  have hr:Region.ready .any ops listed=[]:=by
   cases hr:Region.ready .any ops listed with
   |nil=>rfl
   |cons i ac=>exfalso;have p:i∈Region.ready .any ops listed:=(by rw[hr];simp);have x:i<ops.size:=(by unfold Region.ready at p;exact List.mem_range.1 (List.mem_filter.1 p).1);have I:=(zxt (q x) p).1;have s:i<listed.size:=og;have J:=zyw (l:=listed.toList) (i:=i) (b:=listed[i]) og (by simp[s]);simp[r,q s,J] at I
  exact⟨hr,done listed a w C hr inv⟩
 |succ z ih=>
  intro listed a w C hc inv;refine⟨fun hr=>done listed a w C hr inv,fun i p=> ?_⟩;have x:i<ops.size:=(by unfold Region.ready at p;exact List.mem_range.1 (List.mem_filter.1 p).1);have n:ops[i]? =some ops[i]:=q x;obtain⟨I,J⟩:=zxt n p;have s:i<listed.size:=og;have E:listed[i]=false:=(by simpa[r,q s] using I);obtain⟨d,hd,U,V,_⟩:=yju O n;have G:=ab i ops[i] n a w inv.size inv.defers inv.below inv.free fun b g D j S A=>inv.holds b g D S (by have N:=J b j;have R:b<listed.size:=(by have:=(Array.getElem?_eq_some_iff.1 S).1;omega);rw[q R];simp only[r,q R,Option.getD_some] at N;rw[N]) A
  have next:∀(v:k) (w':f),e w.heap.size w w'->Φ i v w'->wpAny P .any ops Q z (listed.setIfInBounds i true) (a.put ops[i].dst v) w':=by
   intro v w' F hv;rw[hd];refine ih _ _ _ (by simp[C]) ?_ ⟨by rw[yex];exact inv.size,inv.defers,inv.below.trans (F.mono inv.below.size),fun t H=> ?_,fun b g D j Y A=> ?_⟩
   ·have:=zyv (l:=listed.toList) (i:=i) (by simp[s,E]);simp only[Array.toList_setIfInBounds];omega
   ·rw[yaj _ _ (by rintro rfl;unfold zmz at H;rw[List.any_eq_false] at H;exact H ops[i] (by simp) (by rw[hd];simp))];exact inv.free t H
   ·by_cases K:b=i
    ·subst K;rw[n] at j;cases j;rw[hd] at A;cases A;rw[yew _ _ (by rw[inv.size];exact U)];exact hv
    ·have aa:D≠d:=fun y=>K (V b g j (by rw[A,y]));rw[ydd (yaj a v aa)];refine hst _ _ _ _ (inv.holds b g D j ?_ A) F;rwa[Array.getElem?_setIfInBounds_ne (Ne.symm K)] at Y
  unfold wpOp;rw[n];simp only;split
  ·rename_i L;rw[if_pos L] at G;exact .inl (Oper.wp_mono (fun M w' ⟨v,ha,F,hv⟩=>by rw[ha];exact next v w' F hv) G)
  ·rename_i L;rw[if_neg L] at G;exact next m w (Below.refl _ _) G
theorem zz1523 {id:Nat} (Φ:Nat->k->f->Prop) (q:P.follows .mixedOrders=true) (hst:∀i v w w',Φ i v w->e w.heap.size w w'->Φ i v w') (p:zzh ops l.tmps.size=true)
 (r:∀i o,ops[i]? =some o->∀(a:Act) (w:f),a.tmps.size=l.tmps.size->a.defers=l.defers->e c.heap.size c w->(∀t,zmz ops t=false->a.tmps[t]? =l.tmps[t]?)->
   (∀b g d,b∈zkb o->ops[b]? =some g->g.dst=some d->Φ b (a.tmps.getD d m) w)->
   if Region.wanted o (yielded ops a.tmps)=true then o.wp P a w (fun j w'=>∃v,j=a.put o.dst v/\e w.heap.size w w'/\Φ i v w') Q else Φ i m w)
 (n:∀(a:Act) (w:f),a.tmps.size=l.tmps.size->a.defers=l.defers->e c.heap.size c w->(∀t,zmz ops t=false->a.tmps[t]? =l.tmps[t]?)->
   (∀b g d,ops[b]? =some g->g.dst=some d->Φ b (a.tmps.getD d m) w)->Q .normal a w):
 (Code.region id ops true).wp P Q l c:=by refine wp_region_any q (zz1513 hst p r n _ _ _ _ (by simp) (by simp[zyu]) ⟨rfl,rfl,⟨rfl,rfl,rfl,Nat.le_refl _,fun _ _=>rfl⟩,fun _ _=>rfl,fun b g d s h hd=> ?_⟩);rw[Array.getElem?_replicate] at h;split at h<;>cases h
end
theorem zpf {a:List Int} (h:∀x∈a,x.natAbs<=1000000):∀q∈K0 a,Sz q 1024:=by intro q b;obtain⟨x,c,rfl⟩:=List.mem_map.1 b;exact(zvz (by have:=h x c;omega) og og).le og
theorem zvk:Good exQ 1024:=by
 refine⟨rfl,?_,?_,zpf (by decide),zpf (by decide),by decide,by decide⟩
 ·intro row hr;simp only[exQ,List.mem_cons,List.not_mem_nil,or_false] at hr;rcases hr with rfl|rfl<;>rfl
 ·intro row hr;simp only[exQ,List.mem_cons,List.not_mem_nil,or_false] at hr;rcases hr with rfl|rfl
  ·exact zpf (by decide)
  ·exact zpf (by decide)
theorem ex_gap:K9 exQ.B (K0 [3,0])-K9 exQ.C (K0 [3,1])=Y8 1 1:=by decide+kernel
theorem yuu:zlg exQ.A exQ.B (K0 [3,1])=true/\zme exQ.A exQ.C (K0 [3,0])=true:=by decide+kernel
theorem ex_best:zse exQ (K0 [4,0]) (K0 [3,0])=true/\zrj exQ (K0 [4,0]) (K0 [3,0]) (Y8 12 1)=true:=by decide+kernel
theorem yut:zlb exQ=⟨[K0 [-1,-1],K0 [-1,-3]],K0 [-3,-2],K0 [-4,-6]⟩:=by have a:(zlb exQ).A=[K0 [-1,-1],K0 [-1,-3]]:=(by decide+kernel);have b:(zlb exQ).B=K0 [-3,-2]:=(by decide+kernel);have c:(zlb exQ).C=K0 [-4,-6]:=(by decide+kernel);rw[<-a,<-b,<-c]
theorem yuv (x y:List Int) (h:x.length=2) (i:y.length=2) (sx:∀a∈x,a.natAbs<=1000000) (sy:∀a∈y,a.natAbs<=1000000):zpm (J6 exQ) [(J6 exQ).C.length,(J6 exQ).B.length] [C5 (K0 x),C5 (K0 y)]=0:=by unfold zpm;rw[if_neg (by rw[zty zvk];simp)];have hv:∀b:List Int,b.length=2->(∀a∈b,a.natAbs<=1000000)->zra 2 (C5 (K0 b))=0:=(by intro b c g;unfold zra;have f:Y3 (C5 (K0 b))=0:=zws (by rw[yfv,c];omega) (zpf g);rw[if_neg (by rw[f];simp),if_neg (by rw[zkr,yfv,c];simp)]);have d:(J6 exQ).C.length=2:=rfl;have e:(J6 exQ).B.length=2:=rfl;rw[d,e];simp only[List.zipWith_cons_cons,List.zipWith_nil_left,zko,hv x h sx,hv y i sy];rfl
theorem yrj:OptQ (J6 exQ) bestS exQ (K0 [4,0]) (K0 [3,0]) (Y8 12 1):=
 ⟨rfl,zvk,rfl,rfl,rfl,rfl,rfl,zpf (by decide),zpf (by decide),(zvz (by decide) (by decide) (by decide)).le og⟩
theorem yrk:znj (J6 exQ) bestS=true:=by unfold znj;have a:M8 bestS.X (J6 exQ).C.length=true:=yeu (q:=K0 [4,0]) rfl (by decide) (zpf (by decide));have b:M8 bestS.D (J6 exQ).B.length=true:=yeu (q:=K0 [3,0]) rfl (by decide) (zpf (by decide));have c:O0 bestS.val=0:=zwr ((zvz (by decide) (by decide) (by decide)).le og);rw[a,b,c];rfl
theorem gap_one:zug (Y8 1 1)=E9 (Y8 1 1)/\zuf (Y8 1 1)=0:=by have h:zlh (Y8 1 1)=true:=fitsQ_true.2 ((zvz (by decide) (by decide) (by decide)).le og);unfold zug zuf;rw[h];exact⟨rfl,rfl⟩
def U4 (i:Nat) (v:k) (w:f):Prop:=
 match i with
 |0=>v= .int .i64 0
 |1=>v= .bool true
 |2=>v= .bool true
 |3=>IsP w (C6 w) v (J6 (zlb exQ))
 |4=>∃g,v= .slice (some ⟨g,0,none⟩) 2 2/\Row w g 3 [.int .i64 (-1),.int .i64 (-1)]
 |5=>IsV w (C6 w) v (C5 (K0 [-1,-1]))
 |6=>∃g,v= .slice (some ⟨g,0,none⟩) 2 2/\Row w g 3 [.int .i64 (-1),.int .i64 (-3)]
 |7=>IsV w (C6 w) v (C5 (K0 [-1,-3]))
 |8=>IsM w (C6 w) v (J4 [K0 [-1,-1],K0 [-1,-3]])
 |9=>∃g,v= .slice (some ⟨g,0,none⟩) 2 2/\Row w g 3 [.int .i64 (-3),.int .i64 (-2)]
 |10=>IsV w (C6 w) v (C5 (K0 [-3,-2]))
 |11=>∃g,v= .slice (some ⟨g,0,none⟩) 2 2/\Row w g 3 [.int .i64 (-4),.int .i64 (-6)]
 |12=>IsV w (C6 w) v (C5 (K0 [-4,-6]))
 |13=>IsP w (C6 w) v (J6 (zlb exQ))
 |14=>v= .bool true
 |15=>v= .bool true
 |16=>v= .bool true
 |17=>v= .int .i64 0
 |18=>v= .bool true
 |19=>v= .bool true
 |20=>v= .bool true
 |21=>IsR w (C6 w) v (E9 (Y8 1 1))
 |22=>IsQ w (C6 w) v (Y8 1 1)
 |23=>v= .bool true
 |24=>v= .bool true
 |25=>v= .bool true
 |26=>v= .bool true
 |27=>v= .bool true
 |28=>v= .bool true
 |29=>v= .int .i64 0
 |30=>v= .bool true
 |31=>v= .bool true
 |32=>v= .bool true
 |_=>True
theorem yrc:∀(i:Nat) (v:k) (w w':f),U4 i v w->e w.heap.size w w'->U4 i v w':=fun i v w w' h a=>match i,h with
 |0,h=>h
 |1,h=>h
 |2,h=>h
 |3,h=>IsP.stb.next h a
 |4,h=>by obtain⟨g,b,c⟩:=h;exact⟨g,b,c.next a⟩
 |5,h=>IsV.stb.next h a
 |6,h=>by obtain⟨g,b,c⟩:=h;exact⟨g,b,c.next a⟩
 |7,h=>IsV.stb.next h a
 |8,h=>IsM.stb.next h a
 |9,h=>by obtain⟨g,b,c⟩:=h;exact⟨g,b,c.next a⟩
 |10,h=>IsV.stb.next h a
 |11,h=>by obtain⟨g,b,c⟩:=h;exact⟨g,b,c.next a⟩
 |12,h=>IsV.stb.next h a
 |13,h=>IsP.stb.next h a
 |14,h=>h
 |15,h=>h
 |16,h=>h
 |17,h=>h
 |18,h=>h
 |19,h=>h
 |20,h=>h
 |21,h=>IsR.stb.next h a
 |22,h=>IsQ.stb.next h a
 |23,h=>h
 |24,h=>h
 |25,h=>h
 |26,h=>h
 |27,h=>h
 |28,h=>h
 |29,h=>h
 |30,h=>h
 |31,h=>h
 |32,h=>h
 |_+33,_=>trivial
theorem W8 {P:y} {a:Act} {w:f} {Φ:k->f->Prop} {Q:Exit->Act->f->Prop} (h:∀b:Act->f->Prop,(∀v w',e w.heap.size w w'->Φ v w'->b (a.put o.dst v) w')->o.wp P a w b Q):o.wp P a w (fun c w'=>∃v,c=a.put o.dst v/\e w.heap.size w w'/\Φ v w') Q:=
 h _ fun v w' d hv=>⟨v,rfl,d,hv⟩
end Go.Proofs.YtpbilanpeioonaaGreatDoor
