/-
 An append of one freshly made element onto a row of one's own,as one step of a region.
-/
import Derived.Test.YtdgilbgdkmhcmaaGreatDoorProofSimplexProves27
namespace Go.Proofs.YtdgilbgdkmhcmaaGreatDoor
open Go.RowKit
set_option linter.unusedVariables false
set_option maxRecDepth 100000
set_option maxHeartbeats 8000000
open _root_.Go.Lib renaming hid → b
open _root_.Nat renaming le_trans → d, lt_or_ge → j, zero_le → i
variable {f : Value}
section
variable {g : Type} {n bytes : Nat} {t e : TypeId} {R : World → (Nat → Prop) → Value → g → Prop} {o : Oper} {a : Act} {K : Act → World → Prop} {Q : Exit → Act → World → Prop} {wr c : World} {base : Nat} {S T : Nat → Prop} {v ev : Value} {l : List g} {y : g} {te : TypeId} {cs : Array Value}
def zwi (S:Nat->Prop) (wr c:World):Nat->Prop:=fun a=>S a\/(wr.heap.size<=a/\a<c.heap.size)
theorem yzw (w:ElN Tryz.prog t e n bytes) (k:Stb R) (s x:Operand) (H:o.op= .call {callee:= .builtin .append,args:= #[s,x],argTypes:= #[t,t]})
 (I:a.eval s=v) (J:a.eval x= .slice (some ⟨c.heap.size,0,none⟩) 1 1) (D:cs=ev.cells) (r:OwnS n e R wr base S v l) (m:Below wr.heap.size wr c) (E:R c T ev y) (q:∀b,T b->wr.heap.size<=b/\b<c.heap.size)
 (G:ev.cells.size=n) (z:∀M∈ev.cells,M.oneCell'=true) (F:(l.length+1)*(bytes+1)<=140737488355328) (C:base<=wr.heap.size)
 (B:∀f w',OwnS n e R w' base (zwi S wr c) f (l++[y])->wr.grownBy w' v.ownBlock->(f.ownBlock=v.ownBlock\/∃j,f.ownBlock=some j/\c.heap.size<=j/\j<w'.heap.size)->c.heap.size<=w'.heap.size->K (a.put o.dst f) w'):
 o.wp Tryz.prog a (c.alloc (.cells cs te)) K Q:=by
 subst D
 have g:=N8 c (.cells ev.cells te)
 have i:=g.size
 have O:∀b,v.ownBlock=some b->b<wr.heap.size:=fun b e=>(r.own_lt b e).2
 refine zrn (h:=c.heap.size) (te:=te) (S:=zwi S wr c) (base:=base) (l:=l) (y:=y) (ev:=ev) w s x H k I J ?_ ?_ ?_ G z F (d C (d m.size i)) fun f w' u p L=>B f w' u ?_ ?_ (d i p.size)
 ·exact heap_alloc_new c _
 ·exact OwnS.step k r (C9 m g) (fun b h=> .inl h) fun b h=>h.imp id fun h=>⟨h.1,Nat.lt_of_lt_of_le h.2 i⟩
 ·exact k.to E fun b h=>⟨.inr (q b h),fun o=>g.cell (p:=⟨b,o,none⟩) (q b h).2⟩
 ·exact J6 (K7 (C9 m g)) p
 ·refine L.imp id fun h=>⟨_,h,?_,?_⟩
  ·exact i
  ·have:=p.size
   obtain⟨N,A,_⟩:=u
   exact(A.lt _ h).2
theorem yzv {l:List Rat} {q:Rat} (s x:Operand) (D:o.op= .call {callee:= .builtin .append,args:= #[s,x],argTypes:= #[30,30]})
 (F:a.eval s=v) {g:Bool} {d e:Option Addr} {k m i j:Nat} (G:a.eval x= .slice (some ⟨c.heap.size,0,none⟩) 1 1) (B:cs= #[.bool g,.slice d k i,.slice e m j]) (E:Hid (OwnS 3 37 IsR wr base S v (C0 l))) (z:Below wr.heap.size wr c) (C:Hid (IsQ c T (.agg #[.bool g,.slice d k i,.slice e m j]) q)) (y:∀f,T f->wr.heap.size<=f/\f<c.heap.size)
 (H:l.length<=1000) (A:base<=wr.heap.size)
 (w:∀b w',OwnS 3 37 IsR w' base (zwi S wr c) b (C0 (l++[q]))->wr.grownBy w' v.ownBlock->(b.ownBlock=v.ownBlock\/∃h,b.ownBlock=some h/\c.heap.size<=h/\h<w'.heap.size)->c.heap.size<=w'.heap.size->K (a.put o.dst b) w'):
 o.wp Tryz.prog a (c.alloc (.cells cs te)) K Q:=
 yzw zli IsR.stb s x D F G (ev:= .agg #[.bool g,.slice d k i,.slice e m j]) (y:=D8 q) B E.out z C.out y rfl (by intro I n;simp[Value.cells] at n;rcases n with rfl|rfl|rfl<;>rfl) (by rw[show(C0 l).length=l.length by simp[C0]];omega) A fun b w' p r t u=>w b w' (by rw[show C0 (l++[q])=C0 l++[D8 q] by simp[C0]];exact p) r t u
end
theorem ywy {w:World} {S:Nat->Prop} {c d f:Value} {b:Prog} (h:IsP w S (.agg #[c,d,f]) b):IsM w S c b.A/\IsV w S d b.B/\IsV w S f b.C:=by obtain⟨A,a,B,k,C,l,e,g,i,j⟩:=h;simp only[Value.agg.injEq,Array.mk.injEq,List.cons.injEq,and_true] at e;obtain⟨rfl,rfl,rfl⟩:=e;exact⟨g,i,j⟩
theorem yxe {a:Int} {b:Nat} (d:0<a) (k:b≠0):0<X5 a b:=by have f:(0:Int)<((b.gcd a.natAbs:Nat):Int):=(by have:=Nat.gcd_pos_of_pos_left a.natAbs (show 0<b by omega);omega);have g:((b.gcd a.natAbs:Nat):Int)∣a:=Int.dvd_natAbs.1 (Int.natCast_dvd_natCast.2 (Nat.gcd_dvd_right _ _));have j:=Int.ediv_pos_of_pos_of_dvd d (Int.le_of_lt f) g;have c:(X5 a b).num=a/((b.gcd a.natAbs:Nat):Int):=(by unfold X5;rw[Rat.num_mkRat,if_neg og]);have h:0<=X5 a b:=Rat.num_nonneg.1 (by rw[c];omega);refine Rat.not_le.1 fun e=> ?_;have i:=Rat.le_antisymm e h;rw[i] at c;have:(0:Rat).num=0:=rfl;omega
theorem yxf {a:Int} (ha:a.natAbs<=1000):Sz (X5 a 1) 1:=by have b:pw 1=1000000000:=rfl;exact zyy (by decide) (lim_len_le.2 og) (lim_len_le.2 og)
theorem yxj {w:World} {a:Int} (ha:a.natAbs<=1000):Calls Tryz.prog 21 #[.int .i64 a,.int .i64 1] w (U9 w (X5 a 1)):=zvp (a:=a) (b:=1) og og (by decide)
theorem yng {b wr c:World} {v:Value} (h:Below b.heap.size b wr) (hg:wr.grownBy c v.ownBlock) (d:∀a,v.ownBlock=some a->b.heap.size<=a/\a<wr.heap.size):Below b.heap.size b c:=h.grown hg h.size fun a e=>(d a e).1
theorem yna {w:World} {d f:Value} {a b:List Rat} {c:Bool} (ha:IsV w (C2 w) d (C0 a)) (h:IsV w (C2 w) f (C0 b)) (i:a.length=b.length) (sa:∀q∈a,Sz q 100000) (sb:∀q∈b,Sz q 100000) (g:c=Z0 a b):
 Calls Tryz.prog 15 #[d,f] w fun e w'=>e= .returned (.bool c)/\Below w.heap.size w w':=by rw[g];exact ydh ha h i sa sb
theorem yss {w:World} {l:List Int} {n a4:Int} (cU:IsIL w (C2 w) f l) (cW:zul n) (cV:zul a4) (cG:Bru w):
 Calls Tryz.prog 3 #[f,.int .i64 n,.int .i64 a4] w fun e w'=>e= .returned (.bool true)/\Below w.heap.size w w':=by
 obtain⟨dp,cd⟩:=C4 cU cG;obtain⟨A,cB,rfl,_,_,_,_⟩:=cU;obtain⟨b0,eo,bJ,dd,cn⟩:=K0 w #[.slice A l.length cB,.int .i64 0] 25;have cc:Hid (IsD b0 w.heap.size l):=⟨A,cB,0,dd,IsIL.stb.to dp.out (zqg bJ fun p h=>h),i _⟩;have B0:=b bJ;obtain⟨x,W⟩:=mn (n%5:Int);obtain⟨y,da⟩:=mn (a4%5:Int);obtain⟨r,dZ⟩:∃r:Nat,x=(r:Int):=⟨x.toNat,by omega⟩;obtain⟨aJ,dY⟩:∃aJ:Nat,y=(aJ:Int):=⟨y.toNat,by omega⟩;have M:Hid (r<=4/\aJ<=4):=oH;subst dZ dY;obtain⟨cl,cm,bj,bi⟩:=Z5 W da cW cV;have bh:Hid (b0.heap.size=w.heap.size+1):=cn.out;have eR:=L7;have eS:=zrm;clear bJ dd cG W da cW cV cn;go_in;go_wp2_with fail;clear eo;refine(ybk _ n 5 bj.out.1 bj.out.2 og og).mono ?_;rw[cl.out];rintro e L ⟨rfl,rfl⟩;go_wp2_with fail;refine(ybk _ a4 5 bi.out.1 bi.out.2 og og).mono ?_;rw[cm.out];rintro e L ⟨rfl,rfl⟩;go_wp2_with fail;refine(yxa cc.out (n:=r) (m0:=aJ) (oh M) (oh M)).mono ?_;rintro e L ⟨⟨fu,q,rfl,a1,cR,cY,cZ⟩,cH,bH⟩;have cb:=b (B0.out.grown bH (oh bh) (fun m cS=>by cases cS;exact Nat.le_refl _));have dk:Hid (b0.heap.size<=L.heap.size):=bH.size;have u:=b cR;have H:Hid (q.B.length=aJ/\q.C.length=r):=⟨cY,cZ⟩;have a7:=b cH;obtain⟨ad,ar,ae,au,N,av,rfl,_⟩:=id a1;obtain⟨ay,bN⟩:=nm ((N2 q).A.length);obtain⟨az,bO⟩:=nm ((N2 q).B.length);obtain⟨aA,bP⟩:=nm ((N2 q).C.length);rw[<-bN,<-bO,<-bP] at a1;rw[<-bN,<-bO,<-bP];have cy:=b a1;clear a1 cR cY cZ cH bH bN bO bP cc cl cm bj bi;obtain⟨b3,ep,aZ,r2,_⟩:=K0 L #[.slice ad ay ar,.slice ae az au,.slice N aA av] 32;obtain⟨C,D,E⟩:=C3 r2;have bq:=b r2;have bu:Hid (IsP b3 (F6 (w.heap.size+1) b3) (.agg #[.slice ad ay ar,.slice ae az au,.slice N aA av]) (N2 q)):=IsP.stb.fresh (IsP.stb.le cy.out (by have:=bh.out;omega)) aZ;have a8:=b (a7.out.next aZ (IsD.lt a7.out));have a6:=nB cb aZ;have ck:Hid (w.heap.size<L.heap.size):=(by have:=bh.out;have:=dk.out;rw[Hid];omega);clear aZ r2 cy a7 cb;go_wp2_with fail;clear ep C D E;refine(ykg (N:=2) (M:=8) (k:=3) (IsP.stb.old bu.out) (Bru.next cd.out a6.out) u.out (by rw[ztq og og];simp) (yff (by rw[H.out.1];exact oh M)).1 og og (yff (by rw[H.out.1];exact oh M)).2).mono ?_;rintro e aG ⟨⟨fD,s,rfl,zll,cN⟩,aj⟩;obtain⟨af,aB,ag,aC,S3,aD,aK,aU,ah,aE,rfl,_⟩:=id zll;have aa:=b cN;obtain⟨sg,bQ⟩:=nm (s.val.neg);obtain⟨an,bR⟩:=nm (s.val.num.length);obtain⟨ao,bT⟩:=nm (s.val.den.length);obtain⟨aq,bU⟩:=nm (s.X.length);obtain⟨aT,bV⟩:=nm (s.D.length);obtain⟨Y,bX⟩:=nm (s.R.length);rw[<-bQ,<-bR,<-bT,<-bU,<-bV,<-bX] at zll;rw[<-bQ,<-bR,<-bT,<-bU,<-bV,<-bX];obtain⟨c,er,ak,r4,_⟩:=K0 aG #[.int .i64 s.st,.bool sg,.slice af an aB,.slice ag ao aC,.slice S3 aq aD,.slice aK aT aU,.slice ah Y aE] 39;have bx:Hid (w.heap.size<b3.heap.size/\w.heap.size<aG.heap.size):=by have g:=bq.out.lt;have cF:=aj.size;have eU:=ck.out;rw[Hid];omega
 have ai:Hid (SPSt w c w.heap.size L.heap.size aG.heap.size l (.slice ad ay ar) (.slice ae az au) (.slice N aA av) (.int .i64 s.st) (.bool sg) (.slice af an aB) (.slice ag ao aC) (.slice S3 aq aD) (.slice aK aT aU) (.slice ah Y aE) q s):=
  ⟨C9 (C9 a6.out aj) ak,⟨Nat.le_refl _,ck.out,bx.out.2⟩,(a8.out.next aj (IsD.lt a8.out)).next ak (by have:=bx.out.2;omega),(bq.out.next aj).next ak,IsP.stb.fresh (IsP.stb.fresh bu.out aj) ak,r4,IsSol.stb.fresh (IsSol.stb.le zll (by have:=bx.out.1;omega)) ak⟩
 clear zll cN aj ak r4 bQ bR bT bU bV bX bq bu a8 a6;obtain⟨C,D,E⟩:=C3 ai.out.rp;obtain⟨J,O,P,Q,K,R,G⟩:=zpb ai.out.rs;go_wp2_with fail;clear er C D E J O P Q K R G;refine(ynz ai.out.prg ai.out.sol u.out.good (k:=3) og aa.out).mono ?_;rintro e fM ⟨rfl,cO⟩;have cv:=b (ai.out.next cO);clear cO ai;go_wp2_with fail;go_loopw [11] (fun bY wr=>∃m:Nat,m<=10/\bY= .int .i64 (m:Int)/\SPSt w wr w.heap.size L.heap.size aG.heap.size l (.slice ad ay ar) (.slice ae az au) (.slice N aA av) (.int .i64 s.st) (.bool sg) (.slice af an aB) (.slice ag ao aC) (.slice S3 aq aD) (.slice aK aT aU) (.slice ah Y aE) q s) (fun bY _=>10-(intOf bY).toNat);case atStart=>exact⟨0,i _,rfl,cv.out⟩
 case round=>
  obtain⟨m,cS,rfl,c4⟩:=hrel;have aO:=b c4;clear c4 cv;rcases j m 10 with al|ee
  ·have e9:(m:Int)<10:=og;have bd:=b al;clear al;go_wp2_with fail;refine(ywu aO.out.d (n:=r) (by have:=M.out.1;omega)).mono ?_;rintro e fN ⟨⟨fE,B,rfl,a2,c2,c3,c0⟩,cI,cK⟩;have aL:=b (aO.out.draw cK cI);obtain⟨dj,eu,eT,rfl,_⟩:=id a2;obtain⟨ez,bM⟩:=nm ((C0 B).length);rw[<-bM] at a2;rw[<-bM];have aY:=b (IsV.stb.old a2);have ct:Hid (B.length=q.C.length/\(∀e∈B,Sz e 3)/\∀e∈B,0<=e):=⟨c2.trans H.out.2.symm,c3,c0⟩;clear a2 c2 c3 c0 cI cK aO bM;go_upto_region 11 with fail;go_cut [52] (fun dV Z=>∃p:Bool,dV= .bool p/\Hid (SPSt w Z w.heap.size L.heap.size aG.heap.size l (.slice ad ay ar) (.slice ae az au) (.slice N aA av) (.int .i64 s.st) (.bool sg) (.slice af an aB) (.slice ag ao aC) (.slice S3 aq aD) (.slice aK aT aU) (.slice ah Y aE) q s)/\Hid (IsV Z (C2 Z) (.slice dj ez eu) (C0 B))/\Hid (p=true->s.st=1))
   case first=>
    obtain⟨J,-⟩:=zpb aL.out.rs;by_cases g:m=0/\s.st=1
    ·have cT:((m:Int)==0)=true:=(by rw[g.1];rfl);have ej:(s.st==1)=true:=(by rw[g.2];rfl);have dn:Hid (s.st=1):=g.2;clear g;go_wp2_with fail;go_meet;exact⟨true,rfl,aL.out,aY.out,fun _=>dn.out⟩
    ·by_cases a0:m=0
     ·have cT:((m:Int)==0)=true:=(by rw[a0];rfl);have ej:(s.st==1)=false:=(by simpa[a0] using g);clear a0 g;go_wp2_with fail;go_meet;exact⟨false,rfl,aL.out,aY.out,fun h=>(by cases h)⟩
     ·have cT:((m:Int)==0)=false:=(by simp only[beq_eq_false_iff_ne];omega);clear a0 g;go_wp2_with fail;go_meet;exact⟨false,rfl,aL.out,aY.out,fun h=>(by cases h)⟩
   case rest=>
   obtain⟨p,rfl,aM,cz,cf⟩:=hcut;clear aL aY;go_upto_if 52 with fail;go_cut [12] (fun eE Z=>∃(A:Option Addr) (dc cC:Nat) (X:List Rat),eE= .slice A dc cC/\Hid (SPSt w Z w.heap.size L.heap.size aG.heap.size l (.slice ad ay ar) (.slice ae az au) (.slice N aA av) (.int .i64 s.st) (.bool sg) (.slice af an aB) (.slice ag ao aC) (.slice S3 aq aD) (.slice aK aT aU) (.slice ah Y aE) q s)/\Hid (IsV Z (C2 Z) (.slice A dc cC) (C0 X))/\Hid (X.length=q.C.length/\(∀e∈X,Sz e 3)/\∀e∈X,0<=e))
   case first=>
    obtain⟨-,-,-,-,K,-,-⟩:=zpb aM.out.rs;cases p with
    |true=>obtain⟨X,v,cD,ev,de,a5,bG⟩:=yzr aa.out (cf.out rfl);have dt:Hid (IsV wc (C2 wc) (.slice S3 aq aD) (C0 X)):=(by have:=(ykf aM.out.sol).2.2.1;rw[cD] at this;exact this);have ds:Hid (X.length=q.C.length/\(∀e∈X,Sz e 3)/\∀e∈X,0<=e):=⟨bG.len,de,bG.nn⟩;clear cD ev de a5 bG;go_wp2_with fail;go_meet;exact⟨_,_,_,X,rfl,aM.out,dt.out,ds.out⟩
    |false=>go_wp2_with fail;go_meet;exact⟨_,_,_,B,rfl,aM.out,cz.out,ct.out⟩
   case rest=>
    obtain⟨eF,et,eQ,X,rfl,ab,aI,F⟩:=hcut;clear aM cz ct cf;have aX:=ywy ab.out.prg;have cw:=b aX.1;have cx:=b aX.2.1;have bt:=b aX.2.2;have bv:=ykf ab.out.sol;have dI:=b bv.2.1;have dH:=b bv.2.2.2.2;have a:Hid (q.A.length<=40/\q.C.length<=40/\(∀B∈q.A,B.length=q.C.length)/\(∀B∈q.A,∀e∈B,Sz e 1024)/\q.A.length=q.B.length/\(∀e∈q.B,Sz e 1024)/\∀e∈q.C,Sz e 1024):=⟨by rw[u.out.good.rows];exact u.out.good.nB,u.out.good.nC,u.out.good.cols,u.out.good.szA,u.out.good.rows,u.out.good.szB,u.out.good.szC⟩;have ac:Hid (∀e∈X,Sz e 1024):=fun e h=>(F.out.2.1 e h).le og;obtain⟨dm,cJ⟩:=nm (Z0 q.B (zkc q.A X));have cg:=b cJ;obtain⟨C,D,E⟩:=C3 ab.out.rp;obtain⟨J,O,P,Q,K,R,G⟩:=zpb ab.out.rs;have U:=zpw C D E J O P Q K R G;clear aX bv cJ C D E J O P Q K R G;go_wp2_with fail
    go_region_held3 (SH.mk _ U).s
     (exact U.out _ bel)
     (first
       |(go_at_call 16;(with_reducible refine Calls.mono (zun (uM _ cw) (uV _ aI) a.out.1 a.out.2.2.1 F.out.1 a.out.2.1 a.out.2.2.2.1 ac.out) ?_);rintro e fO ⟨⟨fF,rfl,en⟩,e4⟩;have dG:=b (IsV.oldN (OwnV.isV en)))
       |(go_at_call 15;(with_reducible refine Calls.mono (yna (uV _ cx) (uV _ dG) (by rw[zte];exact a.out.2.2.2.2.1.symm) (fun e h=>(a.out.2.2.2.2.2.1 e h).le og) (zum a.out.2.2.2.1 ac.out fun B hr=>by rw[a.out.2.2.1 B hr];exact a.out.2.1) cg.out) ?_);rintro e t ⟨rfl,e5⟩))
    have bL:Below wc.heap.size wc t:=bel;have aN:=b (ab.out.next bL);cases dm with
    |false=>go_wp2_with fail;go_roundw;(case rel=>exact⟨m+1,bd.out,by go_num,aN.out⟩);case measure=>simp[intOf];omega
    |true=>
     have a9:=b (yqu u.out.good F.out.1 F.out.2.2 cg.out.symm);obtain⟨C,D,E⟩:=C3 aN.out.rp;obtain⟨J,O,P,Q,K,R,G⟩:=zpb aN.out.rs;rcases yzq aa.out with g|g|g
     ·obtain⟨v,ev,a5,cP⟩:=yzn u.out.good aa.out g a9.out;have dJ:Hid (IsQ wc (C2 wc) (.agg #[.bool sg,.slice af an aB,.slice ag ao aC]) v):=(by have:=dI.out;rw[ev] at this;exact this);obtain⟨o,V⟩:=nm (zna (L2 q.C X) v);obtain⟨bf,dz⟩:=C4 V a5;have eh:¬(0:Int)<o:=(by rw[V];exact fun e=>absurd (cmpQ_pos.1 e) (Rat.not_lt.2 cP));have zkf:(s.st==1)=true:=(by rw[g];rfl);have zpg:(s.st==2)=false:=(by rw[g];rfl);have eg:(s.st !=3)=true:=(by rw[g];rfl);clear g ev a5 cP V;go_wp2_with fail;have U:=zpw C D E J O P Q K R G
      go_region_held3 (SH.mk _ U).s
       (exact U.out _ bel)
       (first
         |(go_at_call 18;(with_reducible refine Calls.mono (zrh (uV _ bt) (uV _ aI) rfl F.out.1 a.out.2.1 a.out.2.2.2.2.2.2 ac.out) ?_);rintro e di ⟨⟨eB,rfl,aS⟩,bK⟩;have br:=b (IsQ.stb.old aS);obtain⟨eA,dw,ew,dv,ey,rfl,_,_,_⟩:=G9 aS)
         |(go_at_call 17;(with_reducible refine Calls.mono (zyn (uQ _ br) (uQ _ dJ) (zww a.out.2.2.2.2.2.2 ac.out a.out.2.1) (dz.out.le og)) ?_);rw[<-bf.out];rintro e b1 ⟨rfl,ec⟩))
      have cu:=b (ab.out.next (show Below wc.heap.size wc b1 from bel));obtain⟨J,O,P,Q,K,R,G⟩:=zpb cu.out.rs;go_wp2_with fail;go_roundw;(case rel=>exact⟨m+1,bd.out,by go_num,cu.out⟩);case measure=>simp[intOf];omega
     ·exact(yzo u.out.good aa.out g a9.out).elim
     ·have zkf:(s.st==1)=false:=(by rw[g];rfl);have zpg:(s.st==2)=false:=(by rw[g];rfl);have eg:(s.st !=3)=false:=(by rw[g];rfl);obtain⟨I,cE,cM,df,c1⟩:=yzp u.out.good aa.out g;have cA:Hid (IsV wc (C2 wc) (.slice ah Y aE) (C0 I)):=(by have:=dH.out;rw[cE] at this;exact this);obtain⟨aW,dq⟩:=C4 (And.intro cM df) c1;clear g cE cM df c1;obtain rfl:r=et:=(by obtain⟨_,_,e,_⟩:=M5 aI.out;injection e with _ e _;rw[e,U6,F.out.1,H.out.2]);obtain rfl:r=Y:=(by obtain⟨_,_,e,_⟩:=M5 cA.out;injection e with _ e _;rw[e,U6,aW.out.1,H.out.2]);obtain⟨T,bI⟩:=nm (X5 (1+(m:Int)) 1);have dr:Hid (T=X5 (1+(m:Int)) 1):=bI;have aV:Hid (0<T/\Sz T 1):=(by rw[bI];exact⟨yxe og (by decide),yxf og⟩);have fc:IntKind.i64.wrap (1+(m:Int))=1+(m:Int):=IntWalk.i64_in _ og;clear bI;go_wp2_with fail;go_big_quiet (fail);go_wp2_with fail;clear C D E J O P Q K R;go_loopw [13,14] (fun out bZ wr=>∃(k:Nat) (S:Nat->Prop),k<=r/\bZ= .int .i64 (k:Int)/\Below t.heap.size t wr/\OwnS 3 37 IsR wr t.heap.size S out (C0 ((zlr T X I r).take k))/\Hid (∀p,S p->t.heap.size<=p)) (fun _ bZ _=>r-(intOf bZ).toNat);case atStart=>exact⟨0,fun _=>False,i _,rfl,⟨rfl,rfl,rfl,Nat.le_refl _,fun _ _=>rfl⟩,by simpa[C0] using(OwnS.nil (fun p h=>False.elim h):OwnS 3 37 IsR _ t.heap.size (fun _=>False) _ _),fun p h=>h.elim⟩
      case round=>
       obtain⟨k,S,e6,rfl,cQ,cX,cL⟩:=hrel;have eV:r<=4:=M.out.1;obtain⟨aH,bm⟩:=C4 cQ cX;clear cQ cX;rcases j k r with al|ee
       ·have be:=b al;obtain⟨x,W⟩:=zlp (l:=X) (j:=k) (by rw[F.out.1,H.out.2];exact al);obtain⟨z,a3⟩:=zlp (l:=I) (j:=k) (by rw[aW.out.1,H.out.2];exact al);have c9:(C0 X)[k]? =some (D8 x):=(by unfold C0;rw[List.getElem?_map,W];rfl);have db:(C0 I)[k]? =some (D8 z):=(by unfold C0;rw[List.getElem?_map,a3];rfl);obtain⟨eP,fo,dM,dN,dO,dP,rfl,_,cr,b4,b5,b7⟩:=zlc (IsV.stb.next aI.out bL) c9;obtain⟨bz,fp,dQ,dR,dS,dT,rfl,_,cs,b8,b9,ca⟩:=zlc (IsV.stb.next cA.out bL) db;have bn:IsQ t (C2 t) (.agg #[.bool (D8 x).neg,.slice dM (D8 x).num.length dN,.slice dO (D8 x).den.length dP]) x:=cr;have bp:IsQ t (C2 t) (.agg #[.bool (D8 z).neg,.slice dQ (D8 z).num.length dR,.slice dS (D8 z).den.length dT]) z:=cs;obtain⟨fP,bA⟩:=nm ((D8 x).neg);obtain⟨fQ,bB⟩:=nm ((D8 x).num.length);obtain⟨fR,bC⟩:=nm ((D8 x).den.length);obtain⟨fS,bD⟩:=nm ((D8 z).neg);obtain⟨fT,bE⟩:=nm ((D8 z).num.length);obtain⟨fU,bF⟩:=nm ((D8 z).den.length);rw[<-bA,<-bB,<-bC] at bn;rw[<-bD,<-bE,<-bF] at bp;rw[<-bA] at b4;rw[<-bB] at b5;rw[<-bC] at b7;rw[<-bD] at b8;rw[<-bE] at b9;rw[<-bF] at ca;obtain⟨dK,dL⟩:=C4 bn bp;have bg:Hid (Sz x 3/\Sz z 3):=⟨F.out.2.1 x (List.mem_of_getElem? W),aW.out.2 z (List.mem_of_getElem? a3)⟩;have du:Hid (X.getD k 0+T*I.getD k 0=x+T*z):=(by rw[Hid,List.getD_eq_getElem?_getD,W,List.getD_eq_getElem?_getD,a3];rfl);have e7:(0:Int)<=(k:Int):=og;have e8:(k:Int)<(r:Int):=og;have ch:=hs7 G b4 b5 b7 b8 b9 ca;have eO:=aH.out;clear W a3 c9 db cr cs bn bp b4 b5 b7 b8 b9 ca bA bB bC bD bE bF U G;go_wp2_with fail
        go_region_held3 (SH.mk _ ch).s
         (exact ch.out _ bel)
         (first
           |(go_at_call 21;(with_reducible refine Calls.mono (yxj og) ?_);rw[<-dr.out];rintro e di ⟨⟨eB,rfl,aS⟩,bK⟩;have br:=b (IsQ.stb.old aS);obtain⟨eA,dw,ew,dv,ey,rfl,_,_,_⟩:=G9 aS)
           |(go_at_call 20;(with_reducible refine Calls.mono (zym (uQ _ br) (uQ _ dL) (aV.out.2.le og) (bg.out.2.le og) rfl) ?_);rintro e b1 ⟨⟨v10,rfl,c5⟩,ec⟩;have dA:=b (IsQ.stb.old c5);obtain⟨fq,eK,ff,eG,fj,rfl,_,_,_⟩:=G9 c5)
           |(go_at_call 19;(with_reducible refine Calls.mono (zvo (uQ _ dK) (uQ _ dA) (bg.out.1.le og) ((aV.out.2.mul bg.out.2).le og) rfl) ?_);rintro e dh ⟨⟨v11,rfl,c6⟩,eW⟩;have dB:=b c6;obtain⟨fr,eL,fg,eH,fk,rfl,_,_,_⟩:=G9 c6)
           |(refine yzv (.tmp 89) (.tmp 104) rfl (by simp[Act.eval]) (by simp[Act.eval]) rfl bm (show Below wr.heap.size wr dh from bel) dB (fun p h=>⟨d (Below.size (show Below wr.heap.size wr b1 from bel)) h.1,h.2⟩) (by have:=M.out.1;rw[List.length_take,zwj];omega) aH.out.size ?_;intro fv eC ei ed fa fe;have dX:Below t.heap.size t eC:=yng aH.out ed bm.out.own_lt))
        go_wp2_with fail;go_roundw;(case rel=>(repeat apply Exists.intro);refine⟨?_,rfl⟩;exact⟨k+1,zwi S wr dh,be.out,by go_num,dX,by rw[ymm be.out,du.out];exact ei,fun p aQ=>by rcases aQ with aQ|aQ;exact cL.out p aQ;exact d aH.out.size aQ.1⟩);case measure=>simp[intOf];have:=be.out;omega
       ·obtain rfl:k=r:=og;have dU:=aH.out;have bw:Hid (IsV wr (C2 wr) u13 (C0 (zlr T X I k))):=(by have g:=bm.out;rw[List.take_of_length_le (by rw[zwj];exact Nat.le_refl _)] at g;exact IsV.stb.to (g.isS (T:=F6 t.heap.size wr) IsR.stb (fun p h=>⟨cL.out p h,by obtain⟨_,_,_,_,dW⟩:=g;exact(dW p h).1⟩) (fun p g cF=>⟨g,cF⟩)) (E0 fun p h=>h.2));have aP:Hid (∀e∈zlr T X I k,Sz e 8):=ymn aV.out.2 F.out.2.1 aW.out.2;have cq:Hid ((zlr T X I k).length=q.C.length):=(zwj _ _ _ _).trans H.out.2.symm;have aR:=dq.out X T a9.out aV.out.1;rw[H.out.2] at aR;have N:=b aR.1;have dx:=b aR.2.1;obtain⟨o,V⟩:=nm (zna (L2 q.C (zlr T X I k)) (L2 q.C X));have bf:=b V;have eh:0<o:=(by rw[V];exact cmpQ_pos.2 aR.2.2);have fb:¬o<=0:=og;obtain⟨C,D,E⟩:=C3 (aN.out.rp.next dU);have cj:=zll C D E;clear aR V C D E G U;go_wp2_with fail
        go_region_held3 (SH.mk _ cj).s
         (exact cj.out _ bel)
         (first
           |(go_at_call 22;(with_reducible refine Calls.mono (zry _ (n:=k) (by have:=M.out.1;omega)) ?_);rintro e fG ⟨⟨fw,rfl,ek⟩,eX⟩;have dC:=b (IsV.oldN (OwnV.isV ek)))
           |(go_at_call 15;(with_reducible refine Calls.mono (znw (uV _ bw) (uV _ dC) (by rw[zwj,List.length_replicate]) (fun e h=>(aP.out e h).le og) (fun e h=>(zrp (k:=1) e h).le og) N.out) ?_);rintro e fH ⟨rfl,eY⟩)
           |(go_at_call 16;(with_reducible refine Calls.mono (zun (uM _ cw) (uV _ bw) a.out.1 a.out.2.2.1 cq.out a.out.2.1 a.out.2.2.2.1 (fun e h=>(aP.out e h).le og)) ?_);rintro e fI ⟨⟨fx,rfl,em⟩,eZ⟩;have dD:=b (IsV.oldN (OwnV.isV em)))
           |(go_at_call 15;(with_reducible refine Calls.mono (znw (uV _ cx) (uV _ dD) (by rw[zte];exact a.out.2.2.2.2.1.symm) (fun e h=>(a.out.2.2.2.2.2.1 e h).le og) (zum a.out.2.2.2.1 (fun e h=>(aP.out e h).le og) fun B hr=>by rw[a.out.2.2.1 B hr];exact a.out.2.1) dx.out) ?_);rintro e fJ ⟨rfl,e0⟩)
           |(go_at_call 18;(with_reducible refine Calls.mono (zrh (uV _ bt) (uV _ bw) rfl cq.out a.out.2.1 a.out.2.2.2.2.2.2 (fun e h=>(aP.out e h).le og)) ?_);rintro e fK ⟨⟨fy,rfl,c7⟩,e1⟩;have dE:=b (IsQ.stb.old c7);obtain⟨fs,eM,fh,eI,fl,rfl,_,_,_⟩:=G9 c7)
           |(go_at_call 18;(with_reducible refine Calls.mono (zrh (uV _ bt) (uV _ aI) rfl F.out.1 a.out.2.1 a.out.2.2.2.2.2.2 ac.out) ?_);rintro e fL ⟨⟨fz,rfl,c8⟩,e2⟩;have dF:=b (IsQ.stb.old c8);obtain⟨ft,eN,fi,eJ,fm,rfl,_,_,_⟩:=G9 c8)
           |(go_at_call 17;(with_reducible refine Calls.mono (zyn (uQ _ dE) (uQ _ dF) (zww a.out.2.2.2.2.2.2 (fun e h=>(aP.out e h).le og) a.out.2.1) (zww a.out.2.2.2.2.2.2 ac.out a.out.2.1)) ?_);rw[<-bf.out];rintro e eD ⟨rfl,e3⟩))
        have dy:=b (aN.out.next (show Below t.heap.size t eD from bel));go_wp2_with fail;go_roundw;(case rel=>exact⟨m+1,bd.out,by go_num,dy.out⟩);case measure=>simp[intOf];omega
  ·obtain rfl:m=10:=og;go_wp2_with fail;refine(ync (Bru.next cd.out aO.out.bel)).mono ?_;rintro e di ⟨rfl,bK⟩;go_wp2_with fail;go_ret;exact⟨rfl,C9 aO.out.bel bK⟩
theorem yst {w:World} {l:List Int} (c:IsIL w (C2 w) f l) (n:Int) (g:(Lit.int .i64 n).wf=true) (a:Int) (d:(Lit.int .i64 a).wf=true) (b:Bru w):
 Calls Tryz.prog 3 #[f,.int .i64 n,.int .i64 a] w fun e w'=>e= .returned (.bool true)/\Below w.heap.size w w':=yss c (yar g) (yar d) b
end Go.Proofs.YtdgilbgdkmhcmaaGreatDoor
