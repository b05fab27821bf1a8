/-
 Contracts of the reference's checks of a number and of a list.
-/
import Derived.Test.YtdgilbgdkmhcmaaGreatDoorProofSimplexDuals10
namespace Go.Proofs.YtdgilbgdkmhcmaaGreatDoor
open Go.RowKit
set_option linter.unusedVariables false
set_option maxRecDepth 100000
set_option maxHeartbeats 8000000
open _root_.Go.Lib renaming hid → F
open _root_.Nat renaming le_refl → J, le_trans → I, lt_of_lt_of_le → Y, zero_le → V
open _root_.List renaming getD_eq_getElem?_getD → U, getElem?_eq_getElem → W, mem_of_getElem? → Z
open _root_.Go renaming World → f, Value → o, Calls → H
open _root_.Go.RowKit renaming Below → D, Hid → E
open _root_.Go.Proofs.Tryz renaming prog → G
variable {K P b base i j lo u : Nat} {L S : Nat → Prop} {c v q z : o} {l : List Rat} {r : Option Nat} {a : f} {xs : List o}
theorem ztk {w:f} {a b:List Nat} (ha:IsL .u32 w 0 w.heap.size q a) (s:IsL .u32 w 0 w.heap.size z b):H G 77 #[q,z] w fun h w'=>h= .returned (.int .i64 (U7 a b))/\w=w':=by
 obtain⟨n,p⟩:=C4 ha s;obtain⟨A,c,rfl,_,_,_⟩:=ha;obtain⟨B,d,rfl,_,_,_⟩:=s;obtain⟨x,t⟩:=nm (L9 a);obtain⟨y,u⟩:=nm (L9 b);obtain⟨g,j⟩:=C4 t u;clear t u;by_cases l:x=0;(case neg=>have v:(x !=0)=true:=bne_iff_ne.2 l;have i:E (U7 a b=x):=(by unfold E U7;rw[<-g.out,if_pos l]);go_in;go_wp2_with fail;refine(zrz n.out).mono ?_;rw[<-g.out];rintro h e ⟨rfl,rfl⟩;go_wp2_with fail;go_ret;exact⟨H6 i.out.symm,rfl⟩);have v:(x !=0)=false:=(by rw[l];rfl);have o:=F l;clear l;by_cases m:y=0;(case neg=>have C:(y !=0)=true:=bne_iff_ne.2 m;have i:E (U7 a b=y):=(by unfold E U7;rw[<-g.out,if_neg (by simp[o.out]),<-j.out,if_pos m]);go_in;go_wp2_with fail;refine(zrz n.out).mono ?_;rw[<-g.out];rintro h e ⟨rfl,rfl⟩;go_wp2_with fail;refine(zrz p.out).mono ?_;rw[<-j.out];rintro h e ⟨rfl,rfl⟩;go_wp2_with fail;go_ret;exact⟨H6 i.out.symm,rfl⟩);have C:(y !=0)=false:=(by rw[m];rfl);have r:=F m;clear m;by_cases k:b=[]
 ·have D:((b.length:Int)==0)=true:=(by rw[k];rfl);have i:E (U7 a b=6):=(by unfold E U7;rw[<-g.out,if_neg (by simp[o.out]),<-j.out,if_neg (by simp[r.out]),if_pos k]);clear k;go_in;go_wp2_with fail;refine(zrz n.out).mono ?_;rw[<-g.out];rintro h e ⟨rfl,rfl⟩;go_wp2_with fail;refine(zrz p.out).mono ?_;rw[<-j.out];rintro h e ⟨rfl,rfl⟩;go_wp2_with fail;go_ret;exact⟨H6 i.out.symm,rfl⟩
 ·have D:((b.length:Int)==0)=false:=beq_eq_false_iff_ne.2 (by have:=List.length_pos_iff.2 k;omega);have i:E (U7 a b=0):=(by unfold E U7;rw[<-g.out,if_neg (by simp[o.out]),<-j.out,if_neg (by simp[r.out]),if_neg k]);clear k;go_in;go_wp2_with fail;refine(zrz n.out).mono ?_;rw[<-g.out];rintro h e ⟨rfl,rfl⟩;go_wp2_with fail;refine(zrz p.out).mono ?_;rw[<-j.out];rintro h e ⟨rfl,rfl⟩;go_wp2_with fail;go_ret;exact⟨H6 i.out.symm,rfl⟩
theorem zpn {w:f} {x y:Nat} (ha:IsN w 0 w.heap.size q x) (d:IsN w 0 w.heap.size z y) (b:(A9 x).length<=1024) (c:(A9 y).length<=1024):
 H G 78 #[q,z] w fun a w'=>(∃v,a= .returned v/\IsN w' 0 w'.heap.size v (Nat.gcd x y))/\D w.heap.size w w':=
 yix ha d (I b og) (I c og)
theorem yxo {w:f} {r:Raw} (h:IsR w (C2 w) v r):H G 27 #[v] w fun c w'=>c= .returned (.int .i64 (T3 r))/\D w.heap.size w w':=by
 obtain⟨A,n,B,p,rfl,N,O⟩:=ygh h;obtain⟨g,aM,aj,ay,aO⟩:=K7 w #[.bool r.neg,.slice A r.num.length n,.slice B r.den.length p] 37;obtain⟨K,R⟩:=C4 (IsK.isL (IsK.stb.next N aj) (lo:=0) (hi:=g.heap.size) fun b a=>⟨V _,a⟩) (IsK.isL (IsK.stb.next O aj) (lo:=0) (hi:=g.heap.size) fun b a=>⟨V _,a⟩);obtain⟨X,ad,ae⟩:=C5 ay;obtain⟨S,T⟩:=C4 ay aj;have aP:r.num.length<=9223372036854775807:=(by have:=K.out.length_le;unfold maxLen at this;omega);clear h N O ay aj;obtain⟨x,aE⟩:=nm (U7 r.num r.den);have m:=F aE;clear aE;by_cases ac:x=0;(case neg=>have aG:(x !=0)=true:=bne_iff_ne.2 ac;have j:E (T3 r=x):=(by rw[E,m.out];exact ydu (by rw[<-m.out];exact ac));go_in;go_wp2_with fail;refine(ztk K.out R.out).mono ?_;rw[<-m.out];rintro c e ⟨rfl,rfl⟩;go_wp2_with fail;go_ret;exact⟨H6 j.out.symm,T.out⟩);have aG:(x !=0)=false:=(by rw[ac];rfl);have P:=yds (num:=r.num) (den:=r.den) (by rw[<-m.out];exact ac);obtain⟨aC,aN,l,k⟩:=X6 (ydv (r:=r) (by rw[<-m.out];exact ac)) P (K.out.isN P.1) (R.out.isN P.2.1);have aL:=(zqb P.1).2.2;have aK:=(zqb P.2.1).2.2;obtain⟨y,u⟩:=C4 (zwd P.1) (zwd P.2.1);clear P ac;clear aL aK;obtain⟨d,ai⟩:=nm (Nat.gcd (val r.num) (val r.den));have af:E ((r.num=[]/\r.neg=true)\/d≠1->T3 r=3):=fun h=>(by rw[aC.out,if_pos (by rw[<-ai];exact h)]);have an:E (¬((r.num=[]/\r.neg=true)\/d≠1)->T3 r=0):=fun h=>(by rw[aC.out,if_neg (by rw[<-ai];exact h)]);have q:=F ai;clear ai;obtain⟨s,aD⟩:=nm (r.neg);rw[<-aD] at X aM af an S⊢;clear aD;by_cases N:(A9 d).length=1;(case neg=>have aH:(((A9 d).length:Int) !=1)=true:=bne_iff_ne.2 og;have j:E (T3 r=3):=af.out (.inr fun h=>N (by rw[h,Y5];rfl));clear N;go_in;go_wp2_with fail;refine(ztk K.out R.out).mono ?_;rw[<-m.out];rintro c e ⟨rfl,rfl⟩;go_wp2_with fail;refine(show H G 78 #[.slice A r.num.length n,.slice B r.den.length p] g (fun c w'=>(∃v,c= .returned v/\IsN w' 0 w'.heap.size v d)/\D g.heap.size g w') from by rw[q.out];exact zpn l.out k.out y.out u.out).mono ?_;rintro c e ⟨⟨al,rfl,hv⟩,a⟩;have t:=nB T a;obtain⟨L,M,b2⟩:=C5 (S.out.next a);obtain⟨C,z⟩:=C4 (IsN.next l.out a) (IsN.next k.out a);obtain⟨ah,ak,rfl,_,_,_⟩:=hv;clear a X ad ae;go_wp2_with fail;go_ret;exact⟨H6 j.out.symm,t.out⟩);have aH:(((A9 d).length:Int) !=1)=false:=(by rw[N];rfl);have ag:=F N;have aQ:0<(A9 d).length:=og;clear N;by_cases O:d=1;(case neg=>have aI:((d:Int) !=1)=true:=bne_iff_ne.2 og;have j:E (T3 r=3):=af.out (.inr O);clear O;go_in;go_wp2_with fail;refine(ztk K.out R.out).mono ?_;rw[<-m.out];rintro c e ⟨rfl,rfl⟩;go_wp2_with fail;refine(show H G 78 #[.slice A r.num.length n,.slice B r.den.length p] g (fun c w'=>(∃v,c= .returned v/\IsN w' 0 w'.heap.size v d)/\D g.heap.size g w') from by rw[q.out];exact zpn l.out k.out y.out u.out).mono ?_;rintro c e ⟨⟨al,rfl,hv⟩,a⟩;have t:=nB T a;have i:=F (S.out.next a);obtain⟨L,M,b2⟩:=C5 i.out;obtain⟨C,z⟩:=C4 (IsN.next l.out a) (IsN.next k.out a);obtain⟨ah,ak,rfl,_,_,_⟩:=hv;clear a X ad ae;go_wp2_with fail;refine(show H G 78 #[.slice A r.num.length n,.slice B r.den.length p] e (fun c w'=>(∃v,c= .returned v/\IsN w' 0 w'.heap.size v d)/\D e.heap.size e w') from by rw[q.out];exact zpn C.out z.out y.out u.out).mono ?_;rintro c aA ⟨⟨az,rfl,hv⟩,a⟩;have Q:=nB t a;obtain⟨d0,ar,au⟩:=C5 (i.out.next a);obtain⟨ao,av,rfl,_,_,_⟩:=id hv;obtain⟨aq,og,rfl,hg,_,_⟩:=zxm (znc hv) ag.out;clear a L M b2;go_wp2_with fail;go_ret;exact⟨H6 j.out.symm,Q.out⟩);have aI:((d:Int) !=1)=false:=(by rw[O];rfl);have aB:=F O;clear O;cases s with
 |false=>have j:E (T3 r=0):=an.out (by simp[aB.out]);go_in;go_wp2_with fail;refine(ztk K.out R.out).mono ?_;rw[<-m.out];rintro c e ⟨rfl,rfl⟩;go_wp2_with fail;refine(show H G 78 #[.slice A r.num.length n,.slice B r.den.length p] g (fun c w'=>(∃v,c= .returned v/\IsN w' 0 w'.heap.size v d)/\D g.heap.size g w') from by rw[q.out];exact zpn l.out k.out y.out u.out).mono ?_;rintro c e ⟨⟨al,rfl,hv⟩,a⟩;have t:=nB T a;have i:=F (S.out.next a);obtain⟨L,M,b2⟩:=C5 i.out;obtain⟨C,z⟩:=C4 (IsN.next l.out a) (IsN.next k.out a);obtain⟨ah,ak,rfl,_,_,_⟩:=hv;clear a X ad ae;go_wp2_with fail;refine(show H G 78 #[.slice A r.num.length n,.slice B r.den.length p] e (fun c w'=>(∃v,c= .returned v/\IsN w' 0 w'.heap.size v d)/\D e.heap.size e w') from by rw[q.out];exact zpn C.out z.out y.out u.out).mono ?_;rintro c aA ⟨⟨az,rfl,hv⟩,a⟩;have Q:=nB t a;obtain⟨d0,ar,au⟩:=C5 (i.out.next a);obtain⟨ao,av,rfl,_,_,_⟩:=id hv;obtain⟨aq,og,rfl,hg,_,_⟩:=zxm (znc hv) ag.out;clear a L M b2;go_wp2_with fail;go_ret;exact⟨H6 j.out.symm,Q.out⟩
 |true=>
  by_cases aa:r.num=[]
  ·have aJ:((r.num.length:Int)==0)=true:=(by rw[aa];rfl);have j:E (T3 r=3):=af.out (.inl ⟨aa,rfl⟩);clear aa;go_in;go_wp2_with fail;refine(ztk K.out R.out).mono ?_;rw[<-m.out];rintro c e ⟨rfl,rfl⟩;go_wp2_with fail;refine(show H G 78 #[.slice A r.num.length n,.slice B r.den.length p] g (fun c w'=>(∃v,c= .returned v/\IsN w' 0 w'.heap.size v d)/\D g.heap.size g w') from by rw[q.out];exact zpn l.out k.out y.out u.out).mono ?_;rintro c e ⟨⟨al,rfl,hv⟩,a⟩;have t:=nB T a;have i:=F (S.out.next a);obtain⟨L,M,b2⟩:=C5 i.out;obtain⟨C,z⟩:=C4 (IsN.next l.out a) (IsN.next k.out a);obtain⟨ah,ak,rfl,_,_,_⟩:=hv;clear a X ad ae;go_wp2_with fail;refine(show H G 78 #[.slice A r.num.length n,.slice B r.den.length p] e (fun c w'=>(∃v,c= .returned v/\IsN w' 0 w'.heap.size v d)/\D e.heap.size e w') from by rw[q.out];exact zpn C.out z.out y.out u.out).mono ?_;rintro c aA ⟨⟨az,rfl,hv⟩,a⟩;have Q:=nB t a;obtain⟨d0,ar,au⟩:=C5 (i.out.next a);obtain⟨ao,av,rfl,_,_,_⟩:=id hv;obtain⟨aq,og,rfl,hg,_,_⟩:=zxm (znc hv) ag.out;clear a L M b2;go_wp2_with fail;go_ret;exact⟨H6 j.out.symm,Q.out⟩
  ·have aJ:((r.num.length:Int)==0)=false:=beq_eq_false_iff_ne.2 (by have:=List.length_pos_iff.2 aa;omega);have j:E (T3 r=0):=an.out (by simp[aB.out,aa]);clear aa;go_in;go_wp2_with fail;refine(ztk K.out R.out).mono ?_;rw[<-m.out];rintro c e ⟨rfl,rfl⟩;go_wp2_with fail;refine(show H G 78 #[.slice A r.num.length n,.slice B r.den.length p] g (fun c w'=>(∃v,c= .returned v/\IsN w' 0 w'.heap.size v d)/\D g.heap.size g w') from by rw[q.out];exact zpn l.out k.out y.out u.out).mono ?_;rintro c e ⟨⟨al,rfl,hv⟩,a⟩;have t:=nB T a;have i:=F (S.out.next a);obtain⟨L,M,b2⟩:=C5 i.out;obtain⟨C,z⟩:=C4 (IsN.next l.out a) (IsN.next k.out a);obtain⟨ah,ak,rfl,_,_,_⟩:=hv;clear a X ad ae;go_wp2_with fail;refine(show H G 78 #[.slice A r.num.length n,.slice B r.den.length p] e (fun c w'=>(∃v,c= .returned v/\IsN w' 0 w'.heap.size v d)/\D e.heap.size e w') from by rw[q.out];exact zpn C.out z.out y.out u.out).mono ?_;rintro c aA ⟨⟨az,rfl,hv⟩,a⟩;have Q:=nB t a;obtain⟨d0,ar,au⟩:=C5 (i.out.next a);obtain⟨ao,av,rfl,_,_,_⟩:=id hv;obtain⟨aq,og,rfl,hg,_,_⟩:=zxm (znc hv) ag.out;clear a L M b2;go_wp2_with fail;go_ret;exact⟨H6 j.out.symm,Q.out⟩
abbrev pt7 (w:f) (g:Nat) (a b c d e i h:o):f:=((((((w.setCell ⟨g,0,none⟩ a).setCell ⟨g,1,none⟩ b).setCell ⟨g,2,none⟩ c).setCell ⟨g,3,none⟩ d).setCell ⟨g,4,none⟩ e).setCell ⟨g,5,none⟩ i).setCell ⟨g,6,none⟩ h
section
variable {w e : f} {g n : Nat} {t : TypeId} {A y C B O Q T : o}
theorem Row.pt7 (h:Row w g t [A,y,C,B,O,Q,T]) (a b c d e f k:o):Row (pt7 w g a b c d e f k) g t [a,b,c,d,e,f,k]:=((((((h.set_ 0 a).set_ 1 b).set_ 2 c).set_ 3 d).set_ 4 e).set_ 5 f).set_ 6 k
theorem ymy (h:D n w e) (hg:n<=g) (a b c d f i k:o):D n w (pt7 e g a b c d f i k):=((((((h.setCell (p:=⟨g,0,none⟩) hg a).setCell (p:=⟨g,1,none⟩) hg b).setCell (p:=⟨g,2,none⟩) hg c).setCell (p:=⟨g,3,none⟩) hg d).setCell (p:=⟨g,4,none⟩) hg f).setCell (p:=⟨g,5,none⟩) hg i).setCell (p:=⟨g,6,none⟩) hg k
theorem zvk (w:f) (g:Nat) (a b c d e h k:o):(pt7 w g a b c d e h k).heap.size=w.heap.size:=by simp[pt7,World.setCell]
theorem zqe (w:f) (g:Nat) (a b c d e h k:o):w.grownBy (pt7 w g a b c d e h k) (some g):=J5 (J5 (J5 (J5 (J5 (J5 (I0 _ _ _ _) (I0 _ _ _ _)) (I0 _ _ _ _)) (I0 _ _ _ _)) (I0 _ _ _ _)) (I0 _ _ _ _)) (I0 _ _ _ _)
theorem Y4 {j:Nat} (h:w.cell? ⟨b,j,none⟩=some v) (hg:b≠g) (a f c d e i k:o):(pt7 w g a f c d e i k).cell? ⟨b,j,none⟩=some v:=by have l:=World.block_lt_of_cell? w _ h;rw[<-h];exact World.cell?_of_block ((zqe w g a f c d e i k).block b l fun e=>hg (by injection e))
theorem W5 (h:Row w g t [A,y,C,B,O,Q,T]):w.cell? ⟨g,0,none⟩=some A/\w.cell? ⟨g,1,none⟩=some y/\w.cell? ⟨g,2,none⟩=some C/\w.cell? ⟨g,3,none⟩=some B/\w.cell? ⟨g,4,none⟩=some O/\w.cell? ⟨g,5,none⟩=some Q/\w.cell? ⟨g,6,none⟩=some T:=⟨h.cell 0,h.cell 1,h.cell 2,h.cell 3,h.cell 4,h.cell 5,h.cell 6⟩
theorem zkv (h:Row w g t [A,y,C,B,O,Q,T]):w.frozen? ⟨g,0,none⟩=false/\w.frozen? ⟨g,1,none⟩=false/\w.frozen? ⟨g,2,none⟩=false/\w.frozen? ⟨g,3,none⟩=false/\w.frozen? ⟨g,4,none⟩=false/\w.frozen? ⟨g,5,none⟩=false/\w.frozen? ⟨g,6,none⟩=false:=⟨h.frozen 0,h.frozen 1,h.frozen 2,h.frozen 3,h.frozen 4,h.frozen 5,h.frozen 6⟩
end
theorem zvm:Tryz.prog.cellsOf 39=7:=by kernel_rfl
theorem zlk {fn:Func} {slot:Tmp} {R:Ending->f->Prop} {a:Act} {w:f} {g:Nat} {A y C B O Q T:o} (hr:fn.results= #[.cell slot 39]) (ha:a.tmps.getD slot undef= .pointer (some ⟨g,0,none⟩)) (hd:a.defers=[])
 (h:Row w g 39 [A,y,C,B,O,Q,T]) (l:R (.returned (.agg #[A,y,C,B,O,Q,T])) w):bodyPost G fn R .ret a w:=by refine bodyPost_ret (v:= .agg #[A,y,C,B,O,Q,T]) ?_ hd l;obtain⟨b,c,d,e,i,j,k⟩:=W5 h;have m:a.tmps[slot]?.getD undef= .pointer (some ⟨g,0,none⟩):=(by simpa using ha);simp[results,hr,m,asAddr,go_sem,b,c,d,e,i,j,k]
theorem zmr {w:f} {st:Int} {x y z a b:o} {q:Rat} {X D R:List Raw} (h:IsQ w S (.agg #[x,y,z]) q) (e:IsV w S a X) (g:IsV w S b D) (i:IsV w S c R):IsSol w S (.agg #[.int .i64 st,x,y,z,a,b,c]) ⟨st,E7 q,X,D,R⟩:=by obtain⟨A,k,B,l,d,t,u⟩:=id h;simp only[Value.agg.injEq,Array.mk.injEq,List.cons.injEq] at d;obtain⟨rfl,rfl,rfl,_⟩:=d;obtain⟨j,p,rfl,_⟩:=T4 e;obtain⟨m,r,rfl,_⟩:=T4 g;obtain⟨n,s,rfl,_⟩:=T4 i;exact⟨A,k,B,l,j,p,m,r,n,s,rfl,h,e,g,i⟩
theorem zlv {w:f}:IsV w S (.slice none 0 0) []:=IsS.nil
def zob (w:f) (s:Sol) (a:Ending) (w':f):Prop:=(∃v,a= .returned v/\IsSol w' (G4 w.heap.size w') v s)/\D w.heap.size w w'
theorem zlj {w e:f} {g:Nat} {a b d i j k:o} {s:Sol} (h:IsSol e (G4 lo e) (.agg #[a,b,c,d,i,j,k]) s) (m:D w.heap.size w e) (hg:w.heap.size<=g) (hlo:g<lo):zob w s (.returned (.agg #[a,b,c,d,i,j,k])) (pt7 e g a b c d i j k):=by refine⟨⟨_,rfl,IsSol.stb.to h fun x n=> ?_⟩,ymy m hg _ _ _ _ _ _ _⟩;have l:lo<=x/\x<e.heap.size:=n;refine⟨⟨by omega,by rw[zvk];exact l.2⟩,fun p=>World.cell?_of_block ((zqe e g a b c d i j k).block x l.2 fun i=> ?_)⟩;injection i with i;omega
theorem ztd {z:Int} {d v:Nat}:G9 z u d v=(z:Rat)*((d:Int):Rat)⁻¹*((u:Nat):Rat)*((v:Nat):Rat)⁻¹:=by unfold G9;have h:(((d:Nat):Rat)*((v:Nat):Rat))⁻¹=((v:Nat):Rat)⁻¹*((d:Nat):Rat)⁻¹:=Rat.inv_mul_rev _ _;have a:((d:Int):Rat)=((d:Nat):Rat):=rfl;rw[Rat.div_def,h,a];grind
section
variable {sc : Nat → Nat} {top m n : Nat} {t : TB}
theorem ypd (a:i<m):(J9 sc top m n t).D i n=G9 (t.A i n) 1 t.d (sc (t.bas.getD i 0)):=by rw[ztd];show(if i<=m/\n<=n then _ else _)=_;rw[if_pos ⟨by omega,J _⟩];unfold uc ur;rw[if_neg (Nat.lt_irrefl _),if_pos a];rfl
theorem ypc (a:j<n):(J9 sc top m n t).D m j=G9 (t.A m j) (sc (t.oth.getD j 0)) t.d top:=by rw[ztd];show(if m<=m/\j<=n then _ else _)=_;rw[if_pos ⟨J _,by omega⟩];unfold uc ur;rw[if_pos a,if_neg (Nat.lt_irrefl _)]
theorem yel (a:i<m) (b:j<n):(J9 sc top m n t).D i j=G9 (t.A i j) (sc (t.oth.getD j 0)) t.d (sc (t.bas.getD i 0)):=by rw[ztd];show(if i<=m/\j<=n then _ else _)=_;rw[if_pos ⟨by omega,by omega⟩];unfold uc ur;rw[if_pos b,if_pos a]
theorem ype:(J9 sc top m n t).D m n=G9 (t.A m n) 1 t.d top:=by rw[ztd];show(if m<=m/\n<=n then _ else _)=_;rw[if_pos ⟨J _,J _⟩];unfold uc ur;rw[if_neg (Nat.lt_irrefl _),if_neg (Nat.lt_irrefl _)];rfl
theorem yvh {z:Int} {d v:Nat}:G9 (-z) u d v= -G9 z u d v:=by rw[ztd,ztd,Rat.intCast_neg];grind
theorem yim:I9 n 0 (fun _=>0) (fun i=>t.bas.getD i 0) (fun i=>G9 (t.A i n) 1 t.d (sc (t.bas.getD i 0))) m=zry m n (J9 sc top m n t):=by
 unfold I9 zry L5;refine List.map_congr_left fun v hv=> ?_;unfold W7;have b:C3 n (fun j=>if(J9 sc top m n t).oth j=v then(0:Rat) else 0)=0:=zkl fun j d=>(by split<;>rfl);rw[b,Nat.zero_add,N0 (f:=fun i=>if t.bas.getD i 0=v then G9 (t.A i n) 1 t.d (sc (t.bas.getD i 0)) else 0) (g:=fun i=>if(J9 sc top m n t).bas i=v then(J9 sc top m n t).D i n*1-C3 n (fun j=>(J9 sc top m n t).D i j*0) else 0) fun i c=> ?_]
 ·grind
 ·have a:C3 n (fun j=>(J9 sc top m n t).D i j*0)=0:=zkl fun j d=>Rat.mul_zero _;rw[a,ypd c];show(if t.bas.getD i 0=v then _ else _)=(if t.bas.getD i 0=v then _ else _);split
  ·grind
  ·rfl
theorem ywv:I9 m n (fun _=>0) (fun j=>t.oth.getD j 0) (fun j=>G9 (t.A m j) (sc (t.oth.getD j 0)) t.d top) n=zux m n (J9 sc top m n t):=by unfold I9 zux L5 W0;refine List.map_congr_left fun v hv=> ?_;rw[N0 (f:=fun j=>if t.oth.getD j 0=n+v then G9 (t.A m j) (sc (t.oth.getD j 0)) t.d top else 0) (g:=fun j=>if(J9 sc top m n t).oth j=n+v then(J9 sc top m n t).D m j else 0) fun j a=>by rw[ypc a];rfl];grind
theorem ywx {r:Nat} (hr:r<m):I9 m n (fun v=>if t.bas.getD r 0=n+v then 1 else 0) (fun j=>t.oth.getD j 0) (fun j=>G9 (t.A r j) (sc (t.oth.getD j 0)) t.d (sc (t.bas.getD r 0))) n=zuw m n (J9 sc top m n t) r:=by unfold I9 zuw L5 W0;refine List.map_congr_left fun v hv=> ?_;rw[N0 (f:=fun j=>if t.oth.getD j 0=n+v then G9 (t.A r j) (sc (t.oth.getD j 0)) t.d (sc (t.bas.getD r 0)) else 0) (g:=fun j=>if(J9 sc top m n t).oth j=n+v then(J9 sc top m n t).D r j else 0) fun j a=>by rw[yel hr a];rfl];show(if t.bas.getD r 0=n+v then(1:Rat) else 0)+_=_+(if t.bas.getD r 0=n+v then(1:Rat) else 0);exact Rat.add_comm _ _
theorem yxl {c:Nat} (hc:c<n):I9 n 0 (fun v=>if t.oth.getD c 0=0+v then 1 else 0) (fun i=>t.bas.getD i 0) (fun i=>G9 (-(t.A i c)) (sc (t.oth.getD c 0)) t.d (sc (t.bas.getD i 0))) m=zvb m n (J9 sc top m n t) c:=by
 unfold I9 zvb L5;refine List.map_congr_left fun v hv=> ?_;unfold W7;have d:C3 n (fun j=>if(J9 sc top m n t).oth j=v then(if j=c then(1:Rat) else 0) else 0)=if t.oth.getD c 0=v then 1 else 0:=(by rw[zlz hc fun j f a=>by rw[if_neg a];split<;>rfl,if_pos rfl];rfl);rw[d,Nat.zero_add,N0 (f:=fun i=>if t.bas.getD i 0=v then G9 (-(t.A i c)) (sc (t.oth.getD c 0)) t.d (sc (t.bas.getD i 0)) else 0) (g:=fun i=>if(J9 sc top m n t).bas i=v then(J9 sc top m n t).D i n*0-C3 n (fun j=>(J9 sc top m n t).D i j*(if j=c then 1 else 0)) else 0) fun i e=> ?_]
 ·show(if t.oth.getD c 0=0+v then(1:Rat) else 0)+_=_+(if t.oth.getD c 0=v then(1:Rat) else 0);rw[Nat.zero_add];exact Rat.add_comm _ _
 ·have b:C3 n (fun j=>(J9 sc top m n t).D i j*(if j=c then 1 else 0))=(J9 sc top m n t).D i c:=(by rw[zlz hc fun j f a=>by rw[if_neg a];exact Rat.mul_zero _,if_pos rfl];exact Rat.mul_one _);rw[b,yel e hc,yvh];show(if t.bas.getD i 0=v then _ else _)=(if t.bas.getD i 0=v then _ else _);split
  ·grind
  ·rfl
end
theorem zz1363 {w:f} {q:Rat} (h:IsQ w (C2 w) v q):H G 64 #[v] w fun g w'=>g= .returned (.bool (!(zld q)))/\D w.heap.size w w':=by
 have d:=F h;obtain⟨neg,A,p,B,r,rfl,_,_,_⟩:=K6 h;obtain⟨y,k⟩:=nm ((A9 q.num.natAbs).length);obtain⟨C,l⟩:=nm ((A9 q.den).length);rw[<-k,<-l] at d⊢;obtain⟨b,a⟩:=nm (zld q);rw[<-a];have n:=F a;clear h k l a;have x:=R4;obtain⟨z,s,i,m,o⟩:=K7 w #[.bool neg,.slice A y p,.slice B C r] 37;obtain⟨t,u,b2⟩:=C5 m;have B0:=F i;clear i m o;go_in;go_wp2_with fail;clear s;refine(yrb (IsQ.stb.next d.out B0.out)).mono ?_;rw[<-n.out];rintro g e ⟨rfl,j⟩;have c:=nB B0 j;clear j;cases b
 ·go_wp2_with fail;go_ret;exact⟨rfl,c.out⟩
 ·go_wp2_with fail;go_ret;exact⟨rfl,c.out⟩
theorem yry {w:f} (h:IsV w (C2 w) v (C0 l)) (t:∀q∈l,zld q=true):
 H G 143 #[v,.func (.func 64) #[] #[]] w fun j w'=>j= .returned (.int .i64 (-1))/\D w.heap.size w w':=by
 obtain⟨i,z⟩:=C4 h t;obtain⟨A,c,rfl,K⟩:=T4 h;obtain⟨n,b⟩:=nm (l.length);rw[zow,<-b] at i K⊢;have y:=F b;clear h t b;have Q:=R4;go_in;go_wp2_with fail;go_loopw [8,5] (fun d _ wr=>∃k:Nat,k<=n/\d= .int .i64 (k:Int)/\D w.heap.size w wr) (fun d _ _=>n-(intOf d).toNat);case atStart=>exact⟨0,V _,rfl,Below.refl _ _⟩
 case round=>
  obtain⟨k,U,rfl,a⟩:=hrel;have g:=F a;rcases Nat.lt_or_ge k n with p|R
  ·obtain⟨q,r,s⟩:=znx (l:=l) (j:=k) (by rw[<-y.out];exact p);obtain⟨P,W,L,M,N,O,rfl,_,o,C,I,J⟩:=zmd (IsV.stb.to i.out (F7 a)) s;obtain⟨B,x⟩:=C4 (zup o) (z.out q (Z r));have e:E (k+1<=n):=p;have S:(0:Int)<=(k:Int):=og;have T:(k:Int)<(n:Int):=og;clear r s o a;go_wp2_with fail;refine(zz1363 B.out).mono ?_;rw[x.out];rintro j X ⟨rfl,m⟩;have u:=nB g m;clear m C I J;go_wp2_with fail;go_roundw;(case rel=>exact⟨k+1,e.out,by go_num,u.out⟩);case measure=>simp[intOf];have:=e.out;omega
  ·obtain rfl:k=n:=og;clear a;go_wp2_with fail;go_ret;exact⟨rfl,g.out⟩
theorem yfz {w:f} (h:IsV w (C2 w) v (C0 l)) (c:∀q∈l,zld q=true):
 H G 63 #[v,.func (.func 64) #[] #[]] w fun a w'=>a= .returned (.bool false)/\D w.heap.size w w':=by obtain⟨g,i⟩:=C4 h c;clear h c;go_in;go_wp2_with fail;refine(yry g.out i.out).mono ?_;rintro a e ⟨rfl,b⟩;have d:=F b;clear b;go_wp2_with fail;go_ret;exact⟨rfl,d.out⟩
structure FineP (p:ProgQ) (N M:Nat):Prop where
 good:Good p 1024
 n0:0<N
 m0:0<M
 fA:∀row∈p.A,∀q∈row,q.den∣N/\q.num.natAbs<=M
 fB:∀q∈p.B,q.den∣N/\q.num.natAbs<=M
 fC:∀q∈p.C,q.den∣N/\q.num.natAbs<=M
def zoc (q:Rat):Prop:=Sz q 3/\q.den∣2/\q.num.natAbs<=8
theorem yud {a:Int} (ha:a.natAbs<=8) (d:b=1\/b=2):(mkRat a b).den∣2/\(mkRat a b).num.natAbs<=8:=by
 have c:(mkRat a b).den∣b:=by
  have:=Rat.den_mkRat a b;rw[this];split
  ·exact Nat.one_dvd b
  ·exact Nat.div_dvd_of_dvd (Nat.gcd_dvd_left _ _)
 have e:(mkRat a b).num.natAbs<=a.natAbs:=by
  rw[Rat.num_mkRat];split
  ·simp
  ·exact Int.natAbs_ediv_le_natAbs _ _
 refine⟨?_,by omega⟩;rcases d with rfl|rfl
 ·exact Nat.dvd_trans c (by decide)
 ·exact c
theorem yqt {p:ProgQ} (h:Good p 1024) (b:∀row∈p.A,∀q∈row,zoc q) (c:∀q∈p.B,zoc q) (d:∀q∈p.C,zoc q):FineP p 2 8:=
 ⟨h,by omega,by omega,fun r hr q a=>(b r hr q a).2,fun q a=>(c q a).2,fun q a=>(d q a).2⟩
theorem yfm {N:Nat}:∀(l:List Rat) (a:Nat),a∣N->(∀q∈l,q.den∣N)->l.foldl (fun a q=>Nat.lcm a q.den) a∣N
 |[],a,b,_=>b
 |q::l,a,b,h=>yfm l _ (Nat.lcm_dvd b (h q (by simp))) fun r hr=>h r (by simp[hr])
theorem yam {N:Nat} (h:∀q∈l,q.den∣N):Z4 l∣N:=yfm l 1 (Nat.one_dvd N) h
theorem yha {N M:Nat} {x:Rat} (a:0<N) (h:∀q∈l,q.den∣N) (b:x.num.natAbs<=M):(x.num*((Z4 l/x.den:Nat):Int)).natAbs<=M*N:=by rw[Int.natAbs_mul,Int.natAbs_natCast];exact Nat.mul_le_mul b (I (Nat.div_le_self _ _) (Nat.le_of_dvd a (yam h)))
def zks (m n:Nat):List Nat:=(List.range m).map fun i=>n+i
theorem zud (m n:Nat):(zks m n).length=m:=by unfold zks;simp
theorem ymu {m n:Nat} (a:i<m):(zks m n).getD i 0=n+i:=by unfold zks;rw[U,List.getElem?_map,List.getElem?_range a];rfl
theorem yvp {n:Nat} (a:j<n):(List.range n).getD j 0=j:=by rw[U,List.getElem?_range a];rfl
theorem ytz (h:j<l.length):l.getD j 0∈l:=by rw[U,W h];exact List.getElem_mem h
def zqo (p:ProgQ):TB:=zlh p.A p.B p.C 0 (zks p.B.length p.C.length) (List.range p.C.length) p.B.length p.C.length
def V8 (p:ProgQ):Nat->Nat:=zly p.A p.B (zks p.B.length p.C.length) p.B.length
def Y9 (p:ProgQ):Nat:=zkd p.C 0
section
variable {p : ProgQ} {N M : Nat}
theorem yvc (m n:Nat):(zks m n++List.range n).Nodup:=zxk fun i j b c a=>by
 have d:(List.range n).length=n:=by simp
 rw[List.length_append,zud,d] at b c
 have key:∀k,k<m+n->(zks m n++List.range n).getD k 0=if k<m then n+k else k-m:=fun k e=>by
  rw[U,List.getElem?_append,zud]
  split
  ·rename_i h;rw[<-U];exact ymu h
  ·rename_i h;rw[<-U];exact yvp og
 rw[key i b,key j c] at a
 split at a<;>split at a<;>omega
theorem FineP.row (h:FineP p N M) (a:i<p.B.length):∃r,p.A[i]? =some r/\p.A.getD i []=r/\r∈p.A/\r.length=p.C.length:=by have hr:p.A[i]? =some (p.A.getD i []):=(by rw[U,W (by have:=h.good.rows;omega)];rfl);exact⟨_,hr,rfl,Z hr,h.good.cols _ (Z hr)⟩
theorem FineP.wide (h:FineP p N M) (b:i<p.B.length):∀q∈p.A.getD i []++[p.B.getD i 0],q.den∣N/\q.num.natAbs<=M:=fun q a=>by
 obtain⟨r,hr,c,d,e⟩:=h.row b
 rw[c] at a
 rcases List.mem_append.1 a with a|a
 ·exact h.fA r d q a
 ·rw[List.mem_singleton] at a
  subst a
  exact h.fB _ (ytz b)
theorem FineP.cost (h:FineP p N M):∀q∈p.C++[0],q.den∣N/\q.num.natAbs<=M:=fun q a=>by
 rcases List.mem_append.1 a with a|a
 ·exact h.fC q a
 ·rw[List.mem_singleton] at a
  subst a
  exact⟨Nat.one_dvd N,V _⟩
theorem FineP.small (h:FineP p N M):∀i j,i<=p.B.length->j<=p.C.length->((zqo p).A i j).natAbs<=M*N:=fun i j l b=>by
 have e:∀j,j<=p.C.length->(zlf [p.C++[0]] 0 j).natAbs<=M*N:=fun j b=>by
  have c:j<(p.C++[(0:Rat)]).length:=by simp;omega
  rw[zrt (M:=[p.C++[0]]) (i:=0) rfl (W c)]
  exact yha h.n0 (fun q d=>(h.cost q d).1) (h.cost _ (List.getElem_mem c)).2
 show(if i<p.B.length then zlf (ztx p.A p.B p.B.length) i j else if j<p.C.length then -(zlf [p.C++[0]] 0 j) else zlf [p.C++[0]] 0 j:Int).natAbs<=_
 split
 ·rename_i a
  obtain⟨r,hr,g,m,c⟩:=h.row a
  have k:=ycn (b:=p.B) (n:=p.B.length) (m:=p.C.length) a hr
  have f:j<(r++[p.B.getD i 0]).length:=by simp;omega
  rw[zrt k (W f)]
  have hd:=h.wide a
  rw[g] at hd
  exact yha h.n0 (fun q d=>(hd q d).1) (hd _ (List.getElem_mem f)).2
 ·split
  ·rw[Int.natAbs_neg];exact e j b
  ·exact e j b
theorem FineP.inv (h:FineP p N M):TInv (M*N) p.B.length p.C.length (zqo p):=
 yzo rfl (zud _ _) (by show(List.range _).length=_;simp) (yvc _ _) (fun v hv=>by
  rcases List.mem_append.1 hv with hv|hv
  ·unfold zqo zlh zks at hv
   obtain⟨i,a,rfl⟩:=List.mem_map.1 hv
   have:=List.mem_range.1 a
   omega
  ·have:v∈List.range p.C.length:=hv
   have:=List.mem_range.1 this
   omega) (Nat.mul_pos h.m0 h.n0) h.small
theorem FineP.ok (h:FineP p N M):OkT (M*N) p.B.length p.C.length (V8 p) (Y9 p) (O9 p.B.length p.C.length (aF p.A) (lF p.B) (lF p.C)) (zqo p) where
 inv:=h.inv
 eqv:=yuv h.good.rows rfl h.good.cols rfl rfl rfl
theorem yjm {bas:List Nat} {a:Nat->Nat} {N:Nat} (b:0<N):∀k,(∀i,i<k->a i<=N)->∀v,zng bas a k v<=N
 |0,_,_=>b
 |k+1,h,v=>by
  rw[zng]
  split
  ·exact h k og
  ·exact yjm b k (fun i c=>h i og) v
theorem FineP.sc_le (h:FineP p N M) (v:Nat):V8 p v<=N:=yjm h.n0 _ (fun i a=>Nat.le_of_dvd h.n0 (yam fun q b=>(h.wide a q b).1)) v
theorem FineP.top_le (h:FineP p N M):Y9 p<=N:=Nat.le_of_dvd h.n0 (yam fun q a=>(h.cost q a).1)
theorem FineP.sc0 (h:FineP p N M) (v:Nat):0<V8 p v:=yyw _ _ _ _ _
theorem FineP.top0 (h:FineP p N M):0<Y9 p:=ykz _ _
theorem FineP.scok (h:FineP p N M) (a:(A9 N).length<=100000):ScOk (V8 p) (Y9 p):=
 ⟨fun v=>I (U1 (h.sc_le v)) a,h.sc0,I (U1 h.top_le) a,h.top0⟩
end
theorem yue {z:Int} {d k:Nat} (b:z.natAbs<=K) (c:d<=K) (a:(A9 K).length<=k) (f:1<=k):Sz (mkRat z d) k:=by
 by_cases hd:d=0
 ·subst hd;rw[Rat.mkRat_zero];exact⟨by show(A9 0).length<=k;rw[N5];simp,by show(A9 1).length<=k;rw[Y5];exact f⟩
 ·have g:(mkRat z d).num=z/(d.gcd z.natAbs:Int):=(by rw[Rat.num_mkRat,if_neg hd]);have e:(mkRat z d).den=d/d.gcd z.natAbs:=(by rw[Rat.den_mkRat];simp[hd]);refine⟨I (U1 ?_) a,I (U1 ?_) a⟩
  ·rw[g];exact I (Int.natAbs_ediv_le_natAbs _ _) b
  ·rw[e];exact I (Nat.div_le_self _ _) c
theorem yhs {z:Int} {d v N k:Nat} (e:z.natAbs<=K) (c:u<=N) (hd:d<=K) (hv:v<=N) (b:(A9 (K*N)).length<=k) (a:1<=k):Sz (G9 z u d v) k:=by rw[yhr];refine yue ?_ (Nat.mul_le_mul hd hv) b a;unfold sg;have:=Nat.mul_le_mul e c;split<;>omega
theorem yhz {k:Nat} (a:1<=k):Sz (1:Rat) k:=⟨by show(A9 1).length<=k;rw[Y5];exact a,by show(A9 1).length<=k;rw[Y5];exact a⟩
theorem zpc {k:Nat} (a:1<=k):Sz (0:Rat) k:=⟨by show(A9 0).length<=k;rw[N5];simp,by show(A9 1).length<=k;rw[Y5];exact a⟩
theorem zvg {f off k:Nat} {b:Nat->Rat} {key:Nat->Nat} {X:Nat->Rat} (l:∀i j,i<k->j<k->key i=key j->i=j) {q:Rat} (h:q∈I9 f off b key X k):(∃v,q=b v)\/∃i v,i<k/\key i=off+v/\q=b v+X i:=by
 unfold I9 at h;obtain⟨v,hv,rfl⟩:=zpw h;by_cases e:∃i,i<k/\key i=off+v
 ·obtain⟨i,a,d⟩:=e;refine .inr ⟨i,v,a,d,?_⟩;rw[zlz a fun j g m=>by rw[if_neg fun c=>m (l j i g a (c.trans d.symm))],if_pos d]
 ·refine .inl ⟨v,?_⟩;rw[zkl fun i a=>by rw[if_neg fun c=>e ⟨i,a,c⟩]];exact Rat.add_zero _
def zlb (p:ProgQ) (k:Nat) (s:Sol):Prop:=
 (∃X a v,s=⟨1,E7 v,C0 X,C0 a,[]⟩/\CertOpt p.A p.B p.C X a v/\Sz v k/\(∀q∈X,Sz q k)/\∀q∈a,Sz q k)\/
 (∃a,s=⟨2,E7 0,[],C0 a,[]⟩/\CertNone p.A p.B p.C a/\∀q∈a,Sz q k)\/
 ∃X b,s=⟨3,E7 0,C0 X,[],C0 b⟩/\CertRay p.A p.B p.C X b/\(∀q∈X,Sz q k)/\∀q∈b,Sz q k
section
variable {p : ProgQ} {N M k : Nat} {t : TB} {d : Dic}
theorem zzc {m n:Nat} (h:TInv M m n t):∀i j,i<m->j<m->t.bas.getD i 0=t.bas.getD j 0->i=j:=fun i j c d a=>by
 have b:=h.bl
 exact znw (List.nodup_append.1 h.dist).1 og og a
theorem yic {m n:Nat} (h:TInv M m n t):∀i j,i<n->j<n->t.oth.getD i 0=t.oth.getD j 0->i=j:=fun i j c d a=>by
 have b:=h.ol
 exact znw (List.nodup_append.1 h.dist).2.1 og og a
theorem yde {m n:Nat} (h:TInv M m n t) (b:i<m) (c:j<n):t.bas.getD i 0≠t.oth.getD j 0:=by have a:=h.bl;have d:=h.ol;exact(List.nodup_append.1 h.dist).2.2 _ (Y3 og) _ (Y3 og)
theorem yaz {m n:Nat} {sc:Nat->Nat} {top:Nat} (hI:TInv M m n t) (g:K=K0 M (m+1)) (l:∀v,sc v<=N) (o:top<=N) (h:0<N) (e:(A9 (K*N)).length<=k) (a:1<=k) {d:Nat} (b:i<=m) (c:j<=n) (f:u<=N) (hd:d<=N):Sz (G9 (t.A i j) u t.d d) k/\Sz (G9 (-(t.A i j)) u t.d d) k:=by subst g;refine⟨yhs (hI.small.2 i j b c) f hI.small.1 hd e a,yhs ?_ f hI.small.1 hd e a⟩;rw[Int.natAbs_neg];exact hI.small.2 i j b c
theorem ymq (h:FineP p N M) (m:(A9 (K0 (M*N) (p.B.length+1)*N)).length<=k) (b:1<=k) (a:OkT (M*N) p.B.length p.C.length (V8 p) (Y9 p) (O9 p.B.length p.C.length (aF p.A) (lF p.B) (lF p.C)) t) (f:∀i,i<p.B.length->0<=t.A i p.C.length) (g:Z9 p.B.length p.C.length t=none):
 zlb p k ⟨1,E7 (G9 (t.A p.B.length p.C.length) 1 t.d (Y9 p)),C0 (I9 p.C.length 0 (fun _=>0) (fun i=>t.bas.getD i 0) (fun i=>G9 (t.A i p.C.length) 1 t.d (V8 p (t.bas.getD i 0))) p.B.length),C0 (I9 p.B.length p.C.length (fun _=>0) (fun j=>t.oth.getD j 0) (fun j=>G9 (t.A p.B.length j) (V8 p (t.oth.getD j 0)) t.d (Y9 p)) p.C.length),[]⟩:=by
 have hc:=yqc h.sc0 h.top0 h.good.rows rfl rfl h.good.cols a f g;have e:=fun {i j u d:Nat}=>yaz a.inv rfl h.sc_le h.top_le h.n0 m b (i:=i) (j:=j) (u:=u) (d:=d);rw[<-yim,<-ywv,ype] at hc;refine .inl ⟨_,_,_,rfl,hc,(e (J _) (J _) h.n0 h.top_le).1,fun q c=> ?_,fun q c=> ?_⟩
 ·rcases zvg (zzc a.inv) c with⟨v,rfl⟩|⟨i,v,l,_,rfl⟩
  ·exact zpc b
  ·rw[Rat.zero_add];exact(e og (J _) h.n0 (h.sc_le _)).1
 ·rcases zvg (yic a.inv) c with⟨v,rfl⟩|⟨i,v,l,_,rfl⟩
  ·exact zpc b
  ·rw[Rat.zero_add];exact(e (J _) og (h.sc_le _) h.top_le).1
theorem ymp (h:FineP p N M) (l:(A9 (K0 (M*N) (p.B.length+1)*N)).length<=k) (b:1<=k) (a:OkT (M*N) p.B.length p.C.length (V8 p) (Y9 p) (O9 p.B.length p.C.length (aF p.A) (lF p.B) (lF p.C)) t) {r:Nat} (c:znf p.B.length p.C.length t=some r) (f:zns p.C.length t r=none):
 zlb p k ⟨2,E7 0,[],C0 (I9 p.B.length p.C.length (fun v=>if t.bas.getD r 0=p.C.length+v then 1 else 0) (fun j=>t.oth.getD j 0) (fun j=>G9 (t.A r j) (V8 p (t.oth.getD j 0)) t.d (V8 p (t.bas.getD r 0))) p.C.length),[]⟩:=by
 have hc:=yqb h.sc0 h.top0 h.good.rows rfl rfl a c f;have hr:=(zlq c).1;have n:=fun {i j u d:Nat}=>yaz a.inv rfl h.sc_le h.top_le h.n0 l b (i:=i) (j:=j) (u:=u) (d:=d);rw[<-ywx hr] at hc;refine .inr (.inl ⟨_,rfl,hc,fun q m=> ?_⟩);rcases zvg (yic a.inv) m with⟨v,rfl⟩|⟨i,v,g,hv,rfl⟩
 ·split
  ·exact yhz b
  ·exact zpc b
 ·rw[if_neg fun e=>yde a.inv hr g (e.trans hv.symm),Rat.zero_add];exact(n og og (h.sc_le _) (h.sc_le _)).1
theorem ymr (h:FineP p N M) (r:(A9 (K0 (M*N) (p.B.length+1)*N)).length<=k) (b:1<=k) (a:OkT (M*N) p.B.length p.C.length (V8 p) (Y9 p) (O9 p.B.length p.C.length (aF p.A) (lF p.B) (lF p.C)) t) (o:∀i,i<p.B.length->0<=t.A i p.C.length) {c:Nat} (g:Z9 p.B.length p.C.length t=some c) (s:zlg p.B.length p.C.length t c=none):
 zlb p k ⟨3,E7 0,C0 (I9 p.C.length 0 (fun _=>0) (fun i=>t.bas.getD i 0) (fun i=>G9 (t.A i p.C.length) 1 t.d (V8 p (t.bas.getD i 0))) p.B.length),[],C0 (I9 p.C.length 0 (fun v=>if t.oth.getD c 0=0+v then 1 else 0) (fun i=>t.bas.getD i 0) (fun i=>G9 (-(t.A i c)) (V8 p (t.oth.getD c 0)) t.d (V8 p (t.bas.getD i 0))) p.B.length)⟩:=by
 have hc:=yqd h.sc0 h.top0 h.good.rows rfl rfl h.good.cols a o g s;have f:=(zlq g).1;have m:=fun {i j u d:Nat}=>yaz a.inv rfl h.sc_le h.top_le h.n0 r b (i:=i) (j:=j) (u:=u) (d:=d);rw[<-yim,<-yxl f] at hc;refine .inr (.inr ⟨_,_,rfl,hc,fun q e=> ?_,fun q e=> ?_⟩)
 ·rcases zvg (zzc a.inv) e with⟨v,rfl⟩|⟨i,v,l,_,rfl⟩
  ·exact zpc b
  ·rw[Rat.zero_add];exact(m og (J _) h.n0 (h.sc_le _)).1
 ·rcases zvg (zzc a.inv) e with⟨v,rfl⟩|⟨i,v,l,hv,rfl⟩
  ·split
   ·exact yhz b
   ·exact zpc b
  ·rw[if_neg fun n=>yde a.inv l f (hv.trans n.symm),Rat.zero_add];exact(m og og (h.sc_le _) (h.sc_le _)).2
theorem zsc {q:Rat} {k:Nat} (h:Sz q k) (a:k<=1024):zld q=true:=by unfold zld;rw[decide_eq_true_eq];exact⟨I h.1 a,I h.2 a⟩
end
theorem zwn {m:Nat} (b:m<=4):(A9 (K0 (8*2) (m+1)*2)).length<=3/\(A9 (K0 (8*2) (m+1))).length<=100000:=by
 have c:pw 3=1000000000000000000000000000:=rfl
 have key:K0 (8*2) (m+1)<=125829120:=by
  match m,b with
  |0,_=>decide
  |1,_=>decide
  |2,_=>decide
  |3,_=>decide
  |4,_=>decide
 have a:(A9 (K0 (8*2) (m+1))).length<=3:=lim_len_le.2 og;exact⟨lim_len_le.2 og,by omega⟩
section
variable {p : ProgQ} {s : Sol} {k : Nat} {x : List Rat}
theorem yzm (h:zlb p k s):s.st=1\/s.st=2\/s.st=3:=by
 rcases h with⟨X,a,v,rfl,_⟩|⟨a,rfl,_⟩|⟨X,b,rfl,_⟩
 ·exact .inl rfl
 ·exact .inr (.inl rfl)
 ·exact .inr (.inr rfl)
end
theorem yie {n0:Nat} (h:v.ownBlock=q.ownBlock\/∃b,v.ownBlock=some b/\n0<=b) (e:b<n0) (d:q.ownBlock≠some b):v.ownBlock≠some b:=by
 rcases h with h|⟨c,h,hc⟩
 ·rw[h];exact d
 ·rw[h];intro a;cases a;omega
theorem zta {X:Nat->Option o} {k:Nat} {u:o} (h:∃u,X 4=some u/\∀b,u.ownBlock=some b->b<lo) (d:X k=none):∃v,U6 X k u 4=some v/\∀b,v.ownBlock=some b->b<lo:=by obtain⟨v,a,c⟩:=h;exact⟨v,zpv a d,c⟩
theorem yau {X:Nat->Option o} {k m n:Nat} {u:o} (h:∃u,X 4=some u/\∀b,u.ownBlock=some b->b<m) (d:X k=none) (f:m<=n):∃v,U6 X k u 4=some v/\∀b,v.ownBlock=some b->b<n:=by obtain⟨v,a,c⟩:=h;exact⟨v,zpv a d,fun b e=>Y (c b e) f⟩
def PRat (w:f) (n0:Nat) (L:Nat->Prop) (v:o):Prop:=∃q lo a,zoc q/\(n0<=lo/\lo<=a)/\a<=w.heap.size/\L lo/\IsQ w (G0 lo a) v q
def PRow (w:f) (n0:Nat) (L:Nat->Prop) (v:o):Prop:=∃q lo a b,zoc q/\(n0<=lo/\lo<=a)/\a<=w.heap.size/\L lo/\IsQ w (G0 lo a) b q/\NewRow w n0 37 b.cells.toList v
def PApp (w:f) (base n0:Nat) (L:Nat->Prop) (S:Nat->Prop) (z:o) (l:List Raw) (v:o):Prop:=
 ∃q lo a,zoc q/\(n0<=lo/\lo<=a)/\a<=w.heap.size/\L lo/\OwnS 3 37 IsR w base (fun b=>S b\/G0 lo a b) v (l++[E7 q])/\(v.ownBlock=z.ownBlock\/∃b,v.ownBlock=some b/\a<=b/\n0<=b)
theorem PRat.grown {w w':f} {n0:Nat} {M:Nat->Prop} (h:PRat w n0 L v) (d:w.grownBy w' r) (hr:∀b,r=some b->b<n0) (k:∀lo,L lo->M lo):PRat w' n0 M v:=by obtain⟨q,lo,l,g,a,c,i,j⟩:=h;exact⟨q,lo,l,g,a,I c d.size,k _ i,j.rngG d c fun b e=>Y (hr b e) a.1⟩
theorem PRow.grown {w w':f} {n0:Nat} {M:Nat->Prop} (h:PRow w n0 L v) (c:w.grownBy w' r) (hr:∀b,r=some b->b<n0) (l:∀lo,L lo->M lo):PRow w' n0 M v:=by obtain⟨q,lo,m,a,g,d,e,i,j,k⟩:=h;exact⟨q,lo,m,a,g,d,I e c.size,l _ i,j.rngG c e fun b a=>Y (hr b a) d.1,k.grown c hr⟩
theorem PApp.grown {w w':f} {n0:Nat} {M:Nat->Prop} {l:List Raw} (h:PApp w base n0 L S z l v) (i:w.grownBy w' r) (hr:∀b,r=some b->b<n0) (hv:∀b,r=some b->z.ownBlock≠some b/\¬S b) (s:∀lo,L lo->M lo):PApp w' base n0 M S z l v:=by
 obtain⟨q,lo,t,j,k,m,n,p,g⟩:=h;refine⟨q,lo,t,j,k,I m i.size,s _ n,p.grown IsR.stb i fun b e=>⟨yie (n0:=n0) (g.imp id fun⟨c,a,_,d⟩=>⟨c,a,d⟩) (hr b e) (hv b e).1,fun h=> ?_⟩,g⟩;rcases h with h|h
 ·exact(hv b e).2 h
 ·have:=hr b e;have:=h.1;omega
def zre (g:Nat) (q z:o):Nat->Option Nat:=fun k=>match k with|4=>q.ownBlock|8=>some g|11=>some g|15=>z.ownBlock|_=>none
def zuf (g:Nat) (a:o):Nat->Option Nat:=fun k=>match k with|3=>some g|7=>a.ownBlock|_=>none
def zkf (g P:Nat) (q z:o) (R:Option Addr) (m a:Nat) (n0 base:Nat) (c d:Nat->Prop) (A:List (List Rat)) (B r:List Rat) (i:Nat) (v:o) (w:f) (X:Nat->Option o):Prop:=
 match i with
 |0=>v= .pointer (some ⟨P,0,none⟩)
 |1=>v=q
 |2=>v= .slice R m a
 |3=>NewRow w n0 30 [.slice R m a] v
 |4=>(OwnS 1 30 IsV w base c v (E9 A++[C0 r])/\(v.ownBlock=q.ownBlock\/∃b,v.ownBlock=some b/\n0<=b))
 |5=>v= .pointer (some ⟨P,1,none⟩)
 |6=>v=z
 |7=>v= .pointer (some ⟨g,0,none⟩)
 |8=>(∃x:Int,0<=x/\x<=11/\v= .int .i64 x)/\(∃u,X 4=some u/\∀b,u.ownBlock=some b->b<w.heap.size)
 |9=>(∃x:Int,-3<=x/\x<=8/\v= .int .i64 x)
 |10=>v= .pointer (some ⟨g,0,none⟩)
 |11=>(∃x:Int,0<=x/\x<=1/\v= .int .i64 x)/\(∃u,X 4=some u/\∀b,u.ownBlock=some b->b<w.heap.size)
 |12=>(∃x:Int,1<=x/\x<=2/\v= .int .i64 x)
 |13=>PRat w n0 (fun lo=>∃u,X 4=some u/\∀b,u.ownBlock=some b->b<lo) v
 |14=>PRow w n0 (fun lo=>∃u,X 4=some u/\∀b,u.ownBlock=some b->b<lo) v
 |15=>PApp w base n0 (fun lo=>∃u,X 4=some u/\∀b,u.ownBlock=some b->b<lo) d z (C0 B) v
 |16=>v= .pointer (some ⟨P,0,none⟩)
 |_=>True
def zoa (g P:Nat) (a:o) (n0 base:Nat) (b:Nat->Prop) (C:List Rat) (i:Nat) (v:o) (w:f) (X:Nat->Option o):Prop:=
 match i with
 |0=>v= .pointer (some ⟨P,2,none⟩)
 |1=>v=a
 |2=>v= .pointer (some ⟨g,0,none⟩)
 |3=>(∃x:Int,0<=x/\x<=8/\v= .int .i64 x)
 |4=>(∃x:Int,-4<=x/\x<=4/\v= .int .i64 x)
 |5=>PRat w n0 (fun _=>True) v
 |6=>PRow w n0 (fun _=>True) v
 |7=>PApp w base n0 (fun _=>True) b a (C0 C) v
 |_=>True
theorem yvw {g:Nat} {R:Option Addr} {m p:Nat} {n0:Nat} {l n:Nat->Prop} {A:List (List Rat)} {B r:List Rat} (d:∀k b,zre g q z k=some b->b<n0/\(k≠4->q.ownBlock≠some b/\¬l b)/\(k≠15->z.ownBlock≠some b/\¬n b)):
 ∀i k v w w' X u,i≠k->X k=none->zkf g P q z R m p n0 base l n A B r i v w X->w.grownBy w' (zre g q z k)->zkf g P q z R m p n0 base l n A B r i v w' (U6 X k u):=fun i k v w w' X u a j h e=>match i,a,h with
 |0,a,h=>h
 |1,a,h=>h
 |2,a,h=>h
 |3,a,h=>h.grown e fun b c=>(d k b c).1
 |4,a,h=>⟨h.1.grown IsV.stb e fun b c=>⟨yie h.2 (d k b c).1 ((d k b c).2.1 (Ne.symm a)).1,((d k b c).2.1 (Ne.symm a)).2⟩,h.2⟩
 |5,a,h=>h
 |6,a,h=>h
 |7,a,h=>h
 |8,a,h=>⟨h.1,yau h.2 j e.size⟩
 |9,a,h=>h
 |10,a,h=>h
 |11,a,h=>⟨h.1,yau h.2 j e.size⟩
 |12,a,h=>h
 |13,a,h=>h.grown e (fun b c=>(d k b c).1) (fun lo h=>zta h j)
 |14,a,h=>h.grown e (fun b c=>(d k b c).1) (fun lo h=>zta h j)
 |15,a,h=>h.grown e (fun b c=>(d k b c).1) (fun b c=>(d k b c).2.2 (Ne.symm a)) (fun lo h=>zta h j)
 |16,a,h=>h
 |_+17,_,_=>trivial
theorem yvx {g:Nat} {d:o} {n0:Nat} {j:Nat->Prop} {C:List Rat} (e:∀k b,zuf g d k=some b->b<n0/\(k≠7->d.ownBlock≠some b/\¬j b)):
 ∀i k v w w' X u,i≠k->X k=none->zoa g P d n0 base j C i v w X->w.grownBy w' (zuf g d k)->zoa g P d n0 base j C i v w' (U6 X k u):=fun i k v w w' X u a m h l=>match i,a,h with
 |0,a,h=>h
 |1,a,h=>h
 |2,a,h=>h
 |3,a,h=>h
 |4,a,h=>h
 |5,a,h=>h.grown l (fun b c=>(e k b c).1) (fun _ h=>h)
 |6,a,h=>h.grown l (fun b c=>(e k b c).1) (fun _ h=>h)
 |7,a,h=>h.grown l (fun b c=>(e k b c).1) (fun b c=>(e k b c).2 (Ne.symm a)) (fun _ h=>h)
 |_+8,_,_=>trivial
def ylv (base:Nat) (q z c:o) (a b:Nat->Prop) (A:List (List Rat)) (B r:List Rat) (i:Nat) (w:f):Prop:=(i=4->OwnS 1 30 IsV w base a q (E9 A)/\IsV w a c (C0 r))/\(i=15->OwnS 3 37 IsR w base b z (C0 B))
def ylw (base:Nat) (b:o) (a:Nat->Prop) (C:List Rat) (i:Nat) (w:f):Prop:=i=7->OwnS 3 37 IsR w base a b (C0 C)
def JD (g P:Nat) (l:List Int) (xs:List o) (r1 r2:Option Nat) (a:f) (w:f):Prop:=IsD w g l/\Row w P 32 xs/\Kept (some g) r1 r2 a w
theorem JD.step {g:Nat} {l:List Int} {r1 r2:Option Nat} {w w':f} (h:JD g P l xs r1 r2 a w) (d:w.grownBy w' r) (hr:r=none\/r=r1\/r=r2) (hg:∀b,r=some b->g<b/\P≠b):JD g P l xs r1 r2 a w':=
 ⟨h.1.grownN d fun b c=>(hg b c).1,h.2.1.grownN d fun b c=>(hg b c).2,h.2.2.step d (by rcases hr with h|h|h;exact .inl h;exact .inr (.inr (.inl h));exact .inr (.inr (.inr h)))⟩
theorem JD.draw {g:Nat} {l:List Int} {r1 r2:Option Nat} {w w':f} (h:JD g P l xs r1 r2 a w) (hD:IsD w' g l) (b:Only g w w') (c:P≠g):JD g P l xs r1 r2 a w':=
 ⟨hD,h.2.1.only b c,h.2.2.step b.grown (.inr (.inl rfl))⟩
end Go.Proofs.YtdgilbgdkmhcmaaGreatDoor
