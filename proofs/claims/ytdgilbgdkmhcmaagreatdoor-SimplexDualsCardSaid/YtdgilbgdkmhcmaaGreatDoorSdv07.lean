/-
 Contracts of package rat's parts and Check,and package a Check.
-/
import Derived.Test.YtdgilbgdkmhcmaaGreatDoorSdv06
import Derived.StillTailTactics
import Derived.OrdersIn
import Derived.TacticsIn
import Derived.RangeFuncNested
import Derived.RangeFuncBox
import Derived.RangeFuncBound
import Derived.RangeFuncCalls
import Derived.RangeFuncLeaves
import Derived.Shelf.Abstract
import Derived.Shelf.RegionOpen
import Derived.OwnWalkIn
import Derived.TacticsInMore
import Derived.LoopNIn
import Derived.LoopIn
import Derived.Maps.OwnIn
namespace Go.Proofs.YtdgilbgdkmhcmaaGreatDoor
open Go.RowKit
set_option linter.unusedVariables false
open Go.RowKit Go.Shelf
set_option maxRecDepth 100000
set_option maxHeartbeats 8000000
open _root_.Go.Lib renaming hid → u
open _root_.Nat renaming le_refl → M, le_trans → Z, lt_or_ge → U, zero_le → X
open _root_.List renaming getD_eq_getElem?_getD → W, getElem?_eq_getElem → N, length_map → T, getElem?_map → L
open _root_.Go.RowKit.Below renaming refl → I
open _root_.Go renaming World → e, Value → f, Calls → E, Addr → B
open _root_.Go.RowKit renaming Below → d, Hid → c
open _root_.Go.Proofs.Tryz renaming prog → D
variable {b g j k n F o : Nat} {es : List f} {l : List Raw} {p : ProgQ} {r : Raw} {t : TypeId} {v h R : f}
theorem zxo {w:e} {a b:List Nat} (ha:IsL .u32 w 0 w.heap.size h a) (s:IsL .u32 w 0 w.heap.size R b):E D 162 #[h,R] w fun g w'=>g= .returned (.int .i64 (U7 a b))/\w=w':=by
 obtain⟨o,q⟩:=C4 ha s;obtain⟨A,G,rfl,_,_,_⟩:=ha;obtain⟨B,d,rfl,_,_,_⟩:=s;obtain⟨x,t⟩:=nm (L9 a);obtain⟨y,v⟩:=nm (L9 b);obtain⟨f,j⟩:=C4 t v;clear t v;by_cases m:x=0;(case neg=>have z:(x !=0)=true:=bne_iff_ne.2 m;have i:c (U7 a b=x):=(by unfold c U7;rw[<-f.out,if_pos m]);go_in;go_wp2_with fail;refine(zri o.out).mono ?_;rw[<-f.out];rintro g l ⟨rfl,rfl⟩;go_wp2_with fail;go_ret;exact⟨H6 i.out.symm,rfl⟩);have z:(x !=0)=false:=(by rw[m];rfl);have p:=u m;clear m;by_cases n:y=0;(case neg=>have C:(y !=0)=true:=bne_iff_ne.2 n;have i:c (U7 a b=y):=(by unfold c U7;rw[<-f.out,if_neg (by simp[p.out]),<-j.out,if_pos n]);go_in;go_wp2_with fail;refine(zri o.out).mono ?_;rw[<-f.out];rintro g l ⟨rfl,rfl⟩;go_wp2_with fail;refine(zri q.out).mono ?_;rw[<-j.out];rintro g l ⟨rfl,rfl⟩;go_wp2_with fail;go_ret;exact⟨H6 i.out.symm,rfl⟩);have C:(y !=0)=false:=(by rw[n];rfl);have r:=u n;clear n;by_cases k:b=[]
 ·have F:((b.length:Int)==0)=true:=(by rw[k];rfl);have i:c (U7 a b=6):=(by unfold c U7;rw[<-f.out,if_neg (by simp[p.out]),<-j.out,if_neg (by simp[r.out]),if_pos k]);clear k;go_in;go_wp2_with fail;refine(zri o.out).mono ?_;rw[<-f.out];rintro g l ⟨rfl,rfl⟩;go_wp2_with fail;refine(zri q.out).mono ?_;rw[<-j.out];rintro g l ⟨rfl,rfl⟩;go_wp2_with fail;go_ret;exact⟨H6 i.out.symm,rfl⟩
 ·have F:((b.length:Int)==0)=false:=beq_eq_false_iff_ne.2 (by have:=List.length_pos_iff.2 k;omega);have i:c (U7 a b=0):=(by unfold c U7;rw[<-f.out,if_neg (by simp[p.out]),<-j.out,if_neg (by simp[r.out]),if_neg k]);clear k;go_in;go_wp2_with fail;refine(zri o.out).mono ?_;rw[<-f.out];rintro g l ⟨rfl,rfl⟩;go_wp2_with fail;refine(zri q.out).mono ?_;rw[<-j.out];rintro g l ⟨rfl,rfl⟩;go_wp2_with fail;go_ret;exact⟨H6 i.out.symm,rfl⟩
theorem yef {w:e} {a b:List Nat} (ea:a=A9 (val a)) (eb:b=A9 (val b)) (ha:IsN w 0 w.heap.size h (val a)) (k:IsN w 0 w.heap.size R (val b)) (j:Bru w) (g:(A9 (val a)).length<=1024) (i:(A9 (val b)).length<=1024):
 E D 163 #[h,R] w fun f w'=>(∃c:Bool,f= .returned (.bool c)/\(c=true↔Nat.gcd (val a) (val b)=1))/\d w.heap.size w w':=
 yoo ha k j (Z g og) (Z i og)
theorem zzg {w:e} (h:IsR w (C2 w) v r) (V:Bru w):E D 102 #[v] w fun a w'=>a= .returned (.int .i64 (T3 r))/\d w.heap.size w w':=by
 obtain⟨A,H,B,I,rfl,T,U⟩:=ygh h;obtain⟨k,ad,y,J,ag⟩:=K7 w #[.bool r.neg,.slice A r.num.length H,.slice B r.den.length I] 37;obtain⟨n,t,M⟩:=G6 (IsK.isL (IsK.stb.next T y) (lo:=0) (hi:=k.heap.size) fun b g=>⟨X _,g⟩) (IsK.isL (IsK.stb.next U y) (lo:=0) (hi:=k.heap.size) fun b g=>⟨X _,g⟩) (Bru.next V y);clear V;obtain⟨Z,ah,ai⟩:=C5 J;obtain⟨ae,F⟩:=C4 J y;have aj:r.num.length<=9223372036854775807:=(by have:=n.out.length_le;unfold maxLen at this;omega);clear h T U J y;obtain⟨x,Y⟩:=nm (U7 r.num r.den);have i:=u Y;clear Y;by_cases o:x=0;(case neg=>have aa:(x !=0)=true:=bne_iff_ne.2 o;have f:c (T3 r=x):=(by rw[c,i.out];exact ydu (by rw[<-i.out];exact o));go_in;go_wp2_with fail;refine(zxo n.out t.out).mono ?_;rw[<-i.out];rintro a C ⟨rfl,rfl⟩;go_wp2_with fail;go_ret;exact⟨H6 f.out.symm,F.out⟩);have aa:(x !=0)=false:=(by rw[o];rfl);have j:=yds (num:=r.num) (den:=r.den) (by rw[<-i.out];exact o);obtain⟨G,af,O,N⟩:=X6 (ydv (r:=r) (by rw[<-i.out];exact o)) j (n.out.isN j.1) (t.out.isN j.2.1);have S:=(zqb j.1).2.2;have R:=(zqb j.2.1).2.2;obtain⟨Q,P⟩:=C4 (zwd j.1) (zwd j.2.1);clear j o;obtain⟨L,K⟩:=C4 S R;clear S R;obtain⟨s,W⟩:=nm (r.neg);rw[<-W] at Z ad G⊢;clear W;by_cases m:r.num=[]
 ·have ac:((r.num.length:Int)==0)=true:=(by rw[m];rfl);cases s with
  |true=>have f:c (T3 r=3):=(by rw[c,G.out,if_pos (.inl ⟨m,rfl⟩)]);clear m;go_in;go_wp2_with fail;refine(zxo n.out t.out).mono ?_;rw[<-i.out];rintro a C ⟨rfl,rfl⟩;go_wp2_with fail;go_ret;exact⟨H6 f.out.symm,F.out⟩
  |false=>
   have f:c (T3 r=if Nat.gcd (val r.num) (val r.den)≠1 then 3 else 0):=(by rw[c,G.out];simp);clear m;go_in;go_wp2_with fail;refine(zxo n.out t.out).mono ?_;rw[<-i.out];rintro a C ⟨rfl,rfl⟩;go_wp2_with fail;refine(show E D 163 #[.slice A r.num.length H,.slice B r.den.length I] k (fun a w'=>(∃b:Bool,a= .returned (.bool b)/\(b=true↔Nat.gcd (val r.num) (val r.den)=1))/\d k.heap.size k w') from yef L.out K.out O.out N.out M.out Q.out P.out).mono ?_;rintro a C ⟨⟨b,rfl,g⟩,z⟩;have q:=nB F z;have p:=u g;clear g z;cases b with
   |true=>have l:c (T3 r=0):=(by rw[c,f.out,if_neg (by simp[p.out.1 rfl])]);go_wp2_with fail;go_ret;exact⟨H6 l.out.symm,q.out⟩
   |false=>have l:c (T3 r=3):=(by rw[c,f.out,if_pos (fun h=>Bool.noConfusion (p.out.2 h))]);go_wp2_with fail;go_ret;exact⟨H6 l.out.symm,q.out⟩
 ·have ac:((r.num.length:Int)==0)=false:=beq_eq_false_iff_ne.2 (by have:=List.length_pos_iff.2 m;omega);have f:c (T3 r=if Nat.gcd (val r.num) (val r.den)≠1 then 3 else 0):=(by rw[c,G.out];simp[m]);clear m;go_in;go_wp2_with fail;refine(zxo n.out t.out).mono ?_;rw[<-i.out];rintro a C ⟨rfl,rfl⟩;go_wp2_with fail;refine(show E D 163 #[.slice A r.num.length H,.slice B r.den.length I] k (fun a w'=>(∃b:Bool,a= .returned (.bool b)/\(b=true↔Nat.gcd (val r.num) (val r.den)=1))/\d k.heap.size k w') from yef L.out K.out O.out N.out M.out Q.out P.out).mono ?_;rintro a C ⟨⟨b,rfl,g⟩,z⟩;have q:=nB F z;have p:=u g;clear g z;cases b with
  |true=>have l:c (T3 r=0):=(by rw[c,f.out,if_neg (by simp[p.out.1 rfl])]);go_wp2_with fail;go_ret;exact⟨H6 l.out.symm,q.out⟩
  |false=>have l:c (T3 r=3):=(by rw[c,f.out,if_pos (fun h=>Bool.noConfusion (p.out.2 h))]);go_wp2_with fail;go_ret;exact⟨H6 l.out.symm,q.out⟩
theorem yri (h:l[j]? =some r):(l.map T3).getD j 0=T3 r:=by rw[W,L,h];rfl
theorem zmx {a:Type} {l:List a} (h:j<l.length):∃x,l[j]? =some x:=⟨_,N h⟩
theorem ztv {w:e} (h:IsV w (C2 w) v l) (F:Bru w):
 E D 101 #[v] w fun s w'=>s= .returned (.int .i64 (W6 l))/\d w.heap.size w w':=by
 obtain⟨J,z⟩:=C4 h F;clear F;obtain⟨A,V,rfl,ag⟩:=T4 h;clear h;by_cases t:40<l.length
 ·have i:c (W6 l=4):=(by unfold c W6;rw[if_pos t]);go_in;go_wp2_with fail;go_ret;exact⟨H6 i.out.symm,I _ _⟩
 ·have i:c (W6 l=zwc l):=(by unfold c W6;rw[if_neg t]);have ac:l.length<=40:=og;clear t;go_in;go_wp2_with fail;go_loopw [11] (fun y wr=>∃k:Nat,k<=l.length/\y= .int .i64 (k:Int)/\d w.heap.size w wr/\c (∀j,j<k->(l.map T3).getD j 0=0)) (fun y _=>l.length-(intOf y).toNat);case atStart=>exact⟨0,X _,rfl,I _ _,fun j O=>by omega⟩
  case round=>
   obtain⟨k,af,rfl,n,hrel⟩:=hrel;have f:=u n;have q:=u hrel.out;clear hrel;rcases U k l.length with Q|ae
   ·obtain⟨r,hr⟩:=zmx Q;obtain⟨b,off,P,ah,S,ai,rfl,ad,G,W,Y,Z⟩:=zmd (IsV.stb.next J.out n) hr;obtain⟨B,C⟩:=C4 G hr;have aa:=R4;obtain⟨x,H⟩:=nm (T3 r);have m:=u H;clear G hr n H;by_cases a:x=0
    ·have N:(x !=0)=false:=(by rw[a];rfl);have K:=u a;clear a;go_wp2_with fail;refine(zzg (IsR.stb.next B.out ((I _ _).alloc (M _) _)) (Bru.next (Bru.next z.out f.out) ((I _ _).alloc (M _) _))).mono ?_;rw[<-m.out];rintro s R ⟨rfl,g⟩;have o:=u (C9 f.out ((I _ _).alloc (M _) _|>fun h=>C9 h g));clear g;go_wp2_with fail;go_roundw
     case rel=>
      refine⟨k+1,by omega,by go_num,o.out,fun j O=> ?_⟩;rcases U j k with h|h
      ·exact q.out j h
      ·obtain rfl:j=k:=og;rw[yri C.out,<-m.out,K.out]
     case measure=>simp[intOf];omega
    ·have N:(x !=0)=true:=bne_iff_ne.2 a;have p:c (W6 l=x):=(by rw[c,i.out];exact zuk q.out (by rw[L,C.out,m.out];rfl) a);clear a;go_wp2_with fail;refine(zzg (IsR.stb.next B.out ((I _ _).alloc (M _) _)) (Bru.next (Bru.next z.out f.out) ((I _ _).alloc (M _) _))).mono ?_;rw[<-m.out];rintro s R ⟨rfl,g⟩;have o:=u (C9 f.out ((I _ _).alloc (M _) _|>fun h=>C9 h g));clear g;go_wp2_with fail;go_ret;exact⟨H6 p.out.symm,o.out⟩
   ·obtain rfl:k=l.length:=og;have p:c (W6 l=0):=(by rw[c,i.out];exact zsr (by rw[T];exact q.out));clear n;go_wp2_with fail;go_ret;exact⟨H6 p.out.symm,f.out⟩
def zpf (n:Nat) (row:List Raw):Int:=if row.length≠n then 3 else W6 row
theorem ynz (m:List (List Raw)):zku m=if 40<m.length then 4 else X5 (m.map (zpf (m.headD []).length)):=rfl
theorem yrj {m:List (List Raw)} {r:List Raw} (h:m[j]? =some r):(m.map (zpf n)).getD j 0=zpf n r:=by rw[W,L,h];rfl
theorem yfn {w:e} {m:List (List Raw)} (h:IsM w (C2 w) v m) (W:Bru w):
 E D 100 #[v] w fun C w'=>C= .returned (.int .i64 (zku m))/\d w.heap.size w w':=by
 obtain⟨N,O⟩:=C4 h W;clear W;obtain⟨A,an,rfl,az⟩:=zsw h;clear h;by_cases F:40<m.length
 ·have o:c (zku m=4):=(by unfold c zku;rw[if_pos F]);go_in;go_wp2_with fail;go_ret;exact⟨H6 o.out.symm,I _ _⟩
 ·have aq:m.length<=40:=og;obtain⟨n,G⟩:=nm ((m.headD []).length);have o:c (zku m=X5 (m.map (zpf n))):=(by rw[c,ynz,if_neg F,G]);have ac:=u G;clear F G;go_in;go_wp2_with fail;go_loopw [11] (fun M wr=>∃k:Nat,k<=m.length/\M= .int .i64 (k:Int)/\d w.heap.size w wr/\c (∀j,j<k->(m.map (zpf n)).getD j 0=0)) (fun M _=>m.length-(intOf M).toNat);case atStart=>exact⟨0,X _,rfl,I _ _,fun j ai=>by omega⟩
  case round=>
   obtain⟨k,ay,rfl,q,hrel⟩:=hrel;have f:=u q;have r:=u hrel.out;clear hrel;rcases U k m.length with Z|av
   ·obtain⟨row,J⟩:=zmx Z;obtain⟨y,s⟩:=zmx (show 0<m.length by omega);obtain⟨b,off,P,aB,rfl,ar,Y,ao⟩:=zrp (IsM.stb.next N.out q) J;obtain⟨al,aD,ak,aC,V,au,ah,ae⟩:=zrp (IsM.stb.next N.out q) s;simp only[Option.some.injEq,Addr.mk.injEq,and_true] at V;obtain⟨rfl,rfl⟩:=V;rw[Nat.add_zero] at ae
    have H:c (y.length=n):=by
     rw[c,ac.out];cases m with
     |nil=>simp at Z
     |cons a t=>simp at s;rw[<-s];rfl
    obtain⟨Q,B⟩:=C4 Y J;have aA:0<m.length:=og;clear Y J q ah s;by_cases g:row.length=y.length
    case neg=>
     have ag:((row.length:Int) !=(y.length:Int))=true:=bne_iff_ne.2 og
     have l:c (zku m=3):=by
      rw[c,o.out];refine zuk r.out (by rw[L,B.out];rfl) ?_|>.trans ?_
      ·unfold zpf;rw[if_pos (by rw[<-H.out];exact g)];decide
      ·unfold zpf;rw[if_pos (by rw[<-H.out];exact g)]
     clear g;go_wp2_with fail;go_ret;exact⟨H6 l.out.symm,f.out⟩
    have ag:((row.length:Int) !=(y.length:Int))=false:=(by rw[g];simp);have aa:=u g;clear g;obtain⟨x,K⟩:=nm (W6 row);have R:=u K;have S:c (zpf n row=x):=(by rw[c,K];unfold zpf;rw[if_neg (by rw[<-H.out];simp[aa.out])]);clear K;by_cases i:x=0
    ·have af:(x !=0)=false:=(by rw[i];rfl);have ad:=u i;clear i;go_wp2_with fail;refine(ztv Q.out (Bru.next O.out f.out)).mono ?_;rw[<-R.out];rintro C aj ⟨rfl,p⟩;have z:=nB f p;clear p;go_wp2_with fail;go_roundw
     case rel=>
      refine⟨k+1,by omega,by go_num,z.out,fun j ai=> ?_⟩;rcases U j k with h|h
      ·exact r.out j h
      ·obtain rfl:j=k:=og;rw[yrj B.out,S.out,ad.out]
     case measure=>simp[intOf];omega
    ·have af:(x !=0)=true:=bne_iff_ne.2 i;have l:c (zku m=x):=(by rw[c,o.out];exact zuk r.out (by rw[L,B.out,<-S.out];rfl) i);clear i;go_wp2_with fail;refine(ztv Q.out (Bru.next O.out f.out)).mono ?_;rw[<-R.out];rintro C aj ⟨rfl,p⟩;have z:=nB f p;clear p;go_wp2_with fail;go_ret;exact⟨H6 l.out.symm,z.out⟩
   ·obtain rfl:k=m.length:=og;have l:c (zku m=0):=(by rw[c,o.out];exact zsr (by rw[T];exact r.out));clear q;go_wp2_with fail;go_ret;exact⟨H6 l.out.symm,f.out⟩
theorem yqz {w:e} {x y z:Int} (r:w.cell? ⟨g,0,none⟩=some (.int .i64 x)) (s:w.cell? ⟨g,1,none⟩=some (.int .i64 y)) (t:w.cell? ⟨g,2,none⟩=some (.int .i64 z)):
 E D 99 #[.slice (some ⟨g,0,none⟩) 3 3] w fun b w'=>b= .returned (.int .i64 (X5 [x,y,z]))/\w=w':=by
 have hc:c (∀j b,[x,y,z][j]? =some b->w.cell? ⟨g,j,none⟩=some (.int .i64 b)):=by
  intro j b a;match j,a with
  |0,a=>simp at a;rw[<-a];exact r
  |1,a=>simp at a;rw[<-a];exact s
  |2,a=>simp at a;rw[<-a];exact t
 obtain⟨l,o⟩:=nm ([x,y,z]);rw[<-o] at hc⊢;have v:c (l.length=3):=(by rw[o];rfl);clear r s t o;go_in;go_wp2_with fail;go_loop [7] (fun p=>∃k:Nat,k<=3/\p= .int .i64 (k:Int)/\c (∀j,j<k->l.getD j 0=0)) (fun p=>3-(intOf p).toNat);case atStart=>exact⟨0,by omega,rfl,fun j a=>by omega⟩
 case round=>
  obtain⟨k,J,rfl,hrel⟩:=hrel;rcases U k 3 with F|H
  ·obtain⟨b,n⟩:=zmx (l:=l) (j:=k) (by rw[v.out];exact F);have G:=hc.out k b n;have q:=u n;clear n;by_cases i:b=0
   ·have C:(b !=0)=false:=(by rw[i];rfl);have A:=u i;clear i;go_wp2_with fail;go_round
    case rel=>
     refine⟨k+1,by omega,by go_num,fun j a=> ?_⟩;rcases U j k with h|h
     ·exact hrel.out j h
     ·obtain rfl:j=k:=og;rw[W,q.out,A.out];rfl
    case measure=>simp[intOf];omega
   ·have C:(b !=0)=true:=bne_iff_ne.2 i;have m:c (X5 l=b):=zuk hrel.out q.out i;clear i;go_wp2_with fail;go_ret;exact⟨H6 m.out.symm,rfl⟩
  ·obtain rfl:k=3:=og;have m:c (X5 l=0):=zsr (by rw[v.out];exact hrel.out);go_wp2_with fail;go_ret;exact⟨H6 m.out.symm,rfl⟩
theorem yqx (w:e) (x y z t:Int) (i:t=X5 [x,y,z]):E D 99 #[.slice (some ⟨w.heap.size,0,none⟩) 3 3] (w.alloc (.cells #[.int .i64 x,.int .i64 y,.int .i64 z] 40)) fun a w'=>a= .returned (.int .i64 t)/\d w.heap.size w w':=by have h:Row (w.alloc (.cells #[.int .i64 x,.int .i64 y,.int .i64 z] 40)) w.heap.size 40 [.int .i64 x,.int .i64 y,.int .i64 z]:=heap_alloc_new w _;obtain⟨b,c,f⟩:=C5 h;rw[i];refine(yqz b c f).mono ?_;rintro a w' ⟨g,rfl⟩;exact⟨g,O0 _ _⟩
theorem yfk {w:e} {m:List (List Raw)} {d:Nat} (h:IsM w (C2 w) v m) (F:b<=9223372036854775807) (hc:d<=9223372036854775807):
 E D 103 #[v,.int .i64 (b:Int),.int .i64 (d:Int)] w fun y w'=>y= .returned (.int .i64 (zor m b d))/\w=w':=by
 have r:=u h;obtain⟨A,C,rfl,G⟩:=zsw h;clear h;by_cases g:m.length=b;(case neg=>have z:((m.length:Int) !=(b:Int))=true:=bne_iff_ne.2 og;have f:c (zor m b d=10):=if_pos (.inl g);clear g;go_in;go_wp2_with fail;go_ret;exact⟨H6 f.out.symm,rfl⟩);have z:((m.length:Int) !=(b:Int))=false:=(by rw[g];simp);rcases Nat.eq_zero_or_pos b with j|j
 ·have f:c (zor m b d=0):=if_neg (by rintro(h|⟨h,_⟩)<;>omega);have B:decide (0<b)=false:=decide_eq_false og;have o:b<1:=og;clear g j;go_in;go_wp2_with fail;go_ret;exact⟨H6 f.out.symm,rfl⟩
 ·have B:decide (0<b)=true:=decide_eq_true j;have q:0<m.length:=og;obtain⟨l,k⟩:=zmx q;obtain⟨bb,off,P,H,rfl,_,_,x⟩:=zrp r.out k;rw[Nat.add_zero] at x
  have p:(m.headD []).length=l.length:=by
   cases m with
   |nil=>simp at q
   |cons a t=>simp at k;rw[<-k];rfl
  obtain⟨s,n⟩:=C4 g p;clear g k p;by_cases i:l.length=d
  ·have o:((l.length:Int) !=(d:Int))=false:=(by rw[i];simp);have f:c (zor m b d=0):=if_neg (by rw[n.out,s.out];rintro(h|⟨_,h⟩);exact h rfl;exact h i);clear i;go_in;go_wp2_with fail;go_ret;exact⟨H6 f.out.symm,rfl⟩
  ·have o:((l.length:Int) !=(d:Int))=true:=bne_iff_ne.2 og;have f:c (zor m b d=10):=if_pos (.inr ⟨j,by rw[n.out];exact i⟩);clear i;go_in;go_wp2_with fail;go_ret;exact⟨H6 f.out.symm,rfl⟩
theorem yif {w:e} {p:Prog} (h:IsP w (C2 w) v p) (ag:Bru w):E D 48 #[v] w fun f w'=>f= .returned (.int .i64 (zsl p))/\d w.heap.size w w':=by
 obtain⟨A,a,B,b,C,r,rfl,s,u,F⟩:=h;have lA:=(zsw s).choose_spec.choose_spec.2;have lB:=(T4 u).choose_spec.choose_spec.2;have ay:=(T4 F).choose_spec.choose_spec.2;obtain⟨n,av,g,ah,az⟩:=K7 w #[.slice A p.A.length a,.slice B p.B.length b,.slice C p.C.length r] 32;obtain⟨N,aj,ak,m,P,q⟩:=hd6 (IsM.stb.next s g) (IsV.stb.next u g) (IsV.stb.next F g) (ah) (g) (Bru.next ag g);clear s u F ah g ag;obtain⟨Q,V,aa⟩:=C5 m.out;obtain⟨x,J⟩:=nm (zku p.A);obtain⟨y,K⟩:=nm (W6 p.B);obtain⟨z,L⟩:=nm (W6 p.C);obtain⟨t,H⟩:=nm (X5 [x,y,z]);obtain⟨M,I⟩:=nm (zzh p);have O:c (zsl p=if t≠0 then t else M):=(by rw[c,H,J,K,L,I];rfl);obtain⟨ao,aq,ar,al,an⟩:=hd5 J K L H I;clear J K L H I;go_in;go_wp2_with fail;clear av
 go_region_held3 (fun w'=>w'.cell? ⟨w.heap.size,0,none⟩=some (.slice A p.A.length a)/\w'.cell? ⟨w.heap.size,1,none⟩=some (.slice B p.B.length b)/\w'.cell? ⟨w.heap.size,2,none⟩=some (.slice C p.C.length r))
  (first
    |exact⟨Q,V,aa⟩
    |exact⟨R,W,ac⟩
    |exact⟨S,X,ad⟩
    |exact⟨T,Y,ae⟩
    |exact⟨U,Z,af⟩
    |exact⟨B9 (O0 _ _) Q,B9 (O0 _ _) V,B9 (O0 _ _) aa⟩
    |exact⟨B9 (O0 _ _) R,B9 (O0 _ _) W,B9 (O0 _ _) ac⟩
    |exact⟨B9 (O0 _ _) S,B9 (O0 _ _) X,B9 (O0 _ _) ad⟩
    |exact⟨B9 (O0 _ _) T,B9 (O0 _ _) Y,B9 (O0 _ _) ae⟩
    |exact⟨B9 (O0 _ _) U,B9 (O0 _ _) Z,B9 (O0 _ _) af⟩)
  (first
    |(go_at_call 100;have hc:=(show E D 100 #[.slice A p.A.length a] (World.drew n) (fun f w'=>f= .returned (.int .i64 x)/\d (World.heap (World.drew n)).size (World.drew n) w') from by rw[ao.out];exact yfn (uM n.drew N) (uU n.drew q));(with_reducible refine hc.mono ?_);clear hc;rintro f j ⟨rfl,G⟩;obtain⟨R,W,ac⟩:=C5 (uR j m))
    |(go_at_call 101;have hc:=(show E D 101 #[.slice B p.B.length b] j (fun f w'=>f= .returned (.int .i64 y)/\d (World.heap j).size j w') from by rw[aq.out];exact ztv (uV j aj) (uU j q));(with_reducible refine hc.mono ?_);clear hc;rintro f k ⟨rfl,G⟩;obtain⟨S,X,ad⟩:=C5 (uR k m))
    |(go_at_call 101;have hc:=(show E D 101 #[.slice C p.C.length r] k (fun f w'=>f= .returned (.int .i64 z)/\d (World.heap k).size k w') from by rw[ar.out];exact ztv (uV k ak) (uU k q));(with_reducible refine hc.mono ?_);clear hc;rintro f ai ⟨rfl,G⟩;obtain⟨T,Y,ae⟩:=C5 (uR ai m))
    |(go_at_call 99;have hc:=yqx ai x y z t al.out;(with_reducible refine hc.mono ?_);clear hc;rintro f l ⟨rfl,G⟩;obtain⟨U,Z,af⟩:=C5 (uR l m)))
 by_cases i:t=0;(case neg=>have au:(t !=0)=true:=bne_iff_ne.2 i;have o:c (zsl p=t):=(by rw[c,O.out,if_pos i]);clear i;go_wp2_with fail;go_ret;exact⟨H6 o.out.symm,(uB l P)⟩);have au:(t !=0)=false:=(by rw[i];rfl);have o:c (zsl p=M):=(by rw[c,O.out,if_neg (by simp[i])]);clear i;go_wp2_with fail;refine(show E D 103 #[.slice A p.A.length a,.int .i64 (p.B.length:Int),.int .i64 (p.C.length:Int)] l (fun f w'=>f= .returned (.int .i64 M)/\l=w') from by rw[an.out];exact yfk (uM l N) lB ay).mono ?_;rintro f aA ⟨rfl,rfl⟩;go_wp2_with fail;go_ret;exact⟨H6 o.out.symm,(uB l P)⟩
theorem yxb:(Tryz.prog.info? 37).map (fun a=>(a.zero,a.size,a.bytes))=some (some (.agg #[.bool false,.slice none 0 0,.slice none 0 0]),3,56):=by kernel_rfl
theorem zlc:ElN D 30 37 3 56:=
 ⟨Tryz.underlying30,by obtain⟨e,a,b,c,d⟩:=info_parts yxb;exact⟨e,_,a,b,c,d,rfl⟩,by omega⟩
theorem znx {l:List Rat} (h:j<l.length):∃q,l[j]? =some q/\(C0 l)[j]? =some (E7 q):=⟨l[j],N h,by simp[C0,N h]⟩
theorem znm {a:Type} {l:List a} {x:a} (h:l[k]? =some x):l.take (k+1)=l.take k++[x]:=by obtain⟨b,rfl⟩:=List.getElem?_eq_some_iff.1 h;exact List.take_succ_eq_append_getElem b
theorem zup {w:e} {S:Nat->Prop} {q:Rat} (h:IsR w S v (E7 q)):IsQ w S v q:=h
def Y2 (m:List (List Rat)) (k:Nat):List Rat:=m.map fun row=>row.getD k 0
theorem yit {m:List (List Rat)} (h:j<m.length):∃row,m[j]? =some row/\(E9 m)[j]? =some (C0 row):=⟨m[j],N h,by simp[E9,N h]⟩
section
variable {P : Program} {ops : Array Oper} {md : Region.Mode} {w : e} {m : Nat}
end
attribute [local go_sem] Oper.semAt_some
set_option linter.unusedVariables false
abbrev S3:=Option B×Nat×Nat
abbrev Q3:=Bool×S3×S3
def q3 (x:Q3):f:= .agg #[.bool x.1,.slice x.2.1.1 x.2.1.2.1 x.2.1.2.2,.slice x.2.2.1 x.2.2.2.1 x.2.2.2.2]
theorem zww {w w':e} (a:d n w w') (c:b<n) (h:w.cell? ⟨b,o,none⟩=some v):w'.cell? ⟨b,o,none⟩=some v:=(a.cell (p:=⟨b,o,none⟩) c).trans h
def Els3 (w:e) (F:Nat) (A:Option B) (es:List Q3):Prop:=∀(j:Nat) (a:Q3),es[j]? =some a->∃b off,A=some ⟨b,off,none⟩/\b<F/\
 w.cell? ⟨b,off+j*3,none⟩=some (.bool a.1)/\w.cell? ⟨b,off+j*3+1,none⟩=some (.slice a.2.1.1 a.2.1.2.1 a.2.1.2.2)/\w.cell? ⟨b,off+j*3+2,none⟩=some (.slice a.2.2.1 a.2.2.2.1 a.2.2.2.2)
def Els1 (w:e) (F:Nat) (A:Option B) (es:List f):Prop:=∀(j:Nat) (a:f),es[j]? =some a->∃b off,A=some ⟨b,off,none⟩/\b<F/\w.cell? ⟨b,off+j,none⟩=some a
theorem Els3.below {w w':e} {A:Option B} {es:List Q3} (h:Els3 w F A es) (a:d w.heap.size w w') (n:F<=w.heap.size):Els3 w' F A es:=fun j c m=>by
 obtain⟨b,off,f,g,i,k,l⟩:=h j c m
 exact⟨b,off,f,g,zww a og i,zww a og k,zww a og l⟩
theorem Els1.below {w w':e} {A:Option B} (h:Els1 w F A es) (i:d w.heap.size w w') (l:F<=w.heap.size):Els1 w' F A es:=fun j a k=>by
 obtain⟨b,off,c,f,g⟩:=h j a k
 exact⟨b,off,c,f,zww i og g⟩

attribute [local go_sem] Oper.semAt_some
set_option linter.unusedVariables false
def yls (w:e) (p:(Q3×Rat)×(Q3×Rat)):Prop:=IsQ w (C2 w) (q3 p.1.1) p.1.2/\IsQ w (C2 w) (q3 p.2.1) p.2.2/\Sz p.1.2 1024/\Sz p.2.2 1024
abbrev Pair (w:e):={p:(Q3×Rat)×(Q3×Rat)//yls w p}
def Pair.qs {w:e} (x:Pair w):Rat×Rat:=(x.1.1.2,x.1.2.2)
theorem zwb {w:e} (h:w.cell? ⟨b,o,none⟩=some v):∃obj,w.heap[b]? =some obj/\obj.isCells=true:=by
 unfold World.cell? at h;cases a:w.heap[b]? with
 |none=>simp[a] at h
 |some obj=>cases obj with
  |cells g t i=>exact⟨_,rfl,rfl⟩
  |_=>simp[a] at h
def ycr (w:e) (S:Nat->Prop):Nat->Prop:=fun b=>S b/\∃obj,w.heap[b]? =some obj/\obj.isCells=true
theorem IsK.cells {k:IntKind} {w:e} {S:Nat->Prop} {l:List Nat} (h:IsK k w S v l):IsK k w (ycr w S) v l:=by
 obtain⟨A,i,hv,j,m,n⟩:=h;refine⟨A,i,hv,j,m,fun a=> ?_⟩;obtain⟨b,off,o,p,hc⟩:=n a;refine⟨b,off,o,⟨p,?_⟩,hc⟩;cases g:C8 k l with
 |nil=>exact absurd g a
 |cons q t=>exact zwb (hc 0 q (by rw[g];rfl))
theorem IsQ.cells {w:e} {S:Nat->Prop} {q:Rat} (h:IsQ w S v q):IsQ w (ycr w S) v q:=by obtain⟨A,a,B,d,hv,b,c⟩:=h;exact⟨A,a,B,d,hv,b.cells,c.cells⟩
theorem yoh {A:List (List Rat)} (h:∀row∈A,∀q∈row,Sz q n) (b:1<=n):∀q∈Y2 A k,Sz q n:=by
 intro q g;obtain⟨row,i,rfl⟩:=List.mem_map.1 g;cases a:row[k]? with
 |none=>rw[W,a];exact Sz.zero.le b
 |some q=>rw[W,a];exact h row i q (List.mem_of_getElem? a)
theorem Z5 (l:List Rat):(C0 l).length=l.length:=T _
theorem zxt (m:List (List Rat)):(E9 m).length=m.length:=T _
attribute [local go_sem] Oper.semAt_some
set_option linter.unusedVariables false
def ylx (w:e) (n:Nat) (p:(S3×List Rat)×(Q3×Rat)):Prop:=IsV w (C2 w) (.slice p.1.1.1 p.1.1.2.1 p.1.1.2.2) (C0 p.1.2)/\p.1.2.length=n/\IsQ w (C2 w) (q3 p.2.1) p.2.2/\(∀q∈p.1.2,Sz q 1024)/\Sz p.2.2 1024
abbrev Side (w:e) (n:Nat):={p:(S3×List Rat)×(Q3×Rat)//ylx w n p}
def Side.qs {w:e} {n:Nat} (x:Side w n):List Rat×Rat:=(x.1.1.2,x.1.2.2)

def M0 (l:List Rat):List Rat:=l.map fun q=> -q
def J0 (p:ProgQ):ProgQ:=⟨(List.range p.C.length).map fun k=>M0 (Y2 p.A k),M0 p.C,M0 p.B⟩
theorem ypn (z:List (Rat×Rat)) (s:Rat):(z.map fun p=>(-p.1,p.2)).foldl (fun s p=>s+p.1*p.2) (-s)= -(z.foldl (fun s p=>s+p.1*p.2) s):=by
 induction z generalizing s with
 |nil=>rfl
 |cons p z ih=>rw[List.map_cons,List.foldl_cons,List.foldl_cons,<-ih];congr 1;rw[Rat.neg_mul,Rat.neg_add]
theorem zz1390 (a y:List Rat):(M0 a).zip y=(a.zip y).map fun p=>(-p.1,p.2):=by unfold M0;rw[List.zip_map_left];rfl
theorem zwl (a y:List Rat):L3 (M0 a) y= -L3 a y:=by unfold L3 zpu;rw[zz1390];have:=ypn (a.zip y) 0;rwa[Rat.neg_zero] at this
theorem yax {l:List Rat} {q:Rat} (h:l[j]? =some q):(M0 l)[j]? =some (-q):=by unfold M0;rw[L,h];rfl
theorem znv (l:List Rat):(M0 l).length=l.length:=T _
theorem yuq (l:List Rat):M0 (M0 l)=l:=by
 unfold M0;rw[List.map_map];conv=>rhs;rw[<-List.map_id l]
 congr 1;funext q;exact Rat.neg_neg q
theorem zro (h:Good p 1024):Good (J0 p) 1024:=by
 refine⟨by simp[J0,M0],?_,?_,?_,?_,by simp only[J0,znv];exact h.nC,by simp only[J0,znv];exact h.nB⟩
 ·intro row hr;obtain⟨k,_,rfl⟩:=List.mem_map.1 hr;simp[J0,M0,Y2,h.rows]
 ·intro row hr q a;obtain⟨k,_,rfl⟩:=List.mem_map.1 hr;obtain⟨x,b,rfl⟩:=List.mem_map.1 a;exact(yoh h.szA og x b).neg
 ·intro q a;obtain⟨x,b,rfl⟩:=List.mem_map.1 a;exact(h.szC x b).neg
 ·intro q a;obtain⟨x,b,rfl⟩:=List.mem_map.1 a;exact(h.szB x b).neg
theorem ypw (h:Good p k):J0 (J0 p)=p:=by
 obtain⟨A,B,C⟩:=p;have d:=h.rows;have b:=h.cols;simp only at d b;simp only[J0,yuq,ProgQ.mk.injEq,and_true,znv];apply List.ext_getElem
 ·simp[d]
 ·intro e f a;rw[List.getElem_map,List.getElem_range];apply List.ext_getElem
  ·simp[M0,Y2,b A[e] (List.getElem_mem a)]
  ·intro j g c;have i:j<C.length:=(by rw[<-b A[e] (List.getElem_mem a)];exact c);simp only[M0,Y2,List.getElem_map,List.getElem_range,W,L,N a,Option.map_some,Option.getD_some,N c,Rat.neg_neg]
structure Sol where
 st:Int
 val:Raw
 X:List Raw
 D:List Raw
 R:List Raw
def IsSol (w:e) (S:Nat->Prop) (v:f) (s:Sol):Prop:=
 ∃P k c l A a B b C d,v= .agg #[.int .i64 s.st,.bool s.val.neg,.slice P s.val.num.length k,.slice c s.val.den.length l,.slice A s.X.length a,.slice B s.D.length b,.slice C s.R.length d]/\
  IsR w S (.agg #[.bool s.val.neg,.slice P s.val.num.length k,.slice c s.val.den.length l]) s.val/\IsV w S (.slice A s.X.length a) s.X/\IsV w S (.slice B s.D.length b) s.D/\IsV w S (.slice C s.R.length d) s.R
theorem IsSol.stb:Stb IsSol:=by rintro w w' S T v s ⟨P,k,d,l,A,a,B,b,C,e,hv,f,g,h,i⟩ c;exact⟨P,k,d,l,A,a,B,b,C,e,hv,IsR.stb.to f c,IsV.stb.to g c,IsV.stb.to h c,IsV.stb.to i c⟩
theorem yyv {w w':e} {S:Nat->Prop} (hg:w.grownBy w' (some g)) (c:∀b,S b->b<w.heap.size/\b≠g):L2 S S w w':=fun b a=>⟨a,fun o=>World.cell?_of_block (hg.block b (c b a).1 (fun d=>(c b a).2 (by cases d;rfl)))⟩
theorem K8 {w w':e} {row:Option Nat} (a:d w.heap.size w w'):w.grownBy w' row:=⟨a.os,a.tape,a.output,a.size,fun k b _=>a.block k b⟩
theorem I0 (w:e) (g o:Nat) (a:f):w.grownBy (w.setCell ⟨g,o,none⟩ a) (some g):=
 ⟨rfl,rfl,rfl,by simp[World.setCell],fun k _ c=>Below.heap_setCell w ⟨g,o,none⟩ a k (fun b=>c (by rw[b]))⟩
theorem yrq {a b f:e} {row:Option Nat} (h:a.grownBy b row) (c:d a.heap.size b f):a.grownBy f row:=⟨c.os.trans h.os,c.tape.trans h.tape,c.output.trans h.output,Z h.size c.size,fun k g hr=>(c.block k g).trans (h.block k g hr)⟩
theorem OwnS.slice {b:Type} {R:e->(Nat->Prop)->f->b->Prop} {w:e} {base:Nat} {S:Nat->Prop} {l:List b} (h:OwnS n t R w base S v l):∃A c,v= .slice A l.length c:=by
 obtain⟨es,d,_⟩:=h;rcases d.2 with⟨a,i⟩|⟨g,cap,j,a,_⟩
 ·exact⟨none,0,by rw[a,i]⟩
 ·exact⟨_,_,a⟩
theorem zz1378:(Tryz.prog.info? 30).map (fun a=>(a.zero,a.size,a.bytes))=some (some (.slice none 0 0),1,24):=by kernel_rfl
theorem elV:ElN D 28 30 1 24:=
 ⟨Tryz.underlying28,by obtain⟨e,a,b,c,d⟩:=info_parts zz1378;exact⟨e,_,a,b,c,d,rfl⟩,by omega⟩
def SP (w c:e) (g:Nat) (a:e) (b:Nat):Prop:=(b<w.heap.size\/c.heap.size<=b)/\b<a.heap.size/\b≠g
theorem yja {fn:Func} {slot:Tmp} {R:Ending->e->Prop} {a:Act} {w:e} {x y z:f} (hr:fn.results= #[.cell slot 32]) (ha:a.tmps.getD slot undef= .pointer (some ⟨g,0,none⟩)) (hd:a.defers=[])
 (h:Row w g 32 [x,y,z]) (i:R (.returned (.agg #[x,y,z])) w):bodyPost D fn R .ret a w:=by refine bodyPost_ret (v:= .agg #[x,y,z]) ?_ hd i;obtain⟨b,c,d⟩:=C5 h;have j:a.tmps[slot]?.getD undef= .pointer (some ⟨g,0,none⟩):=(by simpa using ha);simp[results,hr,j,asAddr,go_sem,b,c,d]
theorem ygi {a:Type} {R:e->(Nat->Prop)->f->a->Prop} {w:e} {S:Nat->Prop} {l:List a} (h:Row w g t (cellsOf es)) (hg:S g) (c:Wid n es) (ha:All2 (R w S) es l) (i:l.length<=9223372036854775807):
 IsS n R w S (.slice (some ⟨g,0,none⟩) l.length l.length) l:=by refine⟨_,_,es,rfl,M _,by unfold maxLen;omega,fun _=>⟨g,0,rfl,hg,fun d j b=> ?_⟩,c,ha⟩;rw[Nat.zero_add];exact h.cell d|>.trans (by simpa using b)
theorem ycw {a b:Type} {R:a->b->Prop} {x:a} {y:b} (h:R x y):All2 R [x] [y]:=All2.snoc All2.nil h
theorem ymf {b c:Type} {R:b->c->Prop} {x a:b} {y v:c} (h:R x y) (d:R a v):All2 R [x,a] [y,v]:=All2.snoc (a:=[x]) (b:=[y]) (ycw h) d
def O8 (l:List Int):List Rat:=l.map fun x=>zkq x 1
theorem zz1379 (l:List Int):(O8 l).length=l.length:=T _
theorem zz1380 {l:List Int} {x:Int} (h:l[k]? =some x):(O8 l).take (k+1)=(O8 l).take k++[zkq x 1]:=by refine znm ?_;unfold O8;rw[L,h];rfl
def ygd (l:List Int):List f:=l.map fun x=> .int .i64 x
def exQ:ProgQ:=⟨[O8 [1,1],O8 [1,3]],O8 [4,6],O8 [3,2]⟩
section
variable {w : e} {i : B} {v1 : f} {a : B} {q : f} {s : B} {x : f} {y : B} {v4 : f} {z : B} {A : f} {C : B} {v6 : f} {G : B} {H : f} {J : B} {K : f} {O : B} {Q : f} {Y : B} {v10 : f} {aa : B} {v11 : f} {ac : B} {ad : f} {ae : B} {ag : f} {af : B} {ah : f}
theorem zka (b:w.cell? i=some v1):c (∀a:e,d w.heap.size w a->a.cell? i=some v1):=fun a h=>B9 h b
theorem hs2 (f:w.cell? i=some v1) (g:w.cell? a=some q):c (∀b:e,d w.heap.size w b->b.cell? i=some v1/\b.cell? a=some q):=fun b h=>⟨B9 h f,B9 h g⟩
theorem zmp (f:w.cell? i=some v1) (g:w.cell? a=some q) (j:w.cell? s=some x):c (∀b:e,d w.heap.size w b->b.cell? i=some v1/\b.cell? a=some q/\b.cell? s=some x):=fun b h=>⟨B9 h f,B9 h g,B9 h j⟩
theorem hs4 (f:w.cell? i=some v1) (g:w.cell? a=some q) (j:w.cell? s=some x) (k:w.cell? y=some v4):c (∀b:e,d w.heap.size w b->b.cell? i=some v1/\b.cell? a=some q/\b.cell? s=some x/\b.cell? y=some v4):=fun b h=>⟨B9 h f,B9 h g,B9 h j,B9 h k⟩
theorem hs5 (f:w.cell? i=some v1) (g:w.cell? a=some q) (j:w.cell? s=some x) (k:w.cell? y=some v4) (l:w.cell? z=some A):c (∀b:e,d w.heap.size w b->b.cell? i=some v1/\b.cell? a=some q/\b.cell? s=some x/\b.cell? y=some v4/\b.cell? z=some A):=fun b h=>⟨B9 h f,B9 h g,B9 h j,B9 h k,B9 h l⟩
theorem zmq (f:w.cell? i=some v1) (g:w.cell? a=some q) (j:w.cell? s=some x) (k:w.cell? y=some v4) (l:w.cell? z=some A) (m:w.cell? C=some v6):c (∀b:e,d w.heap.size w b->b.cell? i=some v1/\b.cell? a=some q/\b.cell? s=some x/\b.cell? y=some v4/\b.cell? z=some A/\b.cell? C=some v6):=fun b h=>⟨B9 h f,B9 h g,B9 h j,B9 h k,B9 h l,B9 h m⟩
theorem hs7 (f:w.cell? i=some v1) (g:w.cell? a=some q) (j:w.cell? s=some x) (k:w.cell? y=some v4) (l:w.cell? z=some A) (m:w.cell? C=some v6) (n:w.cell? G=some H):c (∀b:e,d w.heap.size w b->b.cell? i=some v1/\b.cell? a=some q/\b.cell? s=some x/\b.cell? y=some v4/\b.cell? z=some A/\b.cell? C=some v6/\b.cell? G=some H):=fun b h=>⟨B9 h f,B9 h g,B9 h j,B9 h k,B9 h l,B9 h m,B9 h n⟩
theorem hs8 (f:w.cell? i=some v1) (g:w.cell? a=some q) (j:w.cell? s=some x) (k:w.cell? y=some v4) (l:w.cell? z=some A) (m:w.cell? C=some v6) (n:w.cell? G=some H) (o:w.cell? J=some K):c (∀b:e,d w.heap.size w b->b.cell? i=some v1/\b.cell? a=some q/\b.cell? s=some x/\b.cell? y=some v4/\b.cell? z=some A/\b.cell? C=some v6/\b.cell? G=some H/\b.cell? J=some K):=fun b h=>⟨B9 h f,B9 h g,B9 h j,B9 h k,B9 h l,B9 h m,B9 h n,B9 h o⟩
theorem hs9 (f:w.cell? i=some v1) (g:w.cell? a=some q) (j:w.cell? s=some x) (k:w.cell? y=some v4) (l:w.cell? z=some A) (m:w.cell? C=some v6) (n:w.cell? G=some H) (o:w.cell? J=some K) (p:w.cell? O=some Q):c (∀b:e,d w.heap.size w b->b.cell? i=some v1/\b.cell? a=some q/\b.cell? s=some x/\b.cell? y=some v4/\b.cell? z=some A/\b.cell? C=some v6/\b.cell? G=some H/\b.cell? J=some K/\b.cell? O=some Q):=fun b h=>⟨B9 h f,B9 h g,B9 h j,B9 h k,B9 h l,B9 h m,B9 h n,B9 h o,B9 h p⟩
theorem zwv (f:w.cell? i=some v1) (j:w.cell? a=some q) (k:w.cell? s=some x) (l:w.cell? y=some v4) (m:w.cell? z=some A) (n:w.cell? C=some v6) (o:w.cell? G=some H) (p:w.cell? J=some K) (r:w.cell? O=some Q) (g:w.cell? Y=some v10):c (∀b:e,d w.heap.size w b->b.cell? i=some v1/\b.cell? a=some q/\b.cell? s=some x/\b.cell? y=some v4/\b.cell? z=some A/\b.cell? C=some v6/\b.cell? G=some H/\b.cell? J=some K/\b.cell? O=some Q/\b.cell? Y=some v10):=fun b h=>⟨B9 h f,B9 h j,B9 h k,B9 h l,B9 h m,B9 h n,B9 h o,B9 h p,B9 h r,B9 h g⟩
theorem yac (f:w.cell? i=some v1) (l:w.cell? a=some q) (m:w.cell? s=some x) (n:w.cell? y=some v4) (o:w.cell? z=some A) (p:w.cell? C=some v6) (r:w.cell? G=some H) (t:w.cell? J=some K) (u:w.cell? O=some Q) (g:w.cell? Y=some v10) (j:w.cell? aa=some v11) (k:w.cell? ac=some ad):c (∀b:e,d w.heap.size w b->b.cell? i=some v1/\b.cell? a=some q/\b.cell? s=some x/\b.cell? y=some v4/\b.cell? z=some A/\b.cell? C=some v6/\b.cell? G=some H/\b.cell? J=some K/\b.cell? O=some Q/\b.cell? Y=some v10/\b.cell? aa=some v11/\b.cell? ac=some ad):=fun b h=>⟨B9 h f,B9 h l,B9 h m,B9 h n,B9 h o,B9 h p,B9 h r,B9 h t,B9 h u,B9 h g,B9 h j,B9 h k⟩
end
structure SH (w:e) where
 s:e->Prop
 h:c (∀W:e,d w.heap.size w W->s W)
theorem zkw {P:Program} {ops:Array Oper} {f:Exit->Act->e->Prop} {S:e->Prop} {id:Nat} {a:Act} {b w:e} (h:c (∀g:e,d b.heap.size b g->S g)) (k:S w.drew->wpAnyH P .any ops f S ops.size (Array.replicate ops.size false) a w.drew) (j:P.follows .mixedOrders=true:=by kernel_rfl) (i:d b.heap.size b w.drew:=by exact bel):(Code.region id ops true).wp P f a w:=wp_region_held_drew j (h.out _ i) k
def NeL (V:Nat) (S:e->Prop):Prop:=∀(c:e->e),(∀b o v a,b≠V->a.cell? ⟨b,o,none⟩=some v->(c a).cell? ⟨b,o,none⟩=some v)->∀a,S a->S (c a)
theorem nA {V:Nat} {S:e->Prop} (n:b≠V) (r:NeL V S):NeL V (fun a=>a.cell? ⟨b,o,none⟩=some v/\S a):=fun c hf a h=>⟨hf _ _ _ _ n h.1,r c hf a h.2⟩
theorem nZ {V:Nat} (n:b≠V):NeL V (fun a=>a.cell? ⟨b,o,none⟩=some v):=fun c hf a h=>hf _ _ _ _ n h
section
variable {w : e} {V : Nat} {S : e → Prop}
theorem hp3 (h:c (∀a:e,d w.heap.size w a->S a)) (r:NeL V S):c (∀a:e,d w.heap.size w a->∀x y z,S (put3 a V x y z)):=fun a f x y z=>r (fun a=>Go.Proofs.YtdgilbgdkmhcmaaGreatDoor.put3 a V x y z) (fun b o v a n h=>zne h n) a (h.out a f)
end
def zxz (a b:Raw):Bool:=decide (a.neg=b.neg)&&decide (a.num=b.num)&&decide (a.den=b.den)
theorem yyt {a b:Raw}:zxz a b=true↔a=b:=by unfold zxz;rw[Bool.and_eq_true,Bool.and_eq_true,decide_eq_true_eq,decide_eq_true_eq,decide_eq_true_eq];obtain⟨x,y,z⟩:=a;obtain⟨c,v,t⟩:=b;simp[and_assoc]
theorem yys {a b:Raw}:zxz a b=decide (a=b):=by rw[Bool.eq_iff_iff,yyt,decide_eq_true_eq]
theorem zsv {k:IntKind} {w:e} {l:List Nat} (h:IsK k w (C2 w) v l):IsL k w 0 w.heap.size v l:=h.isL fun b a=>⟨X _,a⟩
theorem zve {w:e} {a b:Raw} (ha:IsR w (C2 w) h a) (g:IsR w (C2 w) R b):
 E D 26 #[h,R] w fun l w'=>l= .returned (.bool (decide (a=b)))/\d w.heap.size w w':=by
 rw[<-yys];obtain⟨O,ae,P,af,rfl,t,v⟩:=ha;obtain⟨Q,ag,S,ah,rfl,x,y⟩:=g;obtain⟨p,V,q,Y⟩:=X6 t v x y;unfold zxz;obtain⟨s,m⟩:=nm (decide (a.neg=b.neg));obtain⟨b2,n⟩:=nm (decide (a.num=b.num));obtain⟨ad,o⟩:=nm (decide (a.den=b.den));have i:(a.neg==b.neg)=s:=(by rw[m];cases a.neg<;>cases b.neg<;>rfl);rw[<-m,<-n,<-o];obtain⟨r,ac⟩:=C4 n o;clear m n o t v x y;obtain⟨G,A,z,C,F,ai⟩:=zko w #[.bool a.neg,.slice O a.num.length ae,.slice P a.den.length af] #[.bool b.neg,.slice Q b.num.length ag,.slice S b.den.length ah] 37 37;have j:=u z;obtain⟨ak,al,J⟩:=C5 C;obtain⟨an,ao,K⟩:=C5 F;clear z C F;cases s with
 |false=>go_in;go_wp2_with fail;go_ret;exact⟨rfl,j.out⟩
 |true=>
  cases b2 with
  |false=>go_in;go_wp2_with fail;clear A;refine(zzb (zsv (IsK.stb.to p.out (F7 j.out))) (zsv (IsK.stb.to q.out (F7 j.out)))).mono ?_;rw[<-r.out];rintro l H ⟨rfl,hd⟩;have g:=hd.below G.heap.size;have k:=nB j g;go_wp2_with fail;go_ret;exact⟨rfl,k.out⟩
  |true=>
   cases ad
   all_goals
    go_in
    go_wp2_with fail
    clear A
    refine(zzb (zsv (IsK.stb.to p.out (F7 j.out))) (zsv (IsK.stb.to q.out (F7 j.out)))).mono ?_
    rw[<-r.out]
    rintro l H ⟨rfl,hd⟩
    have g:=hd.below G.heap.size
    have k:=nB j g
    replace J:=B9 g J
    replace K:=B9 g K
    clear g hd
    go_wp2_with fail
    refine(zzb (zsv (IsK.stb.to V.out (F7 k.out))) (zsv (IsK.stb.to Y.out (F7 k.out)))).mono ?_
    rw[<-ac.out]
    rintro l aj ⟨rfl,hd⟩
    have g:=hd.below H.heap.size
    have aa:=nB k g
    clear g hd
    go_wp2_with fail
    go_ret
    exact⟨rfl,aa.out⟩
end Go.Proofs.YtdgilbgdkmhcmaaGreatDoor
