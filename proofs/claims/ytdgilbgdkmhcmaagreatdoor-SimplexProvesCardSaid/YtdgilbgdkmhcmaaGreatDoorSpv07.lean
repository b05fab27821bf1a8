/-
 Contracts of package rat's parts and Check,and package a Check.
-/
import Derived.Test.YtdgilbgdkmhcmaaGreatDoorSpv06
import Derived.StillTailTactics
import Derived.OrdersIn
import Derived.TacticsIn
import Derived.RangeFuncNested
import Derived.RangeFuncBox
import Derived.RangeFuncBound
import Derived.RangeFuncCalls
import Derived.RangeFuncLeaves
import Derived.Shelf.Abstract
import Derived.Shelf.RegionOpen
import Derived.OwnWalkIn
import Derived.TacticsInMore
import Derived.LoopNIn
import Derived.LoopIn
import Derived.Maps.OwnIn
namespace Go.Proofs.YtdgilbgdkmhcmaaGreatDoor
open Go.RowKit
set_option linter.unusedVariables false
open Go.RowKit Go.Shelf
set_option maxRecDepth 100000
set_option maxHeartbeats 8000000
open _root_.Go.Lib renaming hid → q
open _root_.Nat renaming le_refl → M, le_trans → aa, lt_or_ge → R, zero_le → U
open _root_.List renaming getD_eq_getElem?_getD → ab, getElem?_eq_getElem → W, length_map → T, getElem?_map → Q
open _root_.Go.RowKit.Below renaming refl → J
open _root_.Go renaming World → e, Value → i, Calls → E, Addr → x
open _root_.Go.RowKit renaming Below → d, Hid → c
open _root_.Go.Proofs.Tryz renaming prog → D
variable {b g j k n G o : Nat} {es : List i} {l : List Raw} {r : Raw} {t : TypeId} {v h O : i}
theorem zyd {w:e} {a b:List Nat} (ha:IsL .u32 w 0 w.heap.size h a) (t:IsL .u32 w 0 w.heap.size O b):E D 162 #[h,O] w fun g w'=>g= .returned (.int .i64 (W8 a b))/\w=w':=by
 obtain⟨o,r⟩:=C4 ha t;obtain⟨A,G,rfl,_,_,_⟩:=ha;obtain⟨B,d,rfl,_,_,_⟩:=t;obtain⟨x,u⟩:=nm (L8 a);obtain⟨y,v⟩:=nm (L8 b);obtain⟨f,j⟩:=C4 u v;clear u v;by_cases m:x=0;(case neg=>have z:(x !=0)=true:=bne_iff_ne.2 m;have i:c (W8 a b=x):=(by unfold c W8;rw[<-f.out,if_pos m]);go_in;go_wp2_with fail;refine(zse o.out).mono ?_;rw[<-f.out];rintro g l ⟨rfl,rfl⟩;go_wp2_with fail;go_ret;exact⟨I0 i.out.symm,rfl⟩);have z:(x !=0)=false:=(by rw[m];rfl);have p:=q m;clear m;by_cases n:y=0;(case neg=>have C:(y !=0)=true:=bne_iff_ne.2 n;have i:c (W8 a b=y):=(by unfold c W8;rw[<-f.out,if_neg (by simp[p.out]),<-j.out,if_pos n]);go_in;go_wp2_with fail;refine(zse o.out).mono ?_;rw[<-f.out];rintro g l ⟨rfl,rfl⟩;go_wp2_with fail;refine(zse r.out).mono ?_;rw[<-j.out];rintro g l ⟨rfl,rfl⟩;go_wp2_with fail;go_ret;exact⟨I0 i.out.symm,rfl⟩);have C:(y !=0)=false:=(by rw[n];rfl);have s:=q n;clear n;by_cases k:b=[]
 ·have F:((b.length:Int)==0)=true:=(by rw[k];rfl);have i:c (W8 a b=6):=(by unfold c W8;rw[<-f.out,if_neg (by simp[p.out]),<-j.out,if_neg (by simp[s.out]),if_pos k]);clear k;go_in;go_wp2_with fail;refine(zse o.out).mono ?_;rw[<-f.out];rintro g l ⟨rfl,rfl⟩;go_wp2_with fail;refine(zse r.out).mono ?_;rw[<-j.out];rintro g l ⟨rfl,rfl⟩;go_wp2_with fail;go_ret;exact⟨I0 i.out.symm,rfl⟩
 ·have F:((b.length:Int)==0)=false:=beq_eq_false_iff_ne.2 (by have:=List.length_pos_iff.2 k;omega);have i:c (W8 a b=0):=(by unfold c W8;rw[<-f.out,if_neg (by simp[p.out]),<-j.out,if_neg (by simp[s.out]),if_neg k]);clear k;go_in;go_wp2_with fail;refine(zse o.out).mono ?_;rw[<-f.out];rintro g l ⟨rfl,rfl⟩;go_wp2_with fail;refine(zse r.out).mono ?_;rw[<-j.out];rintro g l ⟨rfl,rfl⟩;go_wp2_with fail;go_ret;exact⟨I0 i.out.symm,rfl⟩
theorem yem {w:e} {a b:List Nat} (ea:a=A9 (val a)) (eb:b=A9 (val b)) (ha:IsN w 0 w.heap.size h (val a)) (k:IsN w 0 w.heap.size O (val b)) (j:Bru w) (g:(A9 (val a)).length<=1024) (i:(A9 (val b)).length<=1024):
 E D 163 #[h,O] w fun f w'=>(∃c:Bool,f= .returned (.bool c)/\(c=true↔Nat.gcd (val a) (val b)=1))/\d w.heap.size w w':=
 yoz ha k j (aa g og) (aa i og)
theorem zzx {w:e} (h:IsR w (C2 w) v r) (W:Bru w):E D 102 #[v] w fun a w'=>a= .returned (.int .i64 (R3 r))/\d w.heap.size w w':=by
 obtain⟨A,H,B,I,rfl,T,V⟩:=ygn h;obtain⟨k,ac,y,J,af⟩:=K0 w #[.bool r.neg,.slice A r.num.length H,.slice B r.den.length I] 37;obtain⟨n,u,M⟩:=G4 (IsK.isL (IsK.stb.next T y) (lo:=0) (hi:=k.heap.size) fun b g=>⟨U _,g⟩) (IsK.isL (IsK.stb.next V y) (lo:=0) (hi:=k.heap.size) fun b g=>⟨U _,g⟩) (Bru.next W y);clear W;obtain⟨Z,ag,ah⟩:=C3 J;obtain⟨ad,F⟩:=C4 J y;have ai:r.num.length<=9223372036854775807:=(by have:=n.out.length_le;unfold maxLen at this;omega);clear h T V J y;obtain⟨x,Y⟩:=nm (W8 r.num r.den);have i:=q Y;clear Y;by_cases o:x=0;(case neg=>have aa:(x !=0)=true:=bne_iff_ne.2 o;have f:c (R3 r=x):=(by rw[c,i.out];exact yec (by rw[<-i.out];exact o));go_in;go_wp2_with fail;refine(zyd n.out u.out).mono ?_;rw[<-i.out];rintro a C ⟨rfl,rfl⟩;go_wp2_with fail;go_ret;exact⟨I0 f.out.symm,F.out⟩);have aa:(x !=0)=false:=(by rw[o];rfl);have j:=yea (num:=r.num) (den:=r.den) (by rw[<-i.out];exact o);obtain⟨G,ae,O,N⟩:=Z5 (yed (r:=r) (by rw[<-i.out];exact o)) j (n.out.isN j.1) (u.out.isN j.2.1);have S:=(zqu j.1).2.2;have R:=(zqu j.2.1).2.2;obtain⟨Q,P⟩:=C4 (zwr j.1) (zwr j.2.1);clear j o;obtain⟨L,K⟩:=C4 S R;clear S R;obtain⟨s,X⟩:=nm (r.neg);rw[<-X] at Z ac G⊢;clear X;by_cases m:r.num=[]
 ·have ab:((r.num.length:Int)==0)=true:=(by rw[m];rfl);cases s with
  |true=>have f:c (R3 r=3):=(by rw[c,G.out,if_pos (.inl ⟨m,rfl⟩)]);clear m;go_in;go_wp2_with fail;refine(zyd n.out u.out).mono ?_;rw[<-i.out];rintro a C ⟨rfl,rfl⟩;go_wp2_with fail;go_ret;exact⟨I0 f.out.symm,F.out⟩
  |false=>
   have f:c (R3 r=if Nat.gcd (val r.num) (val r.den)≠1 then 3 else 0):=(by rw[c,G.out];simp);clear m;go_in;go_wp2_with fail;refine(zyd n.out u.out).mono ?_;rw[<-i.out];rintro a C ⟨rfl,rfl⟩;go_wp2_with fail;refine(show E D 163 #[.slice A r.num.length H,.slice B r.den.length I] k (fun a w'=>(∃b:Bool,a= .returned (.bool b)/\(b=true↔Nat.gcd (val r.num) (val r.den)=1))/\d k.heap.size k w') from yem L.out K.out O.out N.out M.out Q.out P.out).mono ?_;rintro a C ⟨⟨b,rfl,g⟩,z⟩;have t:=nB F z;have p:=q g;clear g z;cases b with
   |true=>have l:c (R3 r=0):=(by rw[c,f.out,if_neg (by simp[p.out.1 rfl])]);go_wp2_with fail;go_ret;exact⟨I0 l.out.symm,t.out⟩
   |false=>have l:c (R3 r=3):=(by rw[c,f.out,if_pos (fun h=>Bool.noConfusion (p.out.2 h))]);go_wp2_with fail;go_ret;exact⟨I0 l.out.symm,t.out⟩
 ·have ab:((r.num.length:Int)==0)=false:=beq_eq_false_iff_ne.2 (by have:=List.length_pos_iff.2 m;omega);have f:c (R3 r=if Nat.gcd (val r.num) (val r.den)≠1 then 3 else 0):=(by rw[c,G.out];simp[m]);clear m;go_in;go_wp2_with fail;refine(zyd n.out u.out).mono ?_;rw[<-i.out];rintro a C ⟨rfl,rfl⟩;go_wp2_with fail;refine(show E D 163 #[.slice A r.num.length H,.slice B r.den.length I] k (fun a w'=>(∃b:Bool,a= .returned (.bool b)/\(b=true↔Nat.gcd (val r.num) (val r.den)=1))/\d k.heap.size k w') from yem L.out K.out O.out N.out M.out Q.out P.out).mono ?_;rintro a C ⟨⟨b,rfl,g⟩,z⟩;have t:=nB F z;have p:=q g;clear g z;cases b with
  |true=>have l:c (R3 r=0):=(by rw[c,f.out,if_neg (by simp[p.out.1 rfl])]);go_wp2_with fail;go_ret;exact⟨I0 l.out.symm,t.out⟩
  |false=>have l:c (R3 r=3):=(by rw[c,f.out,if_pos (fun h=>Bool.noConfusion (p.out.2 h))]);go_wp2_with fail;go_ret;exact⟨I0 l.out.symm,t.out⟩
theorem yrn (h:l[j]? =some r):(l.map R3).getD j 0=R3 r:=by rw[ab,Q,h];rfl
theorem zlp {a:Type} {l:List a} (h:j<l.length):∃x,l[j]? =some x:=⟨_,W h⟩
theorem zuh {w:e} (h:IsV w (C2 w) v l) (F:Bru w):
 E D 101 #[v] w fun t w'=>t= .returned (.int .i64 (Y5 l))/\d w.heap.size w w':=by
 obtain⟨I,z⟩:=C4 h F;clear F;obtain⟨A,W,rfl,af⟩:=M5 h;clear h;by_cases u:40<l.length
 ·have i:c (Y5 l=4):=(by unfold c Y5;rw[if_pos u]);go_in;go_wp2_with fail;go_ret;exact⟨I0 i.out.symm,J _ _⟩
 ·have i:c (Y5 l=zqt l):=(by unfold c Y5;rw[if_neg u]);have ab:l.length<=40:=og;clear u;go_in;go_wp2_with fail;go_loopw [11] (fun y wr=>∃k:Nat,k<=l.length/\y= .int .i64 (k:Int)/\d w.heap.size w wr/\c (∀j,j<k->(l.map R3).getD j 0=0)) (fun y _=>l.length-(intOf y).toNat);case atStart=>exact⟨0,U _,rfl,J _ _,fun j N=>by omega⟩
  case round=>
   obtain⟨k,ae,rfl,n,hrel⟩:=hrel;have f:=q n;have s:=q hrel.out;clear hrel;rcases R k l.length with O|ad
   ·obtain⟨r,hr⟩:=zlp O;obtain⟨b,off,P,ag,V,ah,rfl,ac,G,X,Y,Z⟩:=zlc (IsV.stb.next I.out n) hr;obtain⟨B,C⟩:=C4 G hr;have aa:=L7;obtain⟨x,H⟩:=nm (R3 r);have m:=q H;clear G hr n H;by_cases a:x=0
    ·have L:(x !=0)=false:=(by rw[a];rfl);have K:=q a;clear a;go_wp2_with fail;refine(zzx (IsR.stb.next B.out ((J _ _).alloc (M _) _)) (Bru.next (Bru.next z.out f.out) ((J _ _).alloc (M _) _))).mono ?_;rw[<-m.out];rintro t S ⟨rfl,g⟩;have o:=q (C9 f.out ((J _ _).alloc (M _) _|>fun h=>C9 h g));clear g;go_wp2_with fail;go_roundw
     case rel=>
      refine⟨k+1,by omega,by go_num,o.out,fun j N=> ?_⟩;rcases R j k with h|h
      ·exact s.out j h
      ·obtain rfl:j=k:=og;rw[yrn C.out,<-m.out,K.out]
     case measure=>simp[intOf];omega
    ·have L:(x !=0)=true:=bne_iff_ne.2 a;have p:c (Y5 l=x):=(by rw[c,i.out];exact ztj s.out (by rw[Q,C.out,m.out];rfl) a);clear a;go_wp2_with fail;refine(zzx (IsR.stb.next B.out ((J _ _).alloc (M _) _)) (Bru.next (Bru.next z.out f.out) ((J _ _).alloc (M _) _))).mono ?_;rw[<-m.out];rintro t S ⟨rfl,g⟩;have o:=q (C9 f.out ((J _ _).alloc (M _) _|>fun h=>C9 h g));clear g;go_wp2_with fail;go_ret;exact⟨I0 p.out.symm,o.out⟩
   ·obtain rfl:k=l.length:=og;have p:c (Y5 l=0):=(by rw[c,i.out];exact zsk (by rw[T];exact s.out));clear n;go_wp2_with fail;go_ret;exact⟨I0 p.out.symm,f.out⟩
def zps (n:Nat) (row:List Raw):Int:=if row.length≠n then 3 else Y5 row
theorem yoj (m:List (List Raw)):zlh m=if 40<m.length then 4 else Y9 (m.map (zps (m.headD []).length)):=rfl
theorem yro {m:List (List Raw)} {r:List Raw} (h:m[j]? =some r):(m.map (zps n)).getD j 0=zps n r:=by rw[ab,Q,h];rfl
theorem yfo {w:e} {m:List (List Raw)} (h:IsM w (C2 w) v m) (X:Bru w):
 E D 100 #[v] w fun C w'=>C= .returned (.int .i64 (zlh m))/\d w.heap.size w w':=by
 obtain⟨M,N⟩:=C4 h X;clear X;obtain⟨A,al,rfl,ay⟩:=zqz h;clear h;by_cases F:40<m.length
 ·have o:c (zlh m=4):=(by unfold c zlh;rw[if_pos F]);go_in;go_wp2_with fail;go_ret;exact⟨I0 o.out.symm,J _ _⟩
 ·have ao:m.length<=40:=og;obtain⟨n,G⟩:=nm ((m.headD []).length);have o:c (zlh m=Y9 (m.map (zps n))):=(by rw[c,yoj,if_neg F,G]);have ab:=q G;clear F G;go_in;go_wp2_with fail;go_loopw [11] (fun L wr=>∃k:Nat,k<=m.length/\L= .int .i64 (k:Int)/\d w.heap.size w wr/\c (∀j,j<k->(m.map (zps n)).getD j 0=0)) (fun L _=>m.length-(intOf L).toNat);case atStart=>exact⟨0,U _,rfl,J _ _,fun j ah=>by omega⟩
  case round=>
   obtain⟨k,av,rfl,r,hrel⟩:=hrel;have f:=q r;have s:=q hrel.out;clear hrel;rcases R k m.length with Z|au
   ·obtain⟨row,I⟩:=zlp Z;obtain⟨y,u⟩:=zlp (show 0<m.length by omega);obtain⟨b,off,P,aA,rfl,aq,Y,an⟩:=zsm (IsM.stb.next M.out r) I;obtain⟨ak,aC,aj,aB,W,ar,ag,ad⟩:=zsm (IsM.stb.next M.out r) u;simp only[Option.some.injEq,Addr.mk.injEq,and_true] at W;obtain⟨rfl,rfl⟩:=W;rw[Nat.add_zero] at ad
    have H:c (y.length=n):=by
     rw[c,ab.out];cases m with
     |nil=>simp at Z
     |cons a t=>simp at u;rw[<-u];rfl
    obtain⟨O,B⟩:=C4 Y I;have az:0<m.length:=og;clear Y I r ag u;by_cases g:row.length=y.length
    case neg=>
     have af:((row.length:Int) !=(y.length:Int))=true:=bne_iff_ne.2 og
     have l:c (zlh m=3):=by
      rw[c,o.out];refine ztj s.out (by rw[Q,B.out];rfl) ?_|>.trans ?_
      ·unfold zps;rw[if_pos (by rw[<-H.out];exact g)];decide
      ·unfold zps;rw[if_pos (by rw[<-H.out];exact g)]
     clear g;go_wp2_with fail;go_ret;exact⟨I0 l.out.symm,f.out⟩
    have af:((row.length:Int) !=(y.length:Int))=false:=(by rw[g];simp);have aa:=q g;clear g;obtain⟨x,K⟩:=nm (Y5 row);have S:=q K;have V:c (zps n row=x):=(by rw[c,K];unfold zps;rw[if_neg (by rw[<-H.out];simp[aa.out])]);clear K;by_cases i:x=0
    ·have ae:(x !=0)=false:=(by rw[i];rfl);have ac:=q i;clear i;go_wp2_with fail;refine(zuh O.out (Bru.next N.out f.out)).mono ?_;rw[<-S.out];rintro C ai ⟨rfl,p⟩;have z:=nB f p;clear p;go_wp2_with fail;go_roundw
     case rel=>
      refine⟨k+1,by omega,by go_num,z.out,fun j ah=> ?_⟩;rcases R j k with h|h
      ·exact s.out j h
      ·obtain rfl:j=k:=og;rw[yro B.out,V.out,ac.out]
     case measure=>simp[intOf];omega
    ·have ae:(x !=0)=true:=bne_iff_ne.2 i;have l:c (zlh m=x):=(by rw[c,o.out];exact ztj s.out (by rw[Q,B.out,<-V.out];rfl) i);clear i;go_wp2_with fail;refine(zuh O.out (Bru.next N.out f.out)).mono ?_;rw[<-S.out];rintro C ai ⟨rfl,p⟩;have z:=nB f p;clear p;go_wp2_with fail;go_ret;exact⟨I0 l.out.symm,z.out⟩
   ·obtain rfl:k=m.length:=og;have l:c (zlh m=0):=(by rw[c,o.out];exact zsk (by rw[T];exact s.out));clear r;go_wp2_with fail;go_ret;exact⟨I0 l.out.symm,f.out⟩
theorem yrb {w:e} {x y z:Int} (s:w.cell? ⟨g,0,none⟩=some (.int .i64 x)) (t:w.cell? ⟨g,1,none⟩=some (.int .i64 y)) (u:w.cell? ⟨g,2,none⟩=some (.int .i64 z)):
 E D 99 #[.slice (some ⟨g,0,none⟩) 3 3] w fun b w'=>b= .returned (.int .i64 (Y9 [x,y,z]))/\w=w':=by
 have hc:c (∀j b,[x,y,z][j]? =some b->w.cell? ⟨g,j,none⟩=some (.int .i64 b)):=by
  intro j b a;match j,a with
  |0,a=>simp at a;rw[<-a];exact s
  |1,a=>simp at a;rw[<-a];exact t
  |2,a=>simp at a;rw[<-a];exact u
 obtain⟨l,o⟩:=nm ([x,y,z]);rw[<-o] at hc⊢;have v:c (l.length=3):=(by rw[o];rfl);clear s t u o;go_in;go_wp2_with fail;go_loop [7] (fun p=>∃k:Nat,k<=3/\p= .int .i64 (k:Int)/\c (∀j,j<k->l.getD j 0=0)) (fun p=>3-(intOf p).toNat);case atStart=>exact⟨0,by omega,rfl,fun j a=>by omega⟩
 case round=>
  obtain⟨k,H,rfl,hrel⟩:=hrel;rcases R k 3 with C|G
  ·obtain⟨b,n⟩:=zlp (l:=l) (j:=k) (by rw[v.out];exact C);have F:=hc.out k b n;have r:=q n;clear n;by_cases f:b=0
   ·have B:(b !=0)=false:=(by rw[f];rfl);have A:=q f;clear f;go_wp2_with fail;go_round
    case rel=>
     refine⟨k+1,by omega,by go_num,fun j a=> ?_⟩;rcases R j k with h|h
     ·exact hrel.out j h
     ·obtain rfl:j=k:=og;rw[ab,r.out,A.out];rfl
    case measure=>simp[intOf];omega
   ·have B:(b !=0)=true:=bne_iff_ne.2 f;have m:c (Y9 l=b):=ztj hrel.out r.out f;clear f;go_wp2_with fail;go_ret;exact⟨I0 m.out.symm,rfl⟩
  ·obtain rfl:k=3:=og;have m:c (Y9 l=0):=zsk (by rw[v.out];exact hrel.out);go_wp2_with fail;go_ret;exact⟨I0 m.out.symm,rfl⟩
theorem yqz (w:e) (x y z t:Int) (i:t=Y9 [x,y,z]):E D 99 #[.slice (some ⟨w.heap.size,0,none⟩) 3 3] (w.alloc (.cells #[.int .i64 x,.int .i64 y,.int .i64 z] 40)) fun a w'=>a= .returned (.int .i64 t)/\d w.heap.size w w':=by have h:Row (w.alloc (.cells #[.int .i64 x,.int .i64 y,.int .i64 z] 40)) w.heap.size 40 [.int .i64 x,.int .i64 y,.int .i64 z]:=heap_alloc_new w _;obtain⟨b,c,f⟩:=C3 h;rw[i];refine(yrb b c f).mono ?_;rintro a w' ⟨g,rfl⟩;exact⟨g,N8 _ _⟩
theorem yfl {w:e} {m:List (List Raw)} {d:Nat} (h:IsM w (C2 w) v m) (F:b<=9223372036854775807) (hc:d<=9223372036854775807):
 E D 103 #[v,.int .i64 (b:Int),.int .i64 (d:Int)] w fun y w'=>y= .returned (.int .i64 (zpd m b d))/\w=w':=by
 have s:=q h;obtain⟨A,C,rfl,G⟩:=zqz h;clear h;by_cases g:m.length=b;(case neg=>have z:((m.length:Int) !=(b:Int))=true:=bne_iff_ne.2 og;have f:c (zpd m b d=10):=if_pos (.inl g);clear g;go_in;go_wp2_with fail;go_ret;exact⟨I0 f.out.symm,rfl⟩);have z:((m.length:Int) !=(b:Int))=false:=(by rw[g];simp);rcases Nat.eq_zero_or_pos b with j|j
 ·have f:c (zpd m b d=0):=if_neg (by rintro(h|⟨h,_⟩)<;>omega);have B:decide (0<b)=false:=decide_eq_false og;have o:b<1:=og;clear g j;go_in;go_wp2_with fail;go_ret;exact⟨I0 f.out.symm,rfl⟩
 ·have B:decide (0<b)=true:=decide_eq_true j;have r:0<m.length:=og;obtain⟨l,k⟩:=zlp r;obtain⟨bb,off,P,H,rfl,_,_,x⟩:=zsm s.out k;rw[Nat.add_zero] at x
  have p:(m.headD []).length=l.length:=by
   cases m with
   |nil=>simp at r
   |cons a t=>simp at k;rw[<-k];rfl
  obtain⟨u,n⟩:=C4 g p;clear g k p;by_cases i:l.length=d
  ·have o:((l.length:Int) !=(d:Int))=false:=(by rw[i];simp);have f:c (zpd m b d=0):=if_neg (by rw[n.out,u.out];rintro(h|⟨_,h⟩);exact h rfl;exact h i);clear i;go_in;go_wp2_with fail;go_ret;exact⟨I0 f.out.symm,rfl⟩
  ·have o:((l.length:Int) !=(d:Int))=true:=bne_iff_ne.2 og;have f:c (zpd m b d=10):=if_pos (.inr ⟨j,by rw[n.out];exact i⟩);clear i;go_in;go_wp2_with fail;go_ret;exact⟨I0 f.out.symm,rfl⟩
theorem yih {w:e} {p:Prog} (h:IsP w (C2 w) v p) (af:Bru w):E D 48 #[v] w fun f w'=>f= .returned (.int .i64 (ztf p))/\d w.heap.size w w':=by
 obtain⟨A,a,B,b,C,r,rfl,s,u,F⟩:=h;have lA:=(zqz s).choose_spec.choose_spec.2;have lB:=(M5 u).choose_spec.choose_spec.2;have av:=(M5 F).choose_spec.choose_spec.2;obtain⟨n,au,g,ag,ay⟩:=K0 w #[.slice A p.A.length a,.slice B p.B.length b,.slice C p.C.length r] 32;obtain⟨N,ai,aj,m,P,q⟩:=zpe (IsM.stb.next s g) (IsV.stb.next u g) (IsV.stb.next F g) (ag) (g) (Bru.next af g);clear s u F ag g af;obtain⟨Q,V,aa⟩:=C3 m.out;obtain⟨x,J⟩:=nm (zlh p.A);obtain⟨y,K⟩:=nm (Y5 p.B);obtain⟨z,L⟩:=nm (Y5 p.C);obtain⟨t,H⟩:=nm (Y9 [x,y,z]);obtain⟨M,I⟩:=nm (zzy p);have O:c (ztf p=if t≠0 then t else M):=(by rw[c,H,J,K,L,I];rfl);obtain⟨an,ao,aq,ak,al⟩:=hd5 J K L H I;clear J K L H I;go_in;go_wp2_with fail;clear au
 go_region_held3 (fun w'=>w'.cell? ⟨w.heap.size,0,none⟩=some (.slice A p.A.length a)/\w'.cell? ⟨w.heap.size,1,none⟩=some (.slice B p.B.length b)/\w'.cell? ⟨w.heap.size,2,none⟩=some (.slice C p.C.length r))
  (first
    |exact⟨Q,V,aa⟩
    |exact⟨R,W,ab⟩
    |exact⟨S,X,ac⟩
    |exact⟨T,Y,ad⟩
    |exact⟨U,Z,ae⟩
    |exact⟨B9 (N8 _ _) Q,B9 (N8 _ _) V,B9 (N8 _ _) aa⟩
    |exact⟨B9 (N8 _ _) R,B9 (N8 _ _) W,B9 (N8 _ _) ab⟩
    |exact⟨B9 (N8 _ _) S,B9 (N8 _ _) X,B9 (N8 _ _) ac⟩
    |exact⟨B9 (N8 _ _) T,B9 (N8 _ _) Y,B9 (N8 _ _) ad⟩
    |exact⟨B9 (N8 _ _) U,B9 (N8 _ _) Z,B9 (N8 _ _) ae⟩)
  (first
    |(go_at_call 100;have hc:=(show E D 100 #[.slice A p.A.length a] (World.drew n) (fun f w'=>f= .returned (.int .i64 x)/\d (World.heap (World.drew n)).size (World.drew n) w') from by rw[an.out];exact yfo (uM n.drew N) (uU n.drew q));(with_reducible refine hc.mono ?_);clear hc;rintro f j ⟨rfl,G⟩;obtain⟨R,W,ab⟩:=C3 (uR j m))
    |(go_at_call 101;have hc:=(show E D 101 #[.slice B p.B.length b] j (fun f w'=>f= .returned (.int .i64 y)/\d (World.heap j).size j w') from by rw[ao.out];exact zuh (uV j ai) (uU j q));(with_reducible refine hc.mono ?_);clear hc;rintro f k ⟨rfl,G⟩;obtain⟨S,X,ac⟩:=C3 (uR k m))
    |(go_at_call 101;have hc:=(show E D 101 #[.slice C p.C.length r] k (fun f w'=>f= .returned (.int .i64 z)/\d (World.heap k).size k w') from by rw[aq.out];exact zuh (uV k aj) (uU k q));(with_reducible refine hc.mono ?_);clear hc;rintro f ah ⟨rfl,G⟩;obtain⟨T,Y,ad⟩:=C3 (uR ah m))
    |(go_at_call 99;have hc:=yqz ah x y z t ak.out;(with_reducible refine hc.mono ?_);clear hc;rintro f l ⟨rfl,G⟩;obtain⟨U,Z,ae⟩:=C3 (uR l m)))
 by_cases i:t=0;(case neg=>have ar:(t !=0)=true:=bne_iff_ne.2 i;have o:c (ztf p=t):=(by rw[c,O.out,if_pos i]);clear i;go_wp2_with fail;go_ret;exact⟨I0 o.out.symm,(uB l P)⟩);have ar:(t !=0)=false:=(by rw[i];rfl);have o:c (ztf p=M):=(by rw[c,O.out,if_neg (by simp[i])]);clear i;go_wp2_with fail;refine(show E D 103 #[.slice A p.A.length a,.int .i64 (p.B.length:Int),.int .i64 (p.C.length:Int)] l (fun f w'=>f= .returned (.int .i64 M)/\l=w') from by rw[al.out];exact yfl (uM l N) lB av).mono ?_;rintro f az ⟨rfl,rfl⟩;go_wp2_with fail;go_ret;exact⟨I0 o.out.symm,(uB l P)⟩
theorem yxg:(Tryz.prog.info? 37).map (fun a=>(a.zero,a.size,a.bytes))=some (some (.agg #[.bool false,.slice none 0 0,.slice none 0 0]),3,56):=by kernel_rfl
theorem zli:ElN D 30 37 3 56:=
 ⟨Tryz.underlying30,by obtain⟨e,a,b,c,d⟩:=info_parts yxg;exact⟨e,_,a,b,c,d,rfl⟩,by omega⟩
theorem zoe {l:List Rat} (h:j<l.length):∃q,l[j]? =some q/\(C0 l)[j]? =some (D8 q):=⟨l[j],W h,by simp[C0,W h]⟩
theorem zpo {a:Type} {l:List a} {x:a} (h:l[k]? =some x):l.take (k+1)=l.take k++[x]:=by obtain⟨b,rfl⟩:=List.getElem?_eq_some_iff.1 h;exact List.take_succ_eq_append_getElem b
theorem zsp {w:e} {S:Nat->Prop} {q:Rat} (h:IsR w S v (D8 q)):IsQ w S v q:=h
theorem yit {m:List (List Rat)} (h:j<m.length):∃row,m[j]? =some row/\(F9 m)[j]? =some (C0 row):=⟨m[j],W h,by simp[F9,W h]⟩
section
variable {P : Program} {ops : Array Oper} {md : Region.Mode} {w : e} {m : Nat}
end
attribute [local go_sem] Oper.semAt_some
set_option linter.unusedVariables false
abbrev S3:=Option x×Nat×Nat
abbrev Q3:=Bool×S3×S3
def q3 (x:Q3):i:= .agg #[.bool x.1,.slice x.2.1.1 x.2.1.2.1 x.2.1.2.2,.slice x.2.2.1 x.2.2.2.1 x.2.2.2.2]
theorem zxj {w w':e} (a:d n w w') (c:b<n) (h:w.cell? ⟨b,o,none⟩=some v):w'.cell? ⟨b,o,none⟩=some v:=(a.cell (p:=⟨b,o,none⟩) c).trans h
def Els3 (w:e) (G:Nat) (A:Option x) (es:List Q3):Prop:=∀(j:Nat) (a:Q3),es[j]? =some a->∃b off,A=some ⟨b,off,none⟩/\b<G/\
 w.cell? ⟨b,off+j*3,none⟩=some (.bool a.1)/\w.cell? ⟨b,off+j*3+1,none⟩=some (.slice a.2.1.1 a.2.1.2.1 a.2.1.2.2)/\w.cell? ⟨b,off+j*3+2,none⟩=some (.slice a.2.2.1 a.2.2.2.1 a.2.2.2.2)
def Els1 (w:e) (G:Nat) (A:Option x) (es:List i):Prop:=∀(j:Nat) (a:i),es[j]? =some a->∃b off,A=some ⟨b,off,none⟩/\b<G/\w.cell? ⟨b,off+j,none⟩=some a
theorem Els3.below {w w':e} {A:Option x} {es:List Q3} (h:Els3 w G A es) (a:d w.heap.size w w') (n:G<=w.heap.size):Els3 w' G A es:=fun j c m=>by
 obtain⟨b,off,f,g,i,k,l⟩:=h j c m
 exact⟨b,off,f,g,zxj a og i,zxj a og k,zxj a og l⟩
theorem Els1.below {w w':e} {A:Option x} (h:Els1 w G A es) (i:d w.heap.size w w') (l:G<=w.heap.size):Els1 w' G A es:=fun j a k=>by
 obtain⟨b,off,c,f,g⟩:=h j a k
 exact⟨b,off,c,f,zxj i og g⟩

attribute [local go_sem] Oper.semAt_some
set_option linter.unusedVariables false
def ylw (w:e) (a:(Q3×Rat)×(Q3×Rat)):Prop:=IsQ w (C2 w) (q3 a.1.1) a.1.2/\IsQ w (C2 w) (q3 a.2.1) a.2.2/\Sz a.1.2 1024/\Sz a.2.2 1024
abbrev Pair (w:e):={a:(Q3×Rat)×(Q3×Rat)//ylw w a}
def Pair.qs {w:e} (x:Pair w):Rat×Rat:=(x.1.1.2,x.1.2.2)
theorem zwq {w:e} (h:w.cell? ⟨b,o,none⟩=some v):∃obj,w.heap[b]? =some obj/\obj.isCells=true:=by
 unfold World.cell? at h;cases a:w.heap[b]? with
 |none=>simp[a] at h
 |some obj=>cases obj with
  |cells f t g=>exact⟨_,rfl,rfl⟩
  |_=>simp[a] at h
def ycy (w:e) (S:Nat->Prop):Nat->Prop:=fun b=>S b/\∃obj,w.heap[b]? =some obj/\obj.isCells=true
theorem IsK.cells {k:IntKind} {w:e} {S:Nat->Prop} {l:List Nat} (h:IsK k w S v l):IsK k w (ycy w S) v l:=by
 obtain⟨A,g,hv,j,m,n⟩:=h;refine⟨A,g,hv,j,m,fun a=> ?_⟩;obtain⟨b,off,o,p,hc⟩:=n a;refine⟨b,off,o,⟨p,?_⟩,hc⟩;cases f:C8 k l with
 |nil=>exact absurd f a
 |cons r t=>exact zwq (hc 0 r (by rw[f];rfl))
theorem IsQ.cells {w:e} {S:Nat->Prop} {q:Rat} (h:IsQ w S v q):IsQ w (ycy w S) v q:=by obtain⟨A,a,B,d,hv,b,c⟩:=h;exact⟨A,a,B,d,hv,b.cells,c.cells⟩
theorem U6 (l:List Rat):(C0 l).length=l.length:=T _
theorem zyj (m:List (List Rat)):(F9 m).length=m.length:=T _
theorem ykr {n:Nat} {l:List (Rat×Rat)} (b:l.length<=40) (h:∀a∈l,Sz a.1 1024/\Sz a.2 1024):Sz (zme l) 100000:=(zz1358 h).le (by have:=Nat.mul_le_mul_right (2*1024+1) b;omega)
theorem zww {a b:List Rat} (ha:∀q∈a,Sz q 1024) (d:∀q∈b,Sz q 1024) (e:a.length<=40):Sz (L2 a b) 100000:=by refine ykr (n:=1024) (by rw[List.length_zip];omega) fun f c=> ?_;exact⟨ha _ (List.of_mem_zip c).1,d _ (List.of_mem_zip c).2⟩
attribute [local go_sem] Oper.semAt_some
set_option linter.unusedVariables false
def ymb (w:e) (n:Nat) (a:(S3×List Rat)×(Q3×Rat)):Prop:=IsV w (C2 w) (.slice a.1.1.1 a.1.1.2.1 a.1.1.2.2) (C0 a.1.2)/\a.1.2.length=n/\IsQ w (C2 w) (q3 a.2.1) a.2.2/\(∀q∈a.1.2,Sz q 1024)/\Sz a.2.2 1024
abbrev Side (w:e) (n:Nat):={a:(S3×List Rat)×(Q3×Rat)//ymb w n a}
def Side.qs {w:e} {n:Nat} (x:Side w n):List Rat×Rat:=(x.1.1.2,x.1.2.2)


structure Sol where
 st:Int
 val:Raw
 X:List Raw
 D:List Raw
 R:List Raw
def IsSol (w:e) (S:Nat->Prop) (v:i) (s:Sol):Prop:=
 ∃P k c l A a B b C d,v= .agg #[.int .i64 s.st,.bool s.val.neg,.slice P s.val.num.length k,.slice c s.val.den.length l,.slice A s.X.length a,.slice B s.D.length b,.slice C s.R.length d]/\
  IsR w S (.agg #[.bool s.val.neg,.slice P s.val.num.length k,.slice c s.val.den.length l]) s.val/\IsV w S (.slice A s.X.length a) s.X/\IsV w S (.slice B s.D.length b) s.D/\IsV w S (.slice C s.R.length d) s.R
theorem IsSol.stb:Stb IsSol:=by rintro w w' S T v s ⟨P,k,d,l,A,a,B,b,C,e,hv,f,g,h,i⟩ c;exact⟨P,k,d,l,A,a,B,b,C,e,hv,IsR.stb.to f c,IsV.stb.to g c,IsV.stb.to h c,IsV.stb.to i c⟩
theorem yyz {w w':e} {S:Nat->Prop} (hg:w.grownBy w' (some g)) (c:∀b,S b->b<w.heap.size/\b≠g):L1 S S w w':=fun b a=>⟨a,fun o=>World.cell?_of_block (hg.block b (c b a).1 (fun d=>(c b a).2 (by cases d;rfl)))⟩
theorem K7 {w w':e} {row:Option Nat} (a:d w.heap.size w w'):w.grownBy w' row:=⟨a.os,a.tape,a.output,a.size,fun k b _=>a.block k b⟩
theorem I9 (w:e) (g o:Nat) (a:i):w.grownBy (w.setCell ⟨g,o,none⟩ a) (some g):=
 ⟨rfl,rfl,rfl,by simp[World.setCell],fun k _ c=>Below.heap_setCell w ⟨g,o,none⟩ a k (fun b=>c (by rw[b]))⟩
theorem yrw {a b f:e} {row:Option Nat} (h:a.grownBy b row) (c:d a.heap.size b f):a.grownBy f row:=⟨c.os.trans h.os,c.tape.trans h.tape,c.output.trans h.output,aa h.size c.size,fun k g hr=>(c.block k g).trans (h.block k g hr)⟩
theorem OwnS.slice {b:Type} {R:e->(Nat->Prop)->i->b->Prop} {w:e} {base:Nat} {S:Nat->Prop} {l:List b} (h:OwnS n t R w base S v l):∃A c,v= .slice A l.length c:=by
 obtain⟨es,d,_⟩:=h;rcases d.2 with⟨a,f⟩|⟨g,cap,j,a,_⟩
 ·exact⟨none,0,by rw[a,f]⟩
 ·exact⟨_,_,a⟩
theorem zz1388:(Tryz.prog.info? 30).map (fun a=>(a.zero,a.size,a.bytes))=some (some (.slice none 0 0),1,24):=by kernel_rfl
theorem elV:ElN D 28 30 1 24:=
 ⟨Tryz.underlying28,by obtain⟨e,a,b,c,d⟩:=info_parts zz1388;exact⟨e,_,a,b,c,d,rfl⟩,by omega⟩
def SP (w c:e) (g:Nat) (a:e) (b:Nat):Prop:=(b<w.heap.size\/c.heap.size<=b)/\b<a.heap.size/\b≠g
theorem yjb {fn:Func} {slot:Tmp} {R:Ending->e->Prop} {a:Act} {w:e} {x y z:i} (hr:fn.results= #[.cell slot 32]) (ha:a.tmps.getD slot undef= .pointer (some ⟨g,0,none⟩)) (hd:a.defers=[])
 (h:Row w g 32 [x,y,z]) (f:R (.returned (.agg #[x,y,z])) w):bodyPost D fn R .ret a w:=by refine bodyPost_ret (v:= .agg #[x,y,z]) ?_ hd f;obtain⟨b,c,d⟩:=C3 h;have j:a.tmps[slot]?.getD undef= .pointer (some ⟨g,0,none⟩):=(by simpa using ha);simp[results,hr,j,asAddr,go_sem,b,c,d]
theorem ygo {a:Type} {R:e->(Nat->Prop)->i->a->Prop} {w:e} {S:Nat->Prop} {l:List a} (h:Row w g t (cellsOf es)) (hg:S g) (c:Wid n es) (ha:All2 (R w S) es l) (f:l.length<=9223372036854775807):
 IsS n R w S (.slice (some ⟨g,0,none⟩) l.length l.length) l:=by refine⟨_,_,es,rfl,M _,by unfold maxLen;omega,fun _=>⟨g,0,rfl,hg,fun d j b=> ?_⟩,c,ha⟩;rw[Nat.zero_add];exact h.cell d|>.trans (by simpa using b)
theorem ydd {a b:Type} {R:a->b->Prop} {x:a} {y:b} (h:R x y):All2 R [x] [y]:=All2.snoc All2.nil h
theorem ymj {b c:Type} {R:b->c->Prop} {x a:b} {y v:c} (h:R x y) (d:R a v):All2 R [x,a] [y,v]:=All2.snoc (a:=[x]) (b:=[y]) (ydd h) d
def Q7 (l:List Int):List Rat:=l.map fun x=>X5 x 1
theorem zz1389 (l:List Int):(Q7 l).length=l.length:=T _
theorem zz1390 {l:List Int} {x:Int} (h:l[k]? =some x):(Q7 l).take (k+1)=(Q7 l).take k++[X5 x 1]:=by refine zpo ?_;unfold Q7;rw[Q,h];rfl
def ygi (l:List Int):List i:=l.map fun x=> .int .i64 x
def exQ:ProgQ:=⟨[Q7 [1,1],Q7 [1,3]],Q7 [4,6],Q7 [3,2]⟩
section
variable {w : e} {f : x} {v1 : i} {a : x} {p : i} {s : x} {u : i} {y : x} {v4 : i} {z : x} {A : i} {B : x} {v6 : i} {C : x} {F : i} {H : x} {I : i} {K : x} {L : i} {N : x} {v10 : i} {X : x} {v11 : i} {Y : x} {Z : i} {ac : x} {ad : i} {ae : x} {af : i}
theorem zkf (b:w.cell? f=some v1):c (∀a:e,d w.heap.size w a->a.cell? f=some v1):=fun a h=>B9 h b
theorem zpg (g:w.cell? f=some v1) (i:w.cell? a=some p):c (∀b:e,d w.heap.size w b->b.cell? f=some v1/\b.cell? a=some p):=fun b h=>⟨B9 h g,B9 h i⟩
theorem zll (g:w.cell? f=some v1) (i:w.cell? a=some p) (j:w.cell? s=some u):c (∀b:e,d w.heap.size w b->b.cell? f=some v1/\b.cell? a=some p/\b.cell? s=some u):=fun b h=>⟨B9 h g,B9 h i,B9 h j⟩
theorem hs4 (g:w.cell? f=some v1) (i:w.cell? a=some p) (j:w.cell? s=some u) (k:w.cell? y=some v4):c (∀b:e,d w.heap.size w b->b.cell? f=some v1/\b.cell? a=some p/\b.cell? s=some u/\b.cell? y=some v4):=fun b h=>⟨B9 h g,B9 h i,B9 h j,B9 h k⟩
theorem hs5 (g:w.cell? f=some v1) (i:w.cell? a=some p) (j:w.cell? s=some u) (k:w.cell? y=some v4) (l:w.cell? z=some A):c (∀b:e,d w.heap.size w b->b.cell? f=some v1/\b.cell? a=some p/\b.cell? s=some u/\b.cell? y=some v4/\b.cell? z=some A):=fun b h=>⟨B9 h g,B9 h i,B9 h j,B9 h k,B9 h l⟩
theorem zmh (g:w.cell? f=some v1) (i:w.cell? a=some p) (j:w.cell? s=some u) (k:w.cell? y=some v4) (l:w.cell? z=some A) (m:w.cell? B=some v6):c (∀b:e,d w.heap.size w b->b.cell? f=some v1/\b.cell? a=some p/\b.cell? s=some u/\b.cell? y=some v4/\b.cell? z=some A/\b.cell? B=some v6):=fun b h=>⟨B9 h g,B9 h i,B9 h j,B9 h k,B9 h l,B9 h m⟩
theorem hs7 (g:w.cell? f=some v1) (i:w.cell? a=some p) (j:w.cell? s=some u) (k:w.cell? y=some v4) (l:w.cell? z=some A) (m:w.cell? B=some v6) (n:w.cell? C=some F):c (∀b:e,d w.heap.size w b->b.cell? f=some v1/\b.cell? a=some p/\b.cell? s=some u/\b.cell? y=some v4/\b.cell? z=some A/\b.cell? B=some v6/\b.cell? C=some F):=fun b h=>⟨B9 h g,B9 h i,B9 h j,B9 h k,B9 h l,B9 h m,B9 h n⟩
theorem hs8 (g:w.cell? f=some v1) (i:w.cell? a=some p) (j:w.cell? s=some u) (k:w.cell? y=some v4) (l:w.cell? z=some A) (m:w.cell? B=some v6) (n:w.cell? C=some F) (o:w.cell? H=some I):c (∀b:e,d w.heap.size w b->b.cell? f=some v1/\b.cell? a=some p/\b.cell? s=some u/\b.cell? y=some v4/\b.cell? z=some A/\b.cell? B=some v6/\b.cell? C=some F/\b.cell? H=some I):=fun b h=>⟨B9 h g,B9 h i,B9 h j,B9 h k,B9 h l,B9 h m,B9 h n,B9 h o⟩
theorem hs9 (g:w.cell? f=some v1) (i:w.cell? a=some p) (j:w.cell? s=some u) (k:w.cell? y=some v4) (l:w.cell? z=some A) (m:w.cell? B=some v6) (n:w.cell? C=some F) (o:w.cell? H=some I) (q:w.cell? K=some L):c (∀b:e,d w.heap.size w b->b.cell? f=some v1/\b.cell? a=some p/\b.cell? s=some u/\b.cell? y=some v4/\b.cell? z=some A/\b.cell? B=some v6/\b.cell? C=some F/\b.cell? H=some I/\b.cell? K=some L):=fun b h=>⟨B9 h g,B9 h i,B9 h j,B9 h k,B9 h l,B9 h m,B9 h n,B9 h o,B9 h q⟩
theorem zpw (g:w.cell? f=some v1) (j:w.cell? a=some p) (k:w.cell? s=some u) (l:w.cell? y=some v4) (m:w.cell? z=some A) (n:w.cell? B=some v6) (o:w.cell? C=some F) (q:w.cell? H=some I) (r:w.cell? K=some L) (i:w.cell? N=some v10):c (∀b:e,d w.heap.size w b->b.cell? f=some v1/\b.cell? a=some p/\b.cell? s=some u/\b.cell? y=some v4/\b.cell? z=some A/\b.cell? B=some v6/\b.cell? C=some F/\b.cell? H=some I/\b.cell? K=some L/\b.cell? N=some v10):=fun b h=>⟨B9 h g,B9 h j,B9 h k,B9 h l,B9 h m,B9 h n,B9 h o,B9 h q,B9 h r,B9 h i⟩
theorem yge (g:w.cell? f=some v1) (l:w.cell? a=some p) (m:w.cell? s=some u) (n:w.cell? y=some v4) (o:w.cell? z=some A) (q:w.cell? B=some v6) (r:w.cell? C=some F) (t:w.cell? H=some I) (v:w.cell? K=some L) (i:w.cell? N=some v10) (j:w.cell? X=some v11) (k:w.cell? Y=some Z):c (∀b:e,d w.heap.size w b->b.cell? f=some v1/\b.cell? a=some p/\b.cell? s=some u/\b.cell? y=some v4/\b.cell? z=some A/\b.cell? B=some v6/\b.cell? C=some F/\b.cell? H=some I/\b.cell? K=some L/\b.cell? N=some v10/\b.cell? X=some v11/\b.cell? Y=some Z):=fun b h=>⟨B9 h g,B9 h l,B9 h m,B9 h n,B9 h o,B9 h q,B9 h r,B9 h t,B9 h v,B9 h i,B9 h j,B9 h k⟩
theorem ysc (g:w.cell? f=some v1) (m:w.cell? a=some p) (n:w.cell? s=some u) (o:w.cell? y=some v4) (q:w.cell? z=some A) (r:w.cell? B=some v6) (t:w.cell? C=some F) (v:w.cell? H=some I) (x:w.cell? K=some L) (i:w.cell? N=some v10) (j:w.cell? X=some v11) (k:w.cell? Y=some Z) (l:w.cell? ac=some ad):c (∀b:e,d w.heap.size w b->b.cell? f=some v1/\b.cell? a=some p/\b.cell? s=some u/\b.cell? y=some v4/\b.cell? z=some A/\b.cell? B=some v6/\b.cell? C=some F/\b.cell? H=some I/\b.cell? K=some L/\b.cell? N=some v10/\b.cell? X=some v11/\b.cell? Y=some Z/\b.cell? ac=some ad):=fun b h=>⟨B9 h g,B9 h m,B9 h n,B9 h o,B9 h q,B9 h r,B9 h t,B9 h v,B9 h x,B9 h i,B9 h j,B9 h k,B9 h l⟩
end
structure SH (w:e) where
 s:e->Prop
 h:c (∀W:e,d w.heap.size w W->s W)
theorem zlb {P:Program} {ops:Array Oper} {f:Exit->Act->e->Prop} {S:e->Prop} {id:Nat} {a:Act} {b w:e} (h:c (∀g:e,d b.heap.size b g->S g)) (k:S w.drew->wpAnyH P .any ops f S ops.size (Array.replicate ops.size false) a w.drew) (j:P.follows .mixedOrders=true:=by kernel_rfl) (i:d b.heap.size b w.drew:=by exact bel):(Code.region id ops true).wp P f a w:=wp_region_held_drew j (h.out _ i) k
def NeL (V:Nat) (S:e->Prop):Prop:=∀(c:e->e),(∀b o v a,b≠V->a.cell? ⟨b,o,none⟩=some v->(c a).cell? ⟨b,o,none⟩=some v)->∀a,S a->S (c a)
theorem nA {V:Nat} {S:e->Prop} (n:b≠V) (r:NeL V S):NeL V (fun a=>a.cell? ⟨b,o,none⟩=some v/\S a):=fun c hf a h=>⟨hf _ _ _ _ n h.1,r c hf a h.2⟩
theorem nZ {V:Nat} (n:b≠V):NeL V (fun a=>a.cell? ⟨b,o,none⟩=some v):=fun c hf a h=>hf _ _ _ _ n h
section
variable {w : e} {V : Nat} {S : e → Prop}
theorem hp3 (h:c (∀a:e,d w.heap.size w a->S a)) (r:NeL V S):c (∀a:e,d w.heap.size w a->∀x y z,S (put3 a V x y z)):=fun a f x y z=>r (fun a=>Go.Proofs.YtdgilbgdkmhcmaaGreatDoor.put3 a V x y z) (fun b o v a n h=>zmj h n) a (h.out a f)
end
def zyp (a b:Raw):Bool:=decide (a.neg=b.neg)&&decide (a.num=b.num)&&decide (a.den=b.den)
theorem yyx {a b:Raw}:zyp a b=true↔a=b:=by unfold zyp;rw[Bool.and_eq_true,Bool.and_eq_true,decide_eq_true_eq,decide_eq_true_eq,decide_eq_true_eq];obtain⟨x,y,z⟩:=a;obtain⟨c,v,t⟩:=b;simp[and_assoc]
theorem yyw {a b:Raw}:zyp a b=decide (a=b):=by rw[Bool.eq_iff_iff,yyx,decide_eq_true_eq]
theorem zto {k:IntKind} {w:e} {l:List Nat} (h:IsK k w (C2 w) v l):IsL k w 0 w.heap.size v l:=h.isL fun b a=>⟨U _,a⟩
theorem zyq {w:e} {a b:Raw} (ha:IsR w (C2 w) h a) (g:IsR w (C2 w) O b):
 E D 26 #[h,O] w fun l w'=>l= .returned (.bool (decide (a=b)))/\d w.heap.size w w':=by
 rw[<-yyw];obtain⟨L,ad,N,ae,rfl,u,v⟩:=ha;obtain⟨P,af,S,ag,rfl,y,z⟩:=g;obtain⟨p,V,r,X⟩:=Z5 u v y z;unfold zyp;obtain⟨t,m⟩:=nm (decide (a.neg=b.neg));obtain⟨b2,n⟩:=nm (decide (a.num=b.num));obtain⟨ac,o⟩:=nm (decide (a.den=b.den));have f:(a.neg==b.neg)=t:=(by rw[m];cases a.neg<;>cases b.neg<;>rfl);rw[<-m,<-n,<-o];obtain⟨s,Z⟩:=C4 n o;clear m n o u v y z;obtain⟨G,B,A,C,F,ah⟩:=zkd w #[.bool a.neg,.slice L a.num.length ad,.slice N a.den.length ae] #[.bool b.neg,.slice P b.num.length af,.slice S b.den.length ag] 37 37;have j:=q A;obtain⟨aj,ak,I⟩:=C3 C;obtain⟨al,an,K⟩:=C3 F;clear A C F;cases t with
 |false=>go_in;go_wp2_with fail;go_ret;exact⟨rfl,j.out⟩
 |true=>
  cases b2 with
  |false=>go_in;go_wp2_with fail;clear B;refine(zzs (zto (IsK.stb.to p.out (E7 j.out))) (zto (IsK.stb.to r.out (E7 j.out)))).mono ?_;rw[<-s.out];rintro l H ⟨rfl,hd⟩;have g:=hd.below G.heap.size;have k:=nB j g;go_wp2_with fail;go_ret;exact⟨rfl,k.out⟩
  |true=>
   cases ac
   all_goals
    go_in
    go_wp2_with fail
    clear B
    refine(zzs (zto (IsK.stb.to p.out (E7 j.out))) (zto (IsK.stb.to r.out (E7 j.out)))).mono ?_
    rw[<-s.out]
    rintro l H ⟨rfl,hd⟩
    have g:=hd.below G.heap.size
    have k:=nB j g
    replace I:=B9 g I
    replace K:=B9 g K
    clear g hd
    go_wp2_with fail
    refine(zzs (zto (IsK.stb.to V.out (E7 k.out))) (zto (IsK.stb.to X.out (E7 k.out)))).mono ?_
    rw[<-Z.out]
    rintro l ai ⟨rfl,hd⟩
    have g:=hd.below H.heap.size
    have Y:=nB k g
    clear g hd
    go_wp2_with fail
    go_ret
    exact⟨rfl,Y.out⟩
end Go.Proofs.YtdgilbgdkmhcmaaGreatDoor
