/-
 What region 12 of package simplex's Solve holds.
-/
import Derived.Test.YtlhhbccgfkhflaaGreatDoorProofDualWeak15
import Derived.Test.YtlhhbccgfkhflaaGreatDoorProofDualWeak17
namespace Go.Proofs.YtlhhbccgfkhflaaGreatDoor
open Go.RowKit
set_option linter.unusedVariables false
set_option maxRecDepth 100000
set_option maxHeartbeats 8000000
variable {g : Nat} {xs : List Value}
theorem yln {k:World} {a b c d e f i:Value} {j:TypeId} (h:Row k g j xs):∃l,Row (pt7 k g a b c d e f i) g j l/\l.length=xs.length:=⟨_,((((((h.set_ 0 a).set_ 1 b).set_ 2 c).set_ 3 d).set_ 4 e).set_ 5 f).set_ 6 i,by simp⟩
theorem yjg (h:xs.length=7):∃a b c d e f g,xs=[a,b,c,d,e,f,g]:=by
 match xs,h with
 |[a,b,c,d,e,f,g],_=>exact⟨_,_,_,_,_,_,_,rfl⟩
theorem ylk {fn:Func} {slot a:Tmp} {tmps:Array Value} {w:World} {b c d e f i j:Value} (hr:fn.results= #[.cell slot 69,.tmp a]) (ha:tmps.getD slot undef= .pointer (some ⟨g,0,none⟩))
 (h:Row w g 69 [b,c,d,e,f,i,j]):(results fn tmps).run Tryz.prog w= .ok (.tuple #[.agg #[b,c,d,e,f,i,j],tmps.getD a undef]) w:=by obtain⟨k,l,m,n,o,p,q⟩:=U8 h;have r:tmps[slot]?.getD undef= .pointer (some ⟨g,0,none⟩):=(by simpa using ha);simp[results,hr,r,asAddr,go_sem,k,l,m,n,o,p,q]
def Z8 (g:Nat) (row st:Int) (k l:Nat) (s:Sol) (n0:Nat) (j:Nat) (a:Value) (w:World) (x:Option Value):Prop:=
 match j with
 |0=>a= .pointer (some ⟨g,0,none⟩)
 |1=>a= .int .i64 row
 |2=>IsMk w (NX n0 w x) a ((g,row),(k,l))
 |3=>a= .pointer (some ⟨g,0,none⟩)
 |4=>a= .pointer (some ⟨g,0,none⟩)
 |5=>a= .pointer (some ⟨g,11,none⟩)
 |6=>a= .int .i64 st
 |7=>IsSol w (NX n0 w x) a s
 |8=>vR 69 7 a w x
 |9=>∃g b c d e f h i,x=some (W8 g)/\Row w g 69 [b,c,d,e,f,h,i]/\IsSol w (NX n0 w (x)) (.agg #[b,c,d,e,f,h,i]) s
 |_=>True
theorem ykp (g:Nat) (row st:Int) (j k:Nat) (s:Sol) (n0:Nat):∀(b d:Nat) (e:Value) (w w':World) (x:Option Value),b≠d->Z8 g row st j k s n0 b e w x->vE 9 d w w' x->Z8 g row st j k s n0 b e w' x:=by
 intro b d e w w' x c h a;unfold vE at a;split at a
 ·rename_i v;subst v;obtain⟨g,rfl,f,i,hr⟩:=a;match b,c,h with
  |0,_,h=>exact h
  |1,_,h=>exact h
  |2,_,h=>exact zqv IsMk.stb h f i
  |3,_,h=>exact h
  |4,_,h=>exact h
  |5,_,h=>exact h
  |6,_,h=>exact h
  |7,_,h=>exact zqv IsSol.stb h f i
  |8,_,h=>exact ynk h hr
  |9,c,_=>exact absurd rfl c
  |_+10,_,_=>trivial
 ·match b,h with
  |0,h=>exact h
  |1,h=>exact h
  |2,h=>exact zrr IsMk.stb h a
  |3,h=>exact h
  |4,h=>exact h
  |5,h=>exact h
  |6,h=>exact h
  |7,h=>exact zrr IsSol.stb h a
  |8,h=>exact ynj h a
  |9,h=>obtain⟨g,l,m,n,o,p,r,t,u,y,q⟩:=h;exact⟨g,l,m,n,o,p,r,t,u,y.next a,zrr IsSol.stb q a⟩
  |_+10,_=>trivial
theorem yko (g:Nat) (row st:Int) (f i:Nat) (s:Sol) (n0:Nat):∀(a:Nat) (e:Value) (w w':World) (c:Value),a≠8->Z8 g row st f i s n0 a e w none->vE 9 8 w w' none->zsf w c w'->Z8 g row st f i s n0 a e w' (some c):=by
 intro a e w w' c d h b k;unfold vE at b;rw[if_neg og] at b;obtain rfl:c=W8 w.heap.size:=k;match a,d,h with
 |0,_,h=>exact h
 |1,_,h=>exact h
 |2,_,h=>exact ztw IsMk.stb h b
 |3,_,h=>exact h
 |4,_,h=>exact h
 |5,_,h=>exact h
 |6,_,h=>exact h
 |7,_,h=>exact ztw IsSol.stb h b
 |8,d,_=>exact absurd rfl d
 |9,_,h=>obtain⟨g,l,m,n,o,p,q,r,j,_⟩:=h;cases j
 |_+10,_,_=>trivial
end Go.Proofs.YtlhhbccgfkhflaaGreatDoor
