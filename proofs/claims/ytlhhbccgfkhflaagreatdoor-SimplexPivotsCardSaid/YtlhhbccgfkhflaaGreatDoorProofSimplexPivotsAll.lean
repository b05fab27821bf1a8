/-
 The statement SimplexPivots:whatever the arguments,the law returns true,and each argument reads behind the call as before:the row,and its card tied to the program's text.
-/
import Derived.Test.YtlhhbccgfkhflaaGreatDoorProofSimplexPivots30
import Derived.Test.YtlhhbccgfkhflaaGreatDoorCards
import Derived.Test.YtlhhbccgfkhflaaGreatDoorTie
import Derived.Lib.LaidTab
namespace Go.Proofs.YtlhhbccgfkhflaaGreatDoor.simplexpivots
open Go.ChangeShapes Go.WideShapes Go.ChangeAt Go.RowKit
open Go.ChangeMaps (open_string shut_string)
set_option linter.unusedVariables false
theorem yhl:Tryz.prog.globalNamed "math/bits.deBruijn64tab"=some 0:=by kernel_rfl
theorem yuf:(Tryz.prog.globals[0]?).map (·.type)=some 220:=by kernel_rfl
theorem yqm:Tryz.prog.cellsOf 220=64:=by kernel_rfl
theorem yqj:Tryz.prog.cellsOf 5=1:=by kernel_rfl
theorem T6 {W:World} (h:laidMetH Tryz.prog Rows.simplexPivotsRow.laid W):Lib.TabIs Tryz.prog W "math/bits.deBruijn64tab" .u8 [0,1,56,2,57,49,28,3,61,58,42,50,38,29,17,4,62,47,59,36,45,43,51,22,53,39,33,30,24,18,12,5,63,55,48,27,60,41,37,16,46,35,44,21,52,32,23,11,54,26,40,15,34,20,31,10,25,14,19,9,13,8,7,6]:=
 Lib.tabIs_of_head (rest:=[]) yhl yuf Tryz.underlying220 Tryz.underlying5 yqj yqm h
theorem tab {W:World} (h:laidMetH Tryz.prog Rows.simplexPivotsRow.laid W):Bru W:=by have hT:=T6 h;have he:∀i:Fin 64,([0,1,56,2,57,49,28,3,61,58,42,50,38,29,17,4,62,47,59,36,45,43,51,22,53,39,33,30,24,18,12,5,63,55,48,27,60,41,37,16,46,35,44,21,52,32,23,11,54,26,40,15,34,20,31,10,25,14,19,9,13,8,7,6]:List Int).getD i.1 0=((bruT.getD i.1 0:Nat):Int):=(by decide);have hc:∀i,i<64->W.cell? ⟨0,i,none⟩=some (.int .u8 (bruT.getD i 0:Nat)):=(by intro i hi;rw[hT.cell yhl i hi,he ⟨i,hi⟩]);exact⟨block_lt_of_cell (hc 0 og),hc⟩
set_option maxRecDepth 100000 in
theorem H8 (H:Type) (enc:TypeId×Value->H) (W:World) (base:Nat) (args:Array Value) (ds gs:List (DataW H)) (before:List MemPlace)
 (hval:∀(j:Nat) t v,Tryz.f5.params[j]? =some t->args[j]? =some v->Value.okWide Tryz.prog W .any base t v)
 (hW:DataW.Whole enc Tryz.prog Tryz.f5.params.toList Rows.simplexPivotsSpec.vars false W args.toList ds gs before) (hL:laidMetH Tryz.prog Rows.simplexPivotsRow.laid W):
 Calls Tryz.prog 5 args W fun e W'=>∃v,e= .returned v/\Rows.simplexPivotsSpec.post enc Tryz.prog Tryz.f5 false true false false W args v W':=by
 have hW':=hW;obtain⟨p,q,hA0,hV,rfl,hfz,hnd⟩:=hW;have hA:DataW.TrodAll enc Tryz.prog W 0 (fun _=>true) true Tryz.f5.params.toList args.toList ds p:=hA0;rw[Tryz.params5] at hA hval;obtain⟨v0,vs0,d0,ds0,p0,q0,hargs,rfl,rfl,h0,r0⟩:=trodAll_cons hA;obtain⟨v1,vs1,d1,ds1,p1,q1,rfl,rfl,rfl,h1,r1⟩:=trodAll_cons r0;obtain⟨v2,vs2,d2,ds2,p2,q2,rfl,rfl,rfl,h2,r2⟩:=trodAll_cons r1;obtain⟨rfl,rfl,rfl⟩:=trodAll_nil r2;obtain rfl:args= #[v0,v1,v2]:=(by cases args;simp_all);obtain⟨rfl,rfl⟩:=trodVars_none hV;have k0:=h0;have lt0:∀x∈p0,x.block<W.heap.size:=(by obtain⟨m,hm⟩:=k0;exact DataW.trod_lt m _ _ _ hm);obtain⟨l0,w0⟩:=yye lt0 (hval 0 22 v0 rfl rfl) h0;obtain⟨a1,rfl,rfl,rfl,w1⟩:=open_int Tryz.underlying3 (hval 1 3 v1 rfl rfl) h1;obtain⟨a2,rfl,rfl,rfl,w2⟩:=open_int Tryz.underlying3 (hval 2 3 v2 rfl rfl) h2;clear hA0;simp only[List.append_nil] at hW';refine(yvp w0 a1 w1 a2 w2 (tab hL)).mono fun e W' ⟨he,hb⟩=> ?_;subst he
 exact⟨_,rfl,yzr (pa:=p0) (pv:=[]) hW' (fun _ _ _=>trodAll_cons_mk (shut_bool Tryz.underlying4 _) trodAll_mk0)
  (fun sp hsp=>by
    have:=(trodAll_cons_mk (WideElems.Trod_stays (sp':=sp) yvk kr (of_decide_eq_true kr) k0 (fun x hx=>hb.same (lt0 x hx)) (fun x hx=>hsp x (by simp[hx]))) (trodAll_cons_mk (shut_int Tryz.underlying3 w1) (trodAll_cons_mk (shut_int Tryz.underlying3 w2) trodAll_mk0)))
    simp only[List.append_nil] at this
    simpa[Rows.simplexPivotsSpec] using this)
  (fun _ _=>rfl) (by simp) hb (ok_one kr rfl (okWide_bool_mk Tryz.underlying4 _))⟩
noncomputable def laidWorld (os:Os):World:=
 {World.holding Tryz.prog os ⟨#[],#[],[]⟩ with heap:=(World.holding Tryz.prog os ⟨#[],#[],[]⟩).heap.modify 0 fun
   | .cells _ t frozen=> .cells #[.int .u8 0,.int .u8 1,.int .u8 56,.int .u8 2,.int .u8 57,.int .u8 49,.int .u8 28,.int .u8 3,.int .u8 61,.int .u8 58,.int .u8 42,.int .u8 50,.int .u8 38,.int .u8 29,.int .u8 17,.int .u8 4,.int .u8 62,.int .u8 47,.int .u8 59,.int .u8 36,.int .u8 45,.int .u8 43,.int .u8 51,.int .u8 22,.int .u8 53,.int .u8 39,.int .u8 33,.int .u8 30,.int .u8 24,.int .u8 18,.int .u8 12,.int .u8 5,.int .u8 63,.int .u8 55,.int .u8 48,.int .u8 27,.int .u8 60,.int .u8 41,.int .u8 37,.int .u8 16,.int .u8 46,.int .u8 35,.int .u8 44,.int .u8 21,.int .u8 52,.int .u8 32,.int .u8 23,.int .u8 11,.int .u8 54,.int .u8 26,.int .u8 40,.int .u8 15,.int .u8 34,.int .u8 20,.int .u8 31,.int .u8 10,.int .u8 25,.int .u8 14,.int .u8 19,.int .u8 9,.int .u8 13,.int .u8 8,.int .u8 7,.int .u8 6] t frozen
   |o=>o}
theorem yvl (os:Os):laidMet Tryz.prog Rows.simplexPivotsRow.laid ((laidWorld os).forCall (fun _ _=>0) ⟨#[],#[.slice none 0 0,.int .i64 0,.int .i64 0],[]⟩).memory:=
 laidMet_of_run' 8 kr kr
theorem zps (os:Os) {H:Type} (enc:TypeId×Value->H):∃places,DataW.whole enc Tryz.prog ((laidWorld os).forCall (fun _ _=>0) ⟨#[],#[.slice none 0 0,.int .i64 0,.int .i64 0],[]⟩).memory Tryz.f5.params.toList Rows.simplexPivotsSpec.vars false #[Value.slice none 0 0,Value.int .i64 0,Value.int .i64 0].toList 8=some ([.nil,.lit (.int .i64 0),.lit (.int .i64 0)],[],places):=
 ⟨[],by kernel_rfl⟩
set_option maxRecDepth 100000 in
theorem zvr (os:Os) (started:os.Started) (H:Type) (enc:TypeId×Value->H) (F:Stop.Interp):
 ReturnsInHanded {} Tryz.checked os 5 .any ((OpenSpec.ofChange Rows.simplexPivotsSpec).preRow enc Tryz.prog Tryz.f5 Rows.simplexPivotsRow.domain false Rows.simplexPivotsRow.laid) (((OpenSpec.ofChange Rows.simplexPivotsSpec).at F).post enc Tryz.prog Tryz.f5 false true false false):=by
 obtain⟨places,hx⟩:=zps os enc
 refine returnsInHanded_of_row (C:=Tryz.checked) (s:=OpenSpec.ofChange Rows.simplexPivotsSpec) own started kr Tryz.func5
  (witness_row_at (enc:=enc) (C:=Tryz.checked) false (laidWorld os) #[.slice none 0 0,.int .i64 0,.int .i64 0] rfl kr kr kr
    (OpenSpec.preRow_of_cond 8 hx kr (fun k hk=>by cases hk) kr (yvl os))) ?_
 intro W base args ds gs before hval hW _ _ _ hL _ _;exact H8 H enc W base args ds gs before hval hW hL
theorem said:Rows.SimplexPivotsSaid:=
 OpenClaim.holds_of_cond 5 Tryz.f5 rfl rfl rfl rfl rfl rfl rfl ⟨rfl,rfl,rfl,rfl,rfl⟩ rfl rfl rfl rfl rfl kr Tryz.func5 kr
  (of_decide_eq_true kr) (by unfold Func.isWrapper;first|(rw[if_pos (by decide+kernel)];kernel_rfl)|(rw[if_neg (by decide+kernel)];exact⟨rfl,rfl⟩))
  (fun os started H enc _ F=>by rw[OpenClaim.pre_eq_preRow];exact zvr os started H enc F)
theorem zwf (f:FuncId) (fn:Func) (hf:Tryz.pinned.checked.prog.funcNamed "parlour/parlourlaw04.SimplexPivots"=some f) (hfn:Tryz.pinned.checked.prog.funcs[f]? =some fn):
 false=Tryz.pinned.checked.prog.looks []/\∀(j:Nat) t,fn.params[j]? =some t->Tryz.pinned.checked.prog.wantsStandIn t=false:=by
 obtain rfl:f=5:=Option.some.inj ((show Tryz.prog.funcNamed "parlour/parlourlaw04.SimplexPivots"=some 5 by kernel_rfl).symm.trans hf)|>.symm;obtain rfl:fn=Tryz.f5:=(Option.some.inj (Tryz.func5.symm.trans hfn)).symm;refine⟨by kernel_rfl,fun j t ht=> ?_⟩;rw[Tryz.params5] at ht;have hm:t=22\/t=3:=(by simpa using Array.mem_of_getElem? ht);rcases hm with rfl|rfl
 ·exact(show Tryz.prog.wantsStandIn 22=false by kernel_rfl)
 ·exact(show Tryz.prog.wantsStandIn 3=false by kernel_rfl)
theorem card:Rows.SimplexPivotsCardSaid:=
 Claim7.holds_tied_plain_at .later [] _ _ _ _ said (fun _ h=>by cases h) kr (fun _ h=>by cases h) simplexPivots_row_tie rfl ⟨rfl,rfl⟩ kr rfl zwf kr
end Go.Proofs.YtlhhbccgfkhflaaGreatDoor.simplexpivots
