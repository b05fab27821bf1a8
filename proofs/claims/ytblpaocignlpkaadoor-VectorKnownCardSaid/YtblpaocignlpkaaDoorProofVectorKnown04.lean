/-
  The walk of the law VectorKnown.
-/
import Derived.Test.YtblpaocignlpkaaDoorProofVectorKnown03
import Derived.Test.YtblpaocignlpkaaDoorVkn19
namespace Go.Proofs.YtblpaocignlpkaaDoor
open Go.RowKit
set_option linter.unusedVariables false
set_option maxRecDepth 100000 in
set_option maxHeartbeats 8000000 in
theorem law_vknown {w : World} (hB : Bru w) : Calls Tryd.prog 7 #[] w fun e w' => e = .returned (.bool true) ∧ Below w.heap.size w w' := by
  have HB := Lib.hid hB
  have BB := Lib.hid (Below.refl w.heap.size w)
  clear hB
  go_enter Tryd.func7, Tryd.ntmps7
  go_wp2_with fail
  refine (zbe (w := w.alloc (.cells #[.int .i64 1, .int .i64 2] 3)) (l := [1, 2]) (heap_alloc_new w _) (by decide) (by decide)).mono ?_
  rintro e w1 ⟨⟨vw1, rfl, h⟩, hb⟩
  have hb' := zaa (zal w _) hb
  replace BB := Lib.hid (zaa BB.out hb')
  have A := Lib.hid (IsV.stb.old h)
  obtain ⟨Pw1, kw1, rfl, _⟩ := zav h
  clear h hb hb'
  go_wp2_with fail
  refine (zfr (w := w1.alloc (.cells #[.int .i64 1, .int .i64 0] 3)) (l := [1, 0]) (heap_alloc_new w1 _) (by decide) (by decide)).mono ?_
  rintro e w2 ⟨⟨vw2, rfl, h⟩, hb⟩
  have hb' := zaa (zal w1 _) hb
  replace BB := Lib.hid (zaa BB.out hb')
  replace A := Lib.hid (IsV.stb.next A.out hb')
  have B := Lib.hid (IsV.stb.old h)
  obtain ⟨Pw2, kw2, rfl, _⟩ := zav h
  clear h hb hb'
  go_wp2_with fail
  refine (kadd A.out B.out (Bru.next HB.out BB.out)).mono ?_
  rintro e w3 ⟨⟨vw3, rfl, h⟩, hb⟩
  replace BB := Lib.hid (zaa BB.out hb)
  replace A := Lib.hid (IsV.stb.next A.out hb)
  replace B := Lib.hid (IsV.stb.next B.out hb)
  have R1 := Lib.hid h
  clear h hb
  clear A B
  go_wp2_with fail
  refine (zbe (w := w3.alloc (.cells #[.int .i64 1, .int .i64 2] 3)) (l := [1, 2]) (heap_alloc_new w3 _) (by decide) (by decide)).mono ?_
  rintro e w4 ⟨⟨vw4, rfl, h⟩, hb⟩
  have hb' := zaa (zal w3 _) hb
  replace BB := Lib.hid (zaa BB.out hb')
  replace R1 := Lib.hid (IsV.stb.next R1.out hb')
  have A := Lib.hid (IsV.stb.old h)
  obtain ⟨Pw4, kw4, rfl, _⟩ := zav h
  clear h hb hb'
  go_wp2_with fail
  refine (ratof_q (a := -1) (b := 2) (by omega) (by omega) (by omega)).mono ?_
  rintro e w5 ⟨⟨vw5, rfl, h⟩, hb⟩
  replace BB := Lib.hid (zaa BB.out hb)
  replace R1 := Lib.hid (IsV.stb.next R1.out hb)
  replace A := Lib.hid (IsV.stb.next A.out hb)
  have B := Lib.hid (IsQ.stb.old h)
  clear h hb
  go_wp2_with fail
  refine (kscale A.out B.out (Bru.next HB.out BB.out)).mono ?_
  rintro e w6 ⟨⟨vw6, rfl, h⟩, hb⟩
  replace BB := Lib.hid (zaa BB.out hb)
  replace R1 := Lib.hid (IsV.stb.next R1.out hb)
  replace A := Lib.hid (IsV.stb.next A.out hb)
  replace B := Lib.hid (IsQ.stb.next B.out hb)
  have R2 := Lib.hid h
  clear h hb
  clear A B
  go_wp2_with fail
  refine (a3_l _).mono ?_
  rintro e w7 ⟨⟨vw7, rfl, h⟩, hb⟩
  replace BB := Lib.hid (zaa BB.out hb)
  replace R1 := Lib.hid (IsV.stb.next R1.out hb)
  replace R2 := Lib.hid (IsV.stb.next R2.out hb)
  have A := Lib.hid h
  clear h hb
  go_wp2_with fail
  refine (zbe (w := w7.alloc (.cells #[.int .i64 1, .int .i64 1] 3)) (l := [1, 1]) (heap_alloc_new w7 _) (by decide) (by decide)).mono ?_
  rintro e w8 ⟨⟨vw8, rfl, h⟩, hb⟩
  have hb' := zaa (zal w7 _) hb
  replace BB := Lib.hid (zaa BB.out hb')
  replace R1 := Lib.hid (IsV.stb.next R1.out hb')
  replace R2 := Lib.hid (IsV.stb.next R2.out hb')
  replace A := Lib.hid (IsM.stb.next A.out hb')
  have B := Lib.hid (IsV.stb.old h)
  obtain ⟨Pw8, kw8, rfl, _⟩ := zav h
  clear h hb hb'
  go_wp2_with fail
  refine (kapply A.out B.out (Bru.next HB.out BB.out)).mono ?_
  rintro e w9 ⟨⟨vw9, rfl, h⟩, hb⟩
  replace BB := Lib.hid (zaa BB.out hb)
  replace R1 := Lib.hid (IsV.stb.next R1.out hb)
  replace R2 := Lib.hid (IsV.stb.next R2.out hb)
  replace A := Lib.hid (IsM.stb.next A.out hb)
  replace B := Lib.hid (IsV.stb.next B.out hb)
  have R3 := Lib.hid h
  clear h hb
  clear A B
  go_wp2_with fail
  refine (zfr (w := w9.alloc (.cells #[.int .i64 3, .int .i64 4] 3)) (l := [3, 4]) (heap_alloc_new w9 _) (by decide) (by decide)).mono ?_
  rintro e w10 ⟨⟨vw10, rfl, h⟩, hb⟩
  have hb' := zaa (zal w9 _) hb
  replace BB := Lib.hid (zaa BB.out hb')
  replace R1 := Lib.hid (IsV.stb.next R1.out hb')
  replace R2 := Lib.hid (IsV.stb.next R2.out hb')
  replace R3 := Lib.hid (IsV.stb.next R3.out hb')
  have B := Lib.hid (IsV.stb.old h)
  obtain ⟨Pw10, kw10, rfl, _⟩ := zav h
  clear h hb hb'
  go_wp2_with fail
  refine (same_v R1.out B.out).mono ?_
  rw [decide_eq_true rfl]
  rintro e w11 ⟨rfl, hb⟩
  replace BB := Lib.hid (zaa BB.out hb)
  replace R1 := Lib.hid (IsV.stb.next R1.out hb)
  replace R2 := Lib.hid (IsV.stb.next R2.out hb)
  replace R3 := Lib.hid (IsV.stb.next R3.out hb)
  replace B := Lib.hid (IsV.stb.next B.out hb)
  clear hb
  clear R1 B
  go_wp2_with fail
  refine (zfr (w := w11.alloc (.cells #[.int .i64 (-1), .int .i64 (-2)] 3)) (l := [-1, -2]) (heap_alloc_new w11 _) (by decide) (by decide)).mono ?_
  rintro e w12 ⟨⟨vw12, rfl, h⟩, hb⟩
  have hb' := zaa (zal w11 _) hb
  replace BB := Lib.hid (zaa BB.out hb')
  replace R2 := Lib.hid (IsV.stb.next R2.out hb')
  replace R3 := Lib.hid (IsV.stb.next R3.out hb')
  have B := Lib.hid (IsV.stb.old h)
  obtain ⟨Pw12, kw12, rfl, _⟩ := zav h
  clear h hb hb'
  go_wp2_with fail
  refine (same_v R2.out B.out).mono ?_
  rw [decide_eq_true rfl]
  rintro e w13 ⟨rfl, hb⟩
  replace BB := Lib.hid (zaa BB.out hb)
  replace R2 := Lib.hid (IsV.stb.next R2.out hb)
  replace R3 := Lib.hid (IsV.stb.next R3.out hb)
  replace B := Lib.hid (IsV.stb.next B.out hb)
  clear hb
  clear R2 B
  go_wp2_with fail
  refine (zbe (w := w13.alloc (.cells #[.int .i64 3, .int .i64 7] 3)) (l := [3, 7]) (heap_alloc_new w13 _) (by decide) (by decide)).mono ?_
  rintro e w14 ⟨⟨vw14, rfl, h⟩, hb⟩
  have hb' := zaa (zal w13 _) hb
  replace BB := Lib.hid (zaa BB.out hb')
  replace R3 := Lib.hid (IsV.stb.next R3.out hb')
  have B := Lib.hid (IsV.stb.old h)
  obtain ⟨Pw14, kw14, rfl, _⟩ := zav h
  clear h hb hb'
  go_wp2_with fail
  refine (same_v R3.out B.out).mono ?_
  rw [decide_eq_true rfl]
  rintro e w15 ⟨rfl, hb⟩
  replace BB := Lib.hid (zaa BB.out hb)
  replace R3 := Lib.hid (IsV.stb.next R3.out hb)
  replace B := Lib.hid (IsV.stb.next B.out hb)
  clear hb
  clear R3 B
  go_wp2_with fail
  refine (a3_l _).mono ?_
  rintro e w16 ⟨⟨vw16, rfl, h⟩, hb⟩
  replace BB := Lib.hid (zaa BB.out hb)
  have A := Lib.hid h
  clear h hb
  go_wp2_with fail
  refine (s3_l _).mono ?_
  rintro e w17 ⟨⟨vw17, rfl, h⟩, hb⟩
  replace BB := Lib.hid (zaa BB.out hb)
  replace A := Lib.hid (IsM.stb.next A.out hb)
  have B := Lib.hid h
  clear h hb
  go_wp2_with fail
  refine (kmul A.out B.out (Bru.next HB.out BB.out)).mono ?_
  rintro e w18 ⟨⟨vw18, rfl, h⟩, hb⟩
  replace BB := Lib.hid (zaa BB.out hb)
  replace A := Lib.hid (IsM.stb.next A.out hb)
  replace B := Lib.hid (IsM.stb.next B.out hb)
  have R1 := Lib.hid h
  clear h hb
  clear A B
  go_wp2_with fail
  refine (a3_l _).mono ?_
  rintro e w19 ⟨⟨vw19, rfl, h⟩, hb⟩
  replace BB := Lib.hid (zaa BB.out hb)
  replace R1 := Lib.hid (IsM.stb.next R1.out hb)
  have A := Lib.hid h
  clear h hb
  go_wp2_with fail
  refine (kturn A.out (Bru.next HB.out BB.out)).mono ?_
  rintro e w20 ⟨⟨vw20, rfl, h⟩, hb⟩
  replace BB := Lib.hid (zaa BB.out hb)
  replace R1 := Lib.hid (IsM.stb.next R1.out hb)
  replace A := Lib.hid (IsM.stb.next A.out hb)
  have R2 := Lib.hid h
  clear h hb
  clear A
  go_wp2_with fail
  refine (zbe (w := w20.alloc (.cells #[.int .i64 5, .int .i64 10] 3)) (l := [5, 10]) (heap_alloc_new w20 _) (by decide) (by decide)).mono ?_
  rintro e w21 ⟨⟨vw21, rfl, h⟩, hb⟩
  have hb' := zaa (zal w20 _) hb
  replace BB := Lib.hid (zaa BB.out hb')
  replace R1 := Lib.hid (IsM.stb.next R1.out hb')
  replace R2 := Lib.hid (IsM.stb.next R2.out hb')
  have A := Lib.hid (IsV.stb.old h)
  obtain ⟨Pw21, kw21, rfl, _⟩ := zav h
  clear h hb hb'
  go_wp2_with fail
  refine (zbe (w := w21.alloc (.cells #[.int .i64 11, .int .i64 22] 3)) (l := [11, 22]) (heap_alloc_new w21 _) (by decide) (by decide)).mono ?_
  rintro e w22 ⟨⟨vw22, rfl, h⟩, hb⟩
  have hb' := zaa (zal w21 _) hb
  replace BB := Lib.hid (zaa BB.out hb')
  replace R1 := Lib.hid (IsM.stb.next R1.out hb')
  replace R2 := Lib.hid (IsM.stb.next R2.out hb')
  replace A := Lib.hid (IsV.stb.next A.out hb')
  have B := Lib.hid (IsV.stb.old h)
  obtain ⟨Pw22, kw22, rfl, _⟩ := zav h
  clear h hb hb'
  go_wp2_with fail
  have hbn := zal w22 (.cells #[.slice Pw21 2 kw21, .slice Pw22 2 kw22] 29)
  refine (same_m (b := rawM [zas 1 [5, 10], zas 1 [11, 22]]) (IsM.stb.next R1.out hbn) (zdx (heap_alloc_new w22 (.cells #[.slice Pw21 2 kw21, .slice Pw22 2 kw22] 29)) (IsV.stb.next A.out hbn) (IsV.stb.next B.out hbn))).mono ?_
  rw [decide_eq_true rfl]
  rintro e w23 ⟨rfl, hb⟩
  replace hb := zaa hbn hb
  clear hbn
  replace BB := Lib.hid (zaa BB.out hb)
  replace R1 := Lib.hid (IsM.stb.next R1.out hb)
  replace R2 := Lib.hid (IsM.stb.next R2.out hb)
  replace A := Lib.hid (IsV.stb.next A.out hb)
  replace B := Lib.hid (IsV.stb.next B.out hb)
  clear hb
  clear A B R1
  go_wp2_with fail
  refine (zbe (w := w23.alloc (.cells #[.int .i64 1, .int .i64 3] 3)) (l := [1, 3]) (heap_alloc_new w23 _) (by decide) (by decide)).mono ?_
  rintro e w24 ⟨⟨vw24, rfl, h⟩, hb⟩
  have hb' := zaa (zal w23 _) hb
  replace BB := Lib.hid (zaa BB.out hb')
  replace R2 := Lib.hid (IsM.stb.next R2.out hb')
  have A := Lib.hid (IsV.stb.old h)
  obtain ⟨Pw24, kw24, rfl, _⟩ := zav h
  clear h hb hb'
  go_wp2_with fail
  refine (zbe (w := w24.alloc (.cells #[.int .i64 2, .int .i64 4] 3)) (l := [2, 4]) (heap_alloc_new w24 _) (by decide) (by decide)).mono ?_
  rintro e w25 ⟨⟨vw25, rfl, h⟩, hb⟩
  have hb' := zaa (zal w24 _) hb
  replace BB := Lib.hid (zaa BB.out hb')
  replace R2 := Lib.hid (IsM.stb.next R2.out hb')
  replace A := Lib.hid (IsV.stb.next A.out hb')
  have B := Lib.hid (IsV.stb.old h)
  obtain ⟨Pw25, kw25, rfl, _⟩ := zav h
  clear h hb hb'
  go_wp2_with fail
  have hbn := zal w25 (.cells #[.slice Pw24 2 kw24, .slice Pw25 2 kw25] 29)
  refine (same_m (b := rawM [zas 1 [1, 3], zas 1 [2, 4]]) (IsM.stb.next R2.out hbn) (zdx (heap_alloc_new w25 (.cells #[.slice Pw24 2 kw24, .slice Pw25 2 kw25] 29)) (IsV.stb.next A.out hbn) (IsV.stb.next B.out hbn))).mono ?_
  rw [decide_eq_true rfl]
  rintro e w26 ⟨rfl, hb⟩
  replace hb := zaa hbn hb
  clear hbn
  replace BB := Lib.hid (zaa BB.out hb)
  replace R2 := Lib.hid (IsM.stb.next R2.out hb)
  replace A := Lib.hid (IsV.stb.next A.out hb)
  replace B := Lib.hid (IsV.stb.next B.out hb)
  clear hb
  clear A B R2
  go_wp2_with fail
  refine (s3_l _).mono ?_
  rintro e w27 ⟨⟨vw27, rfl, h⟩, hb⟩
  replace BB := Lib.hid (zaa BB.out hb)
  have A := Lib.hid h
  clear h hb
  go_wp2_with fail
  refine (kechs A.out (Bru.next HB.out BB.out)).mono ?_
  rintro e w28 ⟨⟨vw28, xw28, rfl, h, h2⟩, hb⟩
  replace BB := Lib.hid (zaa BB.out hb)
  replace A := Lib.hid (IsM.stb.next A.out hb)
  have R1 := Lib.hid h
  have I1 := Lib.hid h2
  clear h h2 hb
  clear A
  go_wp2_with fail
  refine (s3_l _).mono ?_
  rintro e w29 ⟨⟨vw29, rfl, h⟩, hb⟩
  replace BB := Lib.hid (zaa BB.out hb)
  replace R1 := Lib.hid (IsM.stb.next R1.out hb)
  replace I1 := Lib.hid (IsIs.stb.to I1.out (zam hb))
  have A := Lib.hid h
  clear h hb
  go_wp2_with fail
  refine (kker A.out (Bru.next HB.out BB.out)).mono ?_
  rintro e w30 ⟨⟨vw30, rfl, h⟩, hb⟩
  replace BB := Lib.hid (zaa BB.out hb)
  replace R1 := Lib.hid (IsM.stb.next R1.out hb)
  replace I1 := Lib.hid (IsIs.stb.to I1.out (zam hb))
  replace A := Lib.hid (IsM.stb.next A.out hb)
  have R2 := Lib.hid h
  clear h hb
  clear A
  go_wp2_with fail
  refine (zbe (w := w30.alloc (.cells #[.int .i64 0, .int .i64 2, .int .i64 4] 3)) (l := [0, 2, 4]) (heap_alloc_new w30 _) (by decide) (by decide)).mono ?_
  rintro e w31 ⟨⟨vw31, rfl, h⟩, hb⟩
  have hb' := zaa (zal w30 _) hb
  replace BB := Lib.hid (zaa BB.out hb')
  replace R1 := Lib.hid (IsM.stb.next R1.out hb')
  replace I1 := Lib.hid (IsIs.stb.to I1.out (zam hb'))
  replace R2 := Lib.hid (IsM.stb.next R2.out hb')
  have A := Lib.hid (IsV.stb.old h)
  obtain ⟨Pw31, kw31, rfl, _⟩ := zav h
  clear h hb hb'
  go_wp2_with fail
  refine (zbe (w := w31.alloc (.cells #[.int .i64 0, .int .i64 0, .int .i64 0] 3)) (l := [0, 0, 0]) (heap_alloc_new w31 _) (by decide) (by decide)).mono ?_
  rintro e w32 ⟨⟨vw32, rfl, h⟩, hb⟩
  have hb' := zaa (zal w31 _) hb
  replace BB := Lib.hid (zaa BB.out hb')
  replace R1 := Lib.hid (IsM.stb.next R1.out hb')
  replace I1 := Lib.hid (IsIs.stb.to I1.out (zam hb'))
  replace R2 := Lib.hid (IsM.stb.next R2.out hb')
  replace A := Lib.hid (IsV.stb.next A.out hb')
  have B := Lib.hid (IsV.stb.old h)
  obtain ⟨Pw32, kw32, rfl, _⟩ := zav h
  clear h hb hb'
  go_wp2_with fail
  have hbn := zal w32 (.cells #[.slice Pw31 3 kw31, .slice Pw32 3 kw32] 29)
  refine (kechz (zdx (heap_alloc_new w32 (.cells #[.slice Pw31 3 kw31, .slice Pw32 3 kw32] 29)) (IsV.stb.next A.out hbn) (IsV.stb.next B.out hbn)) (Bru.next HB.out (zaa BB.out hbn))).mono ?_
  rintro e w33 ⟨⟨vw33, xw33, rfl, h, h2⟩, hb⟩
  replace hb := zaa hbn hb
  clear hbn
  replace BB := Lib.hid (zaa BB.out hb)
  replace R1 := Lib.hid (IsM.stb.next R1.out hb)
  replace I1 := Lib.hid (IsIs.stb.to I1.out (zam hb))
  replace R2 := Lib.hid (IsM.stb.next R2.out hb)
  replace A := Lib.hid (IsV.stb.next A.out hb)
  replace B := Lib.hid (IsV.stb.next B.out hb)
  have R3 := Lib.hid h
  have I3 := Lib.hid h2
  clear h h2 hb
  clear A B
  go_wp2_with fail
  refine (zbe (w := w33.alloc (.cells #[.int .i64 1, .int .i64 2] 3)) (l := [1, 2]) (heap_alloc_new w33 _) (by decide) (by decide)).mono ?_
  rintro e w34 ⟨⟨vw34, rfl, h⟩, hb⟩
  have hb' := zaa (zal w33 _) hb
  replace BB := Lib.hid (zaa BB.out hb')
  replace R1 := Lib.hid (IsM.stb.next R1.out hb')
  replace I1 := Lib.hid (IsIs.stb.to I1.out (zam hb'))
  replace R2 := Lib.hid (IsM.stb.next R2.out hb')
  replace R3 := Lib.hid (IsM.stb.next R3.out hb')
  replace I3 := Lib.hid (IsIs.stb.to I3.out (zam hb'))
  have A := Lib.hid (IsV.stb.old h)
  obtain ⟨Pw34, kw34, rfl, _⟩ := zav h
  clear h hb hb'
  go_wp2_with fail
  refine (zbe (w := w34.alloc (.cells #[.int .i64 0, .int .i64 0] 3)) (l := [0, 0]) (heap_alloc_new w34 _) (by decide) (by decide)).mono ?_
  rintro e w35 ⟨⟨vw35, rfl, h⟩, hb⟩
  have hb' := zaa (zal w34 _) hb
  replace BB := Lib.hid (zaa BB.out hb')
  replace R1 := Lib.hid (IsM.stb.next R1.out hb')
  replace I1 := Lib.hid (IsIs.stb.to I1.out (zam hb'))
  replace R2 := Lib.hid (IsM.stb.next R2.out hb')
  replace R3 := Lib.hid (IsM.stb.next R3.out hb')
  replace I3 := Lib.hid (IsIs.stb.to I3.out (zam hb'))
  replace A := Lib.hid (IsV.stb.next A.out hb')
  have B := Lib.hid (IsV.stb.old h)
  obtain ⟨Pw35, kw35, rfl, _⟩ := zav h
  clear h hb hb'
  go_wp2_with fail
  have hbn := zal w35 (.cells #[.slice Pw34 2 kw34, .slice Pw35 2 kw35] 29)
  refine (same_m (b := rawM [zas 1 [1, 2], zas 1 [0, 0]]) (IsM.stb.next R1.out hbn) (zdx (heap_alloc_new w35 (.cells #[.slice Pw34 2 kw34, .slice Pw35 2 kw35] 29)) (IsV.stb.next A.out hbn) (IsV.stb.next B.out hbn))).mono ?_
  rw [decide_eq_true rfl]
  rintro e w36 ⟨rfl, hb⟩
  replace hb := zaa hbn hb
  clear hbn
  replace BB := Lib.hid (zaa BB.out hb)
  replace R1 := Lib.hid (IsM.stb.next R1.out hb)
  replace I1 := Lib.hid (IsIs.stb.to I1.out (zam hb))
  replace R2 := Lib.hid (IsM.stb.next R2.out hb)
  replace R3 := Lib.hid (IsM.stb.next R3.out hb)
  replace I3 := Lib.hid (IsIs.stb.to I3.out (zam hb))
  replace A := Lib.hid (IsV.stb.next A.out hb)
  replace B := Lib.hid (IsV.stb.next B.out hb)
  clear hb
  clear A B R1
  go_wp2_with fail
  have hbn := zal w36 (.cells #[.int .i64 0] 3)
  refine (alike_i (IsIs.stb.to I1.out (zam hbn)) (isIs_row (l := [0]) (heap_alloc_new w36 (.cells #[.int .i64 0] 3)) rfl (by decide))).mono ?_
  rw [decide_eq_true rfl]
  rintro e w37 ⟨rfl, hb⟩
  replace hb := zaa hbn hb
  clear hbn
  replace BB := Lib.hid (zaa BB.out hb)
  replace I1 := Lib.hid (IsIs.stb.to I1.out (zam hb))
  replace R2 := Lib.hid (IsM.stb.next R2.out hb)
  replace R3 := Lib.hid (IsM.stb.next R3.out hb)
  replace I3 := Lib.hid (IsIs.stb.to I3.out (zam hb))
  clear hb
  clear I1
  go_wp2_with fail
  refine (zbe (w := w37.alloc (.cells #[.int .i64 (-2), .int .i64 1] 3)) (l := [-2, 1]) (heap_alloc_new w37 _) (by decide) (by decide)).mono ?_
  rintro e w38 ⟨⟨vw38, rfl, h⟩, hb⟩
  have hb' := zaa (zal w37 _) hb
  replace BB := Lib.hid (zaa BB.out hb')
  replace R2 := Lib.hid (IsM.stb.next R2.out hb')
  replace R3 := Lib.hid (IsM.stb.next R3.out hb')
  replace I3 := Lib.hid (IsIs.stb.to I3.out (zam hb'))
  have A := Lib.hid (IsV.stb.old h)
  obtain ⟨Pw38, kw38, rfl, _⟩ := zav h
  clear h hb hb'
  go_wp2_with fail
  have hbn := zal w38 (.cells #[.slice Pw38 2 kw38] 29)
  refine (same_m (b := rawM [zas 1 [-2, 1]]) (IsM.stb.next R2.out hbn) (isM_row1 (heap_alloc_new w38 (.cells #[.slice Pw38 2 kw38] 29)) (IsV.stb.next A.out hbn))).mono ?_
  rw [decide_eq_true rfl]
  rintro e w39 ⟨rfl, hb⟩
  replace hb := zaa hbn hb
  clear hbn
  replace BB := Lib.hid (zaa BB.out hb)
  replace R2 := Lib.hid (IsM.stb.next R2.out hb)
  replace R3 := Lib.hid (IsM.stb.next R3.out hb)
  replace I3 := Lib.hid (IsIs.stb.to I3.out (zam hb))
  replace A := Lib.hid (IsV.stb.next A.out hb)
  clear hb
  clear A R2
  go_wp2_with fail
  refine (zbe (w := w39.alloc (.cells #[.int .i64 0, .int .i64 1, .int .i64 2] 3)) (l := [0, 1, 2]) (heap_alloc_new w39 _) (by decide) (by decide)).mono ?_
  rintro e w40 ⟨⟨vw40, rfl, h⟩, hb⟩
  have hb' := zaa (zal w39 _) hb
  replace BB := Lib.hid (zaa BB.out hb')
  replace R3 := Lib.hid (IsM.stb.next R3.out hb')
  replace I3 := Lib.hid (IsIs.stb.to I3.out (zam hb'))
  have A := Lib.hid (IsV.stb.old h)
  obtain ⟨Pw40, kw40, rfl, _⟩ := zav h
  clear h hb hb'
  go_wp2_with fail
  refine (zbe (w := w40.alloc (.cells #[.int .i64 0, .int .i64 0, .int .i64 0] 3)) (l := [0, 0, 0]) (heap_alloc_new w40 _) (by decide) (by decide)).mono ?_
  rintro e w41 ⟨⟨vw41, rfl, h⟩, hb⟩
  have hb' := zaa (zal w40 _) hb
  replace BB := Lib.hid (zaa BB.out hb')
  replace R3 := Lib.hid (IsM.stb.next R3.out hb')
  replace I3 := Lib.hid (IsIs.stb.to I3.out (zam hb'))
  replace A := Lib.hid (IsV.stb.next A.out hb')
  have B := Lib.hid (IsV.stb.old h)
  obtain ⟨Pw41, kw41, rfl, _⟩ := zav h
  clear h hb hb'
  go_wp2_with fail
  have hbn := zal w41 (.cells #[.slice Pw40 3 kw40, .slice Pw41 3 kw41] 29)
  refine (same_m (b := rawM [zas 1 [0, 1, 2], zas 1 [0, 0, 0]]) (IsM.stb.next R3.out hbn) (zdx (heap_alloc_new w41 (.cells #[.slice Pw40 3 kw40, .slice Pw41 3 kw41] 29)) (IsV.stb.next A.out hbn) (IsV.stb.next B.out hbn))).mono ?_
  rw [decide_eq_true rfl]
  rintro e w42 ⟨rfl, hb⟩
  replace hb := zaa hbn hb
  clear hbn
  replace BB := Lib.hid (zaa BB.out hb)
  replace R3 := Lib.hid (IsM.stb.next R3.out hb)
  replace I3 := Lib.hid (IsIs.stb.to I3.out (zam hb))
  replace A := Lib.hid (IsV.stb.next A.out hb)
  replace B := Lib.hid (IsV.stb.next B.out hb)
  clear hb
  clear A B R3
  go_wp2_with fail
  have hbn := zal w42 (.cells #[.int .i64 1] 3)
  refine (alike_i (IsIs.stb.to I3.out (zam hbn)) (isIs_row (l := [1]) (heap_alloc_new w42 (.cells #[.int .i64 1] 3)) rfl (by decide))).mono ?_
  rw [decide_eq_true rfl]
  rintro e w43 ⟨rfl, hb⟩
  replace hb := zaa hbn hb
  clear hbn
  replace BB := Lib.hid (zaa BB.out hb)
  replace I3 := Lib.hid (IsIs.stb.to I3.out (zam hb))
  clear hb
  clear I3
  go_wp2_with fail
  refine (s3_l _).mono ?_
  rintro e w44 ⟨⟨vw44, rfl, h⟩, hb⟩
  replace BB := Lib.hid (zaa BB.out hb)
  have A := Lib.hid h
  clear h hb
  go_wp2_with fail
  refine (zbe (w := w44.alloc (.cells #[.int .i64 1, .int .i64 2] 3)) (l := [1, 2]) (heap_alloc_new w44 _) (by decide) (by decide)).mono ?_
  rintro e w45 ⟨⟨vw45, rfl, h⟩, hb⟩
  have hb' := zaa (zal w44 _) hb
  replace BB := Lib.hid (zaa BB.out hb')
  replace A := Lib.hid (IsM.stb.next A.out hb')
  have B := Lib.hid (IsV.stb.old h)
  obtain ⟨Pw45, kw45, rfl, _⟩ := zav h
  clear h hb hb'
  go_wp2_with fail
  refine (ksol A.out B.out (Bru.next HB.out BB.out)).mono ?_
  rintro e w46 ⟨⟨vw46, rfl, h⟩, hb⟩
  replace BB := Lib.hid (zaa BB.out hb)
  replace A := Lib.hid (IsM.stb.next A.out hb)
  replace B := Lib.hid (IsV.stb.next B.out hb)
  have R1 := Lib.hid h
  clear h hb
  clear A B
  go_wp2_with fail
  refine (s3_l _).mono ?_
  rintro e w47 ⟨⟨vw47, rfl, h⟩, hb⟩
  replace BB := Lib.hid (zaa BB.out hb)
  replace R1 := Lib.hid (IsV.stb.next R1.out hb)
  have A := Lib.hid h
  clear h hb
  go_wp2_with fail
  refine (zbe (w := w47.alloc (.cells #[.int .i64 1, .int .i64 1] 3)) (l := [1, 1]) (heap_alloc_new w47 _) (by decide) (by decide)).mono ?_
  rintro e w48 ⟨⟨vw48, rfl, h⟩, hb⟩
  have hb' := zaa (zal w47 _) hb
  replace BB := Lib.hid (zaa BB.out hb')
  replace R1 := Lib.hid (IsV.stb.next R1.out hb')
  replace A := Lib.hid (IsM.stb.next A.out hb')
  have B := Lib.hid (IsV.stb.old h)
  obtain ⟨Pw48, kw48, rfl, _⟩ := zav h
  clear h hb hb'
  go_wp2_with fail
  refine (knone A.out B.out (Bru.next HB.out BB.out)).mono ?_
  rintro e w49 ⟨rfl, hb⟩
  replace BB := Lib.hid (zaa BB.out hb)
  replace R1 := Lib.hid (IsV.stb.next R1.out hb)
  replace A := Lib.hid (IsM.stb.next A.out hb)
  replace B := Lib.hid (IsV.stb.next B.out hb)
  clear hb
  clear A B
  go_wp2_with fail
  refine (s3_l _).mono ?_
  rintro e w50 ⟨⟨vw50, rfl, h⟩, hb⟩
  replace BB := Lib.hid (zaa BB.out hb)
  replace R1 := Lib.hid (IsV.stb.next R1.out hb)
  have A := Lib.hid h
  clear h hb
  go_wp2_with fail
  refine (ksing A.out (Bru.next HB.out BB.out)).mono ?_
  rintro e w51 ⟨rfl, hb⟩
  replace BB := Lib.hid (zaa BB.out hb)
  replace R1 := Lib.hid (IsV.stb.next R1.out hb)
  replace A := Lib.hid (IsM.stb.next A.out hb)
  clear hb
  clear A
  go_wp2_with fail
  refine (zbe (w := w51.alloc (.cells #[.int .i64 1, .int .i64 2] 3)) (l := [1, 2]) (heap_alloc_new w51 _) (by decide) (by decide)).mono ?_
  rintro e w52 ⟨⟨vw52, rfl, h⟩, hb⟩
  have hb' := zaa (zal w51 _) hb
  replace BB := Lib.hid (zaa BB.out hb')
  replace R1 := Lib.hid (IsV.stb.next R1.out hb')
  have A := Lib.hid (IsV.stb.old h)
  obtain ⟨Pw52, kw52, rfl, _⟩ := zav h
  clear h hb hb'
  go_wp2_with fail
  refine (zbe (w := w52.alloc (.cells #[.int .i64 1] 3)) (l := [1]) (heap_alloc_new w52 _) (by decide) (by decide)).mono ?_
  rintro e w53 ⟨⟨vw53, rfl, h⟩, hb⟩
  have hb' := zaa (zal w52 _) hb
  replace BB := Lib.hid (zaa BB.out hb')
  replace R1 := Lib.hid (IsV.stb.next R1.out hb')
  replace A := Lib.hid (IsV.stb.next A.out hb')
  have B := Lib.hid (IsV.stb.old h)
  obtain ⟨Pw53, kw53, rfl, _⟩ := zav h
  clear h hb hb'
  go_wp2_with fail
  refine (kdot A.out B.out (Bru.next HB.out BB.out)).mono ?_
  rintro e w54 ⟨rfl, hb⟩
  replace BB := Lib.hid (zaa BB.out hb)
  replace R1 := Lib.hid (IsV.stb.next R1.out hb)
  replace A := Lib.hid (IsV.stb.next A.out hb)
  replace B := Lib.hid (IsV.stb.next B.out hb)
  clear hb
  clear A B
  obtain ⟨wG, hwG, hbG, rG, _⟩ := zbv w54 #[.bool false, .slice none 0 0, .slice none 0 0] 50
  obtain ⟨c0, c1, c2⟩ := zad rG
  obtain ⟨f0, f1, f2⟩ := zax rG
  have hb : Below w54.heap.size w54 (((wG.setCell ⟨w54.heap.size, 0, none⟩ (.bool false)).setCell ⟨w54.heap.size, 1, none⟩ (.slice none 0 0)).setCell ⟨w54.heap.size, 2, none⟩ (.slice none 0 0)) := zbz hbG (Nat.le_refl _) _ _ _
  obtain ⟨w55, hw⟩ : ∃ x, x = ((wG.setCell ⟨w54.heap.size, 0, none⟩ (.bool false)).setCell ⟨w54.heap.size, 1, none⟩ (.slice none 0 0)).setCell ⟨w54.heap.size, 2, none⟩ (.slice none 0 0) := ⟨_, rfl⟩
  have Hsz : Hid (w55.heap.size = wG.heap.size) := by rw [Hid, hw]; simp [World.setCell]
  rw [← hw] at hb
  have Hw := Lib.hid hw
  clear hw
  replace BB := Lib.hid (zaa BB.out hb)
  replace R1 := Lib.hid (IsV.stb.next R1.out hb)
  clear hbG rG hb
  go_wp2_with fail
  rw [← Hw.out, ← Hsz.out]
  clear hwG c0 c1 c2 f0 f1 f2 Hw Hsz
  refine (zbe (w := w55.alloc (.cells #[.int .i64 1, .int .i64 0] 3)) (l := [1, 0]) (heap_alloc_new w55 _) (by decide) (by decide)).mono ?_
  rintro e w56 ⟨⟨vw56, rfl, h⟩, hb⟩
  have hb' := zaa (zal w55 _) hb
  replace BB := Lib.hid (zaa BB.out hb')
  replace R1 := Lib.hid (IsV.stb.next R1.out hb')
  have A := Lib.hid (IsV.stb.old h)
  obtain ⟨Pw56, kw56, rfl, _⟩ := zav h
  clear h hb hb'
  go_wp2_with fail
  refine (same_v R1.out A.out).mono ?_
  rw [decide_eq_true rfl]
  rintro e w57 ⟨rfl, hb⟩
  replace BB := Lib.hid (zaa BB.out hb)
  replace R1 := Lib.hid (IsV.stb.next R1.out hb)
  replace A := Lib.hid (IsV.stb.next A.out hb)
  clear hb
  clear R1 A
  go_wp2_with fail
  refine (zbe (w := w57.alloc (.cells #[.int .i64 1, .int .i64 2] 3)) (l := [1, 2]) (heap_alloc_new w57 _) (by decide) (by decide)).mono ?_
  rintro e w58 ⟨⟨vw58, rfl, h⟩, hb⟩
  have hb' := zaa (zal w57 _) hb
  replace BB := Lib.hid (zaa BB.out hb')
  have A := Lib.hid (IsV.stb.old h)
  obtain ⟨Pw58, kw58, rfl, _⟩ := zav h
  clear h hb hb'
  go_wp2_with fail
  refine (zbe (w := w58.alloc (.cells #[.int .i64 1] 3)) (l := [1]) (heap_alloc_new w58 _) (by decide) (by decide)).mono ?_
  rintro e w59 ⟨⟨vw59, rfl, h⟩, hb⟩
  have hb' := zaa (zal w58 _) hb
  replace BB := Lib.hid (zaa BB.out hb')
  replace A := Lib.hid (IsV.stb.next A.out hb')
  have B := Lib.hid (IsV.stb.old h)
  obtain ⟨Pw59, kw59, rfl, _⟩ := zav h
  clear h hb hb'
  go_wp2_with fail
  have hbn := zal w59 (.cells #[.slice Pw58 2 kw58, .slice Pw59 1 kw59] 29)
  refine (kform (zdx (heap_alloc_new w59 (.cells #[.slice Pw58 2 kw58, .slice Pw59 1 kw59] 29)) (IsV.stb.next A.out hbn) (IsV.stb.next B.out hbn)) (Bru.next HB.out (zaa BB.out hbn))).mono ?_
  rintro e w60 ⟨rfl, hb⟩
  replace hb := zaa hbn hb
  clear hbn
  replace BB := Lib.hid (zaa BB.out hb)
  replace A := Lib.hid (IsV.stb.next A.out hb)
  replace B := Lib.hid (IsV.stb.next B.out hb)
  clear hb
  clear A B
  go_wp2_with fail
  refine (awake3_l (Bru.next HB.out BB.out)).mono ?_
  rintro e wz ⟨rfl, hb⟩
  go_wp2_with fail
  go_ret
  exact ⟨rfl, zaa BB.out hb⟩
end Go.Proofs.YtblpaocignlpkaaDoor
