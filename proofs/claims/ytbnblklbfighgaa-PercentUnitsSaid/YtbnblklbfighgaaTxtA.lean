/-
  What the functions of chapter 4 come to, step by step.
-/
import Derived.Test.YtbnblklbfighgaaTabA
import Derived.Test.YtbnblklbfighgaaProg
set_option linter.unusedVariables false
set_option linter.unusedSimpArgs false
set_option linter.unusedSectionVars false
set_option linter.unnecessarySimpa false
namespace R1
open Go Go.Proofs Sx
noncomputable def body3 : Code := (Try.f3.body).getD .skip
noncomputable def K3_2 : List Item := (kAt 2 body3 []).getD []
def S3_2 (t1 : AV) : St := St.ofL [(1, .cell (.val (t1)))] []
noncomputable def F3_2 (run : List Item → St → Option AV) (t1 : AV) : Option AV := run K3_2 (S3_2 t1)
noncomputable def X3 (call : Nat → List AV → Option AV) (run : List Item → St → Option AV)  : Option AV :=
  F3_2 run (.int 0)
theorem text3 (call : Nat → List AV → Option AV) (run : List Item → St → Option AV)  : unr C call run 3 Try.f3 400 [.code body3] (initSt []) = X3 call run  := by
  kernel_rfl
theorem c3  {r : AV} (h : X3 (semCall C Try.prog) (semRun C Try.prog 3 Try.f3)  = some r) : semCall C Try.prog 3 [] = some r :=
  semCall_unr (fn := Try.f3) (c := body3) (by kernel_rfl) (by kernel_rfl) 400 (by kernel_rfl) ((text3 _ _ ).trans h)
noncomputable def X3_2 (call : Nat → List AV → Option AV) (run : List Item → St → Option AV) (t1 : AV) : Option AV :=
  (binI .lss (t1) (.int 256)).bind fun v1 => condM (v1)
  ((conv .u8 (t1)).bind fun v2 => (conv .u8 (t1)).bind fun v3 => (call 12 [v2]).bind fun v4 => (b2s (v4)).bind fun v5 => (call 13 [v3]).bind fun v6 => (binS .neq (v5) (v6)).bind fun v7 => (selW (v7) false ((conv .u8 (t1)).bind fun v8 => (conv .u8 (t1)).bind fun v9 => (call 14 [v8]).bind fun v10 => (b2s (v10)).bind fun v11 => (call 15 [v9]).bind fun v12 => (binS .neq (v11) (v12)).bind fun v13 => some (v13)) (.b true)).bind fun v14 => condM (v14)
  (some (.b false))
  ((binI .add (t1) (.int 1)).bind fun v15 => F3_2 run (v15)))
  ((call 16 []).bind fun v16 => some (v16))
theorem text3_2 (call : Nat → List AV → Option AV) (run : List Item → St → Option AV) (t1 : AV) : step C call 3 Try.f3 (unr C call run 3 Try.f3 400) K3_2 (S3_2 t1) = X3_2 call run t1 := by
  kernel_rfl
theorem r3_2 (t1 : AV) {r : AV} (h : X3_2 (semCall C Try.prog) (semRun C Try.prog 3 Try.f3) t1 = some r) : F3_2 (semRun C Try.prog 3 Try.f3) t1 = some r :=
  semRun_unr 400 ((text3_2 _ _ t1).trans h)
end R1

namespace R1
open Go Go.Proofs Sx
noncomputable def body4 : Code := (Try.f4.body).getD .skip
noncomputable def X4 (call : Nat → List AV → Option AV) (run : List Item → St → Option AV) (x0 : AV) : Option AV :=
  (call 16 []).bind fun v1 => (selW (v1) true ((call 17 [x0]).bind fun v2 => (b2s (v2)).bind fun v3 => (call 18 [x0]).bind fun v4 => (binS .eql (v3) (v4)).bind fun v5 => some (v5)) (.b false)).bind fun v6 => (selW (v6) true ((call 19 [x0]).bind fun v7 => (b2s (v7)).bind fun v8 => (call 20 [x0]).bind fun v9 => (binS .eql (v8) (v9)).bind fun v10 => some (v10)) (.b false)).bind fun v11 => some (v11)
theorem text4 (call : Nat → List AV → Option AV) (run : List Item → St → Option AV) (x0 : AV) : unr C call run 4 Try.f4 400 [.code body4] (initSt [x0]) = X4 call run x0 := by
  kernel_rfl
theorem c4 (x0 : AV) {r : AV} (h : X4 (semCall C Try.prog) (semRun C Try.prog 4 Try.f4) x0 = some r) : semCall C Try.prog 4 [x0] = some r :=
  semCall_unr (fn := Try.f4) (c := body4) (by kernel_rfl) (by kernel_rfl) 400 (by kernel_rfl) ((text4 _ _ x0).trans h)
end R1

namespace R1
open Go Go.Proofs Sx
noncomputable def body5 : Code := (Try.f5.body).getD .skip
noncomputable def K5_6 : List Item := (kAt 6 body5 []).getD []
def S5_6 (t0 : AV) (t3 : AV) (t4 : List AV) (t5 : AV) : St := St.ofL [(0, .cell (.val (t0))), (3, .cell (.val (t3))), (4, .cell (.own 300004 5 1 t4)), (5, .cell (.val (t5)))] []
noncomputable def F5_6 (run : List Item → St → Option AV) (t0 : AV) (t3 : AV) (t4 : List AV) (t5 : AV) : Option AV := run K5_6 (S5_6 t0 t3 t4 t5)
noncomputable def K5_18 : List Item := (kAt 18 body5 []).getD []
def S5_18 (t6 : AV) (t7 : AV) : St := St.ofL [(6, .cell (.val (t6))), (7, .cell (.val (t7)))] []
noncomputable def F5_18 (run : List Item → St → Option AV) (t6 : AV) (t7 : AV) : Option AV := run K5_18 (S5_18 t6 t7)
noncomputable def X5 (call : Nat → List AV → Option AV) (run : List Item → St → Option AV) (x0 : AV) : Option AV :=
  (call 16 []).bind fun v1 => (unop .not (v1)).bind fun v2 => condM (v2)
  (some (.b false))
  ((call 17 [x0]).bind fun v3 => F5_6 run (x0) (v3) [] (.int 0))
theorem text5 (call : Nat → List AV → Option AV) (run : List Item → St → Option AV) (x0 : AV) : unr C call run 5 Try.f5 400 [.code body5] (initSt [x0]) = X5 call run x0 := by
  kernel_rfl
theorem c5 (x0 : AV) {r : AV} (h : X5 (semCall C Try.prog) (semRun C Try.prog 5 Try.f5) x0 = some r) : semCall C Try.prog 5 [x0] = some r :=
  semCall_unr (fn := Try.f5) (c := body5) (by kernel_rfl) (by kernel_rfl) 400 (by kernel_rfl) ((text5 _ _ x0).trans h)
noncomputable def X5_6 (call : Nat → List AV → Option AV) (run : List Item → St → Option AV) (t0 : AV) (t3 : AV) (t4 : List AV) (t5 : AV) : Option AV :=
  (lenR (t3)).bind fun v1 => (binI .lss (t5) (v1)).bind fun v2 => condM (v2)
  ((idx 1 (t3) (t5)).bind fun v3 => (binI .neq (AV.cell (v3) 0) (.u8 37)).bind fun v4 => condM (v4)
  ((idx 1 (t3) (t5)).bind fun v5 => (AV.one (AV.cell (v5) 0)).bind fun v6 => (app 1 1 t4 (.ro 1 (([v6] : List AV)))).bind fun v7 => (binI .add (t5) (.int 1)).bind fun v8 => F5_6 run (t0) (t3) v7 (v8))
  ((lenR (t3)).bind fun v9 => (binI .sub (v9) (t5)).bind fun v10 => (binI .lss (v10) (.int 3)).bind fun v11 => (selW (v11) false ((binI .add (t5) (.int 1)).bind fun v12 => (idx 1 (t3) (v12)).bind fun v13 => (call 21 [AV.cell (v13) 0]).bind fun v14 => (binI .lss (v14) (.int 0)).bind fun v15 => some (v15)) (.b true)).bind fun v16 => (selW (v16) false ((binI .add (t5) (.int 2)).bind fun v17 => (idx 1 (t3) (v17)).bind fun v18 => (call 21 [AV.cell (v18) 0]).bind fun v19 => (binI .lss (v19) (.int 0)).bind fun v20 => some (v20)) (.b true)).bind fun v21 => condM (v21)
  (some (.b false))
  ((binI .add (t5) (.int 1)).bind fun v22 => (idx 1 (t3) (v22)).bind fun v23 => (binI .add (t5) (.int 2)).bind fun v24 => (idx 1 (t3) (v24)).bind fun v25 => (call 21 [AV.cell (v23) 0]).bind fun v26 => (binI .mul (v26) (.int 16)).bind fun v27 => (call 21 [AV.cell (v25) 0]).bind fun v28 => (binI .add (v27) (v28)).bind fun v29 => (conv .u8 (v29)).bind fun v30 => (AV.one (v30)).bind fun v31 => (app 1 1 t4 (.ro 1 (([v31] : List AV)))).bind fun v32 => (binI .add (t5) (.int 3)).bind fun v33 => F5_6 run (t0) (t3) v32 (v33))))
  ((b2s (.ro 1 t4)).bind fun v34 => (b2s (t0)).bind fun v35 => (binS .neq (v34) (v35)).bind fun v36 => condM (v36)
  (some (.b false))
  ((call 19 [t0]).bind fun v37 => F5_18 run (v37) (.int 0)))
theorem text5_6 (call : Nat → List AV → Option AV) (run : List Item → St → Option AV) (t0 : AV) (t3 : AV) (t4 : List AV) (t5 : AV) : step C call 5 Try.f5 (unr C call run 5 Try.f5 400) K5_6 (S5_6 t0 t3 t4 t5) = X5_6 call run t0 t3 t4 t5 := by
  kernel_rfl
noncomputable def X5_18 (call : Nat → List AV → Option AV) (run : List Item → St → Option AV) (t6 : AV) (t7 : AV) : Option AV :=
  (lenR (t6)).bind fun v1 => (binI .lss (t7) (v1)).bind fun v2 => condM (v2)
  ((idx 1 (t6) (t7)).bind fun v3 => (binI .leq (AV.cell (v3) 0) (.u8 32)).bind fun v4 => (selW (v4) false ((idx 1 (t6) (t7)).bind fun v5 => (binI .gtr (AV.cell (v5) 0) (.u8 126)).bind fun v6 => some (v6)) (.b true)).bind fun v7 => (selW (v7) false ((idx 1 (t6) (t7)).bind fun v8 => (binI .eql (AV.cell (v8) 0) (.u8 34)).bind fun v9 => some (v9)) (.b true)).bind fun v10 => (selW (v10) false ((idx 1 (t6) (t7)).bind fun v11 => (binI .eql (AV.cell (v11) 0) (.u8 39)).bind fun v12 => some (v12)) (.b true)).bind fun v13 => (selW (v13) false ((idx 1 (t6) (t7)).bind fun v14 => (binI .eql (AV.cell (v14) 0) (.u8 60)).bind fun v15 => some (v15)) (.b true)).bind fun v16 => (selW (v16) false ((idx 1 (t6) (t7)).bind fun v17 => (binI .eql (AV.cell (v17) 0) (.u8 62)).bind fun v18 => some (v18)) (.b true)).bind fun v19 => (selW (v19) false ((idx 1 (t6) (t7)).bind fun v20 => (binI .eql (AV.cell (v20) 0) (.u8 92)).bind fun v21 => some (v21)) (.b true)).bind fun v22 => (selW (v22) false ((idx 1 (t6) (t7)).bind fun v23 => (binI .eql (AV.cell (v23) 0) (.u8 96)).bind fun v24 => some (v24)) (.b true)).bind fun v25 => condM (v25)
  (some (.b false))
  ((binI .add (t7) (.int 1)).bind fun v26 => F5_18 run (t6) (v26)))
  (some (.b true))
theorem text5_18 (call : Nat → List AV → Option AV) (run : List Item → St → Option AV) (t6 : AV) (t7 : AV) : step C call 5 Try.f5 (unr C call run 5 Try.f5 400) K5_18 (S5_18 t6 t7) = X5_18 call run t6 t7 := by
  kernel_rfl
theorem r5_6 (t0 : AV) (t3 : AV) (t4 : List AV) (t5 : AV) {r : AV} (h : X5_6 (semCall C Try.prog) (semRun C Try.prog 5 Try.f5) t0 t3 t4 t5 = some r) : F5_6 (semRun C Try.prog 5 Try.f5) t0 t3 t4 t5 = some r :=
  semRun_unr 400 ((text5_6 _ _ t0 t3 t4 t5).trans h)
theorem r5_18 (t6 : AV) (t7 : AV) {r : AV} (h : X5_18 (semCall C Try.prog) (semRun C Try.prog 5 Try.f5) t6 t7 = some r) : F5_18 (semRun C Try.prog 5 Try.f5) t6 t7 = some r :=
  semRun_unr 400 ((text5_18 _ _ t6 t7).trans h)
end R1

namespace R1
open Go Go.Proofs Sx
noncomputable def body6 : Code := (Try.f6.body).getD .skip
noncomputable def X6 (call : Nat → List AV → Option AV) (run : List Item → St → Option AV) (x0 : AV) (x1 : AV) : Option AV :=
  (call 16 []).bind fun v1 => (unop .not (v1)).bind fun v2 => condM (v2)
  (some (.b false))
  ((conv .i64 (x1)).bind fun v3 => (lenR (x0)).bind fun v4 => (binI .add (v4) (.int 1)).bind fun v5 => (binI .rem (v3) (v5)).bind fun v6 => (call 19 [x0]).bind fun v7 => (b2s (v7)).bind fun v8 => (call 19 [v7]).bind fun v9 => (b2s (v9)).bind fun v10 => (binS .eql (v10) (v8)).bind fun v11 => (selW (v11) true ((slR 1 (x0) none (some (v6))).bind fun v12 => (slR 1 (x0) (some (v6)) none).bind fun v13 => (b2s (v7)).bind fun v14 => (call 19 [v12]).bind fun v15 => (b2s (v15)).bind fun v16 => (call 19 [v13]).bind fun v17 => (b2s (v17)).bind fun v18 => (binS .add (v16) (v18)).bind fun v19 => (binS .eql (v19) (v14)).bind fun v20 => some (v20)) (.b false)).bind fun v21 => (selW (v21) true ((slR 1 (x0) none (some (v6))).bind fun v22 => (slR 1 (x0) (some (v6)) none).bind fun v23 => (call 17 [v22]).bind fun v24 => (b2s (v24)).bind fun v25 => (call 17 [v23]).bind fun v26 => (b2s (v26)).bind fun v27 => (binS .add (v25) (v27)).bind fun v28 => (call 17 [x0]).bind fun v29 => (b2s (v29)).bind fun v30 => (binS .eql (v28) (v30)).bind fun v31 => some (v31)) (.b false)).bind fun v32 => some (v32))
theorem text6 (call : Nat → List AV → Option AV) (run : List Item → St → Option AV) (x0 : AV) (x1 : AV) : unr C call run 6 Try.f6 400 [.code body6] (initSt [x0, x1]) = X6 call run x0 x1 := by
  kernel_rfl
theorem c6 (x0 : AV) (x1 : AV) {r : AV} (h : X6 (semCall C Try.prog) (semRun C Try.prog 6 Try.f6) x0 x1 = some r) : semCall C Try.prog 6 [x0, x1] = some r :=
  semCall_unr (fn := Try.f6) (c := body6) (by kernel_rfl) (by kernel_rfl) 400 (by kernel_rfl) ((text6 _ _ x0 x1).trans h)
end R1

namespace R1
open Go Go.Proofs Sx
noncomputable def body12 : Code := (Try.f12.body).getD .skip
noncomputable def X12 (call : Nat → List AV → Option AV) (run : List Item → St → Option AV) (x0 : AV) : Option AV :=
  (call 38 [x0]).bind fun v1 => condM (v1)
  ((AV.one (x0)).bind fun v2 => some (.ro 1 (([v2] : List AV))))
  ((binI .shr (x0) (.ik .u64 4)).bind fun v3 => (idxS (.s [48, 49, 50, 51, 52, 53, 54, 55, 56, 57, 65, 66, 67, 68, 69, 70]) (v3)).bind fun v4 => (binI .and (x0) (.u8 15)).bind fun v5 => (idxS (.s [48, 49, 50, 51, 52, 53, 54, 55, 56, 57, 65, 66, 67, 68, 69, 70]) (v5)).bind fun v6 => (AV.one (v4)).bind fun v7 => (AV.one (v6)).bind fun v8 => some (.ro 1 (([.u8 37, v7, v8] : List AV))))
theorem text12 (call : Nat → List AV → Option AV) (run : List Item → St → Option AV) (x0 : AV) : unr C call run 12 Try.f12 400 [.code body12] (initSt [x0]) = X12 call run x0 := by
  kernel_rfl
theorem c12 (x0 : AV) {r : AV} (h : X12 (semCall C Try.prog) (semRun C Try.prog 12 Try.f12) x0 = some r) : semCall C Try.prog 12 [x0] = some r :=
  semCall_unr (fn := Try.f12) (c := body12) (by kernel_rfl) (by kernel_rfl) 400 (by kernel_rfl) ((text12 _ _ x0).trans h)
end R1

namespace R1
open Go Go.Proofs Sx
noncomputable def body13 : Code := (Try.f13.body).getD .skip
noncomputable def X13 (call : Nat → List AV → Option AV) (run : List Item → St → Option AV) (x0 : AV) : Option AV :=
  (call 39 [x0, .s [97, 98, 99, 100, 101, 102, 103, 104, 105, 106, 107, 108, 109, 110, 111, 112, 113, 114, 115, 116, 117, 118, 119, 120, 121, 122, 65, 66, 67, 68, 69, 70, 71, 72, 73, 74, 75, 76, 77, 78, 79, 80, 81, 82, 83, 84, 85, 86, 87, 88, 89, 90, 48, 49, 50, 51, 52, 53, 54, 55, 56, 57, 45, 46, 95, 126]]).bind fun v1 => condM (v1)
  ((AV.one (x0)).bind fun v2 => (b2s (.ro 1 (([v2] : List AV)))).bind fun v3 => some (v3))
  ((binI .quo (x0) (.u8 16)).bind fun v4 => (idxS (.s [48, 49, 50, 51, 52, 53, 54, 55, 56, 57, 65, 66, 67, 68, 69, 70]) (v4)).bind fun v5 => (binI .rem (x0) (.u8 16)).bind fun v6 => (idxS (.s [48, 49, 50, 51, 52, 53, 54, 55, 56, 57, 65, 66, 67, 68, 69, 70]) (v6)).bind fun v7 => (AV.one (v5)).bind fun v8 => (AV.one (v7)).bind fun v9 => (b2s (.ro 1 (([.u8 37, v8, v9] : List AV)))).bind fun v10 => some (v10))
theorem text13 (call : Nat → List AV → Option AV) (run : List Item → St → Option AV) (x0 : AV) : unr C call run 13 Try.f13 400 [.code body13] (initSt [x0]) = X13 call run x0 := by
  kernel_rfl
theorem c13 (x0 : AV) {r : AV} (h : X13 (semCall C Try.prog) (semRun C Try.prog 13 Try.f13) x0 = some r) : semCall C Try.prog 13 [x0] = some r :=
  semCall_unr (fn := Try.f13) (c := body13) (by kernel_rfl) (by kernel_rfl) 400 (by kernel_rfl) ((text13 _ _ x0).trans h)
end R1

namespace R1
open Go Go.Proofs Sx
noncomputable def body14 : Code := (Try.f14.body).getD .skip
noncomputable def X14 (call : Nat → List AV → Option AV) (run : List Item → St → Option AV) (x0 : AV) : Option AV :=
  (binI .neq (x0) (.u8 0)).bind fun v1 => (selW (v1) true ((call 40 [.s [33, 35, 36, 38, 40, 41, 42, 43, 44, 47, 58, 59, 61, 63, 64, 91, 93, 37], x0]).bind fun v2 => (binI .geq (v2) (.int 0)).bind fun v3 => some (v3)) (.b false)).bind fun v4 => condM (v4)
  ((AV.one (x0)).bind fun v5 => some (.ro 1 (([v5] : List AV))))
  ((call 12 [x0]).bind fun v6 => some (v6))
theorem text14 (call : Nat → List AV → Option AV) (run : List Item → St → Option AV) (x0 : AV) : unr C call run 14 Try.f14 400 [.code body14] (initSt [x0]) = X14 call run x0 := by
  kernel_rfl
theorem c14 (x0 : AV) {r : AV} (h : X14 (semCall C Try.prog) (semRun C Try.prog 14 Try.f14) x0 = some r) : semCall C Try.prog 14 [x0] = some r :=
  semCall_unr (fn := Try.f14) (c := body14) (by kernel_rfl) (by kernel_rfl) 400 (by kernel_rfl) ((text14 _ _ x0).trans h)
end R1

namespace R1
open Go Go.Proofs Sx
noncomputable def body15 : Code := (Try.f15.body).getD .skip
noncomputable def X15 (call : Nat → List AV → Option AV) (run : List Item → St → Option AV) (x0 : AV) : Option AV :=
  (call 39 [x0, .s [33, 35, 36, 38, 40, 41, 42, 43, 44, 47, 58, 59, 61, 63, 64, 91, 93, 37]]).bind fun v1 => condM (v1)
  ((AV.one (x0)).bind fun v2 => (b2s (.ro 1 (([v2] : List AV)))).bind fun v3 => some (v3))
  ((call 13 [x0]).bind fun v4 => some (v4))
theorem text15 (call : Nat → List AV → Option AV) (run : List Item → St → Option AV) (x0 : AV) : unr C call run 15 Try.f15 400 [.code body15] (initSt [x0]) = X15 call run x0 := by
  kernel_rfl
theorem c15 (x0 : AV) {r : AV} (h : X15 (semCall C Try.prog) (semRun C Try.prog 15 Try.f15) x0 = some r) : semCall C Try.prog 15 [x0] = some r :=
  semCall_unr (fn := Try.f15) (c := body15) (by kernel_rfl) (by kernel_rfl) 400 (by kernel_rfl) ((text15 _ _ x0).trans h)
end R1

namespace R1
open Go Go.Proofs Sx
noncomputable def body16 : Code := (Try.f16.body).getD .skip
noncomputable def X16 (call : Nat → List AV → Option AV) (run : List Item → St → Option AV)  : Option AV :=
  (call 17 [.ro 1 (([.u8 32] : List AV))]).bind fun v1 => (b2s (v1)).bind fun v2 => (binS .eql (v2) (.s [37, 50, 48])).bind fun v3 => some (v3)
theorem text16 (call : Nat → List AV → Option AV) (run : List Item → St → Option AV)  : unr C call run 16 Try.f16 400 [.code body16] (initSt []) = X16 call run  := by
  kernel_rfl
theorem c16  {r : AV} (h : X16 (semCall C Try.prog) (semRun C Try.prog 16 Try.f16)  = some r) : semCall C Try.prog 16 [] = some r :=
  semCall_unr (fn := Try.f16) (c := body16) (by kernel_rfl) (by kernel_rfl) 400 (by kernel_rfl) ((text16 _ _ ).trans h)
end R1

namespace R1
open Go Go.Proofs Sx
noncomputable def body17 : Code := (Try.f17.body).getD .skip
noncomputable def K17_3 : List Item := (kAt 3 body17 []).getD []
def S17_3 (t3 : List AV) (t6 : AV) (t7 : AV) (t8 : AV) : St := St.ofL [(3, .cell (.own 300003 5 1 t3)), (6, .cell (.val (t6))), (7, .cell (.val (t7))), (8, .cell (.val (t8)))] []
noncomputable def F17_3 (run : List Item → St → Option AV) (t3 : List AV) (t6 : AV) (t7 : AV) (t8 : AV) : Option AV := run K17_3 (S17_3 t3 t6 t7 t8)
noncomputable def X17 (call : Nat → List AV → Option AV) (run : List Item → St → Option AV) (x0 : AV) : Option AV :=
  (lenR (x0)).bind fun v1 => F17_3 run [] (x0) (v1) (.int 0)
theorem text17 (call : Nat → List AV → Option AV) (run : List Item → St → Option AV) (x0 : AV) : unr C call run 17 Try.f17 400 [.code body17] (initSt [x0]) = X17 call run x0 := by
  kernel_rfl
theorem c17 (x0 : AV) {r : AV} (h : X17 (semCall C Try.prog) (semRun C Try.prog 17 Try.f17) x0 = some r) : semCall C Try.prog 17 [x0] = some r :=
  semCall_unr (fn := Try.f17) (c := body17) (by kernel_rfl) (by kernel_rfl) 400 (by kernel_rfl) ((text17 _ _ x0).trans h)
noncomputable def X17_3 (call : Nat → List AV → Option AV) (run : List Item → St → Option AV) (t3 : List AV) (t6 : AV) (t7 : AV) (t8 : AV) : Option AV :=
  (binI .lss (t8) (t7)).bind fun v1 => condM (v1)
  ((idx 1 (t6) (t8)).bind fun v2 => (call 12 [AV.cell (v2) 0]).bind fun v3 => (app 1 1 t3 (v3)).bind fun v4 => (binI .add (t8) (.int 1)).bind fun v5 => F17_3 run v4 (t6) (t7) (v5))
  (some (.ro 1 t3))
theorem text17_3 (call : Nat → List AV → Option AV) (run : List Item → St → Option AV) (t3 : List AV) (t6 : AV) (t7 : AV) (t8 : AV) : step C call 17 Try.f17 (unr C call run 17 Try.f17 400) K17_3 (S17_3 t3 t6 t7 t8) = X17_3 call run t3 t6 t7 t8 := by
  kernel_rfl
theorem r17_3 (t3 : List AV) (t6 : AV) (t7 : AV) (t8 : AV) {r : AV} (h : X17_3 (semCall C Try.prog) (semRun C Try.prog 17 Try.f17) t3 t6 t7 t8 = some r) : F17_3 (semRun C Try.prog 17 Try.f17) t3 t6 t7 t8 = some r :=
  semRun_unr 400 ((text17_3 _ _ t3 t6 t7 t8).trans h)
end R1

namespace R1
open Go Go.Proofs Sx
noncomputable def body18 : Code := (Try.f18.body).getD .skip
noncomputable def K18_3 : List Item := (kAt 3 body18 []).getD []
def S18_3 (t0 : AV) (t3 : List AV) (t4 : AV) : St := St.ofL [(0, .cell (.val (t0))), (3, .cell (.own 300003 5 1 t3)), (4, .cell (.val (t4)))] []
noncomputable def F18_3 (run : List Item → St → Option AV) (t0 : AV) (t3 : List AV) (t4 : AV) : Option AV := run K18_3 (S18_3 t0 t3 t4)
noncomputable def X18 (call : Nat → List AV → Option AV) (run : List Item → St → Option AV) (x0 : AV) : Option AV :=
  F18_3 run (x0) [] (.int 0)
theorem text18 (call : Nat → List AV → Option AV) (run : List Item → St → Option AV) (x0 : AV) : unr C call run 18 Try.f18 400 [.code body18] (initSt [x0]) = X18 call run x0 := by
  kernel_rfl
theorem c18 (x0 : AV) {r : AV} (h : X18 (semCall C Try.prog) (semRun C Try.prog 18 Try.f18) x0 = some r) : semCall C Try.prog 18 [x0] = some r :=
  semCall_unr (fn := Try.f18) (c := body18) (by kernel_rfl) (by kernel_rfl) 400 (by kernel_rfl) ((text18 _ _ x0).trans h)
noncomputable def X18_3 (call : Nat → List AV → Option AV) (run : List Item → St → Option AV) (t0 : AV) (t3 : List AV) (t4 : AV) : Option AV :=
  (lenR (t0)).bind fun v1 => (binI .lss (t4) (v1)).bind fun v2 => condM (v2)
  ((idx 1 (t0) (t4)).bind fun v3 => (call 13 [AV.cell (v3) 0]).bind fun v4 => (app 1 1 t3 (v4)).bind fun v5 => (binI .add (t4) (.int 1)).bind fun v6 => F18_3 run (t0) v5 (v6))
  ((b2s (.ro 1 t3)).bind fun v7 => some (v7))
theorem text18_3 (call : Nat → List AV → Option AV) (run : List Item → St → Option AV) (t0 : AV) (t3 : List AV) (t4 : AV) : step C call 18 Try.f18 (unr C call run 18 Try.f18 400) K18_3 (S18_3 t0 t3 t4) = X18_3 call run t0 t3 t4 := by
  kernel_rfl
theorem r18_3 (t0 : AV) (t3 : List AV) (t4 : AV) {r : AV} (h : X18_3 (semCall C Try.prog) (semRun C Try.prog 18 Try.f18) t0 t3 t4 = some r) : F18_3 (semRun C Try.prog 18 Try.f18) t0 t3 t4 = some r :=
  semRun_unr 400 ((text18_3 _ _ t0 t3 t4).trans h)
end R1

namespace R1
open Go Go.Proofs Sx
noncomputable def body19 : Code := (Try.f19.body).getD .skip
noncomputable def K19_3 : List Item := (kAt 3 body19 []).getD []
def S19_3 (t3 : List AV) (t6 : AV) (t7 : AV) (t8 : AV) : St := St.ofL [(3, .cell (.own 300003 5 1 t3)), (6, .cell (.val (t6))), (7, .cell (.val (t7))), (8, .cell (.val (t8)))] []
noncomputable def F19_3 (run : List Item → St → Option AV) (t3 : List AV) (t6 : AV) (t7 : AV) (t8 : AV) : Option AV := run K19_3 (S19_3 t3 t6 t7 t8)
noncomputable def X19 (call : Nat → List AV → Option AV) (run : List Item → St → Option AV) (x0 : AV) : Option AV :=
  (lenR (x0)).bind fun v1 => F19_3 run [] (x0) (v1) (.int 0)
theorem text19 (call : Nat → List AV → Option AV) (run : List Item → St → Option AV) (x0 : AV) : unr C call run 19 Try.f19 400 [.code body19] (initSt [x0]) = X19 call run x0 := by
  kernel_rfl
theorem c19 (x0 : AV) {r : AV} (h : X19 (semCall C Try.prog) (semRun C Try.prog 19 Try.f19) x0 = some r) : semCall C Try.prog 19 [x0] = some r :=
  semCall_unr (fn := Try.f19) (c := body19) (by kernel_rfl) (by kernel_rfl) 400 (by kernel_rfl) ((text19 _ _ x0).trans h)
noncomputable def X19_3 (call : Nat → List AV → Option AV) (run : List Item → St → Option AV) (t3 : List AV) (t6 : AV) (t7 : AV) (t8 : AV) : Option AV :=
  (binI .lss (t8) (t7)).bind fun v1 => condM (v1)
  ((idx 1 (t6) (t8)).bind fun v2 => (call 14 [AV.cell (v2) 0]).bind fun v3 => (app 1 1 t3 (v3)).bind fun v4 => (binI .add (t8) (.int 1)).bind fun v5 => F19_3 run v4 (t6) (t7) (v5))
  (some (.ro 1 t3))
theorem text19_3 (call : Nat → List AV → Option AV) (run : List Item → St → Option AV) (t3 : List AV) (t6 : AV) (t7 : AV) (t8 : AV) : step C call 19 Try.f19 (unr C call run 19 Try.f19 400) K19_3 (S19_3 t3 t6 t7 t8) = X19_3 call run t3 t6 t7 t8 := by
  kernel_rfl
theorem r19_3 (t3 : List AV) (t6 : AV) (t7 : AV) (t8 : AV) {r : AV} (h : X19_3 (semCall C Try.prog) (semRun C Try.prog 19 Try.f19) t3 t6 t7 t8 = some r) : F19_3 (semRun C Try.prog 19 Try.f19) t3 t6 t7 t8 = some r :=
  semRun_unr 400 ((text19_3 _ _ t3 t6 t7 t8).trans h)
end R1

namespace R1
open Go Go.Proofs Sx
noncomputable def body20 : Code := (Try.f20.body).getD .skip
noncomputable def K20_3 : List Item := (kAt 3 body20 []).getD []
def S20_3 (t0 : AV) (t3 : List AV) (t4 : AV) : St := St.ofL [(0, .cell (.val (t0))), (3, .cell (.own 300003 5 1 t3)), (4, .cell (.val (t4)))] []
noncomputable def F20_3 (run : List Item → St → Option AV) (t0 : AV) (t3 : List AV) (t4 : AV) : Option AV := run K20_3 (S20_3 t0 t3 t4)
noncomputable def X20 (call : Nat → List AV → Option AV) (run : List Item → St → Option AV) (x0 : AV) : Option AV :=
  F20_3 run (x0) [] (.int 0)
theorem text20 (call : Nat → List AV → Option AV) (run : List Item → St → Option AV) (x0 : AV) : unr C call run 20 Try.f20 400 [.code body20] (initSt [x0]) = X20 call run x0 := by
  kernel_rfl
theorem c20 (x0 : AV) {r : AV} (h : X20 (semCall C Try.prog) (semRun C Try.prog 20 Try.f20) x0 = some r) : semCall C Try.prog 20 [x0] = some r :=
  semCall_unr (fn := Try.f20) (c := body20) (by kernel_rfl) (by kernel_rfl) 400 (by kernel_rfl) ((text20 _ _ x0).trans h)
noncomputable def X20_3 (call : Nat → List AV → Option AV) (run : List Item → St → Option AV) (t0 : AV) (t3 : List AV) (t4 : AV) : Option AV :=
  (lenR (t0)).bind fun v1 => (binI .lss (t4) (v1)).bind fun v2 => condM (v2)
  ((idx 1 (t0) (t4)).bind fun v3 => (call 15 [AV.cell (v3) 0]).bind fun v4 => (app 1 1 t3 (v4)).bind fun v5 => (binI .add (t4) (.int 1)).bind fun v6 => F20_3 run (t0) v5 (v6))
  ((b2s (.ro 1 t3)).bind fun v7 => some (v7))
theorem text20_3 (call : Nat → List AV → Option AV) (run : List Item → St → Option AV) (t0 : AV) (t3 : List AV) (t4 : AV) : step C call 20 Try.f20 (unr C call run 20 Try.f20 400) K20_3 (S20_3 t0 t3 t4) = X20_3 call run t0 t3 t4 := by
  kernel_rfl
theorem r20_3 (t0 : AV) (t3 : List AV) (t4 : AV) {r : AV} (h : X20_3 (semCall C Try.prog) (semRun C Try.prog 20 Try.f20) t0 t3 t4 = some r) : F20_3 (semRun C Try.prog 20 Try.f20) t0 t3 t4 = some r :=
  semRun_unr 400 ((text20_3 _ _ t0 t3 t4).trans h)
end R1

namespace R1
open Go Go.Proofs Sx
noncomputable def body21 : Code := (Try.f21.body).getD .skip
noncomputable def X21 (call : Nat → List AV → Option AV) (run : List Item → St → Option AV) (x0 : AV) : Option AV :=
  (binI .geq (x0) (.u8 48)).bind fun v1 => (selW (v1) true ((binI .leq (x0) (.u8 57)).bind fun v2 => some (v2)) (.b false)).bind fun v3 => condM (v3)
  ((conv .i64 (x0)).bind fun v4 => (binI .sub (v4) (.int 48)).bind fun v5 => some (v5))
  ((binI .geq (x0) (.u8 65)).bind fun v6 => (selW (v6) true ((binI .leq (x0) (.u8 70)).bind fun v7 => some (v7)) (.b false)).bind fun v8 => condM (v8)
  ((conv .i64 (x0)).bind fun v9 => (binI .sub (v9) (.int 65)).bind fun v10 => (binI .add (v10) (.int 10)).bind fun v11 => some (v11))
  (some (.int ((-1)))))
theorem text21 (call : Nat → List AV → Option AV) (run : List Item → St → Option AV) (x0 : AV) : unr C call run 21 Try.f21 400 [.code body21] (initSt [x0]) = X21 call run x0 := by
  kernel_rfl
theorem c21 (x0 : AV) {r : AV} (h : X21 (semCall C Try.prog) (semRun C Try.prog 21 Try.f21) x0 = some r) : semCall C Try.prog 21 [x0] = some r :=
  semCall_unr (fn := Try.f21) (c := body21) (by kernel_rfl) (by kernel_rfl) 400 (by kernel_rfl) ((text21 _ _ x0).trans h)
end R1

namespace R1
open Go Go.Proofs Sx
noncomputable def body38 : Code := (Try.f38.body).getD .skip
noncomputable def X38 (call : Nat → List AV → Option AV) (run : List Item → St → Option AV) (x0 : AV) : Option AV :=
  (binI .geq (x0) (.u8 97)).bind fun v1 => (selW (v1) true ((binI .leq (x0) (.u8 122)).bind fun v2 => some (v2)) (.b false)).bind fun v3 => (selW (v3) false ((binI .geq (x0) (.u8 65)).bind fun v4 => (selW (v4) true ((binI .leq (x0) (.u8 90)).bind fun v5 => some (v5)) (.b false)).bind fun v6 => some (v6)) (.b true)).bind fun v7 => (selW (v7) false ((binI .geq (x0) (.u8 48)).bind fun v8 => (selW (v8) true ((binI .leq (x0) (.u8 57)).bind fun v9 => some (v9)) (.b false)).bind fun v10 => some (v10)) (.b true)).bind fun v11 => (selW (v11) false ((binI .neq (x0) (.u8 0)).bind fun v12 => (selW (v12) true ((call 40 [.s [45, 46, 95, 126], x0]).bind fun v13 => (binI .geq (v13) (.int 0)).bind fun v14 => some (v14)) (.b false)).bind fun v15 => some (v15)) (.b true)).bind fun v16 => some (v16)
theorem text38 (call : Nat → List AV → Option AV) (run : List Item → St → Option AV) (x0 : AV) : unr C call run 38 Try.f38 400 [.code body38] (initSt [x0]) = X38 call run x0 := by
  kernel_rfl
theorem c38 (x0 : AV) {r : AV} (h : X38 (semCall C Try.prog) (semRun C Try.prog 38 Try.f38) x0 = some r) : semCall C Try.prog 38 [x0] = some r :=
  semCall_unr (fn := Try.f38) (c := body38) (by kernel_rfl) (by kernel_rfl) 400 (by kernel_rfl) ((text38 _ _ x0).trans h)
end R1

namespace R1
open Go Go.Proofs Sx
noncomputable def body39 : Code := (Try.f39.body).getD .skip
noncomputable def K39_2 : List Item := (kAt 2 body39 []).getD []
def S39_2 (t0 : AV) (t1 : AV) (t5 : AV) : St := St.ofL [(0, .cell (.val (t0))), (1, .cell (.val (t1))), (5, .cell (.val (t5)))] []
noncomputable def F39_2 (run : List Item → St → Option AV) (t0 : AV) (t1 : AV) (t5 : AV) : Option AV := run K39_2 (S39_2 t0 t1 t5)
noncomputable def X39 (call : Nat → List AV → Option AV) (run : List Item → St → Option AV) (x0 : AV) (x1 : AV) : Option AV :=
  F39_2 run (x0) (x1) (.int 0)
theorem text39 (call : Nat → List AV → Option AV) (run : List Item → St → Option AV) (x0 : AV) (x1 : AV) : unr C call run 39 Try.f39 400 [.code body39] (initSt [x0, x1]) = X39 call run x0 x1 := by
  kernel_rfl
theorem c39 (x0 : AV) (x1 : AV) {r : AV} (h : X39 (semCall C Try.prog) (semRun C Try.prog 39 Try.f39) x0 x1 = some r) : semCall C Try.prog 39 [x0, x1] = some r :=
  semCall_unr (fn := Try.f39) (c := body39) (by kernel_rfl) (by kernel_rfl) 400 (by kernel_rfl) ((text39 _ _ x0 x1).trans h)
noncomputable def X39_2 (call : Nat → List AV → Option AV) (run : List Item → St → Option AV) (t0 : AV) (t1 : AV) (t5 : AV) : Option AV :=
  (lenS (t1)).bind fun v1 => (binI .lss (t5) (v1)).bind fun v2 => condM (v2)
  ((idxS (t1) (t5)).bind fun v3 => (binI .eql (v3) (t0)).bind fun v4 => condM (v4)
  (some (.b true))
  ((binI .add (t5) (.int 1)).bind fun v5 => F39_2 run (t0) (t1) (v5)))
  (some (.b false))
theorem text39_2 (call : Nat → List AV → Option AV) (run : List Item → St → Option AV) (t0 : AV) (t1 : AV) (t5 : AV) : step C call 39 Try.f39 (unr C call run 39 Try.f39 400) K39_2 (S39_2 t0 t1 t5) = X39_2 call run t0 t1 t5 := by
  kernel_rfl
theorem r39_2 (t0 : AV) (t1 : AV) (t5 : AV) {r : AV} (h : X39_2 (semCall C Try.prog) (semRun C Try.prog 39 Try.f39) t0 t1 t5 = some r) : F39_2 (semRun C Try.prog 39 Try.f39) t0 t1 t5 = some r :=
  semRun_unr 400 ((text39_2 _ _ t0 t1 t5).trans h)
end R1

namespace R1
open Go Go.Proofs Sx
noncomputable def body40 : Code := (Try.f40.body).getD .skip
noncomputable def X40 (call : Nat → List AV → Option AV) (run : List Item → St → Option AV) (x0 : AV) (x1 : AV) : Option AV :=
  (call 47 [x0, x1]).bind fun v1 => some (v1)
theorem text40 (call : Nat → List AV → Option AV) (run : List Item → St → Option AV) (x0 : AV) (x1 : AV) : unr C call run 40 Try.f40 400 [.code body40] (initSt [x0, x1]) = X40 call run x0 x1 := by
  kernel_rfl
theorem c40 (x0 : AV) (x1 : AV) {r : AV} (h : X40 (semCall C Try.prog) (semRun C Try.prog 40 Try.f40) x0 x1 = some r) : semCall C Try.prog 40 [x0, x1] = some r :=
  semCall_unr (fn := Try.f40) (c := body40) (by kernel_rfl) (by kernel_rfl) 400 (by kernel_rfl) ((text40 _ _ x0 x1).trans h)
end R1

namespace R1
open Go Go.Proofs Sx
noncomputable def body47 : Code := (Try.f47.body).getD .skip
noncomputable def X47 (call : Nat → List AV → Option AV) (run : List Item → St → Option AV) (x0 : AV) (x1 : AV) : Option AV :=
  (call 50 [x0, x1]).bind fun v1 => some (v1)
theorem text47 (call : Nat → List AV → Option AV) (run : List Item → St → Option AV) (x0 : AV) (x1 : AV) : unr C call run 47 Try.f47 400 [.code body47] (initSt [x0, x1]) = X47 call run x0 x1 := by
  kernel_rfl
theorem c47 (x0 : AV) (x1 : AV) {r : AV} (h : X47 (semCall C Try.prog) (semRun C Try.prog 47 Try.f47) x0 x1 = some r) : semCall C Try.prog 47 [x0, x1] = some r :=
  semCall_unr (fn := Try.f47) (c := body47) (by kernel_rfl) (by kernel_rfl) 400 (by kernel_rfl) ((text47 _ _ x0 x1).trans h)
end R1
