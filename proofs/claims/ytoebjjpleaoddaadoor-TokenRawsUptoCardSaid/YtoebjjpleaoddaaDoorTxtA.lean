/-
  What functions of this seat come to, step by step.
-/
import Derived.Test.YtoebjjpleaoddaaDoorTab
import Derived.Test.YtoebjjpleaoddaaDoorProg
set_option linter.unusedVariables false
set_option linter.unusedSimpArgs false
set_option linter.unusedSectionVars false
set_option linter.unnecessarySimpa false
namespace R4
open Go Go.Proofs Sx
noncomputable def body5 : Code := (Tryd.f5.body).getD .skip
section
variable (run : RunT) (a0 : AV) (a1 : List AV) (a2 : Int)
noncomputable def K5_5 : List Item := (kAt 5 body5 []).getD []
def S5_5 : St := St.ofL [(0, .cell (.val (a0))), (3, .cell (.own 300003 5 1 a1)), (4, .cell (.val (.int a2)))] []
noncomputable def F5_5 : Option AV := run K5_5 (S5_5 a0 a1 a2)
end
section
variable (run : RunT) (a0 : AV) (a1 : List AV) (a2 : Int)
noncomputable def K5_6 : List Item := (kAt 6 body5 []).getD []
def S5_6 : St := St.ofL [(0, .cell (.val (a0))), (3, .cell (.own 300003 5 1 a1)), (4, .cell (.val (.int a2)))] []
noncomputable def F5_6 : Option AV := run K5_6 (S5_6 a0 a1 a2)
end
noncomputable def X5 (call : CallT) (run : RunT) (a0 : AV) : Option AV :=
  (call 11 []).bind fun v1 => (unop .not (v1)).bind fun v2 => condM (v2)
  (some (.b false))
  (F5_5 run (a0) [] 0)
section
variable (call : CallT) (run : RunT) (a0 : AV)
theorem text5 : unr C call run 5 Tryd.f5 400 [.code body5] (initF C 5 Tryd.f5.ntmps [a0]) = X5 call run a0 := by
  kernel_rfl
theorem c5 {r : AV} (h : X5 (semCall C Tryd.prog) (semRun C Tryd.prog 5 Tryd.f5) a0 = some r) : semCall C Tryd.prog 5 [a0] = some r :=
  semCall_unr (fn := Tryd.f5) (c := body5) (by kernel_rfl) (by kernel_rfl) 400 (by kernel_rfl) ((text5 _ _ a0).trans h)
end
noncomputable def X5_5 (call : CallT) (run : RunT) (a0 : AV) (a1 : List AV) (a2 : Int) : Option AV :=
  (lenR (a0)).bind fun v1 => (binI .lss (.int a2) (v1)).bind fun v2 => condM (v2)
  ((idx 1 (a0) (.int a2)).bind fun v3 => (binI .eql (AV.cell (v3) 0) (.u8 60)).bind fun v4 => condM (v4)
  ((app 1 1 a1 (.s [38, 108, 116, 59])).bind fun v5 => F5_6 run (a0) v5 a2)
  ((idx 1 (a0) (.int a2)).bind fun v6 => (AV.one (AV.cell (v6) 0)).bind fun v7 => (app 1 1 a1 (.ro 1 (([v7] : List AV)))).bind fun v8 => F5_6 run (a0) v8 a2))
  ((call 12 [.ro 1 a1]).bind fun v9 => (AV.asAg 10 (AV.comp (v9) 1)).bind fun v10 => condM (.b (((a1.length : Int)) == 0))
  ((selW (.b ((((AV.elems (AV.comp (v9) 0)).length : Int)) == 0)) true ((binAg [.i, .i, .b, .i, .i, .i, .i, .b, .i, .s] .eql (.ag [v10.getD 0 .un, v10.getD 1 .un, v10.getD 2 .un, v10.getD 3 .un, v10.getD 4 .un, v10.getD 5 .un, v10.getD 6 .un, v10.getD 7 .un, v10.getD 8 .un, v10.getD 9 .un]) (.ag [.u8 0, .u8 0, .b false, .u8 0, .u8 0, .u8 0, .u8 0, .b false, .u8 0, .s []])).bind fun v11 => some (v11)) (.b false)).bind fun v12 => (selW (v12) true ((binI .eql (AV.comp (v9) 2) (.int ((-1)))).bind fun v13 => some (v13)) (.b false)).bind fun v14 => some (v14))
  ((selW (.b ((((AV.elems (AV.comp (v9) 0)).length : Int)) == 1)) true ((inN (AV.elems (AV.comp (v9) 0)).length (.int 0)).bind fun v15 => (binI .eql (AV.cell ((AV.elems (AV.comp (v9) 0)).getD v15 .un) 0) (.u8 0)).bind fun v16 => some (v16)) (.b false)).bind fun v17 => (selW (v17) true ((inN (AV.elems (AV.comp (v9) 0)).length (.int 0)).bind fun v18 => (b2s (.ro 1 a1)).bind fun v19 => (binS .eql (AV.cell ((AV.elems (AV.comp (v9) 0)).getD v18 .un) 3) (v19)).bind fun v20 => some (v20)) (.b false)).bind fun v21 => (selW (v21) true ((binAg [.i, .i, .b, .i, .i, .i, .i, .b, .i, .s] .eql (.ag [v10.getD 0 .un, v10.getD 1 .un, v10.getD 2 .un, v10.getD 3 .un, v10.getD 4 .un, v10.getD 5 .un, v10.getD 6 .un, v10.getD 7 .un, v10.getD 8 .un, v10.getD 9 .un]) (.ag [.u8 0, .u8 0, .b false, .u8 0, .u8 0, .u8 0, .u8 0, .b false, .u8 0, .s []])).bind fun v22 => some (v22)) (.b false)).bind fun v23 => (selW (v23) true ((binI .eql (AV.comp (v9) 2) (.int ((-1)))).bind fun v24 => some (v24)) (.b false)).bind fun v25 => some (v25)))
section
variable (call : CallT) (run : RunT) (a0 : AV) (a1 : List AV) (a2 : Int)
theorem text5_5 : step C call 5 Tryd.f5 (unr C call run 5 Tryd.f5 400) K5_5 (S5_5 a0 a1 a2) = X5_5 call run a0 a1 a2 := by
  kernel_rfl
end
noncomputable def X5_6 (call : CallT) (run : RunT) (a0 : AV) (a1 : List AV) (a2 : Int) : Option AV :=
  F5_5 run (a0) a1 (w64 (a2 + 1))
section
variable (call : CallT) (run : RunT) (a0 : AV) (a1 : List AV) (a2 : Int)
theorem text5_6 : step C call 5 Tryd.f5 (unr C call run 5 Tryd.f5 400) K5_6 (S5_6 a0 a1 a2) = X5_6 call run a0 a1 a2 := by
  kernel_rfl
end
section
variable (a0 : AV) (a1 : List AV) (a2 : Int)
theorem r5_5 {r : AV} (h : X5_5 (semCall C Tryd.prog) (semRun C Tryd.prog 5 Tryd.f5) a0 a1 a2 = some r) : F5_5 (semRun C Tryd.prog 5 Tryd.f5) a0 a1 a2 = some r :=
  semRun_unr 400 ((text5_5 _ _ a0 a1 a2).trans h)
end
section
variable (a0 : AV) (a1 : List AV) (a2 : Int)
theorem r5_6 {r : AV} (h : X5_6 (semCall C Tryd.prog) (semRun C Tryd.prog 5 Tryd.f5) a0 a1 a2 = some r) : F5_6 (semRun C Tryd.prog 5 Tryd.f5) a0 a1 a2 = some r :=
  semRun_unr 400 ((text5_6 _ _ a0 a1 a2).trans h)
end
end R4

namespace R4
open Go Go.Proofs Sx
noncomputable def body7 : Code := (Tryd.f7.body).getD .skip
section
variable (run : RunT) (a0 a1 : AV) (a2 : List AV) (a3 : Int)
noncomputable def K7_6 : List Item := (kAt 6 body7 []).getD []
def S7_6 : St := St.ofL [(1, .cell (.val (a0))), (5, .cell (.val (a1))), (6, .cell (.own 300006 5 1 a2)), (7, .cell (.val (.int a3)))] []
noncomputable def F7_6 : Option AV := run K7_6 (S7_6 a0 a1 a2 a3)
end
section
variable (run : RunT) (a0 a1 : AV) (a2 : List AV) (a3 : Int)
noncomputable def K7_7 : List Item := (kAt 7 body7 []).getD []
def S7_7 : St := St.ofL [(1, .cell (.val (a0))), (5, .cell (.val (a1))), (6, .cell (.own 300006 5 1 a2)), (7, .cell (.val (.int a3)))] []
noncomputable def F7_7 : Option AV := run K7_7 (S7_7 a0 a1 a2 a3)
end
section
variable (run : RunT) (a0 : AV) (a1 a2 : List AV) (a3 : Int)
noncomputable def K7_16 : List Item := (kAt 16 body7 []).getD []
def S7_16 : St := St.ofL [(5, .cell (.val (a0))), (6, .cell (.own 300006 5 1 a1)), (8, .cell (.own 100057 39 4 a2)), (11, .cell (.val (.int a3)))] []
noncomputable def F7_16 : Option AV := run K7_16 (S7_16 a0 a1 a2 a3)
end
noncomputable def X7 (call : CallT) (run : RunT) (a0 : UInt8) (a1 : AV) : Option AV :=
  (call 11 []).bind fun v1 => (unop .not (v1)).bind fun v2 => condM (v2)
  (some (.b false))
  ((inN (([.s [116, 101, 120, 116, 97, 114, 101, 97], .s [116, 105, 116, 108, 101], .s [115, 99, 114, 105, 112, 116], .s [115, 116, 121, 108, 101]] : List AV)).length (.int (Int.tmod (w64 (a0.toNat : Int)) 4))).bind fun v3 => F7_6 run (a1) (AV.cell ((([.s [116, 101, 120, 116, 97, 114, 101, 97], .s [116, 105, 116, 108, 101], .s [115, 99, 114, 105, 112, 116], .s [115, 116, 121, 108, 101]] : List AV)).getD v3 .un) 0) [] 0)
section
variable (call : CallT) (run : RunT) (a0 : UInt8) (a1 : AV)
theorem text7 : unr C call run 7 Tryd.f7 400 [.code body7] (initF C 7 Tryd.f7.ntmps [.u8 a0, a1]) = X7 call run a0 a1 := by
  kernel_rfl
theorem c7 {r : AV} (h : X7 (semCall C Tryd.prog) (semRun C Tryd.prog 7 Tryd.f7) a0 a1 = some r) : semCall C Tryd.prog 7 [.u8 a0, a1] = some r :=
  semCall_unr (fn := Tryd.f7) (c := body7) (by kernel_rfl) (by kernel_rfl) 400 (by kernel_rfl) ((text7 _ _ a0 a1).trans h)
end
noncomputable def X7_6 (call : CallT) (run : RunT) (a0 a1 : AV) (a2 : List AV) (a3 : Int) : Option AV :=
  (lenR (a0)).bind fun v1 => (binI .lss (.int a3) (v1)).bind fun v2 => condM (v2)
  ((idx 1 (a0) (.int a3)).bind fun v3 => (binI .neq (AV.cell (v3) 0) (.u8 47)).bind fun v4 => (selW (v4) true ((idx 1 (a0) (.int a3)).bind fun v5 => (binI .neq (AV.cell (v5) 0) (.u8 33)).bind fun v6 => some (v6)) (.b false)).bind fun v7 => condM (v7)
  ((idx 1 (a0) (.int a3)).bind fun v8 => (AV.one (AV.cell (v8) 0)).bind fun v9 => (app 1 1 a2 (.ro 1 (([v9] : List AV)))).bind fun v10 => F7_7 run (a0) (a1) v10 a3)
  (F7_7 run (a0) (a1) a2 a3))
  ((binS .add (.s [60]) (a1)).bind fun v11 => (binS .add (v11) (.s [62])).bind fun v12 => (b2s (.ro 1 a2)).bind fun v13 => (binS .add (v12) (v13)).bind fun v14 => (binS .add (v14) (.s [60, 47])).bind fun v15 => (binS .add (v15) (a1)).bind fun v16 => (binS .add (v16) (.s [62, 120])).bind fun v17 => (s2b (v17)).bind fun v18 => (call 12 [v18]).bind fun v19 => (AV.asAg 10 (AV.comp (v19) 1)).bind fun v20 => (binI .neq (AV.comp (v19) 2) (.int ((-1)))).bind fun v21 => (selW (v21) false ((binAg [.i, .i, .b, .i, .i, .i, .i, .b, .i, .s] .neq (.ag [v20.getD 0 .un, v20.getD 1 .un, v20.getD 2 .un, v20.getD 3 .un, v20.getD 4 .un, v20.getD 5 .un, v20.getD 6 .un, v20.getD 7 .un, v20.getD 8 .un, v20.getD 9 .un]) (.ag [.u8 0, .u8 0, .b false, .u8 0, .u8 0, .u8 0, .u8 0, .b false, .u8 0, .s []])).bind fun v22 => some (v22)) (.b true)).bind fun v23 => condM (v23)
  (some (.b false))
  (condM (.b (decide (((a2.length : Int)) > 0)))
  (F7_16 run (a1) a2 (AV.elems (AV.comp (v19) 0)) 4)
  (F7_16 run (a1) a2 (AV.elems (AV.comp (v19) 0)) 3)))
section
variable (call : CallT) (run : RunT) (a0 a1 : AV) (a2 : List AV) (a3 : Int)
theorem text7_6 : step C call 7 Tryd.f7 (unr C call run 7 Tryd.f7 400) K7_6 (S7_6 a0 a1 a2 a3) = X7_6 call run a0 a1 a2 a3 := by
  kernel_rfl
end
noncomputable def X7_7 (call : CallT) (run : RunT) (a0 a1 : AV) (a2 : List AV) (a3 : Int) : Option AV :=
  F7_6 run (a0) (a1) a2 (w64 (a3 + 1))
section
variable (call : CallT) (run : RunT) (a0 a1 : AV) (a2 : List AV) (a3 : Int)
theorem text7_7 : step C call 7 Tryd.f7 (unr C call run 7 Tryd.f7 400) K7_7 (S7_7 a0 a1 a2 a3) = X7_7 call run a0 a1 a2 a3 := by
  kernel_rfl
end
noncomputable def X7_16 (call : CallT) (run : RunT) (a0 : AV) (a1 a2 : List AV) (a3 : Int) : Option AV :=
  (selW (.b (((a2.length : Int)) != a3)) false ((inN a2.length (.int 0)).bind fun v1 => (binS .neq (AV.cell (a2.getD v1 .un) 1) (a0)).bind fun v2 => some (v2)) (.b true)).bind fun v3 => (selW (v3) false ((inN a2.length (.int (w64 (a3 - 2)))).bind fun v4 => (binI .neq (AV.cell (a2.getD v4 .un) 0) (.u8 2)).bind fun v5 => some (v5)) (.b true)).bind fun v6 => (selW (v6) false ((inN a2.length (.int (w64 (a3 - 2)))).bind fun v7 => (binS .neq (AV.cell (a2.getD v7 .un) 1) (a0)).bind fun v8 => some (v8)) (.b true)).bind fun v9 => (selW (v9) false ((inN a2.length (.int (w64 (a3 - 1)))).bind fun v10 => (binS .neq (AV.cell (a2.getD v10 .un) 3) (.s [120])).bind fun v11 => some (v11)) (.b true)).bind fun v12 => condM (v12)
  (some (.b false))
  ((selW (.b (a3 == 3)) false ((inN a2.length (.int 1)).bind fun v13 => (binI .eql (AV.cell (a2.getD v13 .un) 0) (.u8 0)).bind fun v14 => (selW (v14) true ((inN a2.length (.int 1)).bind fun v15 => (b2s (.ro 1 a1)).bind fun v16 => (binS .eql (AV.cell (a2.getD v15 .un) 3) (v16)).bind fun v17 => some (v17)) (.b false)).bind fun v18 => some (v18)) (.b true)).bind fun v19 => some (v19))
section
variable (call : CallT) (run : RunT) (a0 : AV) (a1 a2 : List AV) (a3 : Int)
theorem text7_16 : step C call 7 Tryd.f7 (unr C call run 7 Tryd.f7 400) K7_16 (S7_16 a0 a1 a2 a3) = X7_16 call run a0 a1 a2 a3 := by
  kernel_rfl
end
section
variable (a0 a1 : AV) (a2 : List AV) (a3 : Int)
theorem r7_6 {r : AV} (h : X7_6 (semCall C Tryd.prog) (semRun C Tryd.prog 7 Tryd.f7) a0 a1 a2 a3 = some r) : F7_6 (semRun C Tryd.prog 7 Tryd.f7) a0 a1 a2 a3 = some r :=
  semRun_unr 400 ((text7_6 _ _ a0 a1 a2 a3).trans h)
end
section
variable (a0 a1 : AV) (a2 : List AV) (a3 : Int)
theorem r7_7 {r : AV} (h : X7_7 (semCall C Tryd.prog) (semRun C Tryd.prog 7 Tryd.f7) a0 a1 a2 a3 = some r) : F7_7 (semRun C Tryd.prog 7 Tryd.f7) a0 a1 a2 a3 = some r :=
  semRun_unr 400 ((text7_7 _ _ a0 a1 a2 a3).trans h)
end
section
variable (a0 : AV) (a1 a2 : List AV) (a3 : Int)
theorem r7_16 {r : AV} (h : X7_16 (semCall C Tryd.prog) (semRun C Tryd.prog 7 Tryd.f7) a0 a1 a2 a3 = some r) : F7_16 (semRun C Tryd.prog 7 Tryd.f7) a0 a1 a2 a3 = some r :=
  semRun_unr 400 ((text7_16 _ _ a0 a1 a2 a3).trans h)
end
end R4

namespace R4
open Go Go.Proofs Sx
noncomputable def body8 : Code := (Tryd.f8.body).getD .skip
section
variable (run : RunT) (a0 : AV) (a1 : List AV) (a2 : Int)
noncomputable def K8_5 : List Item := (kAt 5 body8 []).getD []
def S8_5 : St := St.ofL [(0, .cell (.val (a0))), (3, .cell (.own 300003 5 1 a1)), (4, .cell (.val (.int a2)))] []
noncomputable def F8_5 : Option AV := run K8_5 (S8_5 a0 a1 a2)
end
section
variable (run : RunT) (a0 : AV) (a1 : List AV) (a2 : Int)
noncomputable def K8_6 : List Item := (kAt 6 body8 []).getD []
def S8_6 : St := St.ofL [(0, .cell (.val (a0))), (3, .cell (.own 300003 5 1 a1)), (4, .cell (.val (.int a2)))] []
noncomputable def F8_6 : Option AV := run K8_6 (S8_6 a0 a1 a2)
end
noncomputable def X8 (call : CallT) (run : RunT) (a0 : AV) : Option AV :=
  (call 11 []).bind fun v1 => (unop .not (v1)).bind fun v2 => condM (v2)
  (some (.b false))
  (F8_5 run (a0) [] 0)
section
variable (call : CallT) (run : RunT) (a0 : AV)
theorem text8 : unr C call run 8 Tryd.f8 400 [.code body8] (initF C 8 Tryd.f8.ntmps [a0]) = X8 call run a0 := by
  kernel_rfl
theorem c8 {r : AV} (h : X8 (semCall C Tryd.prog) (semRun C Tryd.prog 8 Tryd.f8) a0 = some r) : semCall C Tryd.prog 8 [a0] = some r :=
  semCall_unr (fn := Tryd.f8) (c := body8) (by kernel_rfl) (by kernel_rfl) 400 (by kernel_rfl) ((text8 _ _ a0).trans h)
end
noncomputable def X8_5 (call : CallT) (run : RunT) (a0 : AV) (a1 : List AV) (a2 : Int) : Option AV :=
  (lenR (a0)).bind fun v1 => (binI .lss (.int a2) (v1)).bind fun v2 => condM (v2)
  ((idx 1 (a0) (.int a2)).bind fun v3 => (binI .neq (AV.cell (v3) 0) (.u8 45)).bind fun v4 => (selW (v4) true ((idx 1 (a0) (.int a2)).bind fun v5 => (binI .neq (AV.cell (v5) 0) (.u8 62)).bind fun v6 => some (v6)) (.b false)).bind fun v7 => (selW (v7) true ((idx 1 (a0) (.int a2)).bind fun v8 => (binI .neq (AV.cell (v8) 0) (.u8 33)).bind fun v9 => some (v9)) (.b false)).bind fun v10 => condM (v10)
  ((idx 1 (a0) (.int a2)).bind fun v11 => (AV.one (AV.cell (v11) 0)).bind fun v12 => (app 1 1 a1 (.ro 1 (([v12] : List AV)))).bind fun v13 => F8_6 run (a0) v13 a2)
  (F8_6 run (a0) a1 a2))
  ((b2s (.ro 1 a1)).bind fun v14 => (binS .add (.s [60, 33, 45, 45]) (v14)).bind fun v15 => (binS .add (v15) (.s [45, 45, 62])).bind fun v16 => (s2b (v16)).bind fun v17 => (call 12 [v17]).bind fun v18 => (AV.asAg 10 (AV.comp (v18) 1)).bind fun v19 => (b2s (.ro 1 a1)).bind fun v20 => (binS .add (.s [60, 33]) (v20)).bind fun v21 => (binS .add (v21) (.s [62])).bind fun v22 => (s2b (v22)).bind fun v23 => (call 12 [v23]).bind fun v24 => (AV.asAg 10 (AV.comp (v24) 1)).bind fun v25 => (b2s (.ro 1 a1)).bind fun v26 => (binS .add (.s [60, 63]) (v26)).bind fun v27 => (binS .add (v27) (.s [62])).bind fun v28 => (s2b (v28)).bind fun v29 => (call 12 [v29]).bind fun v30 => (AV.asAg 10 (AV.comp (v30) 1)).bind fun v31 => (binI .neq (AV.comp (v18) 2) (.int ((-1)))).bind fun v32 => (selW (v32) false ((binI .neq (AV.comp (v24) 2) (.int ((-1)))).bind fun v33 => some (v33)) (.b true)).bind fun v34 => (selW (v34) false ((binI .neq (AV.comp (v30) 2) (.int ((-1)))).bind fun v35 => some (v35)) (.b true)).bind fun v36 => (selW (v36) false ((binAg [.i, .i, .b, .i, .i, .i, .i, .b, .i, .s] .neq (.ag [v19.getD 0 .un, v19.getD 1 .un, v19.getD 2 .un, v19.getD 3 .un, v19.getD 4 .un, v19.getD 5 .un, v19.getD 6 .un, v19.getD 7 .un, v19.getD 8 .un, v19.getD 9 .un]) (.ag [.u8 0, .u8 0, .b false, .u8 0, .u8 0, .u8 0, .u8 0, .b false, .u8 0, .s []])).bind fun v37 => some (v37)) (.b true)).bind fun v38 => (selW (v38) false ((binAg [.i, .i, .b, .i, .i, .i, .i, .b, .i, .s] .neq (.ag [v25.getD 0 .un, v25.getD 1 .un, v25.getD 2 .un, v25.getD 3 .un, v25.getD 4 .un, v25.getD 5 .un, v25.getD 6 .un, v25.getD 7 .un, v25.getD 8 .un, v25.getD 9 .un]) (.ag [v19.getD 0 .un, v19.getD 1 .un, v19.getD 2 .un, v19.getD 3 .un, v19.getD 4 .un, v19.getD 5 .un, v19.getD 6 .un, v19.getD 7 .un, v19.getD 8 .un, v19.getD 9 .un])).bind fun v39 => some (v39)) (.b true)).bind fun v40 => (selW (v40) false ((binAg [.i, .i, .b, .i, .i, .i, .i, .b, .i, .s] .neq (.ag [v31.getD 0 .un, v31.getD 1 .un, v31.getD 2 .un, v31.getD 3 .un, v31.getD 4 .un, v31.getD 5 .un, v31.getD 6 .un, v31.getD 7 .un, v31.getD 8 .un, v31.getD 9 .un]) (.ag [v19.getD 0 .un, v19.getD 1 .un, v19.getD 2 .un, v19.getD 3 .un, v19.getD 4 .un, v19.getD 5 .un, v19.getD 6 .un, v19.getD 7 .un, v19.getD 8 .un, v19.getD 9 .un])).bind fun v41 => some (v41)) (.b true)).bind fun v42 => (selW (v42) false (some (.b ((((AV.elems (AV.comp (v18) 0)).length : Int)) != 1))) (.b true)).bind fun v43 => (selW (v43) false (some (.b ((((AV.elems (AV.comp (v24) 0)).length : Int)) != 1))) (.b true)).bind fun v44 => (selW (v44) false (some (.b ((((AV.elems (AV.comp (v30) 0)).length : Int)) != 1))) (.b true)).bind fun v45 => condM (v45)
  (some (.b false))
  ((inN (AV.elems (AV.comp (v18) 0)).length (.int 0)).bind fun v46 => (binI .eql (AV.cell ((AV.elems (AV.comp (v18) 0)).getD v46 .un) 0) (.u8 3)).bind fun v47 => (selW (v47) true ((inN (AV.elems (AV.comp (v18) 0)).length (.int 0)).bind fun v48 => (b2s (.ro 1 a1)).bind fun v49 => (binS .eql (AV.cell ((AV.elems (AV.comp (v18) 0)).getD v48 .un) 3) (v49)).bind fun v50 => some (v50)) (.b false)).bind fun v51 => (selW (v51) true ((inN (AV.elems (AV.comp (v24) 0)).length (.int 0)).bind fun v52 => (binI .eql (AV.cell ((AV.elems (AV.comp (v24) 0)).getD v52 .un) 0) (.u8 4)).bind fun v53 => some (v53)) (.b false)).bind fun v54 => (selW (v54) true ((inN (AV.elems (AV.comp (v24) 0)).length (.int 0)).bind fun v55 => (b2s (.ro 1 a1)).bind fun v56 => (binS .eql (AV.cell ((AV.elems (AV.comp (v24) 0)).getD v55 .un) 3) (v56)).bind fun v57 => some (v57)) (.b false)).bind fun v58 => (selW (v58) true ((inN (AV.elems (AV.comp (v30) 0)).length (.int 0)).bind fun v59 => (binI .eql (AV.cell ((AV.elems (AV.comp (v30) 0)).getD v59 .un) 0) (.u8 4)).bind fun v60 => some (v60)) (.b false)).bind fun v61 => (selW (v61) true ((inN (AV.elems (AV.comp (v30) 0)).length (.int 0)).bind fun v62 => (b2s (.ro 1 a1)).bind fun v63 => (binS .add (.s [63]) (v63)).bind fun v64 => (binS .eql (AV.cell ((AV.elems (AV.comp (v30) 0)).getD v62 .un) 3) (v64)).bind fun v65 => some (v65)) (.b false)).bind fun v66 => some (v66)))
section
variable (call : CallT) (run : RunT) (a0 : AV) (a1 : List AV) (a2 : Int)
theorem text8_5 : step C call 8 Tryd.f8 (unr C call run 8 Tryd.f8 400) K8_5 (S8_5 a0 a1 a2) = X8_5 call run a0 a1 a2 := by
  kernel_rfl
end
noncomputable def X8_6 (call : CallT) (run : RunT) (a0 : AV) (a1 : List AV) (a2 : Int) : Option AV :=
  F8_5 run (a0) a1 (w64 (a2 + 1))
section
variable (call : CallT) (run : RunT) (a0 : AV) (a1 : List AV) (a2 : Int)
theorem text8_6 : step C call 8 Tryd.f8 (unr C call run 8 Tryd.f8 400) K8_6 (S8_6 a0 a1 a2) = X8_6 call run a0 a1 a2 := by
  kernel_rfl
end
section
variable (a0 : AV) (a1 : List AV) (a2 : Int)
theorem r8_5 {r : AV} (h : X8_5 (semCall C Tryd.prog) (semRun C Tryd.prog 8 Tryd.f8) a0 a1 a2 = some r) : F8_5 (semRun C Tryd.prog 8 Tryd.f8) a0 a1 a2 = some r :=
  semRun_unr 400 ((text8_5 _ _ a0 a1 a2).trans h)
end
section
variable (a0 : AV) (a1 : List AV) (a2 : Int)
theorem r8_6 {r : AV} (h : X8_6 (semCall C Tryd.prog) (semRun C Tryd.prog 8 Tryd.f8) a0 a1 a2 = some r) : F8_6 (semRun C Tryd.prog 8 Tryd.f8) a0 a1 a2 = some r :=
  semRun_unr 400 ((text8_6 _ _ a0 a1 a2).trans h)
end
end R4

namespace R4
open Go Go.Proofs Sx
noncomputable def body10 : Code := (Tryd.f10.body).getD .skip
section
variable (run : RunT) (a0 : AV) (a1 : List AV) (a2 : AV) (a3 : Int)
noncomputable def K10_9 : List Item := (kAt 9 body10 []).getD []
def S10_9 : St := St.ofL [(0, .cell (.val (a0))), (3, .cell (.own 100014 39 4 a1)), (8, .cell (.val (a2))), (9, .cell (.val (.int a3)))] []
noncomputable def F10_9 : Option AV := run K10_9 (S10_9 a0 a1 a2 a3)
end
section
variable (run : RunT) (a0 : AV) (a1 : List AV) (a2 : AV) (a3 : Int)
noncomputable def K10_19 : List Item := (kAt 19 body10 []).getD []
def S10_19 : St := St.ofL [(0, .cell (.val (a0))), (3, .cell (.own 100014 39 4 a1)), (8, .cell (.val (a2))), (9, .cell (.val (.int a3)))] []
noncomputable def F10_19 : Option AV := run K10_19 (S10_19 a0 a1 a2 a3)
end
section
variable (run : RunT) (a0 : AV) (a1 : List AV) (a2 : AV) (a3 : Int)
noncomputable def K10_17 : List Item := (kAt 17 body10 []).getD []
def S10_17 : St := St.ofL [(0, .cell (.val (a0))), (3, .cell (.own 100014 39 4 a1)), (8, .cell (.val (a2))), (9, .cell (.val (.int a3)))] []
noncomputable def F10_17 : Option AV := run K10_17 (S10_17 a0 a1 a2 a3)
end
noncomputable def X10 (call : CallT) (run : RunT) (a0 : AV) : Option AV :=
  (call 11 []).bind fun v1 => (unop .not (v1)).bind fun v2 => condM (v2)
  (some (.b false))
  ((call 12 [a0]).bind fun v3 => (AV.asAg 10 (AV.comp (v3) 1)).bind fun v4 => (call 17 [.ag [.u8 0, .u8 0, .b false, .u8 0, .u8 0, .u8 0, .u8 0, .b false, .u8 0, .s []], a0]).bind fun v5 => (tupI (v5) 0).bind fun v6 => (tupI (v5) 1).bind fun v7 => (AV.asAg 10 (v6)).bind fun v8 => (binAg [.i, .i, .b, .i, .i, .i, .i, .b, .i, .s] .neq (.ag [v4.getD 0 .un, v4.getD 1 .un, v4.getD 2 .un, v4.getD 3 .un, v4.getD 4 .un, v4.getD 5 .un, v4.getD 6 .un, v4.getD 7 .un, v4.getD 8 .un, v4.getD 9 .un]) (.ag [v8.getD 0 .un, v8.getD 1 .un, v8.getD 2 .un, v8.getD 3 .un, v8.getD 4 .un, v8.getD 5 .un, v8.getD 6 .un, v8.getD 7 .un, v8.getD 8 .un, v8.getD 9 .un])).bind fun v9 => (selW (v9) false ((binI .neq (AV.comp (v3) 2) (v7)).bind fun v10 => some (v10)) (.b true)).bind fun v11 => condM (v11)
  (some (.b false))
  (F10_9 run (a0) (AV.elems (AV.comp (v3) 0)) (.int 0) 0))
section
variable (call : CallT) (run : RunT) (a0 : AV)
theorem text10 : unr C call run 10 Tryd.f10 400 [.code body10] (initF C 10 Tryd.f10.ntmps [a0]) = X10 call run a0 := by
  kernel_rfl
theorem c10 {r : AV} (h : X10 (semCall C Tryd.prog) (semRun C Tryd.prog 10 Tryd.f10) a0 = some r) : semCall C Tryd.prog 10 [a0] = some r :=
  semCall_unr (fn := Tryd.f10) (c := body10) (by kernel_rfl) (by kernel_rfl) 400 (by kernel_rfl) ((text10 _ _ a0).trans h)
end
noncomputable def X10_9 (call : CallT) (run : RunT) (a0 : AV) (a1 : List AV) (a2 : AV) (a3 : Int) : Option AV :=
  condM (.b (decide (a3 < ((a1.length : Int)))))
  ((inN a1.length (.int a3)).bind fun v1 => (binI .eql (AV.cell (a1.getD v1 .un) 0) (.u8 0)).bind fun v2 => condM (v2)
  ((inN a1.length (.int a3)).bind fun v3 => (binS .eql (AV.cell (a1.getD v3 .un) 3) (.s [])).bind fun v4 => (selW (v4) false ((inN a1.length (.int a3)).bind fun v5 => (binS .neq (AV.cell (a1.getD v5 .un) 1) (.s [])).bind fun v6 => some (v6)) (.b true)).bind fun v7 => (selW (v7) false ((inN a1.length (.int a3)).bind fun v8 => (lenR (AV.cell (a1.getD v8 .un) 2)).bind fun v9 => (binI .neq (v9) (.int 0)).bind fun v10 => some (v10)) (.b true)).bind fun v11 => (selW (v11) false ((selW (.b (decide (a3 > 0))) true ((inN a1.length (.int (w64 (a3 - 1)))).bind fun v12 => (binI .eql (AV.cell (a1.getD v12 .un) 0) (.u8 0)).bind fun v13 => some (v13)) (.b false)).bind fun v14 => some (v14)) (.b true)).bind fun v15 => condM (v15)
  (some (.b false))
  (F10_19 run (a0) a1 (a2) a3))
  ((binI .eql (AV.cell (a1.getD v1 .un) 0) (.u8 1)).bind fun v16 => condM (v16)
  (F10_17 run (a0) a1 (a2) a3)
  ((binI .eql (AV.cell (a1.getD v1 .un) 0) (.u8 2)).bind fun v17 => condM (v17)
  (F10_17 run (a0) a1 (a2) a3)
  (F10_19 run (a0) a1 (a2) a3))))
  ((lenR (a0)).bind fun v18 => (binI .leq (a2) (v18)).bind fun v19 => some (v19))
section
variable (call : CallT) (run : RunT) (a0 : AV) (a1 : List AV) (a2 : AV) (a3 : Int)
theorem text10_9 : step C call 10 Tryd.f10 (unr C call run 10 Tryd.f10 400) K10_9 (S10_9 a0 a1 a2 a3) = X10_9 call run a0 a1 a2 a3 := by
  kernel_rfl
end
noncomputable def X10_19 (call : CallT) (run : RunT) (a0 : AV) (a1 : List AV) (a2 : AV) (a3 : Int) : Option AV :=
  (inN a1.length (.int a3)).bind fun v1 => (lenS (AV.cell (a1.getD v1 .un) 3)).bind fun v2 => (inN a1.length (.int a3)).bind fun v3 => (lenS (AV.cell (a1.getD v3 .un) 1)).bind fun v4 => (binI .add (v2) (v4)).bind fun v5 => (binI .add (a2) (v5)).bind fun v6 => F10_9 run (a0) a1 (v6) (w64 (a3 + 1))
section
variable (call : CallT) (run : RunT) (a0 : AV) (a1 : List AV) (a2 : AV) (a3 : Int)
theorem text10_19 : step C call 10 Tryd.f10 (unr C call run 10 Tryd.f10 400) K10_19 (S10_19 a0 a1 a2 a3) = X10_19 call run a0 a1 a2 a3 := by
  kernel_rfl
end
noncomputable def X10_17 (call : CallT) (run : RunT) (a0 : AV) (a1 : List AV) (a2 : AV) (a3 : Int) : Option AV :=
  (inN a1.length (.int a3)).bind fun v1 => (binS .eql (AV.cell (a1.getD v1 .un) 1) (.s [])).bind fun v2 => (selW (v2) false ((inN a1.length (.int a3)).bind fun v3 => (binS .neq (AV.cell (a1.getD v3 .un) 3) (.s [])).bind fun v4 => some (v4)) (.b true)).bind fun v5 => condM (v5)
  (some (.b false))
  (F10_19 run (a0) a1 (a2) a3)
section
variable (call : CallT) (run : RunT) (a0 : AV) (a1 : List AV) (a2 : AV) (a3 : Int)
theorem text10_17 : step C call 10 Tryd.f10 (unr C call run 10 Tryd.f10 400) K10_17 (S10_17 a0 a1 a2 a3) = X10_17 call run a0 a1 a2 a3 := by
  kernel_rfl
end
section
variable (a0 : AV) (a1 : List AV) (a2 : AV) (a3 : Int)
theorem r10_9 {r : AV} (h : X10_9 (semCall C Tryd.prog) (semRun C Tryd.prog 10 Tryd.f10) a0 a1 a2 a3 = some r) : F10_9 (semRun C Tryd.prog 10 Tryd.f10) a0 a1 a2 a3 = some r :=
  semRun_unr 400 ((text10_9 _ _ a0 a1 a2 a3).trans h)
end
section
variable (a0 : AV) (a1 : List AV) (a2 : AV) (a3 : Int)
theorem r10_19 {r : AV} (h : X10_19 (semCall C Tryd.prog) (semRun C Tryd.prog 10 Tryd.f10) a0 a1 a2 a3 = some r) : F10_19 (semRun C Tryd.prog 10 Tryd.f10) a0 a1 a2 a3 = some r :=
  semRun_unr 400 ((text10_19 _ _ a0 a1 a2 a3).trans h)
end
section
variable (a0 : AV) (a1 : List AV) (a2 : AV) (a3 : Int)
theorem r10_17 {r : AV} (h : X10_17 (semCall C Tryd.prog) (semRun C Tryd.prog 10 Tryd.f10) a0 a1 a2 a3 = some r) : F10_17 (semRun C Tryd.prog 10 Tryd.f10) a0 a1 a2 a3 = some r :=
  semRun_unr 400 ((text10_17 _ _ a0 a1 a2 a3).trans h)
end
end R4

namespace R4
open Go Go.Proofs Sx
noncomputable def body11 : Code := (Tryd.f11.body).getD .skip
noncomputable def X11 (call : CallT) (run : RunT)  : Option AV :=
  (call 12 [.ro 1 (([.u8 60, .u8 98, .u8 62] : List AV))]).bind fun v1 => (AV.asAg 10 (AV.comp (v1) 1)).bind fun v2 => (binI .eql (AV.comp (v1) 2) (.int ((-1)))).bind fun v3 => (selW (v3) true (some (.b ((((AV.elems (AV.comp (v1) 0)).length : Int)) == 1))) (.b false)).bind fun v4 => (selW (v4) true ((inN (AV.elems (AV.comp (v1) 0)).length (.int 0)).bind fun v5 => (binI .eql (AV.cell ((AV.elems (AV.comp (v1) 0)).getD v5 .un) 0) (.u8 1)).bind fun v6 => some (v6)) (.b false)).bind fun v7 => (selW (v7) true ((inN (AV.elems (AV.comp (v1) 0)).length (.int 0)).bind fun v8 => (binS .eql (AV.cell ((AV.elems (AV.comp (v1) 0)).getD v8 .un) 1) (.s [98])).bind fun v9 => some (v9)) (.b false)).bind fun v10 => some (v10)
section
variable (call : CallT) (run : RunT) 
theorem text11 : unr C call run 11 Tryd.f11 400 [.code body11] (initF C 11 Tryd.f11.ntmps []) = X11 call run  := by
  kernel_rfl
theorem c11 {r : AV} (h : X11 (semCall C Tryd.prog) (semRun C Tryd.prog 11 Tryd.f11)  = some r) : semCall C Tryd.prog 11 [] = some r :=
  semCall_unr (fn := Tryd.f11) (c := body11) (by kernel_rfl) (by kernel_rfl) 400 (by kernel_rfl) ((text11 _ _ ).trans h)
end
end R4

namespace R4
open Go Go.Proofs Sx
noncomputable def body12 : Code := (Tryd.f12.body).getD .skip
noncomputable def X12 (call : CallT) (run : RunT) (a0 : AV) : Option AV :=
  (call 19 [.un, a0, .ag [.u8 0, .u8 0, .b false, .u8 0, .u8 0, .u8 0, .u8 0, .b false, .u8 0, .s [], .ro 1 [], .ro 1 [], .b false, .u8 0, .s [], .ro 2 [], .s [], .un, .b false], .ag [.ro 4 []]]).bind fun v1 => (tupI v1 0).bind fun v2 => (tupI v1 1).bind fun v3 => (AV.asAg 19 v3).bind fun v4 => (tupI v1 2).bind fun v5 => (AV.asAg 1 v5).bind fun v6 => some (.tu [.ro 4 (AV.elems (v6.getD 0 .un)), .ag [v4.getD 0 .un, v4.getD 1 .un, v4.getD 2 .un, v4.getD 3 .un, v4.getD 4 .un, v4.getD 5 .un, v4.getD 6 .un, v4.getD 7 .un, v4.getD 8 .un, v4.getD 9 .un], v2])
section
variable (call : CallT) (run : RunT) (a0 : AV)
theorem text12 : unr C call run 12 Tryd.f12 400 [.code body12] (initF C 12 Tryd.f12.ntmps [a0]) = X12 call run a0 := by
  kernel_rfl
theorem c12 {r : AV} (h : X12 (semCall C Tryd.prog) (semRun C Tryd.prog 12 Tryd.f12) a0 = some r) : semCall C Tryd.prog 12 [a0] = some r :=
  semCall_unr (fn := Tryd.f12) (c := body12) (by kernel_rfl) (by kernel_rfl) 400 (by kernel_rfl) ((text12 _ _ a0).trans h)
end
end R4

namespace R4
open Go Go.Proofs Sx
noncomputable def body17 : Code := (Tryd.f17.body).getD .skip
noncomputable def X17 (call : CallT) (run : RunT) (a0 a1 : UInt8) (a2 : Bool) (a3 a4 a5 a6 : UInt8) (a7 : Bool) (a8 : UInt8) (a9 : List UInt8) (a10 : AV) : Option AV :=
  (call 27 [.ag [.u8 a0, .u8 a1, .b a2, .u8 a3, .u8 a4, .u8 a5, .u8 a6, .b a7, .u8 a8, .s a9], a10, .fn 28]).bind fun v1 => (tupI (v1) 0).bind fun v2 => (tupI (v1) 1).bind fun v3 => (AV.asAg 10 (v2)).bind fun v4 => some (.tu [.ag [v4.getD 0 .un, v4.getD 1 .un, v4.getD 2 .un, v4.getD 3 .un, v4.getD 4 .un, v4.getD 5 .un, v4.getD 6 .un, v4.getD 7 .un, v4.getD 8 .un, v4.getD 9 .un], v3])
section
variable (call : CallT) (run : RunT) (a0 a1 : UInt8) (a2 : Bool) (a3 a4 a5 a6 : UInt8) (a7 : Bool) (a8 : UInt8) (a9 : List UInt8) (a10 : AV)
theorem text17 : unr C call run 17 Tryd.f17 400 [.code body17] (initF C 17 Tryd.f17.ntmps [.ag [.u8 a0, .u8 a1, .b a2, .u8 a3, .u8 a4, .u8 a5, .u8 a6, .b a7, .u8 a8, .s a9], a10]) = X17 call run a0 a1 a2 a3 a4 a5 a6 a7 a8 a9 a10 := by
  kernel_rfl
theorem c17 {r : AV} (h : X17 (semCall C Tryd.prog) (semRun C Tryd.prog 17 Tryd.f17) a0 a1 a2 a3 a4 a5 a6 a7 a8 a9 a10 = some r) : semCall C Tryd.prog 17 [.ag [.u8 a0, .u8 a1, .b a2, .u8 a3, .u8 a4, .u8 a5, .u8 a6, .b a7, .u8 a8, .s a9], a10] = some r :=
  semCall_unr (fn := Tryd.f17) (c := body17) (by kernel_rfl) (by kernel_rfl) 400 (by kernel_rfl) ((text17 _ _ a0 a1 a2 a3 a4 a5 a6 a7 a8 a9 a10).trans h)
end
end R4

namespace R4
open Go Go.Proofs Sx
noncomputable def body18 : Code := (Tryd.f18.body).getD .skip
noncomputable def X18 (call : CallT) (run : RunT) (a0 : UInt8) (a1 : List UInt8) (a2 : AV) (a3 : List UInt8) (a4 : List AV) : Option AV :=
  (app 64 4 a4 (.ro 4 (([.ag [.u8 a0, .s a1, a2, .s a3]] : List AV)))).bind fun v1 => some (.tu [.b true, .ag [.ro 4 v1]])
section
variable (call : CallT) (run : RunT) (a0 : UInt8) (a1 : List UInt8) (a2 : AV) (a3 : List UInt8) (a4 : List AV)
theorem text18 : unr C call run 18 Tryd.f18 400 [.code body18] (initF C 18 Tryd.f18.ntmps [.ag [.u8 a0, .s a1, a2, .s a3], .un, .ag [.ro 4 a4]]) = X18 call run a0 a1 a2 a3 a4 := by
  kernel_rfl
theorem c18 {r : AV} (h : X18 (semCall C Tryd.prog) (semRun C Tryd.prog 18 Tryd.f18) a0 a1 a2 a3 a4 = some r) : semCall C Tryd.prog 18 [.ag [.u8 a0, .s a1, a2, .s a3], .un, .ag [.ro 4 a4]] = some r :=
  semCall_unr (fn := Tryd.f18) (c := body18) (by kernel_rfl) (by kernel_rfl) 400 (by kernel_rfl) ((text18 _ _ a0 a1 a2 a3 a4).trans h)
end
end R4

namespace R4
open Go Go.Proofs Sx
noncomputable def body19 : Code := (Tryd.f19.body).getD .skip
section
variable (run : RunT) (a0 a1 : AV) (a2 : Int) (a3 a4 a5 a6 a7 a8 a9 a10 a11 a12 : AV) (a13 a14 : List AV) (a15 a16 a17 : AV) (a18 : List AV) (a19 a20 : AV) (a21 : List AV)
noncomputable def K19_2 : List Item := (kAt 2 body19 []).getD []
def S19_2 : St := St.ofL [(0, .cell (.ptr 34 0)), (7, .cell (.val (a0))), (8, .cell (.val (a1))), (9, .cell (.val (.int a2)))] [(34, some [.val (a3), .val (a4), .val (a5), .val (a6), .val (a7), .val (a8), .val (a9), .val (a10), .val (a11), .val (a12), .own 634010 5 1 a13, .own 634011 5 1 a14, .val (a15), .val (a16), .val (a17), .own 634015 45 2 a18, .val (a19), .clo 18 [35], .val (a20)]), (35, some [.own 635000 39 4 a21])]
noncomputable def F19_2 : Option AV := run K19_2 (S19_2 a0 a1 a2 a3 a4 a5 a6 a7 a8 a9 a10 a11 a12 a13 a14 a15 a16 a17 a18 a19 a20 a21)
end
noncomputable def X19 (call : CallT) (run : RunT) (a0 : AV) (a1 a2 : UInt8) (a3 : Bool) (a4 a5 a6 a7 : UInt8) (a8 : Bool) (a9 : UInt8) (a10 : List UInt8) (a11 a12 : List AV) (a13 : Bool) (a14 : UInt8) (a15 : List UInt8) (a16 : List AV) (a17 : List UInt8) (a18 : Bool) (a19 : List AV) : Option AV :=
  (lenR (a0)).bind fun v1 => F19_2 run (a0) (v1) 0 (.u8 a1) (.u8 a2) (.b a3) (.u8 a4) (.u8 a5) (.u8 a6) (.u8 a7) (.b a8) (.u8 a9) (.s a10) a11 a12 (.b a13) (.u8 a14) (.s a15) a16 (.s a17) (.b a18) a19
section
variable (call : CallT) (run : RunT) (a0 : AV) (a1 a2 : UInt8) (a3 : Bool) (a4 a5 a6 a7 : UInt8) (a8 : Bool) (a9 : UInt8) (a10 : List UInt8) (a11 a12 : List AV) (a13 : Bool) (a14 : UInt8) (a15 : List UInt8) (a16 : List AV) (a17 : List UInt8) (a18 : Bool) (a19 : List AV)
theorem text19 : unr C call run 19 Tryd.f19 400 [.code body19] (initF C 19 Tryd.f19.ntmps [.un, a0, .ag [.u8 a1, .u8 a2, .b a3, .u8 a4, .u8 a5, .u8 a6, .u8 a7, .b a8, .u8 a9, .s a10, .ro 1 a11, .ro 1 a12, .b a13, .u8 a14, .s a15, .ro 2 a16, .s a17, .un, .b a18], .ag [.ro 4 a19]]) = X19 call run a0 a1 a2 a3 a4 a5 a6 a7 a8 a9 a10 a11 a12 a13 a14 a15 a16 a17 a18 a19 := by
  kernel_rfl
theorem c19 {r : AV} (h : X19 (semCall C Tryd.prog) (semRun C Tryd.prog 19 Tryd.f19) a0 a1 a2 a3 a4 a5 a6 a7 a8 a9 a10 a11 a12 a13 a14 a15 a16 a17 a18 a19 = some r) : semCall C Tryd.prog 19 [.un, a0, .ag [.u8 a1, .u8 a2, .b a3, .u8 a4, .u8 a5, .u8 a6, .u8 a7, .b a8, .u8 a9, .s a10, .ro 1 a11, .ro 1 a12, .b a13, .u8 a14, .s a15, .ro 2 a16, .s a17, .un, .b a18], .ag [.ro 4 a19]] = some r :=
  semCall_unr (fn := Tryd.f19) (c := body19) (by kernel_rfl) (by kernel_rfl) 400 (by kernel_rfl) ((text19 _ _ a0 a1 a2 a3 a4 a5 a6 a7 a8 a9 a10 a11 a12 a13 a14 a15 a16 a17 a18 a19).trans h)
end
noncomputable def X19_2 (call : CallT) (run : RunT) (a0 a1 : AV) (a2 : Int) (a3 a4 a5 a6 a7 a8 a9 a10 a11 a12 : AV) (a13 a14 : List AV) (a15 a16 a17 : AV) (a18 : List AV) (a19 a20 : AV) (a21 : List AV) : Option AV :=
  (binI .lss (.int a2) (a1)).bind fun v1 => condM (v1)
  ((idx 1 (a0) (.int a2)).bind fun v2 => condM (a20)
  (some (.tu [.int ((-1)), .ag [a3, a4, a5, a6, a7, a8, a9, a10, a11, a12, .ro 1 a13, .ro 1 a14, a15, a16, a17, .ro 2 a18, a19, .un, a20], .ag [.ro 4 a21]]))
  ((call 29 [.un, AV.cell (v2) 0, .ag [a3, a4, a5, a6, a7, a8, a9, a10, a11, a12, .ro 1 a13, .ro 1 a14, a15, a16, a17, .ro 2 a18, a19, .un, a20], .ag [.ro 4 a21]]).bind fun v3 => (tupI v3 0).bind fun v4 => (tupI v3 1).bind fun v5 => (AV.asAg 19 v5).bind fun v6 => (tupI v3 2).bind fun v7 => (AV.asAg 1 v7).bind fun v8 => (binI .eql (v6.getD 0 .un) (.u8 20)).bind fun v9 => condM (v9)
  (some (.tu [.int a2, .ag [v6.getD 0 .un, v6.getD 1 .un, v6.getD 2 .un, v6.getD 3 .un, v6.getD 4 .un, v6.getD 5 .un, v6.getD 6 .un, v6.getD 7 .un, v6.getD 8 .un, v6.getD 9 .un, .ro 1 (AV.elems (v6.getD 10 .un)), .ro 1 (AV.elems (v6.getD 11 .un)), v6.getD 12 .un, v6.getD 13 .un, v6.getD 14 .un, .ro 2 (AV.elems (v6.getD 15 .un)), v6.getD 16 .un, .un, v6.getD 18 .un], .ag [.ro 4 (AV.elems (v8.getD 0 .un))]]))
  (F19_2 run (a0) (a1) (w64 (a2 + 1)) (v6.getD 0 .un) (v6.getD 1 .un) (v6.getD 2 .un) (v6.getD 3 .un) (v6.getD 4 .un) (v6.getD 5 .un) (v6.getD 6 .un) (v6.getD 7 .un) (v6.getD 8 .un) (v6.getD 9 .un) (AV.elems (v6.getD 10 .un)) (AV.elems (v6.getD 11 .un)) (v6.getD 12 .un) (v6.getD 13 .un) (v6.getD 14 .un) (AV.elems (v6.getD 15 .un)) (v6.getD 16 .un) (v6.getD 18 .un) (AV.elems (v8.getD 0 .un)))))
  ((call 30 [.un, .ag [a3, a4, a5, a6, a7, a8, a9, a10, a11, a12, .ro 1 a13, .ro 1 [], a15, a16, a17, .ro 2 a18, a19, .un, a20], .ag [.ro 4 a21]]).bind fun v10 => (tupI v10 0).bind fun v11 => (tupI v10 1).bind fun v12 => (AV.asAg 19 v12).bind fun v13 => (tupI v10 2).bind fun v14 => (AV.asAg 1 v14).bind fun v15 => some (.tu [.int ((-1)), .ag [v13.getD 0 .un, v13.getD 1 .un, v13.getD 2 .un, v13.getD 3 .un, v13.getD 4 .un, v13.getD 5 .un, v13.getD 6 .un, v13.getD 7 .un, v13.getD 8 .un, v13.getD 9 .un, .ro 1 (AV.elems (v13.getD 10 .un)), .ro 1 (AV.elems (v13.getD 11 .un)), v13.getD 12 .un, v13.getD 13 .un, v13.getD 14 .un, v13.getD 15 .un, v13.getD 16 .un, .un, v13.getD 18 .un], .ag [.ro 4 (AV.elems (v15.getD 0 .un))]]))
section
variable (call : CallT) (run : RunT) (a0 a1 : AV) (a2 : Int) (a3 a4 a5 a6 a7 a8 a9 a10 a11 a12 : AV) (a13 a14 : List AV) (a15 a16 a17 : AV) (a18 : List AV) (a19 a20 : AV) (a21 : List AV)
theorem text19_2 : step C call 19 Tryd.f19 (unr C call run 19 Tryd.f19 400) K19_2 (S19_2 a0 a1 a2 a3 a4 a5 a6 a7 a8 a9 a10 a11 a12 a13 a14 a15 a16 a17 a18 a19 a20 a21) = X19_2 call run a0 a1 a2 a3 a4 a5 a6 a7 a8 a9 a10 a11 a12 a13 a14 a15 a16 a17 a18 a19 a20 a21 := by
  kernel_rfl
end
section
variable (a0 a1 : AV) (a2 : Int) (a3 a4 a5 a6 a7 a8 a9 a10 a11 a12 : AV) (a13 a14 : List AV) (a15 a16 a17 : AV) (a18 : List AV) (a19 a20 : AV) (a21 : List AV)
theorem r19_2 {r : AV} (h : X19_2 (semCall C Tryd.prog) (semRun C Tryd.prog 19 Tryd.f19) a0 a1 a2 a3 a4 a5 a6 a7 a8 a9 a10 a11 a12 a13 a14 a15 a16 a17 a18 a19 a20 a21 = some r) : F19_2 (semRun C Tryd.prog 19 Tryd.f19) a0 a1 a2 a3 a4 a5 a6 a7 a8 a9 a10 a11 a12 a13 a14 a15 a16 a17 a18 a19 a20 a21 = some r :=
  semRun_unr 400 ((text19_2 _ _ a0 a1 a2 a3 a4 a5 a6 a7 a8 a9 a10 a11 a12 a13 a14 a15 a16 a17 a18 a19 a20 a21).trans h)
end
end R4

namespace R4
open Go Go.Proofs Sx
noncomputable def body20 : Code := (Tryd.f20.body).getD .skip
section
variable (run : RunT) (a0 : UInt8) (a1 a2 a3 a4 a5 a6 a7 a8 a9 a10 : AV) (a11 a12 : UInt8) (a13 : Bool) (a14 a15 a16 a17 : UInt8) (a18 : Bool) (a19 : UInt8) (a20 : List UInt8)
noncomputable def K20_20 : List Item := (kAt 20 body20 []).getD []
def S20_20 : St := St.ofL [(1, .cell (.val (.u8 a0))), (2, .cell (.ptr 2 0)), (4, .cell (.ptr 4 0))] [(2, some [.val (a1), .val (a2), .val (a3), .val (a4), .val (a5), .val (a6), .val (a7), .val (a8), .val (a9), .val (a10)]), (4, some [.val (.u8 a11), .val (.u8 a12), .val (.b a13), .val (.u8 a14), .val (.u8 a15), .val (.u8 a16), .val (.u8 a17), .val (.b a18), .val (.u8 a19), .val (.s a20)])]
noncomputable def F20_20 : Option AV := run K20_20 (S20_20 a0 a1 a2 a3 a4 a5 a6 a7 a8 a9 a10 a11 a12 a13 a14 a15 a16 a17 a18 a19 a20)
end
section
variable (run : RunT) (a0 : UInt8) (a1 a2 a3 a4 a5 a6 a7 a8 : AV) (a9 : List UInt8) (a10 a11 : UInt8) (a12 : Bool) (a13 a14 a15 a16 : UInt8) (a17 : Bool) (a18 : UInt8) (a19 : List UInt8)
noncomputable def K20_24 : List Item := (kAt 24 body20 []).getD []
def S20_24 : St := St.ofL [(2, .cell (.ptr 2 0)), (4, .cell (.ptr 4 0))] [(2, some [.val (.u8 a0), .val (a1), .val (a2), .val (a3), .val (a4), .val (a5), .val (a6), .val (a7), .val (a8), .val (.s a9)]), (4, some [.val (.u8 a10), .val (.u8 a11), .val (.b a12), .val (.u8 a13), .val (.u8 a14), .val (.u8 a15), .val (.u8 a16), .val (.b a17), .val (.u8 a18), .val (.s a19)])]
noncomputable def F20_24 : Option AV := run K20_24 (S20_24 a0 a1 a2 a3 a4 a5 a6 a7 a8 a9 a10 a11 a12 a13 a14 a15 a16 a17 a18 a19)
end
noncomputable def X20 (call : CallT) (run : RunT) (a0 a1 : UInt8) (a2 : Bool) (a3 a4 a5 a6 : UInt8) (a7 : Bool) (a8 : UInt8) (a9 : List UInt8) (a10 : UInt8) : Option AV :=
  (call 31 [.ag [.u8 a0, .u8 a1, .b a2, .u8 a3, .u8 a4, .u8 a5, .u8 a6, .b a7, .u8 a8, .s a9]]).bind fun v1 => (unop .not (v1)).bind fun v2 => condM (v2)
  ((call 32 []).bind fun v3 => (AV.asAg 10 (v3)).bind fun v4 => some (.ag [v4.getD 0 .un, v4.getD 1 .un, v4.getD 2 .un, v4.getD 3 .un, v4.getD 4 .un, v4.getD 5 .un, v4.getD 6 .un, v4.getD 7 .un, v4.getD 8 .un, v4.getD 9 .un]))
  ((call 33 [.ag [.u8 a0, .u8 a1, .b a2, .u8 a3, .u8 a4, .u8 a5, .u8 a6, .b a7, .u8 a8, .s a9]]).bind fun v5 => (AV.asAg 10 (v5)).bind fun v6 => (conv .i64 (v6.getD 0 .un)).bind fun v7 => (binI .lss (v7) (.int 17)).bind fun v8 => (selW (v8) false ((binI .gtr (v7) (.int 19)).bind fun v9 => some (v9)) (.b true)).bind fun v10 => (selW (v10) false ((binI .lss (v6.getD 1 .un) (.u8 3)).bind fun v11 => some (v11)) (.b true)).bind fun v12 => condM (v12)
  ((call 34 [.ag [v6.getD 0 .un, v6.getD 1 .un, v6.getD 2 .un, v6.getD 3 .un, v6.getD 4 .un, v6.getD 5 .un, v6.getD 6 .un, v6.getD 7 .un, v6.getD 8 .un, v6.getD 9 .un], .u8 a10]).bind fun v13 => (call 33 [v13]).bind fun v14 => (AV.asAg 10 (v14)).bind fun v15 => some (.ag [v15.getD 0 .un, v15.getD 1 .un, v15.getD 2 .un, v15.getD 3 .un, v15.getD 4 .un, v15.getD 5 .un, v15.getD 6 .un, v15.getD 7 .un, v15.getD 8 .un, v15.getD 9 .un]))
  ((binI .eql (v7) (.int 18)).bind fun v16 => (selW (v16) true (some (.b (ueq a10 33))) (.b false)).bind fun v17 => (selW (v17) true ((binI .eql (v6.getD 1 .un) (.u8 3)).bind fun v18 => some (v18)) (.b false)).bind fun v19 => condM (v19)
  ((call 32 []).bind fun v20 => (AV.asAg 10 (v20)).bind fun v21 => some (.ag [v21.getD 0 .un, v21.getD 1 .un, v21.getD 2 .un, v21.getD 3 .un, v21.getD 4 .un, v21.getD 5 .un, v21.getD 6 .un, v21.getD 7 .un, v21.getD 8 .un, v21.getD 9 .un]))
  ((binI .eql (v7) (.int 18)).bind fun v22 => (selW (v22) true (some (.b (ueq a10 47))) (.b false)).bind fun v23 => condM (v23)
  (some (.ag [.u8 19, v6.getD 1 .un, v6.getD 2 .un, v6.getD 3 .un, v6.getD 4 .un, v6.getD 5 .un, v6.getD 6 .un, v6.getD 7 .un, v6.getD 8 .un, v6.getD 9 .un]))
  ((conv .i64 (v6.getD 1 .un)).bind fun v24 => (call 35 [v24]).bind fun v25 => (binI .eql (v7) (.int 19)).bind fun v26 => condM (v26)
  ((binS .eql (v6.getD 9 .un) (v25)).bind fun v27 => (selW (v27) true ((call 36 [.u8 a10]).bind fun v28 => (selW (v28) false (some (.b (ueq a10 47))) (.b true)).bind fun v29 => (selW (v29) false (some (.b (ueq a10 62))) (.b true)).bind fun v30 => some (v30)) (.b false)).bind fun v31 => condM (v31)
  ((call 34 [.ag [.u8 9, .u8 0, .b true, .u8 0, .u8 0, .u8 0, .u8 0, .b false, .u8 0, .s []], .u8 a10]).bind fun v32 => (AV.asAg 10 (v32)).bind fun v33 => some (.ag [v33.getD 0 .un, v33.getD 1 .un, v33.getD 2 .un, v33.getD 3 .un, v33.getD 4 .un, v33.getD 5 .un, v33.getD 6 .un, v33.getD 7 .un, v33.getD 8 .un, v33.getD 9 .un]))
  ((call 37 [.u8 a10]).bind fun v34 => (binS .add (v6.getD 9 .un) (v34)).bind fun v35 => (lenS (v35)).bind fun v36 => (lenS (v25)).bind fun v37 => (binI .leq (v36) (v37)).bind fun v38 => (selW (v38) true ((lenS (v35)).bind fun v39 => (slS (v25) none (some (v39))).bind fun v40 => (binS .eql (v40) (v35)).bind fun v41 => some (v41)) (.b false)).bind fun v42 => condM (v42)
  ((AV.one (v35)).bind fun v43 => some (.ag [v6.getD 0 .un, v6.getD 1 .un, v6.getD 2 .un, v6.getD 3 .un, v6.getD 4 .un, v6.getD 5 .un, v6.getD 6 .un, v6.getD 7 .un, v6.getD 8 .un, v43]))
  (F20_20 run a10 (v6.getD 0 .un) (v6.getD 1 .un) (v6.getD 2 .un) (v6.getD 3 .un) (v6.getD 4 .un) (v6.getD 5 .un) (v6.getD 6 .un) (v6.getD 7 .un) (v6.getD 8 .un) (v6.getD 9 .un) 0 0 false 0 0 0 0 false 0 [])))
  (F20_20 run a10 (v6.getD 0 .un) (v6.getD 1 .un) (v6.getD 2 .un) (v6.getD 3 .un) (v6.getD 4 .un) (v6.getD 5 .un) (v6.getD 6 .un) (v6.getD 7 .un) (v6.getD 8 .un) (v6.getD 9 .un) 0 0 false 0 0 0 0 false 0 [])))))
section
variable (call : CallT) (run : RunT) (a0 a1 : UInt8) (a2 : Bool) (a3 a4 a5 a6 : UInt8) (a7 : Bool) (a8 : UInt8) (a9 : List UInt8) (a10 : UInt8)
theorem text20 : unr C call run 20 Tryd.f20 400 [.code body20] (initF C 20 Tryd.f20.ntmps [.ag [.u8 a0, .u8 a1, .b a2, .u8 a3, .u8 a4, .u8 a5, .u8 a6, .b a7, .u8 a8, .s a9], .u8 a10]) = X20 call run a0 a1 a2 a3 a4 a5 a6 a7 a8 a9 a10 := by
  kernel_rfl
theorem c20 {r : AV} (h : X20 (semCall C Tryd.prog) (semRun C Tryd.prog 20 Tryd.f20) a0 a1 a2 a3 a4 a5 a6 a7 a8 a9 a10 = some r) : semCall C Tryd.prog 20 [.ag [.u8 a0, .u8 a1, .b a2, .u8 a3, .u8 a4, .u8 a5, .u8 a6, .b a7, .u8 a8, .s a9], .u8 a10] = some r :=
  semCall_unr (fn := Tryd.f20) (c := body20) (by kernel_rfl) (by kernel_rfl) 400 (by kernel_rfl) ((text20 _ _ a0 a1 a2 a3 a4 a5 a6 a7 a8 a9 a10).trans h)
end
noncomputable def X20_20 (call : CallT) (run : RunT) (a0 : UInt8) (a1 a2 a3 a4 a5 a6 a7 a8 a9 a10 : AV) (a11 a12 : UInt8) (a13 : Bool) (a14 a15 a16 a17 : UInt8) (a18 : Bool) (a19 : UInt8) (a20 : List UInt8) : Option AV :=
  condM (.b (ueq a0 60))
  (F20_24 run 18 (a2) (a3) (a4) (a5) (a6) (a7) (a8) (a9) [] a11 a12 a13 a14 a15 a16 a17 a18 a19 a20)
  (F20_24 run 17 (a2) (a3) (a4) (a5) (a6) (a7) (a8) (a9) [] a11 a12 a13 a14 a15 a16 a17 a18 a19 a20)
section
variable (call : CallT) (run : RunT) (a0 : UInt8) (a1 a2 a3 a4 a5 a6 a7 a8 a9 a10 : AV) (a11 a12 : UInt8) (a13 : Bool) (a14 a15 a16 a17 : UInt8) (a18 : Bool) (a19 : UInt8) (a20 : List UInt8)
theorem text20_20 : step C call 20 Tryd.f20 (unr C call run 20 Tryd.f20 400) K20_20 (S20_20 a0 a1 a2 a3 a4 a5 a6 a7 a8 a9 a10 a11 a12 a13 a14 a15 a16 a17 a18 a19 a20) = X20_20 call run a0 a1 a2 a3 a4 a5 a6 a7 a8 a9 a10 a11 a12 a13 a14 a15 a16 a17 a18 a19 a20 := by
  kernel_rfl
end
noncomputable def X20_24 (call : CallT) (run : RunT) (a0 : UInt8) (a1 a2 a3 a4 a5 a6 a7 a8 : AV) (a9 : List UInt8) (a10 a11 : UInt8) (a12 : Bool) (a13 a14 a15 a16 : UInt8) (a17 : Bool) (a18 : UInt8) (a19 : List UInt8) : Option AV :=
  some (.ag [.u8 a0, a1, a2, a3, a4, a5, a6, a7, a8, .s a9])
section
variable (call : CallT) (run : RunT) (a0 : UInt8) (a1 a2 a3 a4 a5 a6 a7 a8 : AV) (a9 : List UInt8) (a10 a11 : UInt8) (a12 : Bool) (a13 a14 a15 a16 : UInt8) (a17 : Bool) (a18 : UInt8) (a19 : List UInt8)
theorem text20_24 : step C call 20 Tryd.f20 (unr C call run 20 Tryd.f20 400) K20_24 (S20_24 a0 a1 a2 a3 a4 a5 a6 a7 a8 a9 a10 a11 a12 a13 a14 a15 a16 a17 a18 a19) = X20_24 call run a0 a1 a2 a3 a4 a5 a6 a7 a8 a9 a10 a11 a12 a13 a14 a15 a16 a17 a18 a19 := by
  kernel_rfl
end
section
variable (a0 : UInt8) (a1 a2 a3 a4 a5 a6 a7 a8 a9 a10 : AV) (a11 a12 : UInt8) (a13 : Bool) (a14 a15 a16 a17 : UInt8) (a18 : Bool) (a19 : UInt8) (a20 : List UInt8)
theorem r20_20 {r : AV} (h : X20_20 (semCall C Tryd.prog) (semRun C Tryd.prog 20 Tryd.f20) a0 a1 a2 a3 a4 a5 a6 a7 a8 a9 a10 a11 a12 a13 a14 a15 a16 a17 a18 a19 a20 = some r) : F20_20 (semRun C Tryd.prog 20 Tryd.f20) a0 a1 a2 a3 a4 a5 a6 a7 a8 a9 a10 a11 a12 a13 a14 a15 a16 a17 a18 a19 a20 = some r :=
  semRun_unr 400 ((text20_20 _ _ a0 a1 a2 a3 a4 a5 a6 a7 a8 a9 a10 a11 a12 a13 a14 a15 a16 a17 a18 a19 a20).trans h)
end
section
variable (a0 : UInt8) (a1 a2 a3 a4 a5 a6 a7 a8 : AV) (a9 : List UInt8) (a10 a11 : UInt8) (a12 : Bool) (a13 a14 a15 a16 : UInt8) (a17 : Bool) (a18 : UInt8) (a19 : List UInt8)
theorem r20_24 {r : AV} (h : X20_24 (semCall C Tryd.prog) (semRun C Tryd.prog 20 Tryd.f20) a0 a1 a2 a3 a4 a5 a6 a7 a8 a9 a10 a11 a12 a13 a14 a15 a16 a17 a18 a19 = some r) : F20_24 (semRun C Tryd.prog 20 Tryd.f20) a0 a1 a2 a3 a4 a5 a6 a7 a8 a9 a10 a11 a12 a13 a14 a15 a16 a17 a18 a19 = some r :=
  semRun_unr 400 ((text20_24 _ _ a0 a1 a2 a3 a4 a5 a6 a7 a8 a9 a10 a11 a12 a13 a14 a15 a16 a17 a18 a19).trans h)
end
end R4

namespace R4
open Go Go.Proofs Sx
noncomputable def body27 : Code := (Tryd.f27.body).getD .skip
section
variable (run : RunT) (a0 : AV) (a1 : Nat) (a2 a3 : UInt8) (a4 : Bool) (a5 a6 a7 a8 : UInt8) (a9 : Bool) (a10 : UInt8) (a11 : List UInt8) (a12 a13 : UInt8) (a14 : Bool) (a15 a16 a17 a18 : UInt8) (a19 : Bool) (a20 : UInt8) (a21 : List UInt8)
noncomputable def K27_3 : List Item := (kAt 3 body27 []).getD []
def S27_3 : St := St.ofL [(1, .cell (.val (a0))), (2, .cell (.val (.fn a1))), (3, .cell (.ptr 3 0)), (6, .cell (.ptr 6 0))] [(3, some [.val (.u8 a2), .val (.u8 a3), .val (.b a4), .val (.u8 a5), .val (.u8 a6), .val (.u8 a7), .val (.u8 a8), .val (.b a9), .val (.u8 a10), .val (.s a11)]), (6, some [.val (.u8 a12), .val (.u8 a13), .val (.b a14), .val (.u8 a15), .val (.u8 a16), .val (.u8 a17), .val (.u8 a18), .val (.b a19), .val (.u8 a20), .val (.s a21)])]
noncomputable def F27_3 : Option AV := run K27_3 (S27_3 a0 a1 a2 a3 a4 a5 a6 a7 a8 a9 a10 a11 a12 a13 a14 a15 a16 a17 a18 a19 a20 a21)
end
section
variable (run : RunT) (a0 : Nat) (a1 a2 : AV) (a3 : Int) (a4 a5 a6 a7 a8 a9 a10 a11 a12 a13 : AV) (a14 a15 : UInt8) (a16 : Bool) (a17 a18 a19 a20 : UInt8) (a21 : Bool) (a22 : UInt8) (a23 : List UInt8)
noncomputable def K27_4 : List Item := (kAt 4 body27 []).getD []
def S27_4 : St := St.ofL [(2, .cell (.val (.fn a0))), (3, .cell (.ptr 3 0)), (6, .cell (.ptr 6 0)), (14, .cell (.val (a1))), (15, .cell (.val (a2))), (16, .cell (.val (.int a3)))] [(3, some [.val (a4), .val (a5), .val (a6), .val (a7), .val (a8), .val (a9), .val (a10), .val (a11), .val (a12), .val (a13)]), (6, some [.val (.u8 a14), .val (.u8 a15), .val (.b a16), .val (.u8 a17), .val (.u8 a18), .val (.u8 a19), .val (.u8 a20), .val (.b a21), .val (.u8 a22), .val (.s a23)])]
noncomputable def F27_4 : Option AV := run K27_4 (S27_4 a0 a1 a2 a3 a4 a5 a6 a7 a8 a9 a10 a11 a12 a13 a14 a15 a16 a17 a18 a19 a20 a21 a22 a23)
end
noncomputable def X27 (call : CallT) (run : RunT) (a0 a1 : UInt8) (a2 : Bool) (a3 a4 a5 a6 : UInt8) (a7 : Bool) (a8 : UInt8) (a9 : List UInt8) (a10 : AV) (a11 : Nat) : Option AV :=
  (call 43 [.ag [.u8 a0, .u8 a1, .b a2, .u8 a3, .u8 a4, .u8 a5, .u8 a6, .b a7, .u8 a8, .s a9]]).bind fun v1 => (unop .not (v1)).bind fun v2 => condM (v2)
  (F27_3 run (a10) a11 20 0 false 0 0 0 0 false 0 [] 0 0 false 0 0 0 0 false 0 [])
  (F27_3 run (a10) a11 a0 a1 a2 a3 a4 a5 a6 a7 a8 a9 0 0 false 0 0 0 0 false 0 [])
section
variable (call : CallT) (run : RunT) (a0 a1 : UInt8) (a2 : Bool) (a3 a4 a5 a6 : UInt8) (a7 : Bool) (a8 : UInt8) (a9 : List UInt8) (a10 : AV) (a11 : Nat)
theorem text27 : unr C call run 27 Tryd.f27 400 [.code body27] (initF C 27 Tryd.f27.ntmps [.ag [.u8 a0, .u8 a1, .b a2, .u8 a3, .u8 a4, .u8 a5, .u8 a6, .b a7, .u8 a8, .s a9], a10, .fn a11]) = X27 call run a0 a1 a2 a3 a4 a5 a6 a7 a8 a9 a10 a11 := by
  kernel_rfl
theorem c27 {r : AV} (h : X27 (semCall C Tryd.prog) (semRun C Tryd.prog 27 Tryd.f27) a0 a1 a2 a3 a4 a5 a6 a7 a8 a9 a10 a11 = some r) : semCall C Tryd.prog 27 [.ag [.u8 a0, .u8 a1, .b a2, .u8 a3, .u8 a4, .u8 a5, .u8 a6, .b a7, .u8 a8, .s a9], a10, .fn a11] = some r :=
  semCall_unr (fn := Tryd.f27) (c := body27) (by kernel_rfl) (by kernel_rfl) 400 (by kernel_rfl) ((text27 _ _ a0 a1 a2 a3 a4 a5 a6 a7 a8 a9 a10 a11).trans h)
end
noncomputable def X27_3 (call : CallT) (run : RunT) (a0 : AV) (a1 : Nat) (a2 a3 : UInt8) (a4 : Bool) (a5 a6 a7 a8 : UInt8) (a9 : Bool) (a10 : UInt8) (a11 : List UInt8) (a12 a13 : UInt8) (a14 : Bool) (a15 a16 a17 a18 : UInt8) (a19 : Bool) (a20 : UInt8) (a21 : List UInt8) : Option AV :=
  (lenR (a0)).bind fun v1 => F27_4 run a1 (a0) (v1) 0 (.u8 a2) (.u8 a3) (.b a4) (.u8 a5) (.u8 a6) (.u8 a7) (.u8 a8) (.b a9) (.u8 a10) (.s a11) a12 a13 a14 a15 a16 a17 a18 a19 a20 a21
section
variable (call : CallT) (run : RunT) (a0 : AV) (a1 : Nat) (a2 a3 : UInt8) (a4 : Bool) (a5 a6 a7 a8 : UInt8) (a9 : Bool) (a10 : UInt8) (a11 : List UInt8) (a12 a13 : UInt8) (a14 : Bool) (a15 a16 a17 a18 : UInt8) (a19 : Bool) (a20 : UInt8) (a21 : List UInt8)
theorem text27_3 : step C call 27 Tryd.f27 (unr C call run 27 Tryd.f27 400) K27_3 (S27_3 a0 a1 a2 a3 a4 a5 a6 a7 a8 a9 a10 a11 a12 a13 a14 a15 a16 a17 a18 a19 a20 a21) = X27_3 call run a0 a1 a2 a3 a4 a5 a6 a7 a8 a9 a10 a11 a12 a13 a14 a15 a16 a17 a18 a19 a20 a21 := by
  kernel_rfl
end
noncomputable def X27_4 (call : CallT) (run : RunT) (a0 : Nat) (a1 a2 : AV) (a3 : Int) (a4 a5 a6 a7 a8 a9 a10 a11 a12 a13 : AV) (a14 a15 : UInt8) (a16 : Bool) (a17 a18 a19 a20 : UInt8) (a21 : Bool) (a22 : UInt8) (a23 : List UInt8) : Option AV :=
  (binI .lss (.int a3) (a2)).bind fun v1 => condM (v1)
  ((idx 1 (a1) (.int a3)).bind fun v2 => (callV C call a0 [.ag [a4, a5, a6, a7, a8, a9, a10, a11, a12, a13], AV.cell (v2) 0]).bind fun v4 => (AV.asAg 10 (v4)).bind fun v5 => (binI .eql (v5.getD 0 .un) (.u8 20)).bind fun v6 => condM (v6)
  (some (.tu [.ag [v5.getD 0 .un, v5.getD 1 .un, v5.getD 2 .un, v5.getD 3 .un, v5.getD 4 .un, v5.getD 5 .un, v5.getD 6 .un, v5.getD 7 .un, v5.getD 8 .un, v5.getD 9 .un], .int a3]))
  (F27_4 run a0 (a1) (a2) (w64 (a3 + 1)) (v5.getD 0 .un) (v5.getD 1 .un) (v5.getD 2 .un) (v5.getD 3 .un) (v5.getD 4 .un) (v5.getD 5 .un) (v5.getD 6 .un) (v5.getD 7 .un) (v5.getD 8 .un) (v5.getD 9 .un) a14 a15 a16 a17 a18 a19 a20 a21 a22 a23))
  (some (.tu [.ag [a4, a5, a6, a7, a8, a9, a10, a11, a12, a13], .int ((-1))]))
section
variable (call : CallT) (run : RunT) (a0 : Nat) (a1 a2 : AV) (a3 : Int) (a4 a5 a6 a7 a8 a9 a10 a11 a12 a13 : AV) (a14 a15 : UInt8) (a16 : Bool) (a17 a18 a19 a20 : UInt8) (a21 : Bool) (a22 : UInt8) (a23 : List UInt8)
theorem text27_4 : step C call 27 Tryd.f27 (unr C call run 27 Tryd.f27 400) K27_4 (S27_4 a0 a1 a2 a3 a4 a5 a6 a7 a8 a9 a10 a11 a12 a13 a14 a15 a16 a17 a18 a19 a20 a21 a22 a23) = X27_4 call run a0 a1 a2 a3 a4 a5 a6 a7 a8 a9 a10 a11 a12 a13 a14 a15 a16 a17 a18 a19 a20 a21 a22 a23 := by
  kernel_rfl
end
section
variable (a0 : AV) (a1 : Nat) (a2 a3 : UInt8) (a4 : Bool) (a5 a6 a7 a8 : UInt8) (a9 : Bool) (a10 : UInt8) (a11 : List UInt8) (a12 a13 : UInt8) (a14 : Bool) (a15 a16 a17 a18 : UInt8) (a19 : Bool) (a20 : UInt8) (a21 : List UInt8)
theorem r27_3 {r : AV} (h : X27_3 (semCall C Tryd.prog) (semRun C Tryd.prog 27 Tryd.f27) a0 a1 a2 a3 a4 a5 a6 a7 a8 a9 a10 a11 a12 a13 a14 a15 a16 a17 a18 a19 a20 a21 = some r) : F27_3 (semRun C Tryd.prog 27 Tryd.f27) a0 a1 a2 a3 a4 a5 a6 a7 a8 a9 a10 a11 a12 a13 a14 a15 a16 a17 a18 a19 a20 a21 = some r :=
  semRun_unr 400 ((text27_3 _ _ a0 a1 a2 a3 a4 a5 a6 a7 a8 a9 a10 a11 a12 a13 a14 a15 a16 a17 a18 a19 a20 a21).trans h)
end
section
variable (a0 : Nat) (a1 a2 : AV) (a3 : Int) (a4 a5 a6 a7 a8 a9 a10 a11 a12 a13 : AV) (a14 a15 : UInt8) (a16 : Bool) (a17 a18 a19 a20 : UInt8) (a21 : Bool) (a22 : UInt8) (a23 : List UInt8)
theorem r27_4 {r : AV} (h : X27_4 (semCall C Tryd.prog) (semRun C Tryd.prog 27 Tryd.f27) a0 a1 a2 a3 a4 a5 a6 a7 a8 a9 a10 a11 a12 a13 a14 a15 a16 a17 a18 a19 a20 a21 a22 a23 = some r) : F27_4 (semRun C Tryd.prog 27 Tryd.f27) a0 a1 a2 a3 a4 a5 a6 a7 a8 a9 a10 a11 a12 a13 a14 a15 a16 a17 a18 a19 a20 a21 a22 a23 = some r :=
  semRun_unr 400 ((text27_4 _ _ a0 a1 a2 a3 a4 a5 a6 a7 a8 a9 a10 a11 a12 a13 a14 a15 a16 a17 a18 a19 a20 a21 a22 a23).trans h)
end
end R4

namespace R4
open Go Go.Proofs Sx
noncomputable def body28 : Code := (Tryd.f28.body).getD .skip
noncomputable def X28 (call : CallT) (run : RunT) (a0 a1 : UInt8) (a2 : Bool) (a3 a4 a5 a6 : UInt8) (a7 : Bool) (a8 : UInt8) (a9 : List UInt8) (a10 : UInt8) : Option AV :=
  (call 43 [.ag [.u8 a0, .u8 a1, .b a2, .u8 a3, .u8 a4, .u8 a5, .u8 a6, .b a7, .u8 a8, .s a9]]).bind fun v1 => (unop .not (v1)).bind fun v2 => condM (v2)
  (some (.ag [.u8 20, .u8 0, .b false, .u8 0, .u8 0, .u8 0, .u8 0, .b false, .u8 0, .s []]))
  ((call 44 [.ag [.u8 a0, .u8 a1, .b a2, .u8 a3, .u8 a4, .u8 a5, .u8 a6, .b a7, .u8 a8, .s a9]]).bind fun v3 => (call 45 [v3, .u8 a10, .b false]).bind fun v4 => (call 44 [v4]).bind fun v5 => (AV.asAg 10 (v5)).bind fun v6 => some (.ag [v6.getD 0 .un, v6.getD 1 .un, v6.getD 2 .un, v6.getD 3 .un, v6.getD 4 .un, v6.getD 5 .un, v6.getD 6 .un, v6.getD 7 .un, v6.getD 8 .un, v6.getD 9 .un]))
section
variable (call : CallT) (run : RunT) (a0 a1 : UInt8) (a2 : Bool) (a3 a4 a5 a6 : UInt8) (a7 : Bool) (a8 : UInt8) (a9 : List UInt8) (a10 : UInt8)
theorem text28 : unr C call run 28 Tryd.f28 400 [.code body28] (initF C 28 Tryd.f28.ntmps [.ag [.u8 a0, .u8 a1, .b a2, .u8 a3, .u8 a4, .u8 a5, .u8 a6, .b a7, .u8 a8, .s a9], .u8 a10]) = X28 call run a0 a1 a2 a3 a4 a5 a6 a7 a8 a9 a10 := by
  kernel_rfl
theorem c28 {r : AV} (h : X28 (semCall C Tryd.prog) (semRun C Tryd.prog 28 Tryd.f28) a0 a1 a2 a3 a4 a5 a6 a7 a8 a9 a10 = some r) : semCall C Tryd.prog 28 [.ag [.u8 a0, .u8 a1, .b a2, .u8 a3, .u8 a4, .u8 a5, .u8 a6, .b a7, .u8 a8, .s a9], .u8 a10] = some r :=
  semCall_unr (fn := Tryd.f28) (c := body28) (by kernel_rfl) (by kernel_rfl) 400 (by kernel_rfl) ((text28 _ _ a0 a1 a2 a3 a4 a5 a6 a7 a8 a9 a10).trans h)
end
end R4

namespace R4
open Go Go.Proofs Sx
noncomputable def body29 : Code := (Tryd.f29.body).getD .skip
section
variable (run : RunT) (a0 a1 a2 : UInt8) (a3 : Bool) (a4 a5 a6 a7 : UInt8) (a8 : Bool) (a9 : UInt8) (a10 : List UInt8) (a11 a12 a13 a14 a15 a16 a17 a18 a19 a20 : AV) (a21 a22 : List AV) (a23 : Bool) (a24 : UInt8) (a25 : List UInt8) (a26 : List AV) (a27 : List UInt8) (a28 : Bool) (a29 : List AV)
noncomputable def K29_7 : List Item := (kAt 7 body29 []).getD []
def S29_7 : St := St.ofL [(0, .cell (.ptr 48 0)), (1, .cell (.val (.u8 a0))), (4, .cell (.ptr 4 0))] [(4, some [.val (.u8 a1), .val (.u8 a2), .val (.b a3), .val (.u8 a4), .val (.u8 a5), .val (.u8 a6), .val (.u8 a7), .val (.b a8), .val (.u8 a9), .val (.s a10)]), (48, some [.val (a11), .val (a12), .val (a13), .val (a14), .val (a15), .val (a16), .val (a17), .val (a18), .val (a19), .val (a20), .own 648010 5 1 a21, .own 648011 5 1 a22, .val (.b a23), .val (.u8 a24), .val (.s a25), .own 648015 45 2 a26, .val (.s a27), .clo 18 [49], .val (.b a28)]), (49, some [.own 649000 39 4 a29])]
noncomputable def F29_7 : Option AV := run K29_7 (S29_7 a0 a1 a2 a3 a4 a5 a6 a7 a8 a9 a10 a11 a12 a13 a14 a15 a16 a17 a18 a19 a20 a21 a22 a23 a24 a25 a26 a27 a28 a29)
end
section
variable (run : RunT) (a0 a1 a2 a3 : UInt8) (a4 : Bool) (a5 a6 a7 a8 : UInt8) (a9 : Bool) (a10 : UInt8) (a11 : List UInt8) (a12 a13 a14 a15 a16 a17 a18 a19 a20 a21 : AV) (a22 a23 : List AV) (a24 : Bool) (a25 : UInt8) (a26 : List UInt8) (a27 : List AV) (a28 : List UInt8) (a29 : Bool) (a30 : List AV)
noncomputable def K29_8 : List Item := (kAt 8 body29 []).getD []
def S29_8 : St := St.ofL [(0, .cell (.ptr 48 0)), (1, .cell (.val (.u8 a0))), (4, .cell (.ptr 4 0)), (16, .cell (.val (.u8 a1)))] [(4, some [.val (.u8 a2), .val (.u8 a3), .val (.b a4), .val (.u8 a5), .val (.u8 a6), .val (.u8 a7), .val (.u8 a8), .val (.b a9), .val (.u8 a10), .val (.s a11)]), (48, some [.val (a12), .val (a13), .val (a14), .val (a15), .val (a16), .val (a17), .val (a18), .val (a19), .val (a20), .val (a21), .own 648010 5 1 a22, .own 648011 5 1 a23, .val (.b a24), .val (.u8 a25), .val (.s a26), .own 648015 45 2 a27, .val (.s a28), .clo 18 [49], .val (.b a29)]), (49, some [.own 649000 39 4 a30])]
noncomputable def F29_8 : Option AV := run K29_8 (S29_8 a0 a1 a2 a3 a4 a5 a6 a7 a8 a9 a10 a11 a12 a13 a14 a15 a16 a17 a18 a19 a20 a21 a22 a23 a24 a25 a26 a27 a28 a29 a30)
end
section
variable (run : RunT) (a0 a1 a2 : UInt8) (a3 : Bool) (a4 a5 a6 a7 : UInt8) (a8 : Bool) (a9 : UInt8) (a10 : List UInt8) (a11 a12 a13 a14 a15 a16 a17 a18 a19 a20 : AV) (a21 a22 : List AV) (a23 : Bool) (a24 : UInt8) (a25 : List UInt8) (a26 : List AV) (a27 : List UInt8) (a28 : Bool) (a29 : List AV)
noncomputable def K29_11 : List Item := (kAt 11 body29 []).getD []
def S29_11 : St := St.ofL [(0, .cell (.ptr 48 0)), (1, .cell (.val (.u8 a0))), (4, .cell (.ptr 4 0))] [(4, some [.val (.u8 a1), .val (.u8 a2), .val (.b a3), .val (.u8 a4), .val (.u8 a5), .val (.u8 a6), .val (.u8 a7), .val (.b a8), .val (.u8 a9), .val (.s a10)]), (48, some [.val (a11), .val (a12), .val (a13), .val (a14), .val (a15), .val (a16), .val (a17), .val (a18), .val (a19), .val (a20), .own 648010 5 1 a21, .own 648011 5 1 a22, .val (.b a23), .val (.u8 a24), .val (.s a25), .own 648015 45 2 a26, .val (.s a27), .clo 18 [49], .val (.b a28)]), (49, some [.own 649000 39 4 a29])]
noncomputable def F29_11 : Option AV := run K29_11 (S29_11 a0 a1 a2 a3 a4 a5 a6 a7 a8 a9 a10 a11 a12 a13 a14 a15 a16 a17 a18 a19 a20 a21 a22 a23 a24 a25 a26 a27 a28 a29)
end
section
variable (run : RunT) (a0 a1 a2 a3 : UInt8) (a4 : Bool) (a5 a6 a7 a8 : UInt8) (a9 : Bool) (a10 : UInt8) (a11 : List UInt8) (a12 a13 a14 a15 a16 a17 a18 a19 a20 a21 : AV) (a22 a23 : List AV) (a24 : Bool) (a25 : UInt8) (a26 : List UInt8) (a27 : List AV) (a28 : List UInt8) (a29 : Bool) (a30 : List AV)
noncomputable def K29_12 : List Item := (kAt 12 body29 []).getD []
def S29_12 : St := St.ofL [(0, .cell (.ptr 48 0)), (1, .cell (.val (.u8 a0))), (4, .cell (.ptr 4 0)), (16, .cell (.val (.u8 a1)))] [(4, some [.val (.u8 a2), .val (.u8 a3), .val (.b a4), .val (.u8 a5), .val (.u8 a6), .val (.u8 a7), .val (.u8 a8), .val (.b a9), .val (.u8 a10), .val (.s a11)]), (48, some [.val (a12), .val (a13), .val (a14), .val (a15), .val (a16), .val (a17), .val (a18), .val (a19), .val (a20), .val (a21), .own 648010 5 1 a22, .own 648011 5 1 a23, .val (.b a24), .val (.u8 a25), .val (.s a26), .own 648015 45 2 a27, .val (.s a28), .clo 18 [49], .val (.b a29)]), (49, some [.own 649000 39 4 a30])]
noncomputable def F29_12 : Option AV := run K29_12 (S29_12 a0 a1 a2 a3 a4 a5 a6 a7 a8 a9 a10 a11 a12 a13 a14 a15 a16 a17 a18 a19 a20 a21 a22 a23 a24 a25 a26 a27 a28 a29 a30)
end
section
variable (run : RunT) (a0 a1 a2 : UInt8) (a3 : Bool) (a4 a5 a6 a7 : UInt8) (a8 : Bool) (a9 : UInt8) (a10 : List UInt8) (a11 a12 a13 a14 a15 a16 a17 a18 a19 a20 : AV) (a21 a22 : List AV) (a23 : Bool) (a24 : UInt8) (a25 : List UInt8) (a26 : List AV) (a27 : List UInt8) (a28 : Bool) (a29 : List AV)
noncomputable def K29_18 : List Item := (kAt 18 body29 []).getD []
def S29_18 : St := St.ofL [(0, .cell (.ptr 48 0)), (1, .cell (.val (.u8 a0))), (4, .cell (.ptr 4 0))] [(4, some [.val (.u8 a1), .val (.u8 a2), .val (.b a3), .val (.u8 a4), .val (.u8 a5), .val (.u8 a6), .val (.u8 a7), .val (.b a8), .val (.u8 a9), .val (.s a10)]), (48, some [.val (a11), .val (a12), .val (a13), .val (a14), .val (a15), .val (a16), .val (a17), .val (a18), .val (a19), .val (a20), .own 648010 5 1 a21, .own 648011 5 1 a22, .val (.b a23), .val (.u8 a24), .val (.s a25), .own 648015 45 2 a26, .val (.s a27), .clo 18 [49], .val (.b a28)]), (49, some [.own 649000 39 4 a29])]
noncomputable def F29_18 : Option AV := run K29_18 (S29_18 a0 a1 a2 a3 a4 a5 a6 a7 a8 a9 a10 a11 a12 a13 a14 a15 a16 a17 a18 a19 a20 a21 a22 a23 a24 a25 a26 a27 a28 a29)
end
section
variable (run : RunT) (a0 a1 a2 : UInt8) (a3 : Bool) (a4 a5 a6 a7 : UInt8) (a8 : Bool) (a9 : UInt8) (a10 : List UInt8) (a11 a12 a13 a14 a15 a16 a17 a18 a19 a20 : AV) (a21 a22 : List AV) (a23 : Bool) (a24 : UInt8) (a25 : List UInt8) (a26 : List AV) (a27 : List UInt8) (a28 : Bool) (a29 : List AV)
noncomputable def K29_3 : List Item := (kAt 3 body29 []).getD []
def S29_3 : St := St.ofL [(0, .cell (.ptr 48 0)), (1, .cell (.val (.u8 a0))), (4, .cell (.ptr 4 0))] [(4, some [.val (.u8 a1), .val (.u8 a2), .val (.b a3), .val (.u8 a4), .val (.u8 a5), .val (.u8 a6), .val (.u8 a7), .val (.b a8), .val (.u8 a9), .val (.s a10)]), (48, some [.val (a11), .val (a12), .val (a13), .val (a14), .val (a15), .val (a16), .val (a17), .val (a18), .val (a19), .val (a20), .own 648010 5 1 a21, .own 648011 5 1 a22, .val (.b a23), .val (.u8 a24), .val (.s a25), .own 648015 45 2 a26, .val (.s a27), .clo 18 [49], .val (.b a28)]), (49, some [.own 649000 39 4 a29])]
noncomputable def F29_3 : Option AV := run K29_3 (S29_3 a0 a1 a2 a3 a4 a5 a6 a7 a8 a9 a10 a11 a12 a13 a14 a15 a16 a17 a18 a19 a20 a21 a22 a23 a24 a25 a26 a27 a28 a29)
end
noncomputable def X29 (call : CallT) (run : RunT) (a0 a1 a2 : UInt8) (a3 : Bool) (a4 a5 a6 a7 : UInt8) (a8 : Bool) (a9 : UInt8) (a10 : List UInt8) (a11 a12 : List AV) (a13 : Bool) (a14 : UInt8) (a15 : List UInt8) (a16 : List AV) (a17 : List UInt8) (a18 : Bool) (a19 : List AV) : Option AV :=
  (call 28 [.ag [.u8 a1, .u8 a2, .b a3, .u8 a4, .u8 a5, .u8 a6, .u8 a7, .b a8, .u8 a9, .s a10], .u8 a0]).bind fun v1 => (AV.asAg 10 (v1)).bind fun v2 => condM (.b (ueq a1 0))
  (F29_7 run a0 a1 a2 a3 a4 a5 a6 a7 a8 a9 a10 (v2.getD 0 .un) (v2.getD 1 .un) (v2.getD 2 .un) (v2.getD 3 .un) (v2.getD 4 .un) (v2.getD 5 .un) (v2.getD 6 .un) (v2.getD 7 .un) (v2.getD 8 .un) (v2.getD 9 .un) a11 a12 a13 a14 a15 a16 a17 a18 a19)
  (condM (.b (ueq a1 1))
  (F29_7 run a0 a1 a2 a3 a4 a5 a6 a7 a8 a9 a10 (v2.getD 0 .un) (v2.getD 1 .un) (v2.getD 2 .un) (v2.getD 3 .un) (v2.getD 4 .un) (v2.getD 5 .un) (v2.getD 6 .un) (v2.getD 7 .un) (v2.getD 8 .un) (v2.getD 9 .un) a11 a12 a13 a14 a15 a16 a17 a18 a19)
  (condM (.b (ueq a1 2))
  (F29_7 run a0 a1 a2 a3 a4 a5 a6 a7 a8 a9 a10 (v2.getD 0 .un) (v2.getD 1 .un) (v2.getD 2 .un) (v2.getD 3 .un) (v2.getD 4 .un) (v2.getD 5 .un) (v2.getD 6 .un) (v2.getD 7 .un) (v2.getD 8 .un) (v2.getD 9 .un) a11 a12 a13 a14 a15 a16 a17 a18 a19)
  (F29_8 run a0 a1 a1 a2 a3 a4 a5 a6 a7 a8 a9 a10 (v2.getD 0 .un) (v2.getD 1 .un) (v2.getD 2 .un) (v2.getD 3 .un) (v2.getD 4 .un) (v2.getD 5 .un) (v2.getD 6 .un) (v2.getD 7 .un) (v2.getD 8 .un) (v2.getD 9 .un) a11 a12 a13 a14 a15 a16 a17 a18 a19)))
section
variable (call : CallT) (run : RunT) (a0 a1 a2 : UInt8) (a3 : Bool) (a4 a5 a6 a7 : UInt8) (a8 : Bool) (a9 : UInt8) (a10 : List UInt8) (a11 a12 : List AV) (a13 : Bool) (a14 : UInt8) (a15 : List UInt8) (a16 : List AV) (a17 : List UInt8) (a18 : Bool) (a19 : List AV)
theorem text29 : unr C call run 29 Tryd.f29 400 [.code body29] (initF C 29 Tryd.f29.ntmps [.un, .u8 a0, .ag [.u8 a1, .u8 a2, .b a3, .u8 a4, .u8 a5, .u8 a6, .u8 a7, .b a8, .u8 a9, .s a10, .ro 1 a11, .ro 1 a12, .b a13, .u8 a14, .s a15, .ro 2 a16, .s a17, .un, .b a18], .ag [.ro 4 a19]]) = X29 call run a0 a1 a2 a3 a4 a5 a6 a7 a8 a9 a10 a11 a12 a13 a14 a15 a16 a17 a18 a19 := by
  kernel_rfl
theorem c29 {r : AV} (h : X29 (semCall C Tryd.prog) (semRun C Tryd.prog 29 Tryd.f29) a0 a1 a2 a3 a4 a5 a6 a7 a8 a9 a10 a11 a12 a13 a14 a15 a16 a17 a18 a19 = some r) : semCall C Tryd.prog 29 [.un, .u8 a0, .ag [.u8 a1, .u8 a2, .b a3, .u8 a4, .u8 a5, .u8 a6, .u8 a7, .b a8, .u8 a9, .s a10, .ro 1 a11, .ro 1 a12, .b a13, .u8 a14, .s a15, .ro 2 a16, .s a17, .un, .b a18], .ag [.ro 4 a19]] = some r :=
  semCall_unr (fn := Tryd.f29) (c := body29) (by kernel_rfl) (by kernel_rfl) 400 (by kernel_rfl) ((text29 _ _ a0 a1 a2 a3 a4 a5 a6 a7 a8 a9 a10 a11 a12 a13 a14 a15 a16 a17 a18 a19).trans h)
end
noncomputable def X29_7 (call : CallT) (run : RunT) (a0 a1 a2 : UInt8) (a3 : Bool) (a4 a5 a6 a7 : UInt8) (a8 : Bool) (a9 : UInt8) (a10 : List UInt8) (a11 a12 a13 a14 a15 a16 a17 a18 a19 a20 : AV) (a21 a22 : List AV) (a23 : Bool) (a24 : UInt8) (a25 : List UInt8) (a26 : List AV) (a27 : List UInt8) (a28 : Bool) (a29 : List AV) : Option AV :=
  (call 46 [.un, .ag [.u8 a1, .u8 a2, .b a3, .u8 a4, .u8 a5, .u8 a6, .u8 a7, .b a8, .u8 a9, .s a10], .u8 a0, .ag [a11, a12, a13, a14, a15, a16, a17, a18, a19, a20, .ro 1 a21, .ro 1 a22, .b a23, .u8 a24, .s a25, .ro 2 a26, .s a27, .un, .b a28], .ag [.ro 4 a29]]).bind fun v1 => (tupI v1 0).bind fun v2 => (tupI v1 1).bind fun v3 => (AV.asAg 19 v3).bind fun v4 => (tupI v1 2).bind fun v5 => (AV.asAg 1 v5).bind fun v6 => some (.tu [.tu [], .ag [v4.getD 0 .un, v4.getD 1 .un, v4.getD 2 .un, v4.getD 3 .un, v4.getD 4 .un, v4.getD 5 .un, v4.getD 6 .un, v4.getD 7 .un, v4.getD 8 .un, v4.getD 9 .un, .ro 1 (AV.elems (v4.getD 10 .un)), .ro 1 (AV.elems (v4.getD 11 .un)), v4.getD 12 .un, v4.getD 13 .un, v4.getD 14 .un, .ro 2 (AV.elems (v4.getD 15 .un)), v4.getD 16 .un, .un, v4.getD 18 .un], .ag [.ro 4 (AV.elems (v6.getD 0 .un))]])
section
variable (call : CallT) (run : RunT) (a0 a1 a2 : UInt8) (a3 : Bool) (a4 a5 a6 a7 : UInt8) (a8 : Bool) (a9 : UInt8) (a10 : List UInt8) (a11 a12 a13 a14 a15 a16 a17 a18 a19 a20 : AV) (a21 a22 : List AV) (a23 : Bool) (a24 : UInt8) (a25 : List UInt8) (a26 : List AV) (a27 : List UInt8) (a28 : Bool) (a29 : List AV)
theorem text29_7 : step C call 29 Tryd.f29 (unr C call run 29 Tryd.f29 400) K29_7 (S29_7 a0 a1 a2 a3 a4 a5 a6 a7 a8 a9 a10 a11 a12 a13 a14 a15 a16 a17 a18 a19 a20 a21 a22 a23 a24 a25 a26 a27 a28 a29) = X29_7 call run a0 a1 a2 a3 a4 a5 a6 a7 a8 a9 a10 a11 a12 a13 a14 a15 a16 a17 a18 a19 a20 a21 a22 a23 a24 a25 a26 a27 a28 a29 := by
  kernel_rfl
end
noncomputable def X29_8 (call : CallT) (run : RunT) (a0 a1 a2 a3 : UInt8) (a4 : Bool) (a5 a6 a7 a8 : UInt8) (a9 : Bool) (a10 : UInt8) (a11 : List UInt8) (a12 a13 a14 a15 a16 a17 a18 a19 a20 a21 : AV) (a22 a23 : List AV) (a24 : Bool) (a25 : UInt8) (a26 : List UInt8) (a27 : List AV) (a28 : List UInt8) (a29 : Bool) (a30 : List AV) : Option AV :=
  condM (.b (ueq a1 17))
  (F29_11 run a0 a2 a3 a4 a5 a6 a7 a8 a9 a10 a11 (a12) (a13) (a14) (a15) (a16) (a17) (a18) (a19) (a20) (a21) a22 a23 a24 a25 a26 a27 a28 a29 a30)
  (condM (.b (ueq a1 18))
  (F29_11 run a0 a2 a3 a4 a5 a6 a7 a8 a9 a10 a11 (a12) (a13) (a14) (a15) (a16) (a17) (a18) (a19) (a20) (a21) a22 a23 a24 a25 a26 a27 a28 a29 a30)
  (condM (.b (ueq a1 19))
  (F29_11 run a0 a2 a3 a4 a5 a6 a7 a8 a9 a10 a11 (a12) (a13) (a14) (a15) (a16) (a17) (a18) (a19) (a20) (a21) a22 a23 a24 a25 a26 a27 a28 a29 a30)
  (F29_12 run a0 a1 a2 a3 a4 a5 a6 a7 a8 a9 a10 a11 (a12) (a13) (a14) (a15) (a16) (a17) (a18) (a19) (a20) (a21) a22 a23 a24 a25 a26 a27 a28 a29 a30)))
section
variable (call : CallT) (run : RunT) (a0 a1 a2 a3 : UInt8) (a4 : Bool) (a5 a6 a7 a8 : UInt8) (a9 : Bool) (a10 : UInt8) (a11 : List UInt8) (a12 a13 a14 a15 a16 a17 a18 a19 a20 a21 : AV) (a22 a23 : List AV) (a24 : Bool) (a25 : UInt8) (a26 : List UInt8) (a27 : List AV) (a28 : List UInt8) (a29 : Bool) (a30 : List AV)
theorem text29_8 : step C call 29 Tryd.f29 (unr C call run 29 Tryd.f29 400) K29_8 (S29_8 a0 a1 a2 a3 a4 a5 a6 a7 a8 a9 a10 a11 a12 a13 a14 a15 a16 a17 a18 a19 a20 a21 a22 a23 a24 a25 a26 a27 a28 a29 a30) = X29_8 call run a0 a1 a2 a3 a4 a5 a6 a7 a8 a9 a10 a11 a12 a13 a14 a15 a16 a17 a18 a19 a20 a21 a22 a23 a24 a25 a26 a27 a28 a29 a30 := by
  kernel_rfl
end
noncomputable def X29_11 (call : CallT) (run : RunT) (a0 a1 a2 : UInt8) (a3 : Bool) (a4 a5 a6 a7 : UInt8) (a8 : Bool) (a9 : UInt8) (a10 : List UInt8) (a11 a12 a13 a14 a15 a16 a17 a18 a19 a20 : AV) (a21 a22 : List AV) (a23 : Bool) (a24 : UInt8) (a25 : List UInt8) (a26 : List AV) (a27 : List UInt8) (a28 : Bool) (a29 : List AV) : Option AV :=
  (call 47 [.un, .ag [.u8 a1, .u8 a2, .b a3, .u8 a4, .u8 a5, .u8 a6, .u8 a7, .b a8, .u8 a9, .s a10], .u8 a0, .ag [a11, a12, a13, a14, a15, a16, a17, a18, a19, a20, .ro 1 a21, .ro 1 a22, .b a23, .u8 a24, .s a25, .ro 2 a26, .s a27, .un, .b a28], .ag [.ro 4 a29]]).bind fun v1 => (tupI v1 0).bind fun v2 => (tupI v1 1).bind fun v3 => (AV.asAg 19 v3).bind fun v4 => (tupI v1 2).bind fun v5 => (AV.asAg 1 v5).bind fun v6 => some (.tu [.tu [], .ag [v4.getD 0 .un, v4.getD 1 .un, v4.getD 2 .un, v4.getD 3 .un, v4.getD 4 .un, v4.getD 5 .un, v4.getD 6 .un, v4.getD 7 .un, v4.getD 8 .un, v4.getD 9 .un, .ro 1 (AV.elems (v4.getD 10 .un)), .ro 1 (AV.elems (v4.getD 11 .un)), v4.getD 12 .un, v4.getD 13 .un, v4.getD 14 .un, .ro 2 (AV.elems (v4.getD 15 .un)), v4.getD 16 .un, .un, v4.getD 18 .un], .ag [.ro 4 (AV.elems (v6.getD 0 .un))]])
section
variable (call : CallT) (run : RunT) (a0 a1 a2 : UInt8) (a3 : Bool) (a4 a5 a6 a7 : UInt8) (a8 : Bool) (a9 : UInt8) (a10 : List UInt8) (a11 a12 a13 a14 a15 a16 a17 a18 a19 a20 : AV) (a21 a22 : List AV) (a23 : Bool) (a24 : UInt8) (a25 : List UInt8) (a26 : List AV) (a27 : List UInt8) (a28 : Bool) (a29 : List AV)
theorem text29_11 : step C call 29 Tryd.f29 (unr C call run 29 Tryd.f29 400) K29_11 (S29_11 a0 a1 a2 a3 a4 a5 a6 a7 a8 a9 a10 a11 a12 a13 a14 a15 a16 a17 a18 a19 a20 a21 a22 a23 a24 a25 a26 a27 a28 a29) = X29_11 call run a0 a1 a2 a3 a4 a5 a6 a7 a8 a9 a10 a11 a12 a13 a14 a15 a16 a17 a18 a19 a20 a21 a22 a23 a24 a25 a26 a27 a28 a29 := by
  kernel_rfl
end
noncomputable def X29_12 (call : CallT) (run : RunT) (a0 a1 a2 a3 : UInt8) (a4 : Bool) (a5 a6 a7 a8 : UInt8) (a9 : Bool) (a10 : UInt8) (a11 : List UInt8) (a12 a13 a14 a15 a16 a17 a18 a19 a20 a21 : AV) (a22 a23 : List AV) (a24 : Bool) (a25 : UInt8) (a26 : List UInt8) (a27 : List AV) (a28 : List UInt8) (a29 : Bool) (a30 : List AV) : Option AV :=
  condM (.b (ueq a1 11))
  (F29_18 run a0 a2 a3 a4 a5 a6 a7 a8 a9 a10 a11 (a12) (a13) (a14) (a15) (a16) (a17) (a18) (a19) (a20) (a21) a22 a23 a24 a25 a26 a27 a28 a29 a30)
  (condM (.b (ueq a1 12))
  (F29_18 run a0 a2 a3 a4 a5 a6 a7 a8 a9 a10 a11 (a12) (a13) (a14) (a15) (a16) (a17) (a18) (a19) (a20) (a21) a22 a23 a24 a25 a26 a27 a28 a29 a30)
  (condM (.b (ueq a1 13))
  (F29_18 run a0 a2 a3 a4 a5 a6 a7 a8 a9 a10 a11 (a12) (a13) (a14) (a15) (a16) (a17) (a18) (a19) (a20) (a21) a22 a23 a24 a25 a26 a27 a28 a29 a30)
  (condM (.b (ueq a1 14))
  (F29_18 run a0 a2 a3 a4 a5 a6 a7 a8 a9 a10 a11 (a12) (a13) (a14) (a15) (a16) (a17) (a18) (a19) (a20) (a21) a22 a23 a24 a25 a26 a27 a28 a29 a30)
  (condM (.b (ueq a1 15))
  (F29_18 run a0 a2 a3 a4 a5 a6 a7 a8 a9 a10 a11 (a12) (a13) (a14) (a15) (a16) (a17) (a18) (a19) (a20) (a21) a22 a23 a24 a25 a26 a27 a28 a29 a30)
  (condM (.b (ueq a1 16))
  (F29_18 run a0 a2 a3 a4 a5 a6 a7 a8 a9 a10 a11 (a12) (a13) (a14) (a15) (a16) (a17) (a18) (a19) (a20) (a21) a22 a23 a24 a25 a26 a27 a28 a29 a30)
  (F29_3 run a0 a2 a3 a4 a5 a6 a7 a8 a9 a10 a11 (a12) (a13) (a14) (a15) (a16) (a17) (a18) (a19) (a20) (a21) a22 a23 a24 a25 a26 a27 a28 a29 a30))))))
section
variable (call : CallT) (run : RunT) (a0 a1 a2 a3 : UInt8) (a4 : Bool) (a5 a6 a7 a8 : UInt8) (a9 : Bool) (a10 : UInt8) (a11 : List UInt8) (a12 a13 a14 a15 a16 a17 a18 a19 a20 a21 : AV) (a22 a23 : List AV) (a24 : Bool) (a25 : UInt8) (a26 : List UInt8) (a27 : List AV) (a28 : List UInt8) (a29 : Bool) (a30 : List AV)
theorem text29_12 : step C call 29 Tryd.f29 (unr C call run 29 Tryd.f29 400) K29_12 (S29_12 a0 a1 a2 a3 a4 a5 a6 a7 a8 a9 a10 a11 a12 a13 a14 a15 a16 a17 a18 a19 a20 a21 a22 a23 a24 a25 a26 a27 a28 a29 a30) = X29_12 call run a0 a1 a2 a3 a4 a5 a6 a7 a8 a9 a10 a11 a12 a13 a14 a15 a16 a17 a18 a19 a20 a21 a22 a23 a24 a25 a26 a27 a28 a29 a30 := by
  kernel_rfl
end
noncomputable def X29_18 (call : CallT) (run : RunT) (a0 a1 a2 : UInt8) (a3 : Bool) (a4 a5 a6 a7 : UInt8) (a8 : Bool) (a9 : UInt8) (a10 : List UInt8) (a11 a12 a13 a14 a15 a16 a17 a18 a19 a20 : AV) (a21 a22 : List AV) (a23 : Bool) (a24 : UInt8) (a25 : List UInt8) (a26 : List AV) (a27 : List UInt8) (a28 : Bool) (a29 : List AV) : Option AV :=
  (call 48 [.un, .ag [.u8 a1, .u8 a2, .b a3, .u8 a4, .u8 a5, .u8 a6, .u8 a7, .b a8, .u8 a9, .s a10], .u8 a0, .ag [a11, a12, a13, a14, a15, a16, a17, a18, a19, a20, .ro 1 a21, .ro 1 a22, .b a23, .u8 a24, .s a25, .ro 2 a26, .s a27, .un, .b a28], .ag [.ro 4 a29]]).bind fun v1 => (tupI v1 0).bind fun v2 => (tupI v1 1).bind fun v3 => (AV.asAg 19 v3).bind fun v4 => (tupI v1 2).bind fun v5 => (AV.asAg 1 v5).bind fun v6 => some (.tu [.tu [], .ag [v4.getD 0 .un, v4.getD 1 .un, v4.getD 2 .un, v4.getD 3 .un, v4.getD 4 .un, v4.getD 5 .un, v4.getD 6 .un, v4.getD 7 .un, v4.getD 8 .un, v4.getD 9 .un, .ro 1 (AV.elems (v4.getD 10 .un)), .ro 1 (AV.elems (v4.getD 11 .un)), v4.getD 12 .un, v4.getD 13 .un, v4.getD 14 .un, .ro 2 (AV.elems (v4.getD 15 .un)), v4.getD 16 .un, .un, v4.getD 18 .un], .ag [.ro 4 (AV.elems (v6.getD 0 .un))]])
section
variable (call : CallT) (run : RunT) (a0 a1 a2 : UInt8) (a3 : Bool) (a4 a5 a6 a7 : UInt8) (a8 : Bool) (a9 : UInt8) (a10 : List UInt8) (a11 a12 a13 a14 a15 a16 a17 a18 a19 a20 : AV) (a21 a22 : List AV) (a23 : Bool) (a24 : UInt8) (a25 : List UInt8) (a26 : List AV) (a27 : List UInt8) (a28 : Bool) (a29 : List AV)
theorem text29_18 : step C call 29 Tryd.f29 (unr C call run 29 Tryd.f29 400) K29_18 (S29_18 a0 a1 a2 a3 a4 a5 a6 a7 a8 a9 a10 a11 a12 a13 a14 a15 a16 a17 a18 a19 a20 a21 a22 a23 a24 a25 a26 a27 a28 a29) = X29_18 call run a0 a1 a2 a3 a4 a5 a6 a7 a8 a9 a10 a11 a12 a13 a14 a15 a16 a17 a18 a19 a20 a21 a22 a23 a24 a25 a26 a27 a28 a29 := by
  kernel_rfl
end
noncomputable def X29_3 (call : CallT) (run : RunT) (a0 a1 a2 : UInt8) (a3 : Bool) (a4 a5 a6 a7 : UInt8) (a8 : Bool) (a9 : UInt8) (a10 : List UInt8) (a11 a12 a13 a14 a15 a16 a17 a18 a19 a20 : AV) (a21 a22 : List AV) (a23 : Bool) (a24 : UInt8) (a25 : List UInt8) (a26 : List AV) (a27 : List UInt8) (a28 : Bool) (a29 : List AV) : Option AV :=
  (call 49 [.un, .ag [.u8 a1, .u8 a2, .b a3, .u8 a4, .u8 a5, .u8 a6, .u8 a7, .b a8, .u8 a9, .s a10], .u8 a0, .ag [a11, a12, a13, a14, a15, a16, a17, a18, a19, a20, .ro 1 a21, .ro 1 a22, .b a23, .u8 a24, .s a25, .ro 2 a26, .s a27, .un, .b a28], .ag [.ro 4 a29]]).bind fun v1 => (tupI v1 0).bind fun v2 => (tupI v1 1).bind fun v3 => (AV.asAg 19 v3).bind fun v4 => (tupI v1 2).bind fun v5 => (AV.asAg 1 v5).bind fun v6 => some (.tu [.tu [], .ag [v4.getD 0 .un, v4.getD 1 .un, v4.getD 2 .un, v4.getD 3 .un, v4.getD 4 .un, v4.getD 5 .un, v4.getD 6 .un, v4.getD 7 .un, v4.getD 8 .un, v4.getD 9 .un, .ro 1 (AV.elems (v4.getD 10 .un)), .ro 1 (AV.elems (v4.getD 11 .un)), v4.getD 12 .un, v4.getD 13 .un, v4.getD 14 .un, .ro 2 (AV.elems (v4.getD 15 .un)), v4.getD 16 .un, .un, v4.getD 18 .un], .ag [.ro 4 (AV.elems (v6.getD 0 .un))]])
section
variable (call : CallT) (run : RunT) (a0 a1 a2 : UInt8) (a3 : Bool) (a4 a5 a6 a7 : UInt8) (a8 : Bool) (a9 : UInt8) (a10 : List UInt8) (a11 a12 a13 a14 a15 a16 a17 a18 a19 a20 : AV) (a21 a22 : List AV) (a23 : Bool) (a24 : UInt8) (a25 : List UInt8) (a26 : List AV) (a27 : List UInt8) (a28 : Bool) (a29 : List AV)
theorem text29_3 : step C call 29 Tryd.f29 (unr C call run 29 Tryd.f29 400) K29_3 (S29_3 a0 a1 a2 a3 a4 a5 a6 a7 a8 a9 a10 a11 a12 a13 a14 a15 a16 a17 a18 a19 a20 a21 a22 a23 a24 a25 a26 a27 a28 a29) = X29_3 call run a0 a1 a2 a3 a4 a5 a6 a7 a8 a9 a10 a11 a12 a13 a14 a15 a16 a17 a18 a19 a20 a21 a22 a23 a24 a25 a26 a27 a28 a29 := by
  kernel_rfl
end
section
variable (a0 a1 a2 : UInt8) (a3 : Bool) (a4 a5 a6 a7 : UInt8) (a8 : Bool) (a9 : UInt8) (a10 : List UInt8) (a11 a12 a13 a14 a15 a16 a17 a18 a19 a20 : AV) (a21 a22 : List AV) (a23 : Bool) (a24 : UInt8) (a25 : List UInt8) (a26 : List AV) (a27 : List UInt8) (a28 : Bool) (a29 : List AV)
theorem r29_7 {r : AV} (h : X29_7 (semCall C Tryd.prog) (semRun C Tryd.prog 29 Tryd.f29) a0 a1 a2 a3 a4 a5 a6 a7 a8 a9 a10 a11 a12 a13 a14 a15 a16 a17 a18 a19 a20 a21 a22 a23 a24 a25 a26 a27 a28 a29 = some r) : F29_7 (semRun C Tryd.prog 29 Tryd.f29) a0 a1 a2 a3 a4 a5 a6 a7 a8 a9 a10 a11 a12 a13 a14 a15 a16 a17 a18 a19 a20 a21 a22 a23 a24 a25 a26 a27 a28 a29 = some r :=
  semRun_unr 400 ((text29_7 _ _ a0 a1 a2 a3 a4 a5 a6 a7 a8 a9 a10 a11 a12 a13 a14 a15 a16 a17 a18 a19 a20 a21 a22 a23 a24 a25 a26 a27 a28 a29).trans h)
end
section
variable (a0 a1 a2 a3 : UInt8) (a4 : Bool) (a5 a6 a7 a8 : UInt8) (a9 : Bool) (a10 : UInt8) (a11 : List UInt8) (a12 a13 a14 a15 a16 a17 a18 a19 a20 a21 : AV) (a22 a23 : List AV) (a24 : Bool) (a25 : UInt8) (a26 : List UInt8) (a27 : List AV) (a28 : List UInt8) (a29 : Bool) (a30 : List AV)
theorem r29_8 {r : AV} (h : X29_8 (semCall C Tryd.prog) (semRun C Tryd.prog 29 Tryd.f29) a0 a1 a2 a3 a4 a5 a6 a7 a8 a9 a10 a11 a12 a13 a14 a15 a16 a17 a18 a19 a20 a21 a22 a23 a24 a25 a26 a27 a28 a29 a30 = some r) : F29_8 (semRun C Tryd.prog 29 Tryd.f29) a0 a1 a2 a3 a4 a5 a6 a7 a8 a9 a10 a11 a12 a13 a14 a15 a16 a17 a18 a19 a20 a21 a22 a23 a24 a25 a26 a27 a28 a29 a30 = some r :=
  semRun_unr 400 ((text29_8 _ _ a0 a1 a2 a3 a4 a5 a6 a7 a8 a9 a10 a11 a12 a13 a14 a15 a16 a17 a18 a19 a20 a21 a22 a23 a24 a25 a26 a27 a28 a29 a30).trans h)
end
section
variable (a0 a1 a2 : UInt8) (a3 : Bool) (a4 a5 a6 a7 : UInt8) (a8 : Bool) (a9 : UInt8) (a10 : List UInt8) (a11 a12 a13 a14 a15 a16 a17 a18 a19 a20 : AV) (a21 a22 : List AV) (a23 : Bool) (a24 : UInt8) (a25 : List UInt8) (a26 : List AV) (a27 : List UInt8) (a28 : Bool) (a29 : List AV)
theorem r29_11 {r : AV} (h : X29_11 (semCall C Tryd.prog) (semRun C Tryd.prog 29 Tryd.f29) a0 a1 a2 a3 a4 a5 a6 a7 a8 a9 a10 a11 a12 a13 a14 a15 a16 a17 a18 a19 a20 a21 a22 a23 a24 a25 a26 a27 a28 a29 = some r) : F29_11 (semRun C Tryd.prog 29 Tryd.f29) a0 a1 a2 a3 a4 a5 a6 a7 a8 a9 a10 a11 a12 a13 a14 a15 a16 a17 a18 a19 a20 a21 a22 a23 a24 a25 a26 a27 a28 a29 = some r :=
  semRun_unr 400 ((text29_11 _ _ a0 a1 a2 a3 a4 a5 a6 a7 a8 a9 a10 a11 a12 a13 a14 a15 a16 a17 a18 a19 a20 a21 a22 a23 a24 a25 a26 a27 a28 a29).trans h)
end
section
variable (a0 a1 a2 a3 : UInt8) (a4 : Bool) (a5 a6 a7 a8 : UInt8) (a9 : Bool) (a10 : UInt8) (a11 : List UInt8) (a12 a13 a14 a15 a16 a17 a18 a19 a20 a21 : AV) (a22 a23 : List AV) (a24 : Bool) (a25 : UInt8) (a26 : List UInt8) (a27 : List AV) (a28 : List UInt8) (a29 : Bool) (a30 : List AV)
theorem r29_12 {r : AV} (h : X29_12 (semCall C Tryd.prog) (semRun C Tryd.prog 29 Tryd.f29) a0 a1 a2 a3 a4 a5 a6 a7 a8 a9 a10 a11 a12 a13 a14 a15 a16 a17 a18 a19 a20 a21 a22 a23 a24 a25 a26 a27 a28 a29 a30 = some r) : F29_12 (semRun C Tryd.prog 29 Tryd.f29) a0 a1 a2 a3 a4 a5 a6 a7 a8 a9 a10 a11 a12 a13 a14 a15 a16 a17 a18 a19 a20 a21 a22 a23 a24 a25 a26 a27 a28 a29 a30 = some r :=
  semRun_unr 400 ((text29_12 _ _ a0 a1 a2 a3 a4 a5 a6 a7 a8 a9 a10 a11 a12 a13 a14 a15 a16 a17 a18 a19 a20 a21 a22 a23 a24 a25 a26 a27 a28 a29 a30).trans h)
end
section
variable (a0 a1 a2 : UInt8) (a3 : Bool) (a4 a5 a6 a7 : UInt8) (a8 : Bool) (a9 : UInt8) (a10 : List UInt8) (a11 a12 a13 a14 a15 a16 a17 a18 a19 a20 : AV) (a21 a22 : List AV) (a23 : Bool) (a24 : UInt8) (a25 : List UInt8) (a26 : List AV) (a27 : List UInt8) (a28 : Bool) (a29 : List AV)
theorem r29_18 {r : AV} (h : X29_18 (semCall C Tryd.prog) (semRun C Tryd.prog 29 Tryd.f29) a0 a1 a2 a3 a4 a5 a6 a7 a8 a9 a10 a11 a12 a13 a14 a15 a16 a17 a18 a19 a20 a21 a22 a23 a24 a25 a26 a27 a28 a29 = some r) : F29_18 (semRun C Tryd.prog 29 Tryd.f29) a0 a1 a2 a3 a4 a5 a6 a7 a8 a9 a10 a11 a12 a13 a14 a15 a16 a17 a18 a19 a20 a21 a22 a23 a24 a25 a26 a27 a28 a29 = some r :=
  semRun_unr 400 ((text29_18 _ _ a0 a1 a2 a3 a4 a5 a6 a7 a8 a9 a10 a11 a12 a13 a14 a15 a16 a17 a18 a19 a20 a21 a22 a23 a24 a25 a26 a27 a28 a29).trans h)
end
section
variable (a0 a1 a2 : UInt8) (a3 : Bool) (a4 a5 a6 a7 : UInt8) (a8 : Bool) (a9 : UInt8) (a10 : List UInt8) (a11 a12 a13 a14 a15 a16 a17 a18 a19 a20 : AV) (a21 a22 : List AV) (a23 : Bool) (a24 : UInt8) (a25 : List UInt8) (a26 : List AV) (a27 : List UInt8) (a28 : Bool) (a29 : List AV)
theorem r29_3 {r : AV} (h : X29_3 (semCall C Tryd.prog) (semRun C Tryd.prog 29 Tryd.f29) a0 a1 a2 a3 a4 a5 a6 a7 a8 a9 a10 a11 a12 a13 a14 a15 a16 a17 a18 a19 a20 a21 a22 a23 a24 a25 a26 a27 a28 a29 = some r) : F29_3 (semRun C Tryd.prog 29 Tryd.f29) a0 a1 a2 a3 a4 a5 a6 a7 a8 a9 a10 a11 a12 a13 a14 a15 a16 a17 a18 a19 a20 a21 a22 a23 a24 a25 a26 a27 a28 a29 = some r :=
  semRun_unr 400 ((text29_3 _ _ a0 a1 a2 a3 a4 a5 a6 a7 a8 a9 a10 a11 a12 a13 a14 a15 a16 a17 a18 a19 a20 a21 a22 a23 a24 a25 a26 a27 a28 a29).trans h)
end
end R4

namespace R4
open Go Go.Proofs Sx
noncomputable def body30 : Code := (Tryd.f30.body).getD .skip
section
variable (run : RunT) (a0 a1 a2 a3 a4 a5 a6 a7 a8 a9 : AV) (a10 a11 : List AV) (a12 a13 a14 a15 a16 a17 : AV) (a18 : List AV)
noncomputable def K30_2 : List Item := (kAt 2 body30 []).getD []
def S30_2 : St := St.ofL [(0, .cell (.ptr 22 0))] [(22, some [.val (a0), .val (a1), .val (a2), .val (a3), .val (a4), .val (a5), .val (a6), .val (a7), .val (a8), .val (a9), .own 622010 5 1 a10, .own 622011 5 1 a11, .val (a12), .val (a13), .val (a14), .val (a15), .val (a16), .clo 18 [23], .val (a17)]), (23, some [.own 623000 39 4 a18])]
noncomputable def F30_2 : Option AV := run K30_2 (S30_2 a0 a1 a2 a3 a4 a5 a6 a7 a8 a9 a10 a11 a12 a13 a14 a15 a16 a17 a18)
end
noncomputable def X30 (call : CallT) (run : RunT) (a0 a1 : UInt8) (a2 : Bool) (a3 a4 a5 a6 : UInt8) (a7 : Bool) (a8 : UInt8) (a9 : List UInt8) (a10 a11 : List AV) (a12 : Bool) (a13 : UInt8) (a14 : List UInt8) (a15 : AV) (a16 : List UInt8) (a17 : Bool) (a18 : List AV) : Option AV :=
  condM (.b (decide (((a10.length : Int)) > 0)))
  ((b2s (.ro 1 a10)).bind fun v1 => (AV.one (v1)).bind fun v2 => (call 50 [.un, .ag [.u8 0, .s [], .nils, v2], .ag [.u8 a0, .u8 a1, .b a2, .u8 a3, .u8 a4, .u8 a5, .u8 a6, .b a7, .u8 a8, .s a9, .ro 1 a10, .ro 1 a11, .b a12, .u8 a13, .s a14, a15, .s a16, .un, .b a17], .ag [.ro 4 a18]]).bind fun v3 => (tupI v3 0).bind fun v4 => (tupI v3 1).bind fun v5 => (AV.asAg 19 v5).bind fun v6 => (tupI v3 2).bind fun v7 => (AV.asAg 1 v7).bind fun v8 => F30_2 run (v6.getD 0 .un) (v6.getD 1 .un) (v6.getD 2 .un) (v6.getD 3 .un) (v6.getD 4 .un) (v6.getD 5 .un) (v6.getD 6 .un) (v6.getD 7 .un) (v6.getD 8 .un) (v6.getD 9 .un) (AV.elems (v6.getD 10 .un)) (AV.elems (v6.getD 11 .un)) (v6.getD 12 .un) (v6.getD 13 .un) (v6.getD 14 .un) (v6.getD 15 .un) (v6.getD 16 .un) (v6.getD 18 .un) (AV.elems (v8.getD 0 .un)))
  (F30_2 run (.u8 a0) (.u8 a1) (.b a2) (.u8 a3) (.u8 a4) (.u8 a5) (.u8 a6) (.b a7) (.u8 a8) (.s a9) a10 a11 (.b a12) (.u8 a13) (.s a14) (a15) (.s a16) (.b a17) a18)
section
variable (call : CallT) (run : RunT) (a0 a1 : UInt8) (a2 : Bool) (a3 a4 a5 a6 : UInt8) (a7 : Bool) (a8 : UInt8) (a9 : List UInt8) (a10 a11 : List AV) (a12 : Bool) (a13 : UInt8) (a14 : List UInt8) (a15 : AV) (a16 : List UInt8) (a17 : Bool) (a18 : List AV)
theorem text30 : unr C call run 30 Tryd.f30 400 [.code body30] (initF C 30 Tryd.f30.ntmps [.un, .ag [.u8 a0, .u8 a1, .b a2, .u8 a3, .u8 a4, .u8 a5, .u8 a6, .b a7, .u8 a8, .s a9, .ro 1 a10, .ro 1 a11, .b a12, .u8 a13, .s a14, a15, .s a16, .un, .b a17], .ag [.ro 4 a18]]) = X30 call run a0 a1 a2 a3 a4 a5 a6 a7 a8 a9 a10 a11 a12 a13 a14 a15 a16 a17 a18 := by
  kernel_rfl
theorem c30 {r : AV} (h : X30 (semCall C Tryd.prog) (semRun C Tryd.prog 30 Tryd.f30) a0 a1 a2 a3 a4 a5 a6 a7 a8 a9 a10 a11 a12 a13 a14 a15 a16 a17 a18 = some r) : semCall C Tryd.prog 30 [.un, .ag [.u8 a0, .u8 a1, .b a2, .u8 a3, .u8 a4, .u8 a5, .u8 a6, .b a7, .u8 a8, .s a9, .ro 1 a10, .ro 1 a11, .b a12, .u8 a13, .s a14, a15, .s a16, .un, .b a17], .ag [.ro 4 a18]] = some r :=
  semCall_unr (fn := Tryd.f30) (c := body30) (by kernel_rfl) (by kernel_rfl) 400 (by kernel_rfl) ((text30 _ _ a0 a1 a2 a3 a4 a5 a6 a7 a8 a9 a10 a11 a12 a13 a14 a15 a16 a17 a18).trans h)
end
noncomputable def X30_2 (call : CallT) (run : RunT) (a0 a1 a2 a3 a4 a5 a6 a7 a8 a9 : AV) (a10 a11 : List AV) (a12 a13 a14 a15 a16 a17 : AV) (a18 : List AV) : Option AV :=
  some (.tu [.tu [], .ag [a0, a1, a2, a3, a4, a5, a6, a7, a8, a9, .ro 1 [], .ro 1 [], a12, a13, a14, a15, a16, .un, a17], .ag [.ro 4 a18]])
section
variable (call : CallT) (run : RunT) (a0 a1 a2 a3 a4 a5 a6 a7 a8 a9 : AV) (a10 a11 : List AV) (a12 a13 a14 a15 a16 a17 : AV) (a18 : List AV)
theorem text30_2 : step C call 30 Tryd.f30 (unr C call run 30 Tryd.f30 400) K30_2 (S30_2 a0 a1 a2 a3 a4 a5 a6 a7 a8 a9 a10 a11 a12 a13 a14 a15 a16 a17 a18) = X30_2 call run a0 a1 a2 a3 a4 a5 a6 a7 a8 a9 a10 a11 a12 a13 a14 a15 a16 a17 a18 := by
  kernel_rfl
end
section
variable (a0 a1 a2 a3 a4 a5 a6 a7 a8 a9 : AV) (a10 a11 : List AV) (a12 a13 a14 a15 a16 a17 : AV) (a18 : List AV)
theorem r30_2 {r : AV} (h : X30_2 (semCall C Tryd.prog) (semRun C Tryd.prog 30 Tryd.f30) a0 a1 a2 a3 a4 a5 a6 a7 a8 a9 a10 a11 a12 a13 a14 a15 a16 a17 a18 = some r) : F30_2 (semRun C Tryd.prog 30 Tryd.f30) a0 a1 a2 a3 a4 a5 a6 a7 a8 a9 a10 a11 a12 a13 a14 a15 a16 a17 a18 = some r :=
  semRun_unr 400 ((text30_2 _ _ a0 a1 a2 a3 a4 a5 a6 a7 a8 a9 a10 a11 a12 a13 a14 a15 a16 a17 a18).trans h)
end
end R4

namespace R4
open Go Go.Proofs Sx
noncomputable def body31 : Code := (Tryd.f31.body).getD .skip
noncomputable def X31 (call : CallT) (run : RunT) (a0 a1 : UInt8) (a2 : Bool) (a3 a4 a5 a6 : UInt8) (a7 : Bool) (a8 : UInt8) (a9 : List UInt8) : Option AV :=
  (selW (.b (decide ((w64 (a0.toNat : Int)) > 20))) false (some (.b (ugt a1 4))) (.b true)).bind fun v1 => (selW (v1) false (some (.b (ugt a3 4))) (.b true)).bind fun v2 => (selW (v2) false (some (.b (ugt a5 5))) (.b true)).bind fun v3 => (selW (v3) false (some (.b (ugt a6 6))) (.b true)).bind fun v4 => (selW (v4) false (some (.b (ugt a8 2))) (.b true)).bind fun v5 => condM (v5)
  (some (.b false))
  ((selW (.b (decide ((w64 (a0.toNat : Int)) ≥ 4))) true (some (.b (decide ((w64 (a0.toNat : Int)) ≤ 10)))) (.b false)).bind fun v6 => (selW (.b (decide ((w64 (a0.toNat : Int)) ≥ 17))) true (some (.b (decide ((w64 (a0.toNat : Int)) ≤ 19)))) (.b false)).bind fun v7 => (selW (.b (une a1 0)) true ((unop .not (v6)).bind fun v8 => some (v8)) (.b false)).bind fun v9 => (selW (v9) true ((unop .not (v7)).bind fun v10 => some (v10)) (.b false)).bind fun v11 => (selW (v11) false ((selW (v7) true (some (.b (ueq a1 0))) (.b false)).bind fun v12 => some (v12)) (.b true)).bind fun v13 => condM (v13)
  (some (.b false))
  ((selW (.b a2) true ((selW (.b ((w64 (a0.toNat : Int)) != 3)) true ((unop .not (v6)).bind fun v14 => some (v14)) (.b false)).bind fun v15 => (selW (v15) false (some (.b (une a1 0))) (.b true)).bind fun v16 => some (v16)) (.b false)).bind fun v17 => condM (v17)
  (some (.b false))
  ((selW (.b (une a3 0)) true (some (.b ((w64 (a0.toNat : Int)) != 7))) (.b false)).bind fun v18 => (selW (v18) true (some (.b ((w64 (a0.toNat : Int)) != 8))) (.b false)).bind fun v19 => condM (v19)
  (some (.b false))
  ((selW (.b (une a4 0)) true ((selW (.b ((w64 (a0.toNat : Int)) != 8)) false ((selW (.b (une a4 34)) true (some (.b (une a4 39))) (.b false)).bind fun v20 => some (v20)) (.b true)).bind fun v21 => some (v21)) (.b false)).bind fun v22 => condM (v22)
  (some (.b false))
  ((selW (.b (une a5 0)) true ((selW (.b ((w64 (a0.toNat : Int)) != 8)) false (some (.b (une a3 1))) (.b true)).bind fun v23 => some (v23)) (.b false)).bind fun v24 => condM (v24)
  (some (.b false))
  ((selW (.b (une a8 0)) true (some (.b ((w64 (a0.toNat : Int)) != 15))) (.b false)).bind fun v25 => condM (v25)
  (some (.b false))
  ((selW (.b ((w64 (a0.toNat : Int)) == 8)) true (some (.b (ueq a3 3))) (.b false)).bind fun v26 => (selW (v26) false ((selW (v7) true (some (.b (ueq a1 4))) (.b false)).bind fun v27 => some (v27)) (.b true)).bind fun v28 => (selW (.b (une a6 0)) true ((call 51 [.ag [.u8 a0, .u8 a1, .b a2, .u8 a3, .u8 a4, .u8 a5, .u8 a6, .b a7, .u8 a8, .s a9]]).bind fun v29 => (unop .not (v29)).bind fun v30 => some (v30)) (.b false)).bind fun v31 => (selW (v31) false ((selW (v28) true (some (.b (ueq a6 4))) (.b false)).bind fun v32 => some (v32)) (.b true)).bind fun v33 => condM (v33)
  (some (.b false))
  ((selW (.b a7) true (some (.b (une a6 1))) (.b false)).bind fun v34 => (selW (v34) true (some (.b (une a6 2))) (.b false)).bind fun v35 => condM (v35)
  (some (.b false))
  ((selW (.b ((w64 (a0.toNat : Int)) == 3)) false (some (.b ((w64 (a0.toNat : Int)) == 5))) (.b true)).bind fun v36 => (selW (v36) false (some (.b ((w64 (a0.toNat : Int)) == 6))) (.b true)).bind fun v37 => condM (v37)
  ((call 52 [.s a9, .int 32]).bind fun v38 => some (v38))
  ((selW (.b ((w64 (a0.toNat : Int)) == 8)) true (some (.b (ueq a3 1))) (.b false)).bind fun v39 => (selW (v39) true (some (.b (ueq a5 1))) (.b false)).bind fun v40 => condM (v40)
  ((call 52 [.s a9, .int 16]).bind fun v41 => some (v41))
  (condM (.b ((w64 (a0.toNat : Int)) == 19))
  ((call 35 [.int (w64 (a1.toNat : Int))]).bind fun v42 => (lenS (v42)).bind fun v43 => (binI .leq (.int ((a9.length : Int))) (v43)).bind fun v44 => (selW (v44) true ((slS (v42) none (some (.int ((a9.length : Int))))).bind fun v45 => (binS .eql (v45) (.s a9)).bind fun v46 => some (v46)) (.b false)).bind fun v47 => some (v47))
  (some (.b (a9 == []))))))))))))))
section
variable (call : CallT) (run : RunT) (a0 a1 : UInt8) (a2 : Bool) (a3 a4 a5 a6 : UInt8) (a7 : Bool) (a8 : UInt8) (a9 : List UInt8)
theorem text31 : unr C call run 31 Tryd.f31 400 [.code body31] (initF C 31 Tryd.f31.ntmps [.ag [.u8 a0, .u8 a1, .b a2, .u8 a3, .u8 a4, .u8 a5, .u8 a6, .b a7, .u8 a8, .s a9]]) = X31 call run a0 a1 a2 a3 a4 a5 a6 a7 a8 a9 := by
  kernel_rfl
theorem c31 {r : AV} (h : X31 (semCall C Tryd.prog) (semRun C Tryd.prog 31 Tryd.f31) a0 a1 a2 a3 a4 a5 a6 a7 a8 a9 = some r) : semCall C Tryd.prog 31 [.ag [.u8 a0, .u8 a1, .b a2, .u8 a3, .u8 a4, .u8 a5, .u8 a6, .b a7, .u8 a8, .s a9]] = some r :=
  semCall_unr (fn := Tryd.f31) (c := body31) (by kernel_rfl) (by kernel_rfl) 400 (by kernel_rfl) ((text31 _ _ a0 a1 a2 a3 a4 a5 a6 a7 a8 a9).trans h)
end
end R4

namespace R4
open Go Go.Proofs Sx
noncomputable def body32 : Code := (Tryd.f32.body).getD .skip
noncomputable def X32 (call : CallT) (run : RunT)  : Option AV :=
  some (.ag [.u8 20, .u8 0, .b false, .u8 0, .u8 0, .u8 0, .u8 0, .b false, .u8 0, .s []])
section
variable (call : CallT) (run : RunT) 
theorem text32 : unr C call run 32 Tryd.f32 400 [.code body32] (initF C 32 Tryd.f32.ntmps []) = X32 call run  := by
  kernel_rfl
theorem c32 {r : AV} (h : X32 (semCall C Tryd.prog) (semRun C Tryd.prog 32 Tryd.f32)  = some r) : semCall C Tryd.prog 32 [] = some r :=
  semCall_unr (fn := Tryd.f32) (c := body32) (by kernel_rfl) (by kernel_rfl) 400 (by kernel_rfl) ((text32 _ _ ).trans h)
end
end R4

namespace R4
open Go Go.Proofs Sx
noncomputable def body33 : Code := (Tryd.f33.body).getD .skip
section
variable (run : RunT) (a0 a1 : UInt8) (a2 : Bool) (a3 a4 a5 a6 : UInt8) (a7 : Bool) (a8 : UInt8) (a9 : List UInt8) (a10 a11 : UInt8) (a12 : Bool) (a13 a14 a15 a16 : UInt8) (a17 : Bool) (a18 : UInt8) (a19 : List UInt8)
noncomputable def K33_4 : List Item := (kAt 4 body33 []).getD []
def S33_4 : St := St.ofL [(2, .cell (.ptr 2 0)), (3, .cell (.ptr 3 0))] [(2, some [.val (.u8 a0), .val (.u8 a1), .val (.b a2), .val (.u8 a3), .val (.u8 a4), .val (.u8 a5), .val (.u8 a6), .val (.b a7), .val (.u8 a8), .val (.s a9)]), (3, some [.val (.u8 a10), .val (.u8 a11), .val (.b a12), .val (.u8 a13), .val (.u8 a14), .val (.u8 a15), .val (.u8 a16), .val (.b a17), .val (.u8 a18), .val (.s a19)])]
noncomputable def F33_4 : Option AV := run K33_4 (S33_4 a0 a1 a2 a3 a4 a5 a6 a7 a8 a9 a10 a11 a12 a13 a14 a15 a16 a17 a18 a19)
end
noncomputable def X33 (call : CallT) (run : RunT) (a0 a1 : UInt8) (a2 : Bool) (a3 a4 a5 a6 : UInt8) (a7 : Bool) (a8 : UInt8) (a9 : List UInt8) : Option AV :=
  condM (.b ((w64 (a0.toNat : Int)) == 8))
  (F33_4 run 0 0 false 0 0 0 0 false 0 [] a0 a1 a2 0 a4 0 0 false a8 [])
  (F33_4 run 0 0 false 0 0 0 0 false 0 [] a0 a1 a2 0 a4 0 0 false a8 a9)
section
variable (call : CallT) (run : RunT) (a0 a1 : UInt8) (a2 : Bool) (a3 a4 a5 a6 : UInt8) (a7 : Bool) (a8 : UInt8) (a9 : List UInt8)
theorem text33 : unr C call run 33 Tryd.f33 400 [.code body33] (initF C 33 Tryd.f33.ntmps [.ag [.u8 a0, .u8 a1, .b a2, .u8 a3, .u8 a4, .u8 a5, .u8 a6, .b a7, .u8 a8, .s a9]]) = X33 call run a0 a1 a2 a3 a4 a5 a6 a7 a8 a9 := by
  kernel_rfl
theorem c33 {r : AV} (h : X33 (semCall C Tryd.prog) (semRun C Tryd.prog 33 Tryd.f33) a0 a1 a2 a3 a4 a5 a6 a7 a8 a9 = some r) : semCall C Tryd.prog 33 [.ag [.u8 a0, .u8 a1, .b a2, .u8 a3, .u8 a4, .u8 a5, .u8 a6, .b a7, .u8 a8, .s a9]] = some r :=
  semCall_unr (fn := Tryd.f33) (c := body33) (by kernel_rfl) (by kernel_rfl) 400 (by kernel_rfl) ((text33 _ _ a0 a1 a2 a3 a4 a5 a6 a7 a8 a9).trans h)
end
noncomputable def X33_4 (call : CallT) (run : RunT) (a0 a1 : UInt8) (a2 : Bool) (a3 a4 a5 a6 : UInt8) (a7 : Bool) (a8 : UInt8) (a9 : List UInt8) (a10 a11 : UInt8) (a12 : Bool) (a13 a14 a15 a16 : UInt8) (a17 : Bool) (a18 : UInt8) (a19 : List UInt8) : Option AV :=
  some (.ag [.u8 a10, .u8 a11, .b a12, .u8 a13, .u8 a14, .u8 a15, .u8 a16, .b a17, .u8 a18, .s a19])
section
variable (call : CallT) (run : RunT) (a0 a1 : UInt8) (a2 : Bool) (a3 a4 a5 a6 : UInt8) (a7 : Bool) (a8 : UInt8) (a9 : List UInt8) (a10 a11 : UInt8) (a12 : Bool) (a13 a14 a15 a16 : UInt8) (a17 : Bool) (a18 : UInt8) (a19 : List UInt8)
theorem text33_4 : step C call 33 Tryd.f33 (unr C call run 33 Tryd.f33 400) K33_4 (S33_4 a0 a1 a2 a3 a4 a5 a6 a7 a8 a9 a10 a11 a12 a13 a14 a15 a16 a17 a18 a19) = X33_4 call run a0 a1 a2 a3 a4 a5 a6 a7 a8 a9 a10 a11 a12 a13 a14 a15 a16 a17 a18 a19 := by
  kernel_rfl
end
section
variable (a0 a1 : UInt8) (a2 : Bool) (a3 a4 a5 a6 : UInt8) (a7 : Bool) (a8 : UInt8) (a9 : List UInt8) (a10 a11 : UInt8) (a12 : Bool) (a13 a14 a15 a16 : UInt8) (a17 : Bool) (a18 : UInt8) (a19 : List UInt8)
theorem r33_4 {r : AV} (h : X33_4 (semCall C Tryd.prog) (semRun C Tryd.prog 33 Tryd.f33) a0 a1 a2 a3 a4 a5 a6 a7 a8 a9 a10 a11 a12 a13 a14 a15 a16 a17 a18 a19 = some r) : F33_4 (semRun C Tryd.prog 33 Tryd.f33) a0 a1 a2 a3 a4 a5 a6 a7 a8 a9 a10 a11 a12 a13 a14 a15 a16 a17 a18 a19 = some r :=
  semRun_unr 400 ((text33_4 _ _ a0 a1 a2 a3 a4 a5 a6 a7 a8 a9 a10 a11 a12 a13 a14 a15 a16 a17 a18 a19).trans h)
end
end R4

namespace R4
open Go Go.Proofs Sx
noncomputable def body34 : Code := (Tryd.f34.body).getD .skip
section
variable (run : RunT) (a0 a1 a2 : UInt8) (a3 : Bool) (a4 a5 a6 a7 : UInt8) (a8 : Bool) (a9 : UInt8) (a10 : List UInt8) (a11 : UInt8) (a12 : AV) (a13 : Bool) (a14 a15 a16 a17 : UInt8) (a18 : Bool) (a19 : UInt8) (a20 : List UInt8)
noncomputable def K34_27 : List Item := (kAt 27 body34 []).getD []
def S34_27 : St := St.ofL [(1, .cell (.val (.u8 a0))), (4, .cell (.ptr 4 0)), (5, .cell (.ptr 5 0))] [(4, some [.val (.u8 a1), .val (.u8 a2), .val (.b a3), .val (.u8 a4), .val (.u8 a5), .val (.u8 a6), .val (.u8 a7), .val (.b a8), .val (.u8 a9), .val (.s a10)]), (5, some [.val (.u8 a11), .val (a12), .val (.b a13), .val (.u8 a14), .val (.u8 a15), .val (.u8 a16), .val (.u8 a17), .val (.b a18), .val (.u8 a19), .val (.s a20)])]
noncomputable def F34_27 : Option AV := run K34_27 (S34_27 a0 a1 a2 a3 a4 a5 a6 a7 a8 a9 a10 a11 a12 a13 a14 a15 a16 a17 a18 a19 a20)
end
section
variable (run : RunT) (a0 a1 a2 : UInt8) (a3 : Bool) (a4 a5 a6 a7 : UInt8) (a8 : Bool) (a9 : UInt8) (a10 : List UInt8) (a11 a12 : UInt8) (a13 : Bool) (a14 a15 a16 a17 : UInt8) (a18 : Bool) (a19 : UInt8) (a20 : List UInt8) (a21 a22 : UInt8) (a23 : Bool) (a24 a25 a26 a27 : UInt8) (a28 : Bool) (a29 : UInt8) (a30 : List UInt8)
noncomputable def K34_57 : List Item := (kAt 57 body34 []).getD []
def S34_57 : St := St.ofL [(1, .cell (.val (.u8 a0))), (2, .cell (.ptr 2 0)), (4, .cell (.ptr 4 0)), (5, .cell (.ptr 5 0))] [(2, some [.val (.u8 a1), .val (.u8 a2), .val (.b a3), .val (.u8 a4), .val (.u8 a5), .val (.u8 a6), .val (.u8 a7), .val (.b a8), .val (.u8 a9), .val (.s a10)]), (4, some [.val (.u8 a11), .val (.u8 a12), .val (.b a13), .val (.u8 a14), .val (.u8 a15), .val (.u8 a16), .val (.u8 a17), .val (.b a18), .val (.u8 a19), .val (.s a20)]), (5, some [.val (.u8 a21), .val (.u8 a22), .val (.b a23), .val (.u8 a24), .val (.u8 a25), .val (.u8 a26), .val (.u8 a27), .val (.b a28), .val (.u8 a29), .val (.s a30)])]
noncomputable def F34_57 : Option AV := run K34_57 (S34_57 a0 a1 a2 a3 a4 a5 a6 a7 a8 a9 a10 a11 a12 a13 a14 a15 a16 a17 a18 a19 a20 a21 a22 a23 a24 a25 a26 a27 a28 a29 a30)
end
section
variable (run : RunT) (a0 : UInt8) (a1 : Int) (a2 a3 : UInt8) (a4 : Bool) (a5 a6 a7 a8 : UInt8) (a9 : Bool) (a10 : UInt8) (a11 : List UInt8) (a12 a13 : UInt8) (a14 : Bool) (a15 a16 a17 a18 : UInt8) (a19 : Bool) (a20 : UInt8) (a21 : List UInt8) (a22 a23 : UInt8) (a24 : Bool) (a25 a26 a27 a28 : UInt8) (a29 : Bool) (a30 : UInt8) (a31 : List UInt8)
noncomputable def K34_58 : List Item := (kAt 58 body34 []).getD []
def S34_58 : St := St.ofL [(1, .cell (.val (.u8 a0))), (2, .cell (.ptr 2 0)), (4, .cell (.ptr 4 0)), (5, .cell (.ptr 5 0)), (13, .cell (.val (.int a1)))] [(2, some [.val (.u8 a2), .val (.u8 a3), .val (.b a4), .val (.u8 a5), .val (.u8 a6), .val (.u8 a7), .val (.u8 a8), .val (.b a9), .val (.u8 a10), .val (.s a11)]), (4, some [.val (.u8 a12), .val (.u8 a13), .val (.b a14), .val (.u8 a15), .val (.u8 a16), .val (.u8 a17), .val (.u8 a18), .val (.b a19), .val (.u8 a20), .val (.s a21)]), (5, some [.val (.u8 a22), .val (.u8 a23), .val (.b a24), .val (.u8 a25), .val (.u8 a26), .val (.u8 a27), .val (.u8 a28), .val (.b a29), .val (.u8 a30), .val (.s a31)])]
noncomputable def F34_58 : Option AV := run K34_58 (S34_58 a0 a1 a2 a3 a4 a5 a6 a7 a8 a9 a10 a11 a12 a13 a14 a15 a16 a17 a18 a19 a20 a21 a22 a23 a24 a25 a26 a27 a28 a29 a30 a31)
end
section
variable (run : RunT) (a0 a1 a2 : UInt8) (a3 : Bool) (a4 a5 a6 a7 : UInt8) (a8 : Bool) (a9 : UInt8) (a10 : List UInt8) (a11 a12 : UInt8) (a13 : Bool) (a14 a15 a16 a17 : UInt8) (a18 : Bool) (a19 : UInt8) (a20 : List UInt8)
noncomputable def K34_73 : List Item := (kAt 73 body34 []).getD []
def S34_73 : St := St.ofL [(1, .cell (.val (.u8 a0))), (2, .cell (.ptr 2 0)), (4, .cell (.ptr 4 0))] [(2, some [.val (.u8 a1), .val (.u8 a2), .val (.b a3), .val (.u8 a4), .val (.u8 a5), .val (.u8 a6), .val (.u8 a7), .val (.b a8), .val (.u8 a9), .val (.s a10)]), (4, some [.val (.u8 a11), .val (.u8 a12), .val (.b a13), .val (.u8 a14), .val (.u8 a15), .val (.u8 a16), .val (.u8 a17), .val (.b a18), .val (.u8 a19), .val (.s a20)])]
noncomputable def F34_73 : Option AV := run K34_73 (S34_73 a0 a1 a2 a3 a4 a5 a6 a7 a8 a9 a10 a11 a12 a13 a14 a15 a16 a17 a18 a19 a20)
end
section
variable (run : RunT) (a0 a1 a2 : UInt8) (a3 : Bool) (a4 a5 a6 a7 : UInt8) (a8 : Bool) (a9 : UInt8) (a10 : List UInt8) (a11 a12 : UInt8) (a13 : Bool) (a14 a15 a16 a17 : UInt8) (a18 : Bool) (a19 : UInt8) (a20 : List UInt8)
noncomputable def K34_74 : List Item := (kAt 74 body34 []).getD []
def S34_74 : St := St.ofL [(1, .cell (.val (.u8 a0))), (2, .cell (.ptr 2 0)), (4, .cell (.ptr 4 0))] [(2, some [.val (.u8 a1), .val (.u8 a2), .val (.b a3), .val (.u8 a4), .val (.u8 a5), .val (.u8 a6), .val (.u8 a7), .val (.b a8), .val (.u8 a9), .val (.s a10)]), (4, some [.val (.u8 a11), .val (.u8 a12), .val (.b a13), .val (.u8 a14), .val (.u8 a15), .val (.u8 a16), .val (.u8 a17), .val (.b a18), .val (.u8 a19), .val (.s a20)])]
noncomputable def F34_74 : Option AV := run K34_74 (S34_74 a0 a1 a2 a3 a4 a5 a6 a7 a8 a9 a10 a11 a12 a13 a14 a15 a16 a17 a18 a19 a20)
end
noncomputable def X34 (call : CallT) (run : RunT) (a0 a1 : UInt8) (a2 : Bool) (a3 a4 a5 a6 : UInt8) (a7 : Bool) (a8 : UInt8) (a9 : List UInt8) (a10 : UInt8) : Option AV :=
  condM (.b ((w64 (a0.toNat : Int)) == 0))
  (condM (.b (ueq a10 60))
  ((call 53 [.int 1]).bind fun v1 => (AV.asAg 10 (v1)).bind fun v2 => some (.ag [v2.getD 0 .un, v2.getD 1 .un, v2.getD 2 .un, v2.getD 3 .un, v2.getD 4 .un, v2.getD 5 .un, v2.getD 6 .un, v2.getD 7 .un, v2.getD 8 .un, v2.getD 9 .un]))
  (some (.ag [.u8 a0, .u8 a1, .b a2, .u8 a3, .u8 a4, .u8 a5, .u8 a6, .b a7, .u8 a8, .s a9])))
  (condM (.b ((w64 (a0.toNat : Int)) == 1))
  ((call 54 [.u8 a10]).bind fun v3 => condM (v3)
  ((call 37 [.u8 a10]).bind fun v4 => (AV.one (v4)).bind fun v5 => some (.ag [.u8 3, .u8 0, .b false, .u8 0, .u8 0, .u8 0, .u8 0, .b false, .u8 0, v5]))
  (condM (.b (ueq a10 47))
  ((call 53 [.int 2]).bind fun v6 => (AV.asAg 10 (v6)).bind fun v7 => some (.ag [v7.getD 0 .un, v7.getD 1 .un, v7.getD 2 .un, v7.getD 3 .un, v7.getD 4 .un, v7.getD 5 .un, v7.getD 6 .un, v7.getD 7 .un, v7.getD 8 .un, v7.getD 9 .un]))
  (condM (.b (ueq a10 33))
  ((call 53 [.int 11]).bind fun v8 => (AV.asAg 10 (v8)).bind fun v9 => some (.ag [v9.getD 0 .un, v9.getD 1 .un, v9.getD 2 .un, v9.getD 3 .un, v9.getD 4 .un, v9.getD 5 .un, v9.getD 6 .un, v9.getD 7 .un, v9.getD 8 .un, v9.getD 9 .un]))
  (condM (.b (ueq a10 63))
  ((call 53 [.int 16]).bind fun v10 => (AV.asAg 10 (v10)).bind fun v11 => some (.ag [v11.getD 0 .un, v11.getD 1 .un, v11.getD 2 .un, v11.getD 3 .un, v11.getD 4 .un, v11.getD 5 .un, v11.getD 6 .un, v11.getD 7 .un, v11.getD 8 .un, v11.getD 9 .un]))
  ((call 53 [.int 0]).bind fun v12 => (call 34 [v12, .u8 a10]).bind fun v13 => (AV.asAg 10 (v13)).bind fun v14 => some (.ag [v14.getD 0 .un, v14.getD 1 .un, v14.getD 2 .un, v14.getD 3 .un, v14.getD 4 .un, v14.getD 5 .un, v14.getD 6 .un, v14.getD 7 .un, v14.getD 8 .un, v14.getD 9 .un]))))))
  (condM (.b ((w64 (a0.toNat : Int)) == 2))
  ((call 54 [.u8 a10]).bind fun v15 => condM (v15)
  ((call 37 [.u8 a10]).bind fun v16 => (AV.one (v16)).bind fun v17 => some (.ag [.u8 3, .u8 0, .b true, .u8 0, .u8 0, .u8 0, .u8 0, .b false, .u8 0, v17]))
  (condM (.b (ueq a10 62))
  ((call 53 [.int 0]).bind fun v18 => (AV.asAg 10 (v18)).bind fun v19 => some (.ag [v19.getD 0 .un, v19.getD 1 .un, v19.getD 2 .un, v19.getD 3 .un, v19.getD 4 .un, v19.getD 5 .un, v19.getD 6 .un, v19.getD 7 .un, v19.getD 8 .un, v19.getD 9 .un]))
  ((call 53 [.int 16]).bind fun v20 => (AV.asAg 10 (v20)).bind fun v21 => some (.ag [v21.getD 0 .un, v21.getD 1 .un, v21.getD 2 .un, v21.getD 3 .un, v21.getD 4 .un, v21.getD 5 .un, v21.getD 6 .un, v21.getD 7 .un, v21.getD 8 .un, v21.getD 9 .un]))))
  (condM (.b ((w64 (a0.toNat : Int)) == 3))
  ((call 36 [.u8 a10]).bind fun v22 => (selW (v22) false (some (.b (ueq a10 47))) (.b true)).bind fun v23 => (selW (v23) false (some (.b (ueq a10 62))) (.b true)).bind fun v24 => condM (v24)
  (condM (.b (!a2))
  ((call 55 [.s a9]).bind fun v25 => (conv .u8 (v25)).bind fun v26 => (AV.one (v26)).bind fun v27 => F34_27 run a10 0 0 false 0 0 0 0 false 0 [] 0 (v27) a2 0 0 0 0 false 0 [])
  (F34_27 run a10 0 0 false 0 0 0 0 false 0 [] 0 (.u8 a1) a2 0 0 0 0 false 0 []))
  ((call 56 [.ag [.u8 a0, .u8 a1, .b a2, .u8 a3, .u8 a4, .u8 a5, .u8 a6, .b a7, .u8 a8, .s a9], .u8 a10]).bind fun v28 => (AV.asAg 10 (v28)).bind fun v29 => some (.ag [v29.getD 0 .un, v29.getD 1 .un, v29.getD 2 .un, v29.getD 3 .un, v29.getD 4 .un, v29.getD 5 .un, v29.getD 6 .un, v29.getD 7 .un, v29.getD 8 .un, v29.getD 9 .un])))
  (condM (.b ((w64 (a0.toNat : Int)) == 9))
  ((call 36 [.u8 a10]).bind fun v30 => condM (v30)
  (some (.ag [.u8 4, .u8 a1, .b a2, .u8 0, .u8 0, .u8 0, .u8 0, .b false, .u8 0, .s []]))
  (condM (.b (ueq a10 47))
  (some (.ag [.u8 10, .u8 a1, .b a2, .u8 0, .u8 0, .u8 0, .u8 0, .b false, .u8 0, .s []]))
  (condM (.b (ueq a10 62))
  ((call 57 [.ag [.u8 a0, .u8 a1, .b a2, .u8 a3, .u8 a4, .u8 a5, .u8 a6, .b a7, .u8 a8, .s a9]]).bind fun v31 => (AV.asAg 10 (v31)).bind fun v32 => some (.ag [v32.getD 0 .un, v32.getD 1 .un, v32.getD 2 .un, v32.getD 3 .un, v32.getD 4 .un, v32.getD 5 .un, v32.getD 6 .un, v32.getD 7 .un, v32.getD 8 .un, v32.getD 9 .un]))
  ((call 32 []).bind fun v33 => (AV.asAg 10 (v33)).bind fun v34 => some (.ag [v34.getD 0 .un, v34.getD 1 .un, v34.getD 2 .un, v34.getD 3 .un, v34.getD 4 .un, v34.getD 5 .un, v34.getD 6 .un, v34.getD 7 .un, v34.getD 8 .un, v34.getD 9 .un])))))
  (condM (.b ((w64 (a0.toNat : Int)) == 10))
  (condM (.b (ueq a10 62))
  ((call 57 [.ag [.u8 a0, .u8 a1, .b a2, .u8 a3, .u8 a4, .u8 a5, .u8 a6, .b a7, .u8 a8, .s a9]]).bind fun v35 => (AV.asAg 10 (v35)).bind fun v36 => some (.ag [v36.getD 0 .un, v36.getD 1 .un, v36.getD 2 .un, v36.getD 3 .un, v36.getD 4 .un, v36.getD 5 .un, v36.getD 6 .un, v36.getD 7 .un, v36.getD 8 .un, v36.getD 9 .un]))
  ((call 34 [.ag [.u8 4, .u8 a1, .b a2, .u8 0, .u8 0, .u8 0, .u8 0, .b false, .u8 0, .s []], .u8 a10]).bind fun v37 => (AV.asAg 10 (v37)).bind fun v38 => some (.ag [v38.getD 0 .un, v38.getD 1 .un, v38.getD 2 .un, v38.getD 3 .un, v38.getD 4 .un, v38.getD 5 .un, v38.getD 6 .un, v38.getD 7 .un, v38.getD 8 .un, v38.getD 9 .un])))
  (condM (.b ((w64 (a0.toNat : Int)) == 4))
  ((call 36 [.u8 a10]).bind fun v39 => condM (v39)
  (some (.ag [.u8 a0, .u8 a1, .b a2, .u8 a3, .u8 a4, .u8 a5, .u8 a6, .b a7, .u8 a8, .s a9]))
  ((selW (.b (ueq a10 47)) false (some (.b (ueq a10 62))) (.b true)).bind fun v40 => condM (v40)
  ((call 34 [.ag [.u8 9, .u8 a1, .b a2, .u8 0, .u8 0, .u8 0, .u8 0, .b false, .u8 0, .s []], .u8 a10]).bind fun v41 => (AV.asAg 10 (v41)).bind fun v42 => some (.ag [v42.getD 0 .un, v42.getD 1 .un, v42.getD 2 .un, v42.getD 3 .un, v42.getD 4 .un, v42.getD 5 .un, v42.getD 6 .un, v42.getD 7 .un, v42.getD 8 .un, v42.getD 9 .un]))
  (condM (.b (ueq a10 61))
  ((call 32 []).bind fun v43 => (AV.asAg 10 (v43)).bind fun v44 => some (.ag [v44.getD 0 .un, v44.getD 1 .un, v44.getD 2 .un, v44.getD 3 .un, v44.getD 4 .un, v44.getD 5 .un, v44.getD 6 .un, v44.getD 7 .un, v44.getD 8 .un, v44.getD 9 .un]))
  ((call 34 [.ag [.u8 5, .u8 a1, .b a2, .u8 0, .u8 0, .u8 0, .u8 0, .b false, .u8 0, .s []], .u8 a10]).bind fun v45 => (AV.asAg 10 (v45)).bind fun v46 => some (.ag [v46.getD 0 .un, v46.getD 1 .un, v46.getD 2 .un, v46.getD 3 .un, v46.getD 4 .un, v46.getD 5 .un, v46.getD 6 .un, v46.getD 7 .un, v46.getD 8 .un, v46.getD 9 .un])))))
  (condM (.b ((w64 (a0.toNat : Int)) == 5))
  (F34_57 run a10 a0 a1 a2 a3 a4 a5 a6 a7 a8 a9 0 0 false 0 0 0 0 false 0 [] 0 a1 a2 0 0 0 0 false 0 [])
  (condM (.b ((w64 (a0.toNat : Int)) == 6))
  (F34_57 run a10 a0 a1 a2 a3 a4 a5 a6 a7 a8 a9 0 0 false 0 0 0 0 false 0 [] 0 a1 a2 0 0 0 0 false 0 [])
  (F34_58 run a10 (w64 (a0.toNat : Int)) a0 a1 a2 a3 a4 a5 a6 a7 a8 a9 0 0 false 0 0 0 0 false 0 [] 0 a1 a2 0 0 0 0 false 0 [])))))))))
section
variable (call : CallT) (run : RunT) (a0 a1 : UInt8) (a2 : Bool) (a3 a4 a5 a6 : UInt8) (a7 : Bool) (a8 : UInt8) (a9 : List UInt8) (a10 : UInt8)
theorem text34 : unr C call run 34 Tryd.f34 400 [.code body34] (initF C 34 Tryd.f34.ntmps [.ag [.u8 a0, .u8 a1, .b a2, .u8 a3, .u8 a4, .u8 a5, .u8 a6, .b a7, .u8 a8, .s a9], .u8 a10]) = X34 call run a0 a1 a2 a3 a4 a5 a6 a7 a8 a9 a10 := by
  kernel_rfl
theorem c34 {r : AV} (h : X34 (semCall C Tryd.prog) (semRun C Tryd.prog 34 Tryd.f34) a0 a1 a2 a3 a4 a5 a6 a7 a8 a9 a10 = some r) : semCall C Tryd.prog 34 [.ag [.u8 a0, .u8 a1, .b a2, .u8 a3, .u8 a4, .u8 a5, .u8 a6, .b a7, .u8 a8, .s a9], .u8 a10] = some r :=
  semCall_unr (fn := Tryd.f34) (c := body34) (by kernel_rfl) (by kernel_rfl) 400 (by kernel_rfl) ((text34 _ _ a0 a1 a2 a3 a4 a5 a6 a7 a8 a9 a10).trans h)
end
noncomputable def X34_27 (call : CallT) (run : RunT) (a0 a1 a2 : UInt8) (a3 : Bool) (a4 a5 a6 a7 : UInt8) (a8 : Bool) (a9 : UInt8) (a10 : List UInt8) (a11 : UInt8) (a12 : AV) (a13 : Bool) (a14 a15 a16 a17 : UInt8) (a18 : Bool) (a19 : UInt8) (a20 : List UInt8) : Option AV :=
  (call 34 [.ag [.u8 9, a12, .b a13, .u8 a14, .u8 a15, .u8 a16, .u8 a17, .b a18, .u8 a19, .s a20], .u8 a0]).bind fun v1 => (AV.asAg 10 (v1)).bind fun v2 => some (.ag [v2.getD 0 .un, v2.getD 1 .un, v2.getD 2 .un, v2.getD 3 .un, v2.getD 4 .un, v2.getD 5 .un, v2.getD 6 .un, v2.getD 7 .un, v2.getD 8 .un, v2.getD 9 .un])
section
variable (call : CallT) (run : RunT) (a0 a1 a2 : UInt8) (a3 : Bool) (a4 a5 a6 a7 : UInt8) (a8 : Bool) (a9 : UInt8) (a10 : List UInt8) (a11 : UInt8) (a12 : AV) (a13 : Bool) (a14 a15 a16 a17 : UInt8) (a18 : Bool) (a19 : UInt8) (a20 : List UInt8)
theorem text34_27 : step C call 34 Tryd.f34 (unr C call run 34 Tryd.f34 400) K34_27 (S34_27 a0 a1 a2 a3 a4 a5 a6 a7 a8 a9 a10 a11 a12 a13 a14 a15 a16 a17 a18 a19 a20) = X34_27 call run a0 a1 a2 a3 a4 a5 a6 a7 a8 a9 a10 a11 a12 a13 a14 a15 a16 a17 a18 a19 a20 := by
  kernel_rfl
end
noncomputable def X34_57 (call : CallT) (run : RunT) (a0 a1 a2 : UInt8) (a3 : Bool) (a4 a5 a6 a7 : UInt8) (a8 : Bool) (a9 : UInt8) (a10 : List UInt8) (a11 a12 : UInt8) (a13 : Bool) (a14 a15 a16 a17 : UInt8) (a18 : Bool) (a19 : UInt8) (a20 : List UInt8) (a21 a22 : UInt8) (a23 : Bool) (a24 a25 a26 a27 : UInt8) (a28 : Bool) (a29 : UInt8) (a30 : List UInt8) : Option AV :=
  (call 58 [.ag [.u8 a1, .u8 a2, .b a3, .u8 a4, .u8 a5, .u8 a6, .u8 a7, .b a8, .u8 a9, .s a10], .ag [.u8 a21, .u8 a22, .b a23, .u8 a24, .u8 a25, .u8 a26, .u8 a27, .b a28, .u8 a29, .s a30], .u8 a0]).bind fun v1 => (AV.asAg 10 (v1)).bind fun v2 => some (.ag [v2.getD 0 .un, v2.getD 1 .un, v2.getD 2 .un, v2.getD 3 .un, v2.getD 4 .un, v2.getD 5 .un, v2.getD 6 .un, v2.getD 7 .un, v2.getD 8 .un, v2.getD 9 .un])
section
variable (call : CallT) (run : RunT) (a0 a1 a2 : UInt8) (a3 : Bool) (a4 a5 a6 a7 : UInt8) (a8 : Bool) (a9 : UInt8) (a10 : List UInt8) (a11 a12 : UInt8) (a13 : Bool) (a14 a15 a16 a17 : UInt8) (a18 : Bool) (a19 : UInt8) (a20 : List UInt8) (a21 a22 : UInt8) (a23 : Bool) (a24 a25 a26 a27 : UInt8) (a28 : Bool) (a29 : UInt8) (a30 : List UInt8)
theorem text34_57 : step C call 34 Tryd.f34 (unr C call run 34 Tryd.f34 400) K34_57 (S34_57 a0 a1 a2 a3 a4 a5 a6 a7 a8 a9 a10 a11 a12 a13 a14 a15 a16 a17 a18 a19 a20 a21 a22 a23 a24 a25 a26 a27 a28 a29 a30) = X34_57 call run a0 a1 a2 a3 a4 a5 a6 a7 a8 a9 a10 a11 a12 a13 a14 a15 a16 a17 a18 a19 a20 a21 a22 a23 a24 a25 a26 a27 a28 a29 a30 := by
  kernel_rfl
end
noncomputable def X34_58 (call : CallT) (run : RunT) (a0 : UInt8) (a1 : Int) (a2 a3 : UInt8) (a4 : Bool) (a5 a6 a7 a8 : UInt8) (a9 : Bool) (a10 : UInt8) (a11 : List UInt8) (a12 a13 : UInt8) (a14 : Bool) (a15 a16 a17 a18 : UInt8) (a19 : Bool) (a20 : UInt8) (a21 : List UInt8) (a22 a23 : UInt8) (a24 : Bool) (a25 a26 a27 a28 : UInt8) (a29 : Bool) (a30 : UInt8) (a31 : List UInt8) : Option AV :=
  condM (.b (a1 == 7))
  ((call 36 [.u8 a0]).bind fun v1 => condM (v1)
  (some (.ag [.u8 a2, .u8 a3, .b a4, .u8 a5, .u8 a6, .u8 a7, .u8 a8, .b a9, .u8 a10, .s a11]))
  (condM (.b (ueq a0 62))
  ((call 32 []).bind fun v2 => (AV.asAg 10 (v2)).bind fun v3 => some (.ag [v3.getD 0 .un, v3.getD 1 .un, v3.getD 2 .un, v3.getD 3 .un, v3.getD 4 .un, v3.getD 5 .un, v3.getD 6 .un, v3.getD 7 .un, v3.getD 8 .un, v3.getD 9 .un]))
  ((selW (.b (ueq a0 34)) false (some (.b (ueq a0 39))) (.b true)).bind fun v4 => condM (v4)
  (some (.ag [.u8 8, .u8 a3, .b a4, .u8 a5, .u8 a0, .u8 a7, .u8 a8, .b a9, .u8 a10, .s a11]))
  ((call 34 [.ag [.u8 8, .u8 a3, .b a4, .u8 a5, .u8 a6, .u8 a7, .u8 a8, .b a9, .u8 a10, .s a11], .u8 a0]).bind fun v5 => (AV.asAg 10 (v5)).bind fun v6 => some (.ag [v6.getD 0 .un, v6.getD 1 .un, v6.getD 2 .un, v6.getD 3 .un, v6.getD 4 .un, v6.getD 5 .un, v6.getD 6 .un, v6.getD 7 .un, v6.getD 8 .un, v6.getD 9 .un])))))
  (condM (.b (a1 == 8))
  ((call 59 [.ag [.u8 a2, .u8 a3, .b a4, .u8 a5, .u8 a6, .u8 a7, .u8 a8, .b a9, .u8 a10, .s a11], .ag [.u8 a22, .u8 a23, .b a24, .u8 a25, .u8 a26, .u8 a27, .u8 a28, .b a29, .u8 a30, .s a31], .u8 a0]).bind fun v7 => (AV.asAg 10 (v7)).bind fun v8 => some (.ag [v8.getD 0 .un, v8.getD 1 .un, v8.getD 2 .un, v8.getD 3 .un, v8.getD 4 .un, v8.getD 5 .un, v8.getD 6 .un, v8.getD 7 .un, v8.getD 8 .un, v8.getD 9 .un]))
  (condM (.b (a1 == 17))
  (F34_73 run a0 a2 a3 a4 a5 a6 a7 a8 a9 a10 a11 a12 a13 a14 a15 a16 a17 a18 a19 a20 a21)
  (condM (.b (a1 == 18))
  (F34_73 run a0 a2 a3 a4 a5 a6 a7 a8 a9 a10 a11 a12 a13 a14 a15 a16 a17 a18 a19 a20 a21)
  (condM (.b (a1 == 19))
  (F34_73 run a0 a2 a3 a4 a5 a6 a7 a8 a9 a10 a11 a12 a13 a14 a15 a16 a17 a18 a19 a20 a21)
  (F34_74 run a0 a2 a3 a4 a5 a6 a7 a8 a9 a10 a11 a12 a13 a14 a15 a16 a17 a18 a19 a20 a21)))))
section
variable (call : CallT) (run : RunT) (a0 : UInt8) (a1 : Int) (a2 a3 : UInt8) (a4 : Bool) (a5 a6 a7 a8 : UInt8) (a9 : Bool) (a10 : UInt8) (a11 : List UInt8) (a12 a13 : UInt8) (a14 : Bool) (a15 a16 a17 a18 : UInt8) (a19 : Bool) (a20 : UInt8) (a21 : List UInt8) (a22 a23 : UInt8) (a24 : Bool) (a25 a26 a27 a28 : UInt8) (a29 : Bool) (a30 : UInt8) (a31 : List UInt8)
theorem text34_58 : step C call 34 Tryd.f34 (unr C call run 34 Tryd.f34 400) K34_58 (S34_58 a0 a1 a2 a3 a4 a5 a6 a7 a8 a9 a10 a11 a12 a13 a14 a15 a16 a17 a18 a19 a20 a21 a22 a23 a24 a25 a26 a27 a28 a29 a30 a31) = X34_58 call run a0 a1 a2 a3 a4 a5 a6 a7 a8 a9 a10 a11 a12 a13 a14 a15 a16 a17 a18 a19 a20 a21 a22 a23 a24 a25 a26 a27 a28 a29 a30 a31 := by
  kernel_rfl
end
noncomputable def X34_73 (call : CallT) (run : RunT) (a0 a1 a2 : UInt8) (a3 : Bool) (a4 a5 a6 a7 : UInt8) (a8 : Bool) (a9 : UInt8) (a10 : List UInt8) (a11 a12 : UInt8) (a13 : Bool) (a14 a15 a16 a17 : UInt8) (a18 : Bool) (a19 : UInt8) (a20 : List UInt8) : Option AV :=
  (call 60 [.ag [.u8 a1, .u8 a2, .b a3, .u8 a4, .u8 a5, .u8 a6, .u8 a7, .b a8, .u8 a9, .s a10], .u8 a0]).bind fun v1 => (AV.asAg 10 (v1)).bind fun v2 => some (.ag [v2.getD 0 .un, v2.getD 1 .un, v2.getD 2 .un, v2.getD 3 .un, v2.getD 4 .un, v2.getD 5 .un, v2.getD 6 .un, v2.getD 7 .un, v2.getD 8 .un, v2.getD 9 .un])
section
variable (call : CallT) (run : RunT) (a0 a1 a2 : UInt8) (a3 : Bool) (a4 a5 a6 a7 : UInt8) (a8 : Bool) (a9 : UInt8) (a10 : List UInt8) (a11 a12 : UInt8) (a13 : Bool) (a14 a15 a16 a17 : UInt8) (a18 : Bool) (a19 : UInt8) (a20 : List UInt8)
theorem text34_73 : step C call 34 Tryd.f34 (unr C call run 34 Tryd.f34 400) K34_73 (S34_73 a0 a1 a2 a3 a4 a5 a6 a7 a8 a9 a10 a11 a12 a13 a14 a15 a16 a17 a18 a19 a20) = X34_73 call run a0 a1 a2 a3 a4 a5 a6 a7 a8 a9 a10 a11 a12 a13 a14 a15 a16 a17 a18 a19 a20 := by
  kernel_rfl
end
noncomputable def X34_74 (call : CallT) (run : RunT) (a0 a1 a2 : UInt8) (a3 : Bool) (a4 a5 a6 a7 : UInt8) (a8 : Bool) (a9 : UInt8) (a10 : List UInt8) (a11 a12 : UInt8) (a13 : Bool) (a14 a15 a16 a17 : UInt8) (a18 : Bool) (a19 : UInt8) (a20 : List UInt8) : Option AV :=
  (call 61 [.ag [.u8 a1, .u8 a2, .b a3, .u8 a4, .u8 a5, .u8 a6, .u8 a7, .b a8, .u8 a9, .s a10], .u8 a0]).bind fun v1 => (AV.asAg 10 (v1)).bind fun v2 => some (.ag [v2.getD 0 .un, v2.getD 1 .un, v2.getD 2 .un, v2.getD 3 .un, v2.getD 4 .un, v2.getD 5 .un, v2.getD 6 .un, v2.getD 7 .un, v2.getD 8 .un, v2.getD 9 .un])
section
variable (call : CallT) (run : RunT) (a0 a1 a2 : UInt8) (a3 : Bool) (a4 a5 a6 a7 : UInt8) (a8 : Bool) (a9 : UInt8) (a10 : List UInt8) (a11 a12 : UInt8) (a13 : Bool) (a14 a15 a16 a17 : UInt8) (a18 : Bool) (a19 : UInt8) (a20 : List UInt8)
theorem text34_74 : step C call 34 Tryd.f34 (unr C call run 34 Tryd.f34 400) K34_74 (S34_74 a0 a1 a2 a3 a4 a5 a6 a7 a8 a9 a10 a11 a12 a13 a14 a15 a16 a17 a18 a19 a20) = X34_74 call run a0 a1 a2 a3 a4 a5 a6 a7 a8 a9 a10 a11 a12 a13 a14 a15 a16 a17 a18 a19 a20 := by
  kernel_rfl
end
section
variable (a0 a1 a2 : UInt8) (a3 : Bool) (a4 a5 a6 a7 : UInt8) (a8 : Bool) (a9 : UInt8) (a10 : List UInt8) (a11 : UInt8) (a12 : AV) (a13 : Bool) (a14 a15 a16 a17 : UInt8) (a18 : Bool) (a19 : UInt8) (a20 : List UInt8)
theorem r34_27 {r : AV} (h : X34_27 (semCall C Tryd.prog) (semRun C Tryd.prog 34 Tryd.f34) a0 a1 a2 a3 a4 a5 a6 a7 a8 a9 a10 a11 a12 a13 a14 a15 a16 a17 a18 a19 a20 = some r) : F34_27 (semRun C Tryd.prog 34 Tryd.f34) a0 a1 a2 a3 a4 a5 a6 a7 a8 a9 a10 a11 a12 a13 a14 a15 a16 a17 a18 a19 a20 = some r :=
  semRun_unr 400 ((text34_27 _ _ a0 a1 a2 a3 a4 a5 a6 a7 a8 a9 a10 a11 a12 a13 a14 a15 a16 a17 a18 a19 a20).trans h)
end
section
variable (a0 a1 a2 : UInt8) (a3 : Bool) (a4 a5 a6 a7 : UInt8) (a8 : Bool) (a9 : UInt8) (a10 : List UInt8) (a11 a12 : UInt8) (a13 : Bool) (a14 a15 a16 a17 : UInt8) (a18 : Bool) (a19 : UInt8) (a20 : List UInt8) (a21 a22 : UInt8) (a23 : Bool) (a24 a25 a26 a27 : UInt8) (a28 : Bool) (a29 : UInt8) (a30 : List UInt8)
theorem r34_57 {r : AV} (h : X34_57 (semCall C Tryd.prog) (semRun C Tryd.prog 34 Tryd.f34) a0 a1 a2 a3 a4 a5 a6 a7 a8 a9 a10 a11 a12 a13 a14 a15 a16 a17 a18 a19 a20 a21 a22 a23 a24 a25 a26 a27 a28 a29 a30 = some r) : F34_57 (semRun C Tryd.prog 34 Tryd.f34) a0 a1 a2 a3 a4 a5 a6 a7 a8 a9 a10 a11 a12 a13 a14 a15 a16 a17 a18 a19 a20 a21 a22 a23 a24 a25 a26 a27 a28 a29 a30 = some r :=
  semRun_unr 400 ((text34_57 _ _ a0 a1 a2 a3 a4 a5 a6 a7 a8 a9 a10 a11 a12 a13 a14 a15 a16 a17 a18 a19 a20 a21 a22 a23 a24 a25 a26 a27 a28 a29 a30).trans h)
end
section
variable (a0 : UInt8) (a1 : Int) (a2 a3 : UInt8) (a4 : Bool) (a5 a6 a7 a8 : UInt8) (a9 : Bool) (a10 : UInt8) (a11 : List UInt8) (a12 a13 : UInt8) (a14 : Bool) (a15 a16 a17 a18 : UInt8) (a19 : Bool) (a20 : UInt8) (a21 : List UInt8) (a22 a23 : UInt8) (a24 : Bool) (a25 a26 a27 a28 : UInt8) (a29 : Bool) (a30 : UInt8) (a31 : List UInt8)
theorem r34_58 {r : AV} (h : X34_58 (semCall C Tryd.prog) (semRun C Tryd.prog 34 Tryd.f34) a0 a1 a2 a3 a4 a5 a6 a7 a8 a9 a10 a11 a12 a13 a14 a15 a16 a17 a18 a19 a20 a21 a22 a23 a24 a25 a26 a27 a28 a29 a30 a31 = some r) : F34_58 (semRun C Tryd.prog 34 Tryd.f34) a0 a1 a2 a3 a4 a5 a6 a7 a8 a9 a10 a11 a12 a13 a14 a15 a16 a17 a18 a19 a20 a21 a22 a23 a24 a25 a26 a27 a28 a29 a30 a31 = some r :=
  semRun_unr 400 ((text34_58 _ _ a0 a1 a2 a3 a4 a5 a6 a7 a8 a9 a10 a11 a12 a13 a14 a15 a16 a17 a18 a19 a20 a21 a22 a23 a24 a25 a26 a27 a28 a29 a30 a31).trans h)
end
section
variable (a0 a1 a2 : UInt8) (a3 : Bool) (a4 a5 a6 a7 : UInt8) (a8 : Bool) (a9 : UInt8) (a10 : List UInt8) (a11 a12 : UInt8) (a13 : Bool) (a14 a15 a16 a17 : UInt8) (a18 : Bool) (a19 : UInt8) (a20 : List UInt8)
theorem r34_73 {r : AV} (h : X34_73 (semCall C Tryd.prog) (semRun C Tryd.prog 34 Tryd.f34) a0 a1 a2 a3 a4 a5 a6 a7 a8 a9 a10 a11 a12 a13 a14 a15 a16 a17 a18 a19 a20 = some r) : F34_73 (semRun C Tryd.prog 34 Tryd.f34) a0 a1 a2 a3 a4 a5 a6 a7 a8 a9 a10 a11 a12 a13 a14 a15 a16 a17 a18 a19 a20 = some r :=
  semRun_unr 400 ((text34_73 _ _ a0 a1 a2 a3 a4 a5 a6 a7 a8 a9 a10 a11 a12 a13 a14 a15 a16 a17 a18 a19 a20).trans h)
end
section
variable (a0 a1 a2 : UInt8) (a3 : Bool) (a4 a5 a6 a7 : UInt8) (a8 : Bool) (a9 : UInt8) (a10 : List UInt8) (a11 a12 : UInt8) (a13 : Bool) (a14 a15 a16 a17 : UInt8) (a18 : Bool) (a19 : UInt8) (a20 : List UInt8)
theorem r34_74 {r : AV} (h : X34_74 (semCall C Tryd.prog) (semRun C Tryd.prog 34 Tryd.f34) a0 a1 a2 a3 a4 a5 a6 a7 a8 a9 a10 a11 a12 a13 a14 a15 a16 a17 a18 a19 a20 = some r) : F34_74 (semRun C Tryd.prog 34 Tryd.f34) a0 a1 a2 a3 a4 a5 a6 a7 a8 a9 a10 a11 a12 a13 a14 a15 a16 a17 a18 a19 a20 = some r :=
  semRun_unr 400 ((text34_74 _ _ a0 a1 a2 a3 a4 a5 a6 a7 a8 a9 a10 a11 a12 a13 a14 a15 a16 a17 a18 a19 a20).trans h)
end
end R4

namespace R4
open Go Go.Proofs Sx
noncomputable def body35 : Code := (Tryd.f35.body).getD .skip
noncomputable def X35 (call : CallT) (run : RunT) (a0 : Int) : Option AV :=
  (selW (.b (decide (a0 < 0))) false (some (.b (decide (a0 > 4)))) (.b true)).bind fun v1 => condM (v1)
  (some (.s []))
  ((inN (([.s [], .s [116, 101, 120, 116, 97, 114, 101, 97], .s [116, 105, 116, 108, 101], .s [115, 99, 114, 105, 112, 116], .s [115, 116, 121, 108, 101]] : List AV)).length (.int a0)).bind fun v2 => some (AV.cell ((([.s [], .s [116, 101, 120, 116, 97, 114, 101, 97], .s [116, 105, 116, 108, 101], .s [115, 99, 114, 105, 112, 116], .s [115, 116, 121, 108, 101]] : List AV)).getD v2 .un) 0))
section
variable (call : CallT) (run : RunT) (a0 : Int)
theorem text35 : unr C call run 35 Tryd.f35 400 [.code body35] (initF C 35 Tryd.f35.ntmps [.int a0]) = X35 call run a0 := by
  kernel_rfl
theorem c35 {r : AV} (h : X35 (semCall C Tryd.prog) (semRun C Tryd.prog 35 Tryd.f35) a0 = some r) : semCall C Tryd.prog 35 [.int a0] = some r :=
  semCall_unr (fn := Tryd.f35) (c := body35) (by kernel_rfl) (by kernel_rfl) 400 (by kernel_rfl) ((text35 _ _ a0).trans h)
end
end R4

namespace R4
open Go Go.Proofs Sx
noncomputable def body36 : Code := (Tryd.f36.body).getD .skip
noncomputable def X36 (call : CallT) (run : RunT) (a0 : UInt8) : Option AV :=
  (selW (.b (ueq a0 32)) false (some (.b (ueq a0 9))) (.b true)).bind fun v1 => (selW (v1) false (some (.b (ueq a0 10))) (.b true)).bind fun v2 => (selW (v2) false (some (.b (ueq a0 12))) (.b true)).bind fun v3 => (selW (v3) false (some (.b (ueq a0 13))) (.b true)).bind fun v4 => some (v4)
section
variable (call : CallT) (run : RunT) (a0 : UInt8)
theorem text36 : unr C call run 36 Tryd.f36 400 [.code body36] (initF C 36 Tryd.f36.ntmps [.u8 a0]) = X36 call run a0 := by
  kernel_rfl
theorem c36 {r : AV} (h : X36 (semCall C Tryd.prog) (semRun C Tryd.prog 36 Tryd.f36) a0 = some r) : semCall C Tryd.prog 36 [.u8 a0] = some r :=
  semCall_unr (fn := Tryd.f36) (c := body36) (by kernel_rfl) (by kernel_rfl) 400 (by kernel_rfl) ((text36 _ _ a0).trans h)
end
end R4

namespace R4
open Go Go.Proofs Sx
noncomputable def body37 : Code := (Tryd.f37.body).getD .skip
section
variable (run : RunT) (a0 : AV)
noncomputable def K37_3 : List Item := (kAt 3 body37 []).getD []
def S37_3 : St := St.ofL [(0, .cell (.val (a0)))] []
noncomputable def F37_3 : Option AV := run K37_3 (S37_3 a0)
end
noncomputable def X37 (call : CallT) (run : RunT) (a0 : UInt8) : Option AV :=
  (selW (.b (uge a0 65)) true (some (.b (ule a0 90))) (.b false)).bind fun v1 => condM (v1)
  ((binI .add (.u8 a0) (.u8 32)).bind fun v2 => F37_3 run (v2))
  (F37_3 run (.u8 a0))
section
variable (call : CallT) (run : RunT) (a0 : UInt8)
theorem text37 : unr C call run 37 Tryd.f37 400 [.code body37] (initF C 37 Tryd.f37.ntmps [.u8 a0]) = X37 call run a0 := by
  kernel_rfl
theorem c37 {r : AV} (h : X37 (semCall C Tryd.prog) (semRun C Tryd.prog 37 Tryd.f37) a0 = some r) : semCall C Tryd.prog 37 [.u8 a0] = some r :=
  semCall_unr (fn := Tryd.f37) (c := body37) (by kernel_rfl) (by kernel_rfl) 400 (by kernel_rfl) ((text37 _ _ a0).trans h)
end
noncomputable def X37_3 (call : CallT) (run : RunT) (a0 : AV) : Option AV :=
  (AV.one (a0)).bind fun v1 => (b2s (.ro 1 (([v1] : List AV)))).bind fun v2 => some (v2)
section
variable (call : CallT) (run : RunT) (a0 : AV)
theorem text37_3 : step C call 37 Tryd.f37 (unr C call run 37 Tryd.f37 400) K37_3 (S37_3 a0) = X37_3 call run a0 := by
  kernel_rfl
end
section
variable (a0 : AV)
theorem r37_3 {r : AV} (h : X37_3 (semCall C Tryd.prog) (semRun C Tryd.prog 37 Tryd.f37) a0 = some r) : F37_3 (semRun C Tryd.prog 37 Tryd.f37) a0 = some r :=
  semRun_unr 400 ((text37_3 _ _ a0).trans h)
end
end R4

namespace R4
open Go Go.Proofs Sx
noncomputable def body43 : Code := (Tryd.f43.body).getD .skip
section
variable (run : RunT) (a0 a1 : UInt8) (a2 : Bool) (a3 a4 a5 a6 : UInt8) (a7 : Bool) (a8 : UInt8) (a9 : List UInt8) (a10 a11 : UInt8) (a12 : Bool) (a13 a14 a15 a16 : UInt8) (a17 : Bool) (a18 : UInt8) (a19 : List UInt8)
noncomputable def K43_11 : List Item := (kAt 11 body43 []).getD []
def S43_11 : St := St.ofL [(1, .cell (.ptr 1 0)), (4, .cell (.ptr 4 0))] [(1, some [.val (.u8 a0), .val (.u8 a1), .val (.b a2), .val (.u8 a3), .val (.u8 a4), .val (.u8 a5), .val (.u8 a6), .val (.b a7), .val (.u8 a8), .val (.s a9)]), (4, some [.val (.u8 a10), .val (.u8 a11), .val (.b a12), .val (.u8 a13), .val (.u8 a14), .val (.u8 a15), .val (.u8 a16), .val (.b a17), .val (.u8 a18), .val (.s a19)])]
noncomputable def F43_11 : Option AV := run K43_11 (S43_11 a0 a1 a2 a3 a4 a5 a6 a7 a8 a9 a10 a11 a12 a13 a14 a15 a16 a17 a18 a19)
end
section
variable (run : RunT) (a0 a1 a2 : UInt8) (a3 : Bool) (a4 a5 a6 a7 : UInt8) (a8 : Bool) (a9 : UInt8) (a10 : List UInt8) (a11 a12 : UInt8) (a13 : Bool) (a14 a15 a16 a17 : UInt8) (a18 : Bool) (a19 : UInt8) (a20 : List UInt8) (a21 a22 : UInt8) (a23 : Bool) (a24 a25 a26 a27 : UInt8) (a28 : Bool) (a29 : UInt8) (a30 : List UInt8)
noncomputable def K43_12 : List Item := (kAt 12 body43 []).getD []
def S43_12 : St := St.ofL [(1, .cell (.ptr 1 0)), (3, .cell (.ptr 3 0)), (4, .cell (.ptr 4 0)), (48, .cell (.val (.u8 a0)))] [(1, some [.val (.u8 a1), .val (.u8 a2), .val (.b a3), .val (.u8 a4), .val (.u8 a5), .val (.u8 a6), .val (.u8 a7), .val (.b a8), .val (.u8 a9), .val (.s a10)]), (3, some [.val (.u8 a11), .val (.u8 a12), .val (.b a13), .val (.u8 a14), .val (.u8 a15), .val (.u8 a16), .val (.u8 a17), .val (.b a18), .val (.u8 a19), .val (.s a20)]), (4, some [.val (.u8 a21), .val (.u8 a22), .val (.b a23), .val (.u8 a24), .val (.u8 a25), .val (.u8 a26), .val (.u8 a27), .val (.b a28), .val (.u8 a29), .val (.s a30)])]
noncomputable def F43_12 : Option AV := run K43_12 (S43_12 a0 a1 a2 a3 a4 a5 a6 a7 a8 a9 a10 a11 a12 a13 a14 a15 a16 a17 a18 a19 a20 a21 a22 a23 a24 a25 a26 a27 a28 a29 a30)
end
section
variable (run : RunT) (a0 a1 : UInt8) (a2 : Bool) (a3 a4 a5 a6 : UInt8) (a7 : Bool) (a8 : UInt8) (a9 : List UInt8) (a10 a11 : UInt8) (a12 : Bool) (a13 a14 a15 a16 : UInt8) (a17 : Bool) (a18 : UInt8) (a19 : List UInt8)
noncomputable def K43_14 : List Item := (kAt 14 body43 []).getD []
def S43_14 : St := St.ofL [(1, .cell (.ptr 1 0)), (4, .cell (.ptr 4 0))] [(1, some [.val (.u8 a0), .val (.u8 a1), .val (.b a2), .val (.u8 a3), .val (.u8 a4), .val (.u8 a5), .val (.u8 a6), .val (.b a7), .val (.u8 a8), .val (.s a9)]), (4, some [.val (.u8 a10), .val (.u8 a11), .val (.b a12), .val (.u8 a13), .val (.u8 a14), .val (.u8 a15), .val (.u8 a16), .val (.b a17), .val (.u8 a18), .val (.s a19)])]
noncomputable def F43_14 : Option AV := run K43_14 (S43_14 a0 a1 a2 a3 a4 a5 a6 a7 a8 a9 a10 a11 a12 a13 a14 a15 a16 a17 a18 a19)
end
section
variable (run : RunT) (a0 a1 a2 : UInt8) (a3 : Bool) (a4 a5 a6 a7 : UInt8) (a8 : Bool) (a9 : UInt8) (a10 : List UInt8) (a11 a12 : UInt8) (a13 : Bool) (a14 a15 a16 a17 : UInt8) (a18 : Bool) (a19 : UInt8) (a20 : List UInt8) (a21 a22 : UInt8) (a23 : Bool) (a24 a25 a26 a27 : UInt8) (a28 : Bool) (a29 : UInt8) (a30 : List UInt8)
noncomputable def K43_16 : List Item := (kAt 16 body43 []).getD []
def S43_16 : St := St.ofL [(1, .cell (.ptr 1 0)), (3, .cell (.ptr 3 0)), (4, .cell (.ptr 4 0)), (48, .cell (.val (.u8 a0)))] [(1, some [.val (.u8 a1), .val (.u8 a2), .val (.b a3), .val (.u8 a4), .val (.u8 a5), .val (.u8 a6), .val (.u8 a7), .val (.b a8), .val (.u8 a9), .val (.s a10)]), (3, some [.val (.u8 a11), .val (.u8 a12), .val (.b a13), .val (.u8 a14), .val (.u8 a15), .val (.u8 a16), .val (.u8 a17), .val (.b a18), .val (.u8 a19), .val (.s a20)]), (4, some [.val (.u8 a21), .val (.u8 a22), .val (.b a23), .val (.u8 a24), .val (.u8 a25), .val (.u8 a26), .val (.u8 a27), .val (.b a28), .val (.u8 a29), .val (.s a30)])]
noncomputable def F43_16 : Option AV := run K43_16 (S43_16 a0 a1 a2 a3 a4 a5 a6 a7 a8 a9 a10 a11 a12 a13 a14 a15 a16 a17 a18 a19 a20 a21 a22 a23 a24 a25 a26 a27 a28 a29 a30)
end
section
variable (run : RunT) (a0 a1 : UInt8) (a2 : Bool) (a3 a4 a5 a6 : UInt8) (a7 : Bool) (a8 : UInt8) (a9 : List UInt8)
noncomputable def K43_27 : List Item := (kAt 27 body43 []).getD []
def S43_27 : St := St.ofL [(1, .cell (.ptr 1 0))] [(1, some [.val (.u8 a0), .val (.u8 a1), .val (.b a2), .val (.u8 a3), .val (.u8 a4), .val (.u8 a5), .val (.u8 a6), .val (.b a7), .val (.u8 a8), .val (.s a9)])]
noncomputable def F43_27 : Option AV := run K43_27 (S43_27 a0 a1 a2 a3 a4 a5 a6 a7 a8 a9)
end
section
variable (run : RunT) (a0 a1 : UInt8) (a2 : Bool) (a3 a4 a5 a6 : UInt8) (a7 : Bool) (a8 : UInt8) (a9 : List UInt8) (a10 a11 : UInt8) (a12 : Bool) (a13 a14 a15 a16 : UInt8) (a17 : Bool) (a18 : UInt8) (a19 : List UInt8)
noncomputable def K43_28 : List Item := (kAt 28 body43 []).getD []
def S43_28 : St := St.ofL [(1, .cell (.ptr 1 0)), (3, .cell (.ptr 3 0))] [(1, some [.val (.u8 a0), .val (.u8 a1), .val (.b a2), .val (.u8 a3), .val (.u8 a4), .val (.u8 a5), .val (.u8 a6), .val (.b a7), .val (.u8 a8), .val (.s a9)]), (3, some [.val (.u8 a10), .val (.u8 a11), .val (.b a12), .val (.u8 a13), .val (.u8 a14), .val (.u8 a15), .val (.u8 a16), .val (.b a17), .val (.u8 a18), .val (.s a19)])]
noncomputable def F43_28 : Option AV := run K43_28 (S43_28 a0 a1 a2 a3 a4 a5 a6 a7 a8 a9 a10 a11 a12 a13 a14 a15 a16 a17 a18 a19)
end
noncomputable def X43 (call : CallT) (run : RunT) (a0 a1 : UInt8) (a2 : Bool) (a3 a4 a5 a6 : UInt8) (a7 : Bool) (a8 : UInt8) (a9 : List UInt8) : Option AV :=
  (selW (.b (ugt a0 20)) false (some (.b (ugt a1 4))) (.b true)).bind fun v1 => (selW (v1) false (some (.b (ugt a3 4))) (.b true)).bind fun v2 => (selW (v2) false (some (.b (ugt a5 5))) (.b true)).bind fun v3 => (selW (v3) false (some (.b (ugt a6 6))) (.b true)).bind fun v4 => (selW (v4) false ((selW (.b a2) true (some (.b (une a1 0))) (.b false)).bind fun v5 => some (v5)) (.b true)).bind fun v6 => condM (v6)
  (some (.b false))
  (condM (.b (ueq a0 3))
  ((selW (.b ((a0 == a0 && (a1 == 0 && (a2 == a2 && (a3 == 0 && (a4 == 0 && (a5 == 0 && (a6 == 0 && (a7 == false && (a8 == 0 && (a9 == a9 && true)))))))))))) true ((call 62 [.s a9, .int 32]).bind fun v7 => some (v7)) (.b false)).bind fun v8 => some (v8))
  (condM (.b (ueq a0 4))
  (F43_11 run a0 a1 a2 a3 a4 a5 a6 a7 a8 a9 a0 a1 a2 0 0 0 0 false 0 [])
  (condM (.b (ueq a0 9))
  (F43_11 run a0 a1 a2 a3 a4 a5 a6 a7 a8 a9 a0 a1 a2 0 0 0 0 false 0 [])
  (condM (.b (ueq a0 10))
  (F43_11 run a0 a1 a2 a3 a4 a5 a6 a7 a8 a9 a0 a1 a2 0 0 0 0 false 0 [])
  (F43_12 run a0 a0 a1 a2 a3 a4 a5 a6 a7 a8 a9 a0 0 false 0 0 0 0 false 0 [] a0 a1 a2 0 0 0 0 false 0 [])))))
section
variable (call : CallT) (run : RunT) (a0 a1 : UInt8) (a2 : Bool) (a3 a4 a5 a6 : UInt8) (a7 : Bool) (a8 : UInt8) (a9 : List UInt8)
theorem text43 : unr C call run 43 Tryd.f43 400 [.code body43] (initF C 43 Tryd.f43.ntmps [.ag [.u8 a0, .u8 a1, .b a2, .u8 a3, .u8 a4, .u8 a5, .u8 a6, .b a7, .u8 a8, .s a9]]) = X43 call run a0 a1 a2 a3 a4 a5 a6 a7 a8 a9 := by
  kernel_rfl
theorem c43 {r : AV} (h : X43 (semCall C Tryd.prog) (semRun C Tryd.prog 43 Tryd.f43) a0 a1 a2 a3 a4 a5 a6 a7 a8 a9 = some r) : semCall C Tryd.prog 43 [.ag [.u8 a0, .u8 a1, .b a2, .u8 a3, .u8 a4, .u8 a5, .u8 a6, .b a7, .u8 a8, .s a9]] = some r :=
  semCall_unr (fn := Tryd.f43) (c := body43) (by kernel_rfl) (by kernel_rfl) 400 (by kernel_rfl) ((text43 _ _ a0 a1 a2 a3 a4 a5 a6 a7 a8 a9).trans h)
end
noncomputable def X43_11 (call : CallT) (run : RunT) (a0 a1 : UInt8) (a2 : Bool) (a3 a4 a5 a6 : UInt8) (a7 : Bool) (a8 : UInt8) (a9 : List UInt8) (a10 a11 : UInt8) (a12 : Bool) (a13 a14 a15 a16 : UInt8) (a17 : Bool) (a18 : UInt8) (a19 : List UInt8) : Option AV :=
  some (.b ((a0 == a10 && (a1 == a11 && (a2 == a12 && (a3 == a13 && (a4 == a14 && (a5 == a15 && (a6 == a16 && (a7 == a17 && (a8 == a18 && (a9 == a19 && true))))))))))))
section
variable (call : CallT) (run : RunT) (a0 a1 : UInt8) (a2 : Bool) (a3 a4 a5 a6 : UInt8) (a7 : Bool) (a8 : UInt8) (a9 : List UInt8) (a10 a11 : UInt8) (a12 : Bool) (a13 a14 a15 a16 : UInt8) (a17 : Bool) (a18 : UInt8) (a19 : List UInt8)
theorem text43_11 : step C call 43 Tryd.f43 (unr C call run 43 Tryd.f43 400) K43_11 (S43_11 a0 a1 a2 a3 a4 a5 a6 a7 a8 a9 a10 a11 a12 a13 a14 a15 a16 a17 a18 a19) = X43_11 call run a0 a1 a2 a3 a4 a5 a6 a7 a8 a9 a10 a11 a12 a13 a14 a15 a16 a17 a18 a19 := by
  kernel_rfl
end
noncomputable def X43_12 (call : CallT) (run : RunT) (a0 a1 a2 : UInt8) (a3 : Bool) (a4 a5 a6 a7 : UInt8) (a8 : Bool) (a9 : UInt8) (a10 : List UInt8) (a11 a12 : UInt8) (a13 : Bool) (a14 a15 a16 a17 : UInt8) (a18 : Bool) (a19 : UInt8) (a20 : List UInt8) (a21 a22 : UInt8) (a23 : Bool) (a24 a25 a26 a27 : UInt8) (a28 : Bool) (a29 : UInt8) (a30 : List UInt8) : Option AV :=
  condM (.b (ueq a0 5))
  (F43_14 run a1 a2 a3 a4 a5 a6 a7 a8 a9 a10 a21 a22 a23 a24 a25 a26 a27 a28 a29 a30)
  (condM (.b (ueq a0 6))
  (F43_14 run a1 a2 a3 a4 a5 a6 a7 a8 a9 a10 a21 a22 a23 a24 a25 a26 a27 a28 a29 a30)
  (F43_16 run a0 a1 a2 a3 a4 a5 a6 a7 a8 a9 a10 a11 a12 a13 a14 a15 a16 a17 a18 a19 a20 a21 a22 a23 a24 a25 a26 a27 a28 a29 a30))
section
variable (call : CallT) (run : RunT) (a0 a1 a2 : UInt8) (a3 : Bool) (a4 a5 a6 a7 : UInt8) (a8 : Bool) (a9 : UInt8) (a10 : List UInt8) (a11 a12 : UInt8) (a13 : Bool) (a14 a15 a16 a17 : UInt8) (a18 : Bool) (a19 : UInt8) (a20 : List UInt8) (a21 a22 : UInt8) (a23 : Bool) (a24 a25 a26 a27 : UInt8) (a28 : Bool) (a29 : UInt8) (a30 : List UInt8)
theorem text43_12 : step C call 43 Tryd.f43 (unr C call run 43 Tryd.f43 400) K43_12 (S43_12 a0 a1 a2 a3 a4 a5 a6 a7 a8 a9 a10 a11 a12 a13 a14 a15 a16 a17 a18 a19 a20 a21 a22 a23 a24 a25 a26 a27 a28 a29 a30) = X43_12 call run a0 a1 a2 a3 a4 a5 a6 a7 a8 a9 a10 a11 a12 a13 a14 a15 a16 a17 a18 a19 a20 a21 a22 a23 a24 a25 a26 a27 a28 a29 a30 := by
  kernel_rfl
end
noncomputable def X43_14 (call : CallT) (run : RunT) (a0 a1 : UInt8) (a2 : Bool) (a3 a4 a5 a6 : UInt8) (a7 : Bool) (a8 : UInt8) (a9 : List UInt8) (a10 a11 : UInt8) (a12 : Bool) (a13 a14 a15 a16 : UInt8) (a17 : Bool) (a18 : UInt8) (a19 : List UInt8) : Option AV :=
  (selW (.b ((a0 == a10 && (a1 == a11 && (a2 == a12 && (a3 == a13 && (a4 == a14 && (a5 == a15 && (a6 == a16 && (a7 == a17 && (a8 == a18 && (a9 == a9 && true)))))))))))) true ((call 62 [.s a9, .int 32]).bind fun v1 => some (v1)) (.b false)).bind fun v2 => some (v2)
section
variable (call : CallT) (run : RunT) (a0 a1 : UInt8) (a2 : Bool) (a3 a4 a5 a6 : UInt8) (a7 : Bool) (a8 : UInt8) (a9 : List UInt8) (a10 a11 : UInt8) (a12 : Bool) (a13 a14 a15 a16 : UInt8) (a17 : Bool) (a18 : UInt8) (a19 : List UInt8)
theorem text43_14 : step C call 43 Tryd.f43 (unr C call run 43 Tryd.f43 400) K43_14 (S43_14 a0 a1 a2 a3 a4 a5 a6 a7 a8 a9 a10 a11 a12 a13 a14 a15 a16 a17 a18 a19) = X43_14 call run a0 a1 a2 a3 a4 a5 a6 a7 a8 a9 a10 a11 a12 a13 a14 a15 a16 a17 a18 a19 := by
  kernel_rfl
end
noncomputable def X43_16 (call : CallT) (run : RunT) (a0 a1 a2 : UInt8) (a3 : Bool) (a4 a5 a6 a7 : UInt8) (a8 : Bool) (a9 : UInt8) (a10 : List UInt8) (a11 a12 : UInt8) (a13 : Bool) (a14 a15 a16 a17 : UInt8) (a18 : Bool) (a19 : UInt8) (a20 : List UInt8) (a21 a22 : UInt8) (a23 : Bool) (a24 a25 a26 a27 : UInt8) (a28 : Bool) (a29 : UInt8) (a30 : List UInt8) : Option AV :=
  condM (.b (ueq a0 7))
  (some (.b ((a1 == a21 && (a2 == a22 && (a3 == a23 && (a4 == a4 && (a5 == a25 && (a6 == a26 && (a7 == a27 && (a8 == a28 && (a9 == a29 && (a10 == a30 && true)))))))))))))
  (condM (.b (ueq a0 8))
  ((call 63 [.ag [.u8 a1, .u8 a2, .b a3, .u8 a4, .u8 a5, .u8 a6, .u8 a7, .b a8, .u8 a9, .s a10], .ag [.u8 a21, .u8 a22, .b a23, .u8 a24, .u8 a25, .u8 a26, .u8 a27, .b a28, .u8 a29, .s a30]]).bind fun v1 => some (v1))
  (condM (.b (ueq a0 15))
  ((selW (.b ((a1 == a11 && (a2 == a12 && (a3 == a13 && (a4 == a14 && (a5 == a15 && (a6 == a16 && (a7 == a17 && (a8 == a18 && (a9 == a9 && (a10 == a20 && true)))))))))))) true (some (.b (ule a9 2))) (.b false)).bind fun v2 => some (v2))
  (condM (.b (ueq a0 17))
  (F43_27 run a1 a2 a3 a4 a5 a6 a7 a8 a9 a10)
  (condM (.b (ueq a0 18))
  (F43_27 run a1 a2 a3 a4 a5 a6 a7 a8 a9 a10)
  (condM (.b (ueq a0 19))
  (F43_27 run a1 a2 a3 a4 a5 a6 a7 a8 a9 a10)
  (F43_28 run a1 a2 a3 a4 a5 a6 a7 a8 a9 a10 a11 a12 a13 a14 a15 a16 a17 a18 a19 a20))))))
section
variable (call : CallT) (run : RunT) (a0 a1 a2 : UInt8) (a3 : Bool) (a4 a5 a6 a7 : UInt8) (a8 : Bool) (a9 : UInt8) (a10 : List UInt8) (a11 a12 : UInt8) (a13 : Bool) (a14 a15 a16 a17 : UInt8) (a18 : Bool) (a19 : UInt8) (a20 : List UInt8) (a21 a22 : UInt8) (a23 : Bool) (a24 a25 a26 a27 : UInt8) (a28 : Bool) (a29 : UInt8) (a30 : List UInt8)
theorem text43_16 : step C call 43 Tryd.f43 (unr C call run 43 Tryd.f43 400) K43_16 (S43_16 a0 a1 a2 a3 a4 a5 a6 a7 a8 a9 a10 a11 a12 a13 a14 a15 a16 a17 a18 a19 a20 a21 a22 a23 a24 a25 a26 a27 a28 a29 a30) = X43_16 call run a0 a1 a2 a3 a4 a5 a6 a7 a8 a9 a10 a11 a12 a13 a14 a15 a16 a17 a18 a19 a20 a21 a22 a23 a24 a25 a26 a27 a28 a29 a30 := by
  kernel_rfl
end
noncomputable def X43_27 (call : CallT) (run : RunT) (a0 a1 : UInt8) (a2 : Bool) (a3 a4 a5 a6 : UInt8) (a7 : Bool) (a8 : UInt8) (a9 : List UInt8) : Option AV :=
  (call 64 [.ag [.u8 a0, .u8 a1, .b a2, .u8 a3, .u8 a4, .u8 a5, .u8 a6, .b a7, .u8 a8, .s a9]]).bind fun v1 => some (v1)
section
variable (call : CallT) (run : RunT) (a0 a1 : UInt8) (a2 : Bool) (a3 a4 a5 a6 : UInt8) (a7 : Bool) (a8 : UInt8) (a9 : List UInt8)
theorem text43_27 : step C call 43 Tryd.f43 (unr C call run 43 Tryd.f43 400) K43_27 (S43_27 a0 a1 a2 a3 a4 a5 a6 a7 a8 a9) = X43_27 call run a0 a1 a2 a3 a4 a5 a6 a7 a8 a9 := by
  kernel_rfl
end
noncomputable def X43_28 (call : CallT) (run : RunT) (a0 a1 : UInt8) (a2 : Bool) (a3 a4 a5 a6 : UInt8) (a7 : Bool) (a8 : UInt8) (a9 : List UInt8) (a10 a11 : UInt8) (a12 : Bool) (a13 a14 a15 a16 : UInt8) (a17 : Bool) (a18 : UInt8) (a19 : List UInt8) : Option AV :=
  some (.b ((a0 == a10 && (a1 == a11 && (a2 == a12 && (a3 == a13 && (a4 == a14 && (a5 == a15 && (a6 == a16 && (a7 == a17 && (a8 == a18 && (a9 == a19 && true))))))))))))
section
variable (call : CallT) (run : RunT) (a0 a1 : UInt8) (a2 : Bool) (a3 a4 a5 a6 : UInt8) (a7 : Bool) (a8 : UInt8) (a9 : List UInt8) (a10 a11 : UInt8) (a12 : Bool) (a13 a14 a15 a16 : UInt8) (a17 : Bool) (a18 : UInt8) (a19 : List UInt8)
theorem text43_28 : step C call 43 Tryd.f43 (unr C call run 43 Tryd.f43 400) K43_28 (S43_28 a0 a1 a2 a3 a4 a5 a6 a7 a8 a9 a10 a11 a12 a13 a14 a15 a16 a17 a18 a19) = X43_28 call run a0 a1 a2 a3 a4 a5 a6 a7 a8 a9 a10 a11 a12 a13 a14 a15 a16 a17 a18 a19 := by
  kernel_rfl
end
section
variable (a0 a1 : UInt8) (a2 : Bool) (a3 a4 a5 a6 : UInt8) (a7 : Bool) (a8 : UInt8) (a9 : List UInt8) (a10 a11 : UInt8) (a12 : Bool) (a13 a14 a15 a16 : UInt8) (a17 : Bool) (a18 : UInt8) (a19 : List UInt8)
theorem r43_11 {r : AV} (h : X43_11 (semCall C Tryd.prog) (semRun C Tryd.prog 43 Tryd.f43) a0 a1 a2 a3 a4 a5 a6 a7 a8 a9 a10 a11 a12 a13 a14 a15 a16 a17 a18 a19 = some r) : F43_11 (semRun C Tryd.prog 43 Tryd.f43) a0 a1 a2 a3 a4 a5 a6 a7 a8 a9 a10 a11 a12 a13 a14 a15 a16 a17 a18 a19 = some r :=
  semRun_unr 400 ((text43_11 _ _ a0 a1 a2 a3 a4 a5 a6 a7 a8 a9 a10 a11 a12 a13 a14 a15 a16 a17 a18 a19).trans h)
end
section
variable (a0 a1 a2 : UInt8) (a3 : Bool) (a4 a5 a6 a7 : UInt8) (a8 : Bool) (a9 : UInt8) (a10 : List UInt8) (a11 a12 : UInt8) (a13 : Bool) (a14 a15 a16 a17 : UInt8) (a18 : Bool) (a19 : UInt8) (a20 : List UInt8) (a21 a22 : UInt8) (a23 : Bool) (a24 a25 a26 a27 : UInt8) (a28 : Bool) (a29 : UInt8) (a30 : List UInt8)
theorem r43_12 {r : AV} (h : X43_12 (semCall C Tryd.prog) (semRun C Tryd.prog 43 Tryd.f43) a0 a1 a2 a3 a4 a5 a6 a7 a8 a9 a10 a11 a12 a13 a14 a15 a16 a17 a18 a19 a20 a21 a22 a23 a24 a25 a26 a27 a28 a29 a30 = some r) : F43_12 (semRun C Tryd.prog 43 Tryd.f43) a0 a1 a2 a3 a4 a5 a6 a7 a8 a9 a10 a11 a12 a13 a14 a15 a16 a17 a18 a19 a20 a21 a22 a23 a24 a25 a26 a27 a28 a29 a30 = some r :=
  semRun_unr 400 ((text43_12 _ _ a0 a1 a2 a3 a4 a5 a6 a7 a8 a9 a10 a11 a12 a13 a14 a15 a16 a17 a18 a19 a20 a21 a22 a23 a24 a25 a26 a27 a28 a29 a30).trans h)
end
section
variable (a0 a1 : UInt8) (a2 : Bool) (a3 a4 a5 a6 : UInt8) (a7 : Bool) (a8 : UInt8) (a9 : List UInt8) (a10 a11 : UInt8) (a12 : Bool) (a13 a14 a15 a16 : UInt8) (a17 : Bool) (a18 : UInt8) (a19 : List UInt8)
theorem r43_14 {r : AV} (h : X43_14 (semCall C Tryd.prog) (semRun C Tryd.prog 43 Tryd.f43) a0 a1 a2 a3 a4 a5 a6 a7 a8 a9 a10 a11 a12 a13 a14 a15 a16 a17 a18 a19 = some r) : F43_14 (semRun C Tryd.prog 43 Tryd.f43) a0 a1 a2 a3 a4 a5 a6 a7 a8 a9 a10 a11 a12 a13 a14 a15 a16 a17 a18 a19 = some r :=
  semRun_unr 400 ((text43_14 _ _ a0 a1 a2 a3 a4 a5 a6 a7 a8 a9 a10 a11 a12 a13 a14 a15 a16 a17 a18 a19).trans h)
end
section
variable (a0 a1 a2 : UInt8) (a3 : Bool) (a4 a5 a6 a7 : UInt8) (a8 : Bool) (a9 : UInt8) (a10 : List UInt8) (a11 a12 : UInt8) (a13 : Bool) (a14 a15 a16 a17 : UInt8) (a18 : Bool) (a19 : UInt8) (a20 : List UInt8) (a21 a22 : UInt8) (a23 : Bool) (a24 a25 a26 a27 : UInt8) (a28 : Bool) (a29 : UInt8) (a30 : List UInt8)
theorem r43_16 {r : AV} (h : X43_16 (semCall C Tryd.prog) (semRun C Tryd.prog 43 Tryd.f43) a0 a1 a2 a3 a4 a5 a6 a7 a8 a9 a10 a11 a12 a13 a14 a15 a16 a17 a18 a19 a20 a21 a22 a23 a24 a25 a26 a27 a28 a29 a30 = some r) : F43_16 (semRun C Tryd.prog 43 Tryd.f43) a0 a1 a2 a3 a4 a5 a6 a7 a8 a9 a10 a11 a12 a13 a14 a15 a16 a17 a18 a19 a20 a21 a22 a23 a24 a25 a26 a27 a28 a29 a30 = some r :=
  semRun_unr 400 ((text43_16 _ _ a0 a1 a2 a3 a4 a5 a6 a7 a8 a9 a10 a11 a12 a13 a14 a15 a16 a17 a18 a19 a20 a21 a22 a23 a24 a25 a26 a27 a28 a29 a30).trans h)
end
section
variable (a0 a1 : UInt8) (a2 : Bool) (a3 a4 a5 a6 : UInt8) (a7 : Bool) (a8 : UInt8) (a9 : List UInt8)
theorem r43_27 {r : AV} (h : X43_27 (semCall C Tryd.prog) (semRun C Tryd.prog 43 Tryd.f43) a0 a1 a2 a3 a4 a5 a6 a7 a8 a9 = some r) : F43_27 (semRun C Tryd.prog 43 Tryd.f43) a0 a1 a2 a3 a4 a5 a6 a7 a8 a9 = some r :=
  semRun_unr 400 ((text43_27 _ _ a0 a1 a2 a3 a4 a5 a6 a7 a8 a9).trans h)
end
section
variable (a0 a1 : UInt8) (a2 : Bool) (a3 a4 a5 a6 : UInt8) (a7 : Bool) (a8 : UInt8) (a9 : List UInt8) (a10 a11 : UInt8) (a12 : Bool) (a13 a14 a15 a16 : UInt8) (a17 : Bool) (a18 : UInt8) (a19 : List UInt8)
theorem r43_28 {r : AV} (h : X43_28 (semCall C Tryd.prog) (semRun C Tryd.prog 43 Tryd.f43) a0 a1 a2 a3 a4 a5 a6 a7 a8 a9 a10 a11 a12 a13 a14 a15 a16 a17 a18 a19 = some r) : F43_28 (semRun C Tryd.prog 43 Tryd.f43) a0 a1 a2 a3 a4 a5 a6 a7 a8 a9 a10 a11 a12 a13 a14 a15 a16 a17 a18 a19 = some r :=
  semRun_unr 400 ((text43_28 _ _ a0 a1 a2 a3 a4 a5 a6 a7 a8 a9 a10 a11 a12 a13 a14 a15 a16 a17 a18 a19).trans h)
end
end R4

namespace R4
open Go Go.Proofs Sx
noncomputable def body44 : Code := (Tryd.f44.body).getD .skip
section
variable (run : RunT) (a0 a1 : UInt8) (a2 : Bool) (a3 a4 a5 a6 : UInt8) (a7 : Bool) (a8 : UInt8) (a9 : List UInt8) (a10 a11 : UInt8) (a12 : Bool) (a13 a14 a15 a16 : UInt8) (a17 : Bool) (a18 : UInt8) (a19 : List UInt8)
noncomputable def K44_3 : List Item := (kAt 3 body44 []).getD []
def S44_3 : St := St.ofL [(1, .cell (.ptr 1 0)), (2, .cell (.ptr 2 0))] [(1, some [.val (.u8 a0), .val (.u8 a1), .val (.b a2), .val (.u8 a3), .val (.u8 a4), .val (.u8 a5), .val (.u8 a6), .val (.b a7), .val (.u8 a8), .val (.s a9)]), (2, some [.val (.u8 a10), .val (.u8 a11), .val (.b a12), .val (.u8 a13), .val (.u8 a14), .val (.u8 a15), .val (.u8 a16), .val (.b a17), .val (.u8 a18), .val (.s a19)])]
noncomputable def F44_3 : Option AV := run K44_3 (S44_3 a0 a1 a2 a3 a4 a5 a6 a7 a8 a9 a10 a11 a12 a13 a14 a15 a16 a17 a18 a19)
end
noncomputable def X44 (call : CallT) (run : RunT) (a0 a1 : UInt8) (a2 : Bool) (a3 a4 a5 a6 : UInt8) (a7 : Bool) (a8 : UInt8) (a9 : List UInt8) : Option AV :=
  condM (.b (ueq a0 8))
  (F44_3 run a0 a1 a2 a3 a4 a5 a6 a7 a8 [] 0 0 false 0 0 0 0 false 0 [])
  (F44_3 run a0 a1 a2 a3 a4 a5 a6 a7 a8 a9 0 0 false 0 0 0 0 false 0 [])
section
variable (call : CallT) (run : RunT) (a0 a1 : UInt8) (a2 : Bool) (a3 a4 a5 a6 : UInt8) (a7 : Bool) (a8 : UInt8) (a9 : List UInt8)
theorem text44 : unr C call run 44 Tryd.f44 400 [.code body44] (initF C 44 Tryd.f44.ntmps [.ag [.u8 a0, .u8 a1, .b a2, .u8 a3, .u8 a4, .u8 a5, .u8 a6, .b a7, .u8 a8, .s a9]]) = X44 call run a0 a1 a2 a3 a4 a5 a6 a7 a8 a9 := by
  kernel_rfl
theorem c44 {r : AV} (h : X44 (semCall C Tryd.prog) (semRun C Tryd.prog 44 Tryd.f44) a0 a1 a2 a3 a4 a5 a6 a7 a8 a9 = some r) : semCall C Tryd.prog 44 [.ag [.u8 a0, .u8 a1, .b a2, .u8 a3, .u8 a4, .u8 a5, .u8 a6, .b a7, .u8 a8, .s a9]] = some r :=
  semCall_unr (fn := Tryd.f44) (c := body44) (by kernel_rfl) (by kernel_rfl) 400 (by kernel_rfl) ((text44 _ _ a0 a1 a2 a3 a4 a5 a6 a7 a8 a9).trans h)
end
noncomputable def X44_3 (call : CallT) (run : RunT) (a0 a1 : UInt8) (a2 : Bool) (a3 a4 a5 a6 : UInt8) (a7 : Bool) (a8 : UInt8) (a9 : List UInt8) (a10 a11 : UInt8) (a12 : Bool) (a13 a14 a15 a16 : UInt8) (a17 : Bool) (a18 : UInt8) (a19 : List UInt8) : Option AV :=
  some (.ag [.u8 a0, .u8 a1, .b a2, .u8 0, .u8 a4, .u8 0, .u8 0, .b false, .u8 a8, .s a9])
section
variable (call : CallT) (run : RunT) (a0 a1 : UInt8) (a2 : Bool) (a3 a4 a5 a6 : UInt8) (a7 : Bool) (a8 : UInt8) (a9 : List UInt8) (a10 a11 : UInt8) (a12 : Bool) (a13 a14 a15 a16 : UInt8) (a17 : Bool) (a18 : UInt8) (a19 : List UInt8)
theorem text44_3 : step C call 44 Tryd.f44 (unr C call run 44 Tryd.f44 400) K44_3 (S44_3 a0 a1 a2 a3 a4 a5 a6 a7 a8 a9 a10 a11 a12 a13 a14 a15 a16 a17 a18 a19) = X44_3 call run a0 a1 a2 a3 a4 a5 a6 a7 a8 a9 a10 a11 a12 a13 a14 a15 a16 a17 a18 a19 := by
  kernel_rfl
end
section
variable (a0 a1 : UInt8) (a2 : Bool) (a3 a4 a5 a6 : UInt8) (a7 : Bool) (a8 : UInt8) (a9 : List UInt8) (a10 a11 : UInt8) (a12 : Bool) (a13 a14 a15 a16 : UInt8) (a17 : Bool) (a18 : UInt8) (a19 : List UInt8)
theorem r44_3 {r : AV} (h : X44_3 (semCall C Tryd.prog) (semRun C Tryd.prog 44 Tryd.f44) a0 a1 a2 a3 a4 a5 a6 a7 a8 a9 a10 a11 a12 a13 a14 a15 a16 a17 a18 a19 = some r) : F44_3 (semRun C Tryd.prog 44 Tryd.f44) a0 a1 a2 a3 a4 a5 a6 a7 a8 a9 a10 a11 a12 a13 a14 a15 a16 a17 a18 a19 = some r :=
  semRun_unr 400 ((text44_3 _ _ a0 a1 a2 a3 a4 a5 a6 a7 a8 a9 a10 a11 a12 a13 a14 a15 a16 a17 a18 a19).trans h)
end
end R4

namespace R4
open Go Go.Proofs Sx
noncomputable def body45 : Code := (Tryd.f45.body).getD .skip
section
variable (run : RunT) (a0 : UInt8) (a1 : Bool) (a2 a3 a4 a5 a6 a7 a8 a9 a10 a11 : AV) (a12 a13 : UInt8) (a14 : Bool) (a15 a16 a17 a18 : UInt8) (a19 : Bool) (a20 : UInt8) (a21 : List UInt8)
noncomputable def K45_3 : List Item := (kAt 3 body45 []).getD []
def S45_3 : St := St.ofL [(1, .cell (.val (.u8 a0))), (2, .cell (.val (.b a1))), (3, .cell (.ptr 3 0)), (6, .cell (.ptr 6 0))] [(3, some [.val (a2), .val (a3), .val (a4), .val (a5), .val (a6), .val (a7), .val (a8), .val (a9), .val (a10), .val (a11)]), (6, some [.val (.u8 a12), .val (.u8 a13), .val (.b a14), .val (.u8 a15), .val (.u8 a16), .val (.u8 a17), .val (.u8 a18), .val (.b a19), .val (.u8 a20), .val (.s a21)])]
noncomputable def F45_3 : Option AV := run K45_3 (S45_3 a0 a1 a2 a3 a4 a5 a6 a7 a8 a9 a10 a11 a12 a13 a14 a15 a16 a17 a18 a19 a20 a21)
end
section
variable (run : RunT) (a0 a1 a2 a3 a4 a5 a6 a7 a8 a9 : AV) (a10 a11 : UInt8) (a12 : Bool) (a13 a14 a15 a16 : UInt8) (a17 : Bool) (a18 : UInt8) (a19 : List UInt8)
noncomputable def K45_32 : List Item := (kAt 32 body45 []).getD []
def S45_32 : St := St.ofL [(3, .cell (.ptr 3 0)), (6, .cell (.ptr 6 0))] [(3, some [.val (a0), .val (a1), .val (a2), .val (a3), .val (a4), .val (a5), .val (a6), .val (a7), .val (a8), .val (a9)]), (6, some [.val (.u8 a10), .val (.u8 a11), .val (.b a12), .val (.u8 a13), .val (.u8 a14), .val (.u8 a15), .val (.u8 a16), .val (.b a17), .val (.u8 a18), .val (.s a19)])]
noncomputable def F45_32 : Option AV := run K45_32 (S45_32 a0 a1 a2 a3 a4 a5 a6 a7 a8 a9 a10 a11 a12 a13 a14 a15 a16 a17 a18 a19)
end
section
variable (run : RunT) (a0 : UInt8) (a1 : Bool) (a2 a3 a4 a5 a6 a7 a8 a9 a10 a11 : AV) (a12 a13 : UInt8) (a14 : Bool) (a15 a16 a17 a18 : UInt8) (a19 : Bool) (a20 : UInt8) (a21 : List UInt8)
noncomputable def K45_22 : List Item := (kAt 22 body45 []).getD []
def S45_22 : St := St.ofL [(1, .cell (.val (.u8 a0))), (2, .cell (.val (.b a1))), (3, .cell (.ptr 3 0)), (6, .cell (.ptr 6 0))] [(3, some [.val (a2), .val (a3), .val (a4), .val (a5), .val (a6), .val (a7), .val (a8), .val (a9), .val (a10), .val (a11)]), (6, some [.val (.u8 a12), .val (.u8 a13), .val (.b a14), .val (.u8 a15), .val (.u8 a16), .val (.u8 a17), .val (.u8 a18), .val (.b a19), .val (.u8 a20), .val (.s a21)])]
noncomputable def F45_22 : Option AV := run K45_22 (S45_22 a0 a1 a2 a3 a4 a5 a6 a7 a8 a9 a10 a11 a12 a13 a14 a15 a16 a17 a18 a19 a20 a21)
end
section
variable (run : RunT) (a0 : UInt8) (a1 : Bool) (a2 a3 a4 a5 a6 a7 a8 a9 a10 a11 a12 : AV) (a13 a14 : UInt8) (a15 : Bool) (a16 a17 a18 a19 : UInt8) (a20 : Bool) (a21 : UInt8) (a22 : List UInt8)
noncomputable def K45_26 : List Item := (kAt 26 body45 []).getD []
def S45_26 : St := St.ofL [(1, .cell (.val (.u8 a0))), (2, .cell (.val (.b a1))), (3, .cell (.ptr 3 0)), (6, .cell (.ptr 6 0)), (16, .cell (.val (a2)))] [(3, some [.val (a3), .val (a4), .val (a5), .val (a6), .val (a7), .val (a8), .val (a9), .val (a10), .val (a11), .val (a12)]), (6, some [.val (.u8 a13), .val (.u8 a14), .val (.b a15), .val (.u8 a16), .val (.u8 a17), .val (.u8 a18), .val (.u8 a19), .val (.b a20), .val (.u8 a21), .val (.s a22)])]
noncomputable def F45_26 : Option AV := run K45_26 (S45_26 a0 a1 a2 a3 a4 a5 a6 a7 a8 a9 a10 a11 a12 a13 a14 a15 a16 a17 a18 a19 a20 a21 a22)
end
section
variable (run : RunT) (a0 : UInt8) (a1 : Bool) (a2 a3 a4 a5 a6 a7 a8 a9 a10 a11 : AV) (a12 a13 : UInt8) (a14 : Bool) (a15 a16 a17 a18 : UInt8) (a19 : Bool) (a20 : UInt8) (a21 : List UInt8)
noncomputable def K45_31 : List Item := (kAt 31 body45 []).getD []
def S45_31 : St := St.ofL [(1, .cell (.val (.u8 a0))), (2, .cell (.val (.b a1))), (3, .cell (.ptr 3 0)), (6, .cell (.ptr 6 0))] [(3, some [.val (a2), .val (a3), .val (a4), .val (a5), .val (a6), .val (a7), .val (a8), .val (a9), .val (a10), .val (a11)]), (6, some [.val (.u8 a12), .val (.u8 a13), .val (.b a14), .val (.u8 a15), .val (.u8 a16), .val (.u8 a17), .val (.u8 a18), .val (.b a19), .val (.u8 a20), .val (.s a21)])]
noncomputable def F45_31 : Option AV := run K45_31 (S45_31 a0 a1 a2 a3 a4 a5 a6 a7 a8 a9 a10 a11 a12 a13 a14 a15 a16 a17 a18 a19 a20 a21)
end
section
variable (run : RunT) (a0 : UInt8) (a1 a2 a3 a4 a5 a6 a7 a8 a9 a10 : AV) (a11 a12 : UInt8) (a13 : Bool) (a14 a15 a16 a17 : UInt8) (a18 : Bool) (a19 : UInt8) (a20 : List UInt8)
noncomputable def K45_4 : List Item := (kAt 4 body45 []).getD []
def S45_4 : St := St.ofL [(1, .cell (.val (.u8 a0))), (3, .cell (.ptr 3 0)), (6, .cell (.ptr 6 0))] [(3, some [.val (a1), .val (a2), .val (a3), .val (a4), .val (a5), .val (a6), .val (a7), .val (a8), .val (a9), .val (a10)]), (6, some [.val (.u8 a11), .val (.u8 a12), .val (.b a13), .val (.u8 a14), .val (.u8 a15), .val (.u8 a16), .val (.u8 a17), .val (.b a18), .val (.u8 a19), .val (.s a20)])]
noncomputable def F45_4 : Option AV := run K45_4 (S45_4 a0 a1 a2 a3 a4 a5 a6 a7 a8 a9 a10 a11 a12 a13 a14 a15 a16 a17 a18 a19 a20)
end
noncomputable def X45 (call : CallT) (run : RunT) (a0 a1 : UInt8) (a2 : Bool) (a3 a4 a5 a6 : UInt8) (a7 : Bool) (a8 : UInt8) (a9 : List UInt8) (a10 : UInt8) (a11 : Bool) : Option AV :=
  (call 43 [.ag [.u8 a0, .u8 a1, .b a2, .u8 a3, .u8 a4, .u8 a5, .u8 a6, .b a7, .u8 a8, .s a9]]).bind fun v1 => (unop .not (v1)).bind fun v2 => condM (v2)
  (some (.ag [.u8 20, .u8 0, .b false, .u8 0, .u8 0, .u8 0, .u8 0, .b false, .u8 0, .s []]))
  (F45_3 run a10 a11 (.u8 a0) (.u8 a1) (.b a2) (.u8 a3) (.u8 a4) (.u8 a5) (.u8 a6) (.b a7) (.u8 a8) (.s a9) 0 0 false 0 0 0 0 false 0 [])
section
variable (call : CallT) (run : RunT) (a0 a1 : UInt8) (a2 : Bool) (a3 a4 a5 a6 : UInt8) (a7 : Bool) (a8 : UInt8) (a9 : List UInt8) (a10 : UInt8) (a11 : Bool)
theorem text45 : unr C call run 45 Tryd.f45 400 [.code body45] (initF C 45 Tryd.f45.ntmps [.ag [.u8 a0, .u8 a1, .b a2, .u8 a3, .u8 a4, .u8 a5, .u8 a6, .b a7, .u8 a8, .s a9], .u8 a10, .b a11]) = X45 call run a0 a1 a2 a3 a4 a5 a6 a7 a8 a9 a10 a11 := by
  kernel_rfl
theorem c45 {r : AV} (h : X45 (semCall C Tryd.prog) (semRun C Tryd.prog 45 Tryd.f45) a0 a1 a2 a3 a4 a5 a6 a7 a8 a9 a10 a11 = some r) : semCall C Tryd.prog 45 [.ag [.u8 a0, .u8 a1, .b a2, .u8 a3, .u8 a4, .u8 a5, .u8 a6, .b a7, .u8 a8, .s a9], .u8 a10, .b a11] = some r :=
  semCall_unr (fn := Tryd.f45) (c := body45) (by kernel_rfl) (by kernel_rfl) 400 (by kernel_rfl) ((text45 _ _ a0 a1 a2 a3 a4 a5 a6 a7 a8 a9 a10 a11).trans h)
end
noncomputable def X45_3 (call : CallT) (run : RunT) (a0 : UInt8) (a1 : Bool) (a2 a3 a4 a5 a6 a7 a8 a9 a10 a11 : AV) (a12 a13 : UInt8) (a14 : Bool) (a15 a16 a17 a18 : UInt8) (a19 : Bool) (a20 : UInt8) (a21 : List UInt8) : Option AV :=
  (binI .eql (a2) (.u8 0)).bind fun v1 => condM (v1)
  (condM (.b (ueq a0 60))
  (F45_32 run (.u8 1) (a3) (a4) (a5) (a6) (a7) (a8) (a9) (a10) (a11) a12 a13 a14 a15 a16 a17 a18 a19 a20 a21)
  (F45_32 run (a2) (a3) (a4) (a5) (a6) (a7) (a8) (a9) (a10) (a11) a12 a13 a14 a15 a16 a17 a18 a19 a20 a21))
  ((binI .eql (a2) (.u8 1)).bind fun v2 => condM (v2)
  ((call 65 [.u8 a0]).bind fun v3 => (tupI (v3) 0).bind fun v4 => (tupI (v3) 1).bind fun v5 => (AV.asAg 10 (v4)).bind fun v6 => condM (v5)
  (some (.ag [v6.getD 0 .un, v6.getD 1 .un, v6.getD 2 .un, v6.getD 3 .un, v6.getD 4 .un, v6.getD 5 .un, v6.getD 6 .un, v6.getD 7 .un, v6.getD 8 .un, v6.getD 9 .un]))
  (F45_3 run a0 a1 (.u8 0) (a3) (a4) (a5) (a6) (a7) (a8) (a9) (a10) (a11) a12 a13 a14 a15 a16 a17 a18 a19 a20 a21))
  ((binI .eql (a2) (.u8 2)).bind fun v7 => condM (v7)
  ((call 66 [.u8 a0]).bind fun v8 => (AV.asAg 10 (v8)).bind fun v9 => some (.ag [v9.getD 0 .un, v9.getD 1 .un, v9.getD 2 .un, v9.getD 3 .un, v9.getD 4 .un, v9.getD 5 .un, v9.getD 6 .un, v9.getD 7 .un, v9.getD 8 .un, v9.getD 9 .un]))
  ((binI .eql (a2) (.u8 3)).bind fun v10 => condM (v10)
  (F45_22 run a0 a1 (a2) (a3) (a4) (a5) (a6) (a7) (a8) (a9) (a10) (a11) a12 a13 a14 a15 a16 a17 a18 a19 a20 a21)
  ((binI .eql (a2) (.u8 4)).bind fun v11 => condM (v11)
  (F45_22 run a0 a1 (a2) (a3) (a4) (a5) (a6) (a7) (a8) (a9) (a10) (a11) a12 a13 a14 a15 a16 a17 a18 a19 a20 a21)
  ((binI .eql (a2) (.u8 5)).bind fun v12 => condM (v12)
  (F45_22 run a0 a1 (a2) (a3) (a4) (a5) (a6) (a7) (a8) (a9) (a10) (a11) a12 a13 a14 a15 a16 a17 a18 a19 a20 a21)
  ((binI .eql (a2) (.u8 6)).bind fun v13 => condM (v13)
  (F45_22 run a0 a1 (a2) (a3) (a4) (a5) (a6) (a7) (a8) (a9) (a10) (a11) a12 a13 a14 a15 a16 a17 a18 a19 a20 a21)
  ((binI .eql (a2) (.u8 7)).bind fun v14 => condM (v14)
  (F45_22 run a0 a1 (a2) (a3) (a4) (a5) (a6) (a7) (a8) (a9) (a10) (a11) a12 a13 a14 a15 a16 a17 a18 a19 a20 a21)
  ((binI .eql (a2) (.u8 9)).bind fun v15 => condM (v15)
  (F45_22 run a0 a1 (a2) (a3) (a4) (a5) (a6) (a7) (a8) (a9) (a10) (a11) a12 a13 a14 a15 a16 a17 a18 a19 a20 a21)
  ((binI .eql (a2) (.u8 10)).bind fun v16 => condM (v16)
  (F45_22 run a0 a1 (a2) (a3) (a4) (a5) (a6) (a7) (a8) (a9) (a10) (a11) a12 a13 a14 a15 a16 a17 a18 a19 a20 a21)
  (F45_26 run a0 a1 (a2) (a2) (a3) (a4) (a5) (a6) (a7) (a8) (a9) (a10) (a11) a12 a13 a14 a15 a16 a17 a18 a19 a20 a21))))))))))
section
variable (call : CallT) (run : RunT) (a0 : UInt8) (a1 : Bool) (a2 a3 a4 a5 a6 a7 a8 a9 a10 a11 : AV) (a12 a13 : UInt8) (a14 : Bool) (a15 a16 a17 a18 : UInt8) (a19 : Bool) (a20 : UInt8) (a21 : List UInt8)
theorem text45_3 : step C call 45 Tryd.f45 (unr C call run 45 Tryd.f45 400) K45_3 (S45_3 a0 a1 a2 a3 a4 a5 a6 a7 a8 a9 a10 a11 a12 a13 a14 a15 a16 a17 a18 a19 a20 a21) = X45_3 call run a0 a1 a2 a3 a4 a5 a6 a7 a8 a9 a10 a11 a12 a13 a14 a15 a16 a17 a18 a19 a20 a21 := by
  kernel_rfl
end
noncomputable def X45_32 (call : CallT) (run : RunT) (a0 a1 a2 a3 a4 a5 a6 a7 a8 a9 : AV) (a10 a11 : UInt8) (a12 : Bool) (a13 a14 a15 a16 : UInt8) (a17 : Bool) (a18 : UInt8) (a19 : List UInt8) : Option AV :=
  some (.ag [a0, a1, a2, a3, a4, a5, a6, a7, a8, a9])
section
variable (call : CallT) (run : RunT) (a0 a1 a2 a3 a4 a5 a6 a7 a8 a9 : AV) (a10 a11 : UInt8) (a12 : Bool) (a13 a14 a15 a16 : UInt8) (a17 : Bool) (a18 : UInt8) (a19 : List UInt8)
theorem text45_32 : step C call 45 Tryd.f45 (unr C call run 45 Tryd.f45 400) K45_32 (S45_32 a0 a1 a2 a3 a4 a5 a6 a7 a8 a9 a10 a11 a12 a13 a14 a15 a16 a17 a18 a19) = X45_32 call run a0 a1 a2 a3 a4 a5 a6 a7 a8 a9 a10 a11 a12 a13 a14 a15 a16 a17 a18 a19 := by
  kernel_rfl
end
noncomputable def X45_22 (call : CallT) (run : RunT) (a0 : UInt8) (a1 : Bool) (a2 a3 a4 a5 a6 a7 a8 a9 a10 a11 : AV) (a12 a13 : UInt8) (a14 : Bool) (a15 a16 a17 a18 : UInt8) (a19 : Bool) (a20 : UInt8) (a21 : List UInt8) : Option AV :=
  (call 67 [.ag [a2, a3, a4, a5, a6, a7, a8, a9, a10, a11], .u8 a0]).bind fun v1 => (tupI (v1) 0).bind fun v2 => (tupI (v1) 1).bind fun v3 => (AV.asAg 10 (v2)).bind fun v4 => condM (v3)
  (F45_3 run a0 a1 (v4.getD 0 .un) (v4.getD 1 .un) (v4.getD 2 .un) (v4.getD 3 .un) (v4.getD 4 .un) (v4.getD 5 .un) (v4.getD 6 .un) (v4.getD 7 .un) (v4.getD 8 .un) (v4.getD 9 .un) a12 a13 a14 a15 a16 a17 a18 a19 a20 a21)
  (some (.ag [v4.getD 0 .un, v4.getD 1 .un, v4.getD 2 .un, v4.getD 3 .un, v4.getD 4 .un, v4.getD 5 .un, v4.getD 6 .un, v4.getD 7 .un, v4.getD 8 .un, v4.getD 9 .un]))
section
variable (call : CallT) (run : RunT) (a0 : UInt8) (a1 : Bool) (a2 a3 a4 a5 a6 a7 a8 a9 a10 a11 : AV) (a12 a13 : UInt8) (a14 : Bool) (a15 a16 a17 a18 : UInt8) (a19 : Bool) (a20 : UInt8) (a21 : List UInt8)
theorem text45_22 : step C call 45 Tryd.f45 (unr C call run 45 Tryd.f45 400) K45_22 (S45_22 a0 a1 a2 a3 a4 a5 a6 a7 a8 a9 a10 a11 a12 a13 a14 a15 a16 a17 a18 a19 a20 a21) = X45_22 call run a0 a1 a2 a3 a4 a5 a6 a7 a8 a9 a10 a11 a12 a13 a14 a15 a16 a17 a18 a19 a20 a21 := by
  kernel_rfl
end
noncomputable def X45_26 (call : CallT) (run : RunT) (a0 : UInt8) (a1 : Bool) (a2 a3 a4 a5 a6 a7 a8 a9 a10 a11 a12 : AV) (a13 a14 : UInt8) (a15 : Bool) (a16 a17 a18 a19 : UInt8) (a20 : Bool) (a21 : UInt8) (a22 : List UInt8) : Option AV :=
  (binI .eql (a2) (.u8 8)).bind fun v1 => condM (v1)
  ((call 68 [.ag [a3, a4, a5, a6, a7, a8, a9, a10, a11, a12], .u8 a0]).bind fun v2 => (AV.asAg 10 (v2)).bind fun v3 => some (.ag [v3.getD 0 .un, v3.getD 1 .un, v3.getD 2 .un, v3.getD 3 .un, v3.getD 4 .un, v3.getD 5 .un, v3.getD 6 .un, v3.getD 7 .un, v3.getD 8 .un, v3.getD 9 .un]))
  ((binI .eql (a2) (.u8 17)).bind fun v4 => condM (v4)
  (F45_31 run a0 a1 (a3) (a4) (a5) (a6) (a7) (a8) (a9) (a10) (a11) (a12) a13 a14 a15 a16 a17 a18 a19 a20 a21 a22)
  ((binI .eql (a2) (.u8 18)).bind fun v5 => condM (v5)
  (F45_31 run a0 a1 (a3) (a4) (a5) (a6) (a7) (a8) (a9) (a10) (a11) (a12) a13 a14 a15 a16 a17 a18 a19 a20 a21 a22)
  ((binI .eql (a2) (.u8 19)).bind fun v6 => condM (v6)
  (F45_31 run a0 a1 (a3) (a4) (a5) (a6) (a7) (a8) (a9) (a10) (a11) (a12) a13 a14 a15 a16 a17 a18 a19 a20 a21 a22)
  (F45_4 run a0 (a3) (a4) (a5) (a6) (a7) (a8) (a9) (a10) (a11) (a12) a13 a14 a15 a16 a17 a18 a19 a20 a21 a22))))
section
variable (call : CallT) (run : RunT) (a0 : UInt8) (a1 : Bool) (a2 a3 a4 a5 a6 a7 a8 a9 a10 a11 a12 : AV) (a13 a14 : UInt8) (a15 : Bool) (a16 a17 a18 a19 : UInt8) (a20 : Bool) (a21 : UInt8) (a22 : List UInt8)
theorem text45_26 : step C call 45 Tryd.f45 (unr C call run 45 Tryd.f45 400) K45_26 (S45_26 a0 a1 a2 a3 a4 a5 a6 a7 a8 a9 a10 a11 a12 a13 a14 a15 a16 a17 a18 a19 a20 a21 a22) = X45_26 call run a0 a1 a2 a3 a4 a5 a6 a7 a8 a9 a10 a11 a12 a13 a14 a15 a16 a17 a18 a19 a20 a21 a22 := by
  kernel_rfl
end
noncomputable def X45_31 (call : CallT) (run : RunT) (a0 : UInt8) (a1 : Bool) (a2 a3 a4 a5 a6 a7 a8 a9 a10 a11 : AV) (a12 a13 : UInt8) (a14 : Bool) (a15 a16 a17 a18 : UInt8) (a19 : Bool) (a20 : UInt8) (a21 : List UInt8) : Option AV :=
  (call 69 [.ag [a2, a3, a4, a5, a6, a7, a8, a9, a10, a11], .u8 a0, .b a1]).bind fun v1 => (AV.asAg 10 (v1)).bind fun v2 => some (.ag [v2.getD 0 .un, v2.getD 1 .un, v2.getD 2 .un, v2.getD 3 .un, v2.getD 4 .un, v2.getD 5 .un, v2.getD 6 .un, v2.getD 7 .un, v2.getD 8 .un, v2.getD 9 .un])
section
variable (call : CallT) (run : RunT) (a0 : UInt8) (a1 : Bool) (a2 a3 a4 a5 a6 a7 a8 a9 a10 a11 : AV) (a12 a13 : UInt8) (a14 : Bool) (a15 a16 a17 a18 : UInt8) (a19 : Bool) (a20 : UInt8) (a21 : List UInt8)
theorem text45_31 : step C call 45 Tryd.f45 (unr C call run 45 Tryd.f45 400) K45_31 (S45_31 a0 a1 a2 a3 a4 a5 a6 a7 a8 a9 a10 a11 a12 a13 a14 a15 a16 a17 a18 a19 a20 a21) = X45_31 call run a0 a1 a2 a3 a4 a5 a6 a7 a8 a9 a10 a11 a12 a13 a14 a15 a16 a17 a18 a19 a20 a21 := by
  kernel_rfl
end
noncomputable def X45_4 (call : CallT) (run : RunT) (a0 : UInt8) (a1 a2 a3 a4 a5 a6 a7 a8 a9 a10 : AV) (a11 a12 : UInt8) (a13 : Bool) (a14 a15 a16 a17 : UInt8) (a18 : Bool) (a19 : UInt8) (a20 : List UInt8) : Option AV :=
  (call 70 [.ag [a1, a2, a3, a4, a5, a6, a7, a8, a9, a10], .u8 a0]).bind fun v1 => (AV.asAg 10 (v1)).bind fun v2 => some (.ag [v2.getD 0 .un, v2.getD 1 .un, v2.getD 2 .un, v2.getD 3 .un, v2.getD 4 .un, v2.getD 5 .un, v2.getD 6 .un, v2.getD 7 .un, v2.getD 8 .un, v2.getD 9 .un])
section
variable (call : CallT) (run : RunT) (a0 : UInt8) (a1 a2 a3 a4 a5 a6 a7 a8 a9 a10 : AV) (a11 a12 : UInt8) (a13 : Bool) (a14 a15 a16 a17 : UInt8) (a18 : Bool) (a19 : UInt8) (a20 : List UInt8)
theorem text45_4 : step C call 45 Tryd.f45 (unr C call run 45 Tryd.f45 400) K45_4 (S45_4 a0 a1 a2 a3 a4 a5 a6 a7 a8 a9 a10 a11 a12 a13 a14 a15 a16 a17 a18 a19 a20) = X45_4 call run a0 a1 a2 a3 a4 a5 a6 a7 a8 a9 a10 a11 a12 a13 a14 a15 a16 a17 a18 a19 a20 := by
  kernel_rfl
end
section
variable (a0 : UInt8) (a1 : Bool) (a2 a3 a4 a5 a6 a7 a8 a9 a10 a11 : AV) (a12 a13 : UInt8) (a14 : Bool) (a15 a16 a17 a18 : UInt8) (a19 : Bool) (a20 : UInt8) (a21 : List UInt8)
theorem r45_3 {r : AV} (h : X45_3 (semCall C Tryd.prog) (semRun C Tryd.prog 45 Tryd.f45) a0 a1 a2 a3 a4 a5 a6 a7 a8 a9 a10 a11 a12 a13 a14 a15 a16 a17 a18 a19 a20 a21 = some r) : F45_3 (semRun C Tryd.prog 45 Tryd.f45) a0 a1 a2 a3 a4 a5 a6 a7 a8 a9 a10 a11 a12 a13 a14 a15 a16 a17 a18 a19 a20 a21 = some r :=
  semRun_unr 400 ((text45_3 _ _ a0 a1 a2 a3 a4 a5 a6 a7 a8 a9 a10 a11 a12 a13 a14 a15 a16 a17 a18 a19 a20 a21).trans h)
end
section
variable (a0 a1 a2 a3 a4 a5 a6 a7 a8 a9 : AV) (a10 a11 : UInt8) (a12 : Bool) (a13 a14 a15 a16 : UInt8) (a17 : Bool) (a18 : UInt8) (a19 : List UInt8)
theorem r45_32 {r : AV} (h : X45_32 (semCall C Tryd.prog) (semRun C Tryd.prog 45 Tryd.f45) a0 a1 a2 a3 a4 a5 a6 a7 a8 a9 a10 a11 a12 a13 a14 a15 a16 a17 a18 a19 = some r) : F45_32 (semRun C Tryd.prog 45 Tryd.f45) a0 a1 a2 a3 a4 a5 a6 a7 a8 a9 a10 a11 a12 a13 a14 a15 a16 a17 a18 a19 = some r :=
  semRun_unr 400 ((text45_32 _ _ a0 a1 a2 a3 a4 a5 a6 a7 a8 a9 a10 a11 a12 a13 a14 a15 a16 a17 a18 a19).trans h)
end
section
variable (a0 : UInt8) (a1 : Bool) (a2 a3 a4 a5 a6 a7 a8 a9 a10 a11 : AV) (a12 a13 : UInt8) (a14 : Bool) (a15 a16 a17 a18 : UInt8) (a19 : Bool) (a20 : UInt8) (a21 : List UInt8)
theorem r45_22 {r : AV} (h : X45_22 (semCall C Tryd.prog) (semRun C Tryd.prog 45 Tryd.f45) a0 a1 a2 a3 a4 a5 a6 a7 a8 a9 a10 a11 a12 a13 a14 a15 a16 a17 a18 a19 a20 a21 = some r) : F45_22 (semRun C Tryd.prog 45 Tryd.f45) a0 a1 a2 a3 a4 a5 a6 a7 a8 a9 a10 a11 a12 a13 a14 a15 a16 a17 a18 a19 a20 a21 = some r :=
  semRun_unr 400 ((text45_22 _ _ a0 a1 a2 a3 a4 a5 a6 a7 a8 a9 a10 a11 a12 a13 a14 a15 a16 a17 a18 a19 a20 a21).trans h)
end
section
variable (a0 : UInt8) (a1 : Bool) (a2 a3 a4 a5 a6 a7 a8 a9 a10 a11 a12 : AV) (a13 a14 : UInt8) (a15 : Bool) (a16 a17 a18 a19 : UInt8) (a20 : Bool) (a21 : UInt8) (a22 : List UInt8)
theorem r45_26 {r : AV} (h : X45_26 (semCall C Tryd.prog) (semRun C Tryd.prog 45 Tryd.f45) a0 a1 a2 a3 a4 a5 a6 a7 a8 a9 a10 a11 a12 a13 a14 a15 a16 a17 a18 a19 a20 a21 a22 = some r) : F45_26 (semRun C Tryd.prog 45 Tryd.f45) a0 a1 a2 a3 a4 a5 a6 a7 a8 a9 a10 a11 a12 a13 a14 a15 a16 a17 a18 a19 a20 a21 a22 = some r :=
  semRun_unr 400 ((text45_26 _ _ a0 a1 a2 a3 a4 a5 a6 a7 a8 a9 a10 a11 a12 a13 a14 a15 a16 a17 a18 a19 a20 a21 a22).trans h)
end
section
variable (a0 : UInt8) (a1 : Bool) (a2 a3 a4 a5 a6 a7 a8 a9 a10 a11 : AV) (a12 a13 : UInt8) (a14 : Bool) (a15 a16 a17 a18 : UInt8) (a19 : Bool) (a20 : UInt8) (a21 : List UInt8)
theorem r45_31 {r : AV} (h : X45_31 (semCall C Tryd.prog) (semRun C Tryd.prog 45 Tryd.f45) a0 a1 a2 a3 a4 a5 a6 a7 a8 a9 a10 a11 a12 a13 a14 a15 a16 a17 a18 a19 a20 a21 = some r) : F45_31 (semRun C Tryd.prog 45 Tryd.f45) a0 a1 a2 a3 a4 a5 a6 a7 a8 a9 a10 a11 a12 a13 a14 a15 a16 a17 a18 a19 a20 a21 = some r :=
  semRun_unr 400 ((text45_31 _ _ a0 a1 a2 a3 a4 a5 a6 a7 a8 a9 a10 a11 a12 a13 a14 a15 a16 a17 a18 a19 a20 a21).trans h)
end
section
variable (a0 : UInt8) (a1 a2 a3 a4 a5 a6 a7 a8 a9 a10 : AV) (a11 a12 : UInt8) (a13 : Bool) (a14 a15 a16 a17 : UInt8) (a18 : Bool) (a19 : UInt8) (a20 : List UInt8)
theorem r45_4 {r : AV} (h : X45_4 (semCall C Tryd.prog) (semRun C Tryd.prog 45 Tryd.f45) a0 a1 a2 a3 a4 a5 a6 a7 a8 a9 a10 a11 a12 a13 a14 a15 a16 a17 a18 a19 a20 = some r) : F45_4 (semRun C Tryd.prog 45 Tryd.f45) a0 a1 a2 a3 a4 a5 a6 a7 a8 a9 a10 a11 a12 a13 a14 a15 a16 a17 a18 a19 a20 = some r :=
  semRun_unr 400 ((text45_4 _ _ a0 a1 a2 a3 a4 a5 a6 a7 a8 a9 a10 a11 a12 a13 a14 a15 a16 a17 a18 a19 a20).trans h)
end
end R4

namespace R4
open Go Go.Proofs Sx
noncomputable def body46 : Code := (Tryd.f46.body).getD .skip
section
variable (run : RunT) (a0 : UInt8) (a1 a2 a3 a4 a5 a6 a7 a8 a9 a10 : AV) (a11 a12 : List AV) (a13 a14 a15 : AV) (a16 : List AV) (a17 a18 : AV) (a19 : List AV)
noncomputable def K46_5 : List Item := (kAt 5 body46 []).getD []
def S46_5 : St := St.ofL [(0, .cell (.ptr 74 0)), (2, .cell (.val (.u8 a0)))] [(74, some [.val (a1), .val (a2), .val (a3), .val (a4), .val (a5), .val (a6), .val (a7), .val (a8), .val (a9), .val (a10), .own 674010 5 1 a11, .own 674011 5 1 a12, .val (a13), .val (a14), .val (a15), .own 674015 45 2 a16, .val (a17), .clo 18 [75], .val (a18)]), (75, some [.own 675000 39 4 a19])]
noncomputable def F46_5 : Option AV := run K46_5 (S46_5 a0 a1 a2 a3 a4 a5 a6 a7 a8 a9 a10 a11 a12 a13 a14 a15 a16 a17 a18 a19)
end
section
variable (run : RunT) (a0 a1 a2 : UInt8) (a3 : Bool) (a4 a5 a6 a7 : UInt8) (a8 : Bool) (a9 : UInt8) (a10 : List UInt8) (a11 a12 : List AV) (a13 : Bool) (a14 : UInt8) (a15 : List UInt8) (a16 : List AV) (a17 : List UInt8) (a18 : Bool) (a19 : List AV)
noncomputable def K46_12 : List Item := (kAt 12 body46 []).getD []
def S46_12 : St := St.ofL [(0, .cell (.ptr 74 0)), (6, .cell (.val (.u8 a0)))] [(74, some [.val (.u8 a1), .val (.u8 a2), .val (.b a3), .val (.u8 a4), .val (.u8 a5), .val (.u8 a6), .val (.u8 a7), .val (.b a8), .val (.u8 a9), .val (.s a10), .own 674010 5 1 a11, .own 674011 5 1 a12, .val (.b a13), .val (.u8 a14), .val (.s a15), .own 674015 45 2 a16, .val (.s a17), .clo 18 [75], .val (.b a18)]), (75, some [.own 675000 39 4 a19])]
noncomputable def F46_12 : Option AV := run K46_12 (S46_12 a0 a1 a2 a3 a4 a5 a6 a7 a8 a9 a10 a11 a12 a13 a14 a15 a16 a17 a18 a19)
end
noncomputable def X46 (call : CallT) (run : RunT) (a0 a1 : UInt8) (a2 : Bool) (a3 a4 a5 a6 : UInt8) (a7 : Bool) (a8 : UInt8) (a9 : List UInt8) (a10 a11 a12 : UInt8) (a13 : Bool) (a14 a15 a16 a17 : UInt8) (a18 : Bool) (a19 : UInt8) (a20 : List UInt8) (a21 a22 : List AV) (a23 : Bool) (a24 : UInt8) (a25 : List UInt8) (a26 : List AV) (a27 : List UInt8) (a28 : Bool) (a29 : List AV) : Option AV :=
  condM (.b (ueq a11 1))
  (condM (.b (ueq a0 1))
  ((call 71 [.un, .nils, .ag [.u8 a11, .u8 a12, .b a13, .u8 a14, .u8 a15, .u8 a16, .u8 a17, .b a18, .u8 a19, .s a20, .ro 1 a21, .ro 1 a22, .b a23, .u8 a24, .s a25, .ro 2 a26, .s a27, .un, .b a28], .ag [.ro 4 a29]]).bind fun v1 => (tupI v1 0).bind fun v2 => (tupI v1 1).bind fun v3 => (AV.asAg 19 v3).bind fun v4 => (tupI v1 2).bind fun v5 => (AV.asAg 1 v5).bind fun v6 => F46_5 run a10 (v4.getD 0 .un) (v4.getD 1 .un) (v4.getD 2 .un) (v4.getD 3 .un) (v4.getD 4 .un) (v4.getD 5 .un) (v4.getD 6 .un) (v4.getD 7 .un) (v4.getD 8 .un) (v4.getD 9 .un) (AV.elems (v4.getD 10 .un)) (AV.elems (v4.getD 11 .un)) (v4.getD 12 .un) (v4.getD 13 .un) (v4.getD 14 .un) (AV.elems (v4.getD 15 .un)) (v4.getD 16 .un) (v4.getD 18 .un) (AV.elems (v6.getD 0 .un)))
  (F46_5 run a10 (.u8 a11) (.u8 a12) (.b a13) (.u8 a14) (.u8 a15) (.u8 a16) (.u8 a17) (.b a18) (.u8 a19) (.s a20) a21 a22 (.b a23) (.u8 a24) (.s a25) a26 (.s a27) (.b a28) a29))
  (condM (.b (ueq a11 2))
  ((app 1 1 a22 (.ro 1 (([.u8 a10] : List AV)))).bind fun v7 => some (.tu [.tu [], .ag [.u8 a11, .u8 a12, .b a13, .u8 a14, .u8 a15, .u8 a16, .u8 a17, .b a18, .u8 a19, .s a20, .ro 1 a21, .ro 1 v7, .b a23, .u8 a24, .s a25, .ro 2 a26, .s a27, .un, .b a28], .ag [.ro 4 a29]]))
  (condM (.b (ueq a11 3))
  (condM (.b a13)
  (F46_12 run 2 a11 a12 a13 a14 a15 a16 a17 a18 a19 a20 a21 a22 a23 a24 a25 a26 a27 a28 a29)
  (F46_12 run 1 a11 a12 a13 a14 a15 a16 a17 a18 a19 a20 a21 a22 a23 a24 a25 a26 a27 a28 a29))
  (condM (.b (ueq a11 11))
  ((call 72 [.un, .u8 4, .s [], .s [], .ag [.u8 a11, .u8 a12, .b a13, .u8 a14, .u8 a15, .u8 a16, .u8 a17, .b a18, .u8 a19, .s a20, .ro 1 a21, .ro 1 a22, .b a23, .u8 a24, .s a25, .ro 2 a26, .s a27, .un, .b a28], .ag [.ro 4 a29]]).bind fun v8 => (tupI v8 0).bind fun v9 => (tupI v8 1).bind fun v10 => (AV.asAg 19 v10).bind fun v11 => (tupI v8 2).bind fun v12 => (AV.asAg 1 v12).bind fun v13 => some (.tu [.tu [], .ag [v11.getD 0 .un, v11.getD 1 .un, v11.getD 2 .un, v11.getD 3 .un, v11.getD 4 .un, v11.getD 5 .un, v11.getD 6 .un, v11.getD 7 .un, v11.getD 8 .un, v11.getD 9 .un, .ro 1 (AV.elems (v11.getD 10 .un)), .ro 1 (AV.elems (v11.getD 11 .un)), v11.getD 12 .un, v11.getD 13 .un, v11.getD 14 .un, .ro 2 (AV.elems (v11.getD 15 .un)), v11.getD 16 .un, .un, v11.getD 18 .un], .ag [.ro 4 (AV.elems (v13.getD 0 .un))]]))
  (condM (.b (ueq a11 16))
  ((b2s (.ro 1 (([.u8 a10] : List AV)))).bind fun v14 => (call 72 [.un, .u8 4, .s [], v14, .ag [.u8 a11, .u8 a12, .b a13, .u8 a14, .u8 a15, .u8 a16, .u8 a17, .b a18, .u8 a19, .s a20, .ro 1 a21, .ro 1 a22, .b a23, .u8 a24, .s a25, .ro 2 a26, .s a27, .un, .b a28], .ag [.ro 4 a29]]).bind fun v15 => (tupI v15 0).bind fun v16 => (tupI v15 1).bind fun v17 => (AV.asAg 19 v17).bind fun v18 => (tupI v15 2).bind fun v19 => (AV.asAg 1 v19).bind fun v20 => some (.tu [.tu [], .ag [v18.getD 0 .un, v18.getD 1 .un, v18.getD 2 .un, v18.getD 3 .un, v18.getD 4 .un, v18.getD 5 .un, v18.getD 6 .un, v18.getD 7 .un, v18.getD 8 .un, v18.getD 9 .un, .ro 1 (AV.elems (v18.getD 10 .un)), .ro 1 (AV.elems (v18.getD 11 .un)), v18.getD 12 .un, v18.getD 13 .un, v18.getD 14 .un, .ro 2 (AV.elems (v18.getD 15 .un)), v18.getD 16 .un, .un, v18.getD 18 .un], .ag [.ro 4 (AV.elems (v20.getD 0 .un))]]))
  (condM (.b (ueq a11 0))
  (condM (.b (ueq a0 2))
  (some (.tu [.tu [], .ag [.u8 a11, .u8 a12, .b a13, .u8 a14, .u8 a15, .u8 a16, .u8 a17, .b a18, .u8 a19, .s a20, .ro 1 a21, .ro 1 [], .b a23, .u8 a24, .s a25, .ro 2 a26, .s a27, .un, .b a28], .ag [.ro 4 a29]]))
  ((call 71 [.un, .ro 1 (([.u8 a10] : List AV)), .ag [.u8 a11, .u8 a12, .b a13, .u8 a14, .u8 a15, .u8 a16, .u8 a17, .b a18, .u8 a19, .s a20, .ro 1 a21, .ro 1 a22, .b a23, .u8 a24, .s a25, .ro 2 a26, .s a27, .un, .b a28], .ag [.ro 4 a29]]).bind fun v21 => (tupI v21 0).bind fun v22 => (tupI v21 1).bind fun v23 => (AV.asAg 19 v23).bind fun v24 => (tupI v21 2).bind fun v25 => (AV.asAg 1 v25).bind fun v26 => some (.tu [.tu [], .ag [v24.getD 0 .un, v24.getD 1 .un, v24.getD 2 .un, v24.getD 3 .un, v24.getD 4 .un, v24.getD 5 .un, v24.getD 6 .un, v24.getD 7 .un, v24.getD 8 .un, v24.getD 9 .un, .ro 1 (AV.elems (v24.getD 10 .un)), .ro 1 (AV.elems (v24.getD 11 .un)), v24.getD 12 .un, v24.getD 13 .un, v24.getD 14 .un, .ro 2 (AV.elems (v24.getD 15 .un)), v24.getD 16 .un, .un, v24.getD 18 .un], .ag [.ro 4 (AV.elems (v26.getD 0 .un))]])))
  (some (.tu [.tu [], .ag [.u8 a11, .u8 a12, .b a13, .u8 a14, .u8 a15, .u8 a16, .u8 a17, .b a18, .u8 a19, .s a20, .ro 1 a21, .ro 1 a22, .b a23, .u8 a24, .s a25, .ro 2 a26, .s a27, .un, .b a28], .ag [.ro 4 a29]])))))))
section
variable (call : CallT) (run : RunT) (a0 a1 : UInt8) (a2 : Bool) (a3 a4 a5 a6 : UInt8) (a7 : Bool) (a8 : UInt8) (a9 : List UInt8) (a10 a11 a12 : UInt8) (a13 : Bool) (a14 a15 a16 a17 : UInt8) (a18 : Bool) (a19 : UInt8) (a20 : List UInt8) (a21 a22 : List AV) (a23 : Bool) (a24 : UInt8) (a25 : List UInt8) (a26 : List AV) (a27 : List UInt8) (a28 : Bool) (a29 : List AV)
theorem text46 : unr C call run 46 Tryd.f46 400 [.code body46] (initF C 46 Tryd.f46.ntmps [.un, .ag [.u8 a0, .u8 a1, .b a2, .u8 a3, .u8 a4, .u8 a5, .u8 a6, .b a7, .u8 a8, .s a9], .u8 a10, .ag [.u8 a11, .u8 a12, .b a13, .u8 a14, .u8 a15, .u8 a16, .u8 a17, .b a18, .u8 a19, .s a20, .ro 1 a21, .ro 1 a22, .b a23, .u8 a24, .s a25, .ro 2 a26, .s a27, .un, .b a28], .ag [.ro 4 a29]]) = X46 call run a0 a1 a2 a3 a4 a5 a6 a7 a8 a9 a10 a11 a12 a13 a14 a15 a16 a17 a18 a19 a20 a21 a22 a23 a24 a25 a26 a27 a28 a29 := by
  kernel_rfl
theorem c46 {r : AV} (h : X46 (semCall C Tryd.prog) (semRun C Tryd.prog 46 Tryd.f46) a0 a1 a2 a3 a4 a5 a6 a7 a8 a9 a10 a11 a12 a13 a14 a15 a16 a17 a18 a19 a20 a21 a22 a23 a24 a25 a26 a27 a28 a29 = some r) : semCall C Tryd.prog 46 [.un, .ag [.u8 a0, .u8 a1, .b a2, .u8 a3, .u8 a4, .u8 a5, .u8 a6, .b a7, .u8 a8, .s a9], .u8 a10, .ag [.u8 a11, .u8 a12, .b a13, .u8 a14, .u8 a15, .u8 a16, .u8 a17, .b a18, .u8 a19, .s a20, .ro 1 a21, .ro 1 a22, .b a23, .u8 a24, .s a25, .ro 2 a26, .s a27, .un, .b a28], .ag [.ro 4 a29]] = some r :=
  semCall_unr (fn := Tryd.f46) (c := body46) (by kernel_rfl) (by kernel_rfl) 400 (by kernel_rfl) ((text46 _ _ a0 a1 a2 a3 a4 a5 a6 a7 a8 a9 a10 a11 a12 a13 a14 a15 a16 a17 a18 a19 a20 a21 a22 a23 a24 a25 a26 a27 a28 a29).trans h)
end
noncomputable def X46_5 (call : CallT) (run : RunT) (a0 : UInt8) (a1 a2 a3 a4 a5 a6 a7 a8 a9 a10 : AV) (a11 a12 : List AV) (a13 a14 a15 : AV) (a16 : List AV) (a17 a18 : AV) (a19 : List AV) : Option AV :=
  some (.tu [.tu [], .ag [a1, a2, a3, a4, a5, a6, a7, a8, a9, a10, .ro 1 a11, .ro 1 (([.u8 a0] : List AV)), a13, a14, a15, .ro 2 a16, a17, .un, a18], .ag [.ro 4 a19]])
section
variable (call : CallT) (run : RunT) (a0 : UInt8) (a1 a2 a3 a4 a5 a6 a7 a8 a9 a10 : AV) (a11 a12 : List AV) (a13 a14 a15 : AV) (a16 : List AV) (a17 a18 : AV) (a19 : List AV)
theorem text46_5 : step C call 46 Tryd.f46 (unr C call run 46 Tryd.f46 400) K46_5 (S46_5 a0 a1 a2 a3 a4 a5 a6 a7 a8 a9 a10 a11 a12 a13 a14 a15 a16 a17 a18 a19) = X46_5 call run a0 a1 a2 a3 a4 a5 a6 a7 a8 a9 a10 a11 a12 a13 a14 a15 a16 a17 a18 a19 := by
  kernel_rfl
end
noncomputable def X46_12 (call : CallT) (run : RunT) (a0 a1 a2 : UInt8) (a3 : Bool) (a4 a5 a6 a7 : UInt8) (a8 : Bool) (a9 : UInt8) (a10 : List UInt8) (a11 a12 : List AV) (a13 : Bool) (a14 : UInt8) (a15 : List UInt8) (a16 : List AV) (a17 : List UInt8) (a18 : Bool) (a19 : List AV) : Option AV :=
  (call 72 [.un, .u8 a0, .s a10, .s [], .ag [.u8 a1, .u8 a2, .b a3, .u8 a4, .u8 a5, .u8 a6, .u8 a7, .b a8, .u8 a9, .s a10, .ro 1 a11, .ro 1 a12, .b a13, .u8 a14, .s a15, .ro 2 a16, .s a17, .un, .b a18], .ag [.ro 4 a19]]).bind fun v1 => (tupI v1 0).bind fun v2 => (tupI v1 1).bind fun v3 => (AV.asAg 19 v3).bind fun v4 => (tupI v1 2).bind fun v5 => (AV.asAg 1 v5).bind fun v6 => some (.tu [.tu [], .ag [v4.getD 0 .un, v4.getD 1 .un, v4.getD 2 .un, v4.getD 3 .un, v4.getD 4 .un, v4.getD 5 .un, v4.getD 6 .un, v4.getD 7 .un, v4.getD 8 .un, v4.getD 9 .un, .ro 1 (AV.elems (v4.getD 10 .un)), .ro 1 (AV.elems (v4.getD 11 .un)), v4.getD 12 .un, v4.getD 13 .un, v4.getD 14 .un, .ro 2 (AV.elems (v4.getD 15 .un)), v4.getD 16 .un, .un, v4.getD 18 .un], .ag [.ro 4 (AV.elems (v6.getD 0 .un))]])
section
variable (call : CallT) (run : RunT) (a0 a1 a2 : UInt8) (a3 : Bool) (a4 a5 a6 a7 : UInt8) (a8 : Bool) (a9 : UInt8) (a10 : List UInt8) (a11 a12 : List AV) (a13 : Bool) (a14 : UInt8) (a15 : List UInt8) (a16 : List AV) (a17 : List UInt8) (a18 : Bool) (a19 : List AV)
theorem text46_12 : step C call 46 Tryd.f46 (unr C call run 46 Tryd.f46 400) K46_12 (S46_12 a0 a1 a2 a3 a4 a5 a6 a7 a8 a9 a10 a11 a12 a13 a14 a15 a16 a17 a18 a19) = X46_12 call run a0 a1 a2 a3 a4 a5 a6 a7 a8 a9 a10 a11 a12 a13 a14 a15 a16 a17 a18 a19 := by
  kernel_rfl
end
section
variable (a0 : UInt8) (a1 a2 a3 a4 a5 a6 a7 a8 a9 a10 : AV) (a11 a12 : List AV) (a13 a14 a15 : AV) (a16 : List AV) (a17 a18 : AV) (a19 : List AV)
theorem r46_5 {r : AV} (h : X46_5 (semCall C Tryd.prog) (semRun C Tryd.prog 46 Tryd.f46) a0 a1 a2 a3 a4 a5 a6 a7 a8 a9 a10 a11 a12 a13 a14 a15 a16 a17 a18 a19 = some r) : F46_5 (semRun C Tryd.prog 46 Tryd.f46) a0 a1 a2 a3 a4 a5 a6 a7 a8 a9 a10 a11 a12 a13 a14 a15 a16 a17 a18 a19 = some r :=
  semRun_unr 400 ((text46_5 _ _ a0 a1 a2 a3 a4 a5 a6 a7 a8 a9 a10 a11 a12 a13 a14 a15 a16 a17 a18 a19).trans h)
end
section
variable (a0 a1 a2 : UInt8) (a3 : Bool) (a4 a5 a6 a7 : UInt8) (a8 : Bool) (a9 : UInt8) (a10 : List UInt8) (a11 a12 : List AV) (a13 : Bool) (a14 : UInt8) (a15 : List UInt8) (a16 : List AV) (a17 : List UInt8) (a18 : Bool) (a19 : List AV)
theorem r46_12 {r : AV} (h : X46_12 (semCall C Tryd.prog) (semRun C Tryd.prog 46 Tryd.f46) a0 a1 a2 a3 a4 a5 a6 a7 a8 a9 a10 a11 a12 a13 a14 a15 a16 a17 a18 a19 = some r) : F46_12 (semRun C Tryd.prog 46 Tryd.f46) a0 a1 a2 a3 a4 a5 a6 a7 a8 a9 a10 a11 a12 a13 a14 a15 a16 a17 a18 a19 = some r :=
  semRun_unr 400 ((text46_12 _ _ a0 a1 a2 a3 a4 a5 a6 a7 a8 a9 a10 a11 a12 a13 a14 a15 a16 a17 a18 a19).trans h)
end
end R4

namespace R4
open Go Go.Proofs Sx
noncomputable def body47 : Code := (Tryd.f47.body).getD .skip
section
variable (run : RunT) (a0 a1 : UInt8) (a2 : Bool) (a3 a4 a5 a6 : UInt8) (a7 : Bool) (a8 : UInt8) (a9 : List UInt8) (a10 a11 : UInt8) (a12 : Bool) (a13 a14 a15 a16 : UInt8) (a17 : Bool) (a18 : UInt8) (a19 : List UInt8) (a20 a21 : List AV) (a22 : Bool) (a23 : UInt8) (a24 : List UInt8) (a25 : List AV) (a26 : List UInt8) (a27 : Bool) (a28 : List AV)
noncomputable def K47_12 : List Item := (kAt 12 body47 []).getD []
def S47_12 : St := St.ofL [(0, .cell (.ptr 54 0)), (4, .cell (.ptr 4 0))] [(4, some [.val (.u8 a0), .val (.u8 a1), .val (.b a2), .val (.u8 a3), .val (.u8 a4), .val (.u8 a5), .val (.u8 a6), .val (.b a7), .val (.u8 a8), .val (.s a9)]), (54, some [.val (.u8 a10), .val (.u8 a11), .val (.b a12), .val (.u8 a13), .val (.u8 a14), .val (.u8 a15), .val (.u8 a16), .val (.b a17), .val (.u8 a18), .val (.s a19), .own 654010 5 1 a20, .own 654011 5 1 a21, .val (.b a22), .val (.u8 a23), .val (.s a24), .own 654015 45 2 a25, .val (.s a26), .clo 18 [55], .val (.b a27)]), (55, some [.own 655000 39 4 a28])]
noncomputable def F47_12 : Option AV := run K47_12 (S47_12 a0 a1 a2 a3 a4 a5 a6 a7 a8 a9 a10 a11 a12 a13 a14 a15 a16 a17 a18 a19 a20 a21 a22 a23 a24 a25 a26 a27 a28)
end
noncomputable def X47 (call : CallT) (run : RunT) (a0 a1 : UInt8) (a2 : Bool) (a3 a4 a5 a6 : UInt8) (a7 : Bool) (a8 : UInt8) (a9 : List UInt8) (a10 a11 a12 : UInt8) (a13 : Bool) (a14 a15 a16 a17 : UInt8) (a18 : Bool) (a19 : UInt8) (a20 : List UInt8) (a21 a22 : List AV) (a23 : Bool) (a24 : UInt8) (a25 : List UInt8) (a26 : List AV) (a27 : List UInt8) (a28 : Bool) (a29 : List AV) : Option AV :=
  condM (.b (ueq a11 17))
  ((call 71 [.un, .ro 1 (([.u8 a10] : List AV)), .ag [.u8 a11, .u8 a12, .b a13, .u8 a14, .u8 a15, .u8 a16, .u8 a17, .b a18, .u8 a19, .s a20, .ro 1 a21, .ro 1 a22, .b a23, .u8 a24, .s a25, .ro 2 a26, .s a27, .un, .b a28], .ag [.ro 4 a29]]).bind fun v1 => (tupI v1 0).bind fun v2 => (tupI v1 1).bind fun v3 => (AV.asAg 19 v3).bind fun v4 => (tupI v1 2).bind fun v5 => (AV.asAg 1 v5).bind fun v6 => some (.tu [.tu [], .ag [v4.getD 0 .un, v4.getD 1 .un, v4.getD 2 .un, v4.getD 3 .un, v4.getD 4 .un, v4.getD 5 .un, v4.getD 6 .un, v4.getD 7 .un, v4.getD 8 .un, v4.getD 9 .un, .ro 1 (AV.elems (v4.getD 10 .un)), .ro 1 (AV.elems (v4.getD 11 .un)), v4.getD 12 .un, v4.getD 13 .un, v4.getD 14 .un, .ro 2 (AV.elems (v4.getD 15 .un)), v4.getD 16 .un, .un, v4.getD 18 .un], .ag [.ro 4 (AV.elems (v6.getD 0 .un))]]))
  (condM (.b (ueq a11 18))
  ((call 71 [.un, .nils, .ag [.u8 a11, .u8 a12, .b a13, .u8 a14, .u8 a15, .u8 a16, .u8 a17, .b a18, .u8 a19, .s a20, .ro 1 a21, .ro 1 a22, .b a23, .u8 a24, .s a25, .ro 2 a26, .s a27, .un, .b a28], .ag [.ro 4 a29]]).bind fun v7 => (tupI v7 0).bind fun v8 => (tupI v7 1).bind fun v9 => (AV.asAg 19 v9).bind fun v10 => (tupI v7 2).bind fun v11 => (AV.asAg 1 v11).bind fun v12 => some (.tu [.tu [], .ag [v10.getD 0 .un, v10.getD 1 .un, v10.getD 2 .un, v10.getD 3 .un, v10.getD 4 .un, v10.getD 5 .un, v10.getD 6 .un, v10.getD 7 .un, v10.getD 8 .un, v10.getD 9 .un, .ro 1 (AV.elems (v10.getD 10 .un)), .ro 1 (([.u8 a10] : List AV)), v10.getD 12 .un, v10.getD 13 .un, v10.getD 14 .un, .ro 2 (AV.elems (v10.getD 15 .un)), v10.getD 16 .un, .un, v10.getD 18 .un], .ag [.ro 4 (AV.elems (v12.getD 0 .un))]]))
  (condM (.b (ueq a11 19))
  ((app 1 1 a22 (.ro 1 (([.u8 a10] : List AV)))).bind fun v13 => some (.tu [.tu [], .ag [.u8 a11, .u8 a12, .b a13, .u8 a14, .u8 a15, .u8 a16, .u8 a17, .b a18, .u8 a19, .s a20, .ro 1 a21, .ro 1 v13, .b a23, .u8 a24, .s a25, .ro 2 a26, .s a27, .un, .b a28], .ag [.ro 4 a29]]))
  (condM (.b (ueq a11 4))
  (F47_12 run a0 a1 a2 a3 a4 a5 a6 a7 a8 a9 a11 a12 a13 a14 a15 a16 a17 a18 a19 a20 a21 a22 a23 a24 a25 a26 a27 a28 a29)
  (condM (.b (ueq a11 10))
  (F47_12 run a0 a1 a2 a3 a4 a5 a6 a7 a8 a9 a11 a12 a13 a14 a15 a16 a17 a18 a19 a20 a21 a22 a23 a24 a25 a26 a27 a28 a29)
  (condM (.b (ueq a11 0))
  (F47_12 run a0 a1 a2 a3 a4 a5 a6 a7 a8 a9 a11 a12 a13 a14 a15 a16 a17 a18 a19 a20 a21 a22 a23 a24 a25 a26 a27 a28 a29)
  (some (.tu [.tu [], .ag [.u8 a11, .u8 a12, .b a13, .u8 a14, .u8 a15, .u8 a16, .u8 a17, .b a18, .u8 a19, .s a20, .ro 1 a21, .ro 1 a22, .b a23, .u8 a24, .s a25, .ro 2 a26, .s a27, .un, .b a28], .ag [.ro 4 a29]])))))))
section
variable (call : CallT) (run : RunT) (a0 a1 : UInt8) (a2 : Bool) (a3 a4 a5 a6 : UInt8) (a7 : Bool) (a8 : UInt8) (a9 : List UInt8) (a10 a11 a12 : UInt8) (a13 : Bool) (a14 a15 a16 a17 : UInt8) (a18 : Bool) (a19 : UInt8) (a20 : List UInt8) (a21 a22 : List AV) (a23 : Bool) (a24 : UInt8) (a25 : List UInt8) (a26 : List AV) (a27 : List UInt8) (a28 : Bool) (a29 : List AV)
theorem text47 : unr C call run 47 Tryd.f47 400 [.code body47] (initF C 47 Tryd.f47.ntmps [.un, .ag [.u8 a0, .u8 a1, .b a2, .u8 a3, .u8 a4, .u8 a5, .u8 a6, .b a7, .u8 a8, .s a9], .u8 a10, .ag [.u8 a11, .u8 a12, .b a13, .u8 a14, .u8 a15, .u8 a16, .u8 a17, .b a18, .u8 a19, .s a20, .ro 1 a21, .ro 1 a22, .b a23, .u8 a24, .s a25, .ro 2 a26, .s a27, .un, .b a28], .ag [.ro 4 a29]]) = X47 call run a0 a1 a2 a3 a4 a5 a6 a7 a8 a9 a10 a11 a12 a13 a14 a15 a16 a17 a18 a19 a20 a21 a22 a23 a24 a25 a26 a27 a28 a29 := by
  kernel_rfl
theorem c47 {r : AV} (h : X47 (semCall C Tryd.prog) (semRun C Tryd.prog 47 Tryd.f47) a0 a1 a2 a3 a4 a5 a6 a7 a8 a9 a10 a11 a12 a13 a14 a15 a16 a17 a18 a19 a20 a21 a22 a23 a24 a25 a26 a27 a28 a29 = some r) : semCall C Tryd.prog 47 [.un, .ag [.u8 a0, .u8 a1, .b a2, .u8 a3, .u8 a4, .u8 a5, .u8 a6, .b a7, .u8 a8, .s a9], .u8 a10, .ag [.u8 a11, .u8 a12, .b a13, .u8 a14, .u8 a15, .u8 a16, .u8 a17, .b a18, .u8 a19, .s a20, .ro 1 a21, .ro 1 a22, .b a23, .u8 a24, .s a25, .ro 2 a26, .s a27, .un, .b a28], .ag [.ro 4 a29]] = some r :=
  semCall_unr (fn := Tryd.f47) (c := body47) (by kernel_rfl) (by kernel_rfl) 400 (by kernel_rfl) ((text47 _ _ a0 a1 a2 a3 a4 a5 a6 a7 a8 a9 a10 a11 a12 a13 a14 a15 a16 a17 a18 a19 a20 a21 a22 a23 a24 a25 a26 a27 a28 a29).trans h)
end
noncomputable def X47_12 (call : CallT) (run : RunT) (a0 a1 : UInt8) (a2 : Bool) (a3 a4 a5 a6 : UInt8) (a7 : Bool) (a8 : UInt8) (a9 : List UInt8) (a10 a11 : UInt8) (a12 : Bool) (a13 a14 a15 a16 : UInt8) (a17 : Bool) (a18 : UInt8) (a19 : List UInt8) (a20 a21 : List AV) (a22 : Bool) (a23 : UInt8) (a24 : List UInt8) (a25 : List AV) (a26 : List UInt8) (a27 : Bool) (a28 : List AV) : Option AV :=
  (call 72 [.un, .u8 2, .s a9, .s [], .ag [.u8 a10, .u8 a11, .b a12, .u8 a13, .u8 a14, .u8 a15, .u8 a16, .b a17, .u8 a18, .s a19, .ro 1 a20, .ro 1 a21, .b a22, .u8 a23, .s a24, .ro 2 a25, .s a26, .un, .b a27], .ag [.ro 4 a28]]).bind fun v1 => (tupI v1 0).bind fun v2 => (tupI v1 1).bind fun v3 => (AV.asAg 19 v3).bind fun v4 => (tupI v1 2).bind fun v5 => (AV.asAg 1 v5).bind fun v6 => (binI .eql (v4.getD 0 .un) (.u8 0)).bind fun v7 => condM (v7)
  ((call 73 [.un, .ag [v4.getD 0 .un, v4.getD 1 .un, v4.getD 2 .un, v4.getD 3 .un, v4.getD 4 .un, v4.getD 5 .un, v4.getD 6 .un, v4.getD 7 .un, v4.getD 8 .un, v4.getD 9 .un, .ro 1 (AV.elems (v4.getD 10 .un)), .ro 1 (AV.elems (v4.getD 11 .un)), v4.getD 12 .un, v4.getD 13 .un, v4.getD 14 .un, .ro 2 (AV.elems (v4.getD 15 .un)), v4.getD 16 .un, .un, v4.getD 18 .un], .ag [.ro 4 (AV.elems (v6.getD 0 .un))]]).bind fun v8 => (tupI v8 0).bind fun v9 => (tupI v8 1).bind fun v10 => (AV.asAg 19 v10).bind fun v11 => (tupI v8 2).bind fun v12 => (AV.asAg 1 v12).bind fun v13 => some (.tu [.tu [], .ag [v11.getD 0 .un, v11.getD 1 .un, v11.getD 2 .un, v11.getD 3 .un, v11.getD 4 .un, v11.getD 5 .un, v11.getD 6 .un, v11.getD 7 .un, v11.getD 8 .un, v11.getD 9 .un, .ro 1 (AV.elems (v11.getD 10 .un)), .ro 1 (AV.elems (v11.getD 11 .un)), v11.getD 12 .un, v11.getD 13 .un, v11.getD 14 .un, .ro 2 (AV.elems (v11.getD 15 .un)), v11.getD 16 .un, .un, v11.getD 18 .un], .ag [.ro 4 (AV.elems (v13.getD 0 .un))]]))
  (some (.tu [.tu [], .ag [v4.getD 0 .un, v4.getD 1 .un, v4.getD 2 .un, v4.getD 3 .un, v4.getD 4 .un, v4.getD 5 .un, v4.getD 6 .un, v4.getD 7 .un, v4.getD 8 .un, v4.getD 9 .un, .ro 1 (AV.elems (v4.getD 10 .un)), .ro 1 (AV.elems (v4.getD 11 .un)), v4.getD 12 .un, v4.getD 13 .un, v4.getD 14 .un, .ro 2 (AV.elems (v4.getD 15 .un)), v4.getD 16 .un, .un, v4.getD 18 .un], .ag [.ro 4 (AV.elems (v6.getD 0 .un))]]))
section
variable (call : CallT) (run : RunT) (a0 a1 : UInt8) (a2 : Bool) (a3 a4 a5 a6 : UInt8) (a7 : Bool) (a8 : UInt8) (a9 : List UInt8) (a10 a11 : UInt8) (a12 : Bool) (a13 a14 a15 a16 : UInt8) (a17 : Bool) (a18 : UInt8) (a19 : List UInt8) (a20 a21 : List AV) (a22 : Bool) (a23 : UInt8) (a24 : List UInt8) (a25 : List AV) (a26 : List UInt8) (a27 : Bool) (a28 : List AV)
theorem text47_12 : step C call 47 Tryd.f47 (unr C call run 47 Tryd.f47 400) K47_12 (S47_12 a0 a1 a2 a3 a4 a5 a6 a7 a8 a9 a10 a11 a12 a13 a14 a15 a16 a17 a18 a19 a20 a21 a22 a23 a24 a25 a26 a27 a28) = X47_12 call run a0 a1 a2 a3 a4 a5 a6 a7 a8 a9 a10 a11 a12 a13 a14 a15 a16 a17 a18 a19 a20 a21 a22 a23 a24 a25 a26 a27 a28 := by
  kernel_rfl
end
section
variable (a0 a1 : UInt8) (a2 : Bool) (a3 a4 a5 a6 : UInt8) (a7 : Bool) (a8 : UInt8) (a9 : List UInt8) (a10 a11 : UInt8) (a12 : Bool) (a13 a14 a15 a16 : UInt8) (a17 : Bool) (a18 : UInt8) (a19 : List UInt8) (a20 a21 : List AV) (a22 : Bool) (a23 : UInt8) (a24 : List UInt8) (a25 : List AV) (a26 : List UInt8) (a27 : Bool) (a28 : List AV)
theorem r47_12 {r : AV} (h : X47_12 (semCall C Tryd.prog) (semRun C Tryd.prog 47 Tryd.f47) a0 a1 a2 a3 a4 a5 a6 a7 a8 a9 a10 a11 a12 a13 a14 a15 a16 a17 a18 a19 a20 a21 a22 a23 a24 a25 a26 a27 a28 = some r) : F47_12 (semRun C Tryd.prog 47 Tryd.f47) a0 a1 a2 a3 a4 a5 a6 a7 a8 a9 a10 a11 a12 a13 a14 a15 a16 a17 a18 a19 a20 a21 a22 a23 a24 a25 a26 a27 a28 = some r :=
  semRun_unr 400 ((text47_12 _ _ a0 a1 a2 a3 a4 a5 a6 a7 a8 a9 a10 a11 a12 a13 a14 a15 a16 a17 a18 a19 a20 a21 a22 a23 a24 a25 a26 a27 a28).trans h)
end
end R4

namespace R4
open Go Go.Proofs Sx
noncomputable def body48 : Code := (Tryd.f48.body).getD .skip
section
variable (run : RunT) (a0 a1 : UInt8) (a2 : Bool) (a3 a4 a5 a6 : UInt8) (a7 : Bool) (a8 : UInt8) (a9 : List UInt8) (a10 a11 : List AV) (a12 : Bool) (a13 : UInt8) (a14 : List UInt8) (a15 : List AV) (a16 : AV) (a17 : Bool) (a18 : List AV)
noncomputable def K48_3 : List Item := (kAt 3 body48 []).getD []
def S48_3 : St := St.ofL [(0, .cell (.ptr 58 0))] [(58, some [.val (.u8 a0), .val (.u8 a1), .val (.b a2), .val (.u8 a3), .val (.u8 a4), .val (.u8 a5), .val (.u8 a6), .val (.b a7), .val (.u8 a8), .val (.s a9), .own 658010 5 1 a10, .own 658011 5 1 a11, .val (.b a12), .val (.u8 a13), .val (.s a14), .own 658015 45 2 a15, .val (a16), .clo 18 [59], .val (.b a17)]), (59, some [.own 659000 39 4 a18])]
noncomputable def F48_3 : Option AV := run K48_3 (S48_3 a0 a1 a2 a3 a4 a5 a6 a7 a8 a9 a10 a11 a12 a13 a14 a15 a16 a17 a18)
end
noncomputable def X48 (call : CallT) (run : RunT) (a0 a1 : UInt8) (a2 : Bool) (a3 a4 a5 a6 : UInt8) (a7 : Bool) (a8 : UInt8) (a9 : List UInt8) (a10 a11 a12 : UInt8) (a13 : Bool) (a14 a15 a16 a17 : UInt8) (a18 : Bool) (a19 : UInt8) (a20 : List UInt8) (a21 a22 : List AV) (a23 : Bool) (a24 : UInt8) (a25 : List UInt8) (a26 : List AV) (a27 : List UInt8) (a28 : Bool) (a29 : List AV) : Option AV :=
  condM (.b (ueq a11 13))
  (some (.tu [.tu [], .ag [.u8 a11, .u8 a12, .b a13, .u8 a14, .u8 a15, .u8 a16, .u8 a17, .b a18, .u8 a19, .s a20, .ro 1 a21, .ro 1 a22, .b a23, .u8 3, .s [], .ro 2 [], .s [], .un, .b a28], .ag [.ro 4 a29]]))
  (condM (.b (une a11 0))
  ((b2s (.ro 1 (([.u8 a10] : List AV)))).bind fun v1 => (binS .add (.s a27) (v1)).bind fun v2 => (AV.one (v2)).bind fun v3 => some (.tu [.tu [], .ag [.u8 a11, .u8 a12, .b a13, .u8 a14, .u8 a15, .u8 a16, .u8 a17, .b a18, .u8 a19, .s a20, .ro 1 a21, .ro 1 a22, .b a23, .u8 a24, .s a25, .ro 2 a26, v3, .un, .b a28], .ag [.ro 4 a29]]))
  (condM (.b (ueq a0 15))
  ((slS (.s a27) none (some (.int (w64 (((a27.length : Int)) - 2))))).bind fun v4 => (AV.one (v4)).bind fun v5 => F48_3 run a11 a12 a13 a14 a15 a16 a17 a18 a19 a20 a21 a22 a23 a24 a25 a26 (v5) a28 a29)
  (F48_3 run a11 a12 a13 a14 a15 a16 a17 a18 a19 a20 a21 a22 a23 a24 a25 a26 (.s a27) a28 a29)))
section
variable (call : CallT) (run : RunT) (a0 a1 : UInt8) (a2 : Bool) (a3 a4 a5 a6 : UInt8) (a7 : Bool) (a8 : UInt8) (a9 : List UInt8) (a10 a11 a12 : UInt8) (a13 : Bool) (a14 a15 a16 a17 : UInt8) (a18 : Bool) (a19 : UInt8) (a20 : List UInt8) (a21 a22 : List AV) (a23 : Bool) (a24 : UInt8) (a25 : List UInt8) (a26 : List AV) (a27 : List UInt8) (a28 : Bool) (a29 : List AV)
theorem text48 : unr C call run 48 Tryd.f48 400 [.code body48] (initF C 48 Tryd.f48.ntmps [.un, .ag [.u8 a0, .u8 a1, .b a2, .u8 a3, .u8 a4, .u8 a5, .u8 a6, .b a7, .u8 a8, .s a9], .u8 a10, .ag [.u8 a11, .u8 a12, .b a13, .u8 a14, .u8 a15, .u8 a16, .u8 a17, .b a18, .u8 a19, .s a20, .ro 1 a21, .ro 1 a22, .b a23, .u8 a24, .s a25, .ro 2 a26, .s a27, .un, .b a28], .ag [.ro 4 a29]]) = X48 call run a0 a1 a2 a3 a4 a5 a6 a7 a8 a9 a10 a11 a12 a13 a14 a15 a16 a17 a18 a19 a20 a21 a22 a23 a24 a25 a26 a27 a28 a29 := by
  kernel_rfl
theorem c48 {r : AV} (h : X48 (semCall C Tryd.prog) (semRun C Tryd.prog 48 Tryd.f48) a0 a1 a2 a3 a4 a5 a6 a7 a8 a9 a10 a11 a12 a13 a14 a15 a16 a17 a18 a19 a20 a21 a22 a23 a24 a25 a26 a27 a28 a29 = some r) : semCall C Tryd.prog 48 [.un, .ag [.u8 a0, .u8 a1, .b a2, .u8 a3, .u8 a4, .u8 a5, .u8 a6, .b a7, .u8 a8, .s a9], .u8 a10, .ag [.u8 a11, .u8 a12, .b a13, .u8 a14, .u8 a15, .u8 a16, .u8 a17, .b a18, .u8 a19, .s a20, .ro 1 a21, .ro 1 a22, .b a23, .u8 a24, .s a25, .ro 2 a26, .s a27, .un, .b a28], .ag [.ro 4 a29]] = some r :=
  semCall_unr (fn := Tryd.f48) (c := body48) (by kernel_rfl) (by kernel_rfl) 400 (by kernel_rfl) ((text48 _ _ a0 a1 a2 a3 a4 a5 a6 a7 a8 a9 a10 a11 a12 a13 a14 a15 a16 a17 a18 a19 a20 a21 a22 a23 a24 a25 a26 a27 a28 a29).trans h)
end
noncomputable def X48_3 (call : CallT) (run : RunT) (a0 a1 : UInt8) (a2 : Bool) (a3 a4 a5 a6 : UInt8) (a7 : Bool) (a8 : UInt8) (a9 : List UInt8) (a10 a11 : List AV) (a12 : Bool) (a13 : UInt8) (a14 : List UInt8) (a15 : List AV) (a16 : AV) (a17 : Bool) (a18 : List AV) : Option AV :=
  (call 73 [.un, .ag [.u8 a0, .u8 a1, .b a2, .u8 a3, .u8 a4, .u8 a5, .u8 a6, .b a7, .u8 a8, .s a9, .ro 1 a10, .ro 1 a11, .b a12, .u8 a13, .s a14, .ro 2 a15, a16, .un, .b a17], .ag [.ro 4 a18]]).bind fun v1 => (tupI v1 0).bind fun v2 => (tupI v1 1).bind fun v3 => (AV.asAg 19 v3).bind fun v4 => (tupI v1 2).bind fun v5 => (AV.asAg 1 v5).bind fun v6 => some (.tu [.tu [], .ag [v4.getD 0 .un, v4.getD 1 .un, v4.getD 2 .un, v4.getD 3 .un, v4.getD 4 .un, v4.getD 5 .un, v4.getD 6 .un, v4.getD 7 .un, v4.getD 8 .un, v4.getD 9 .un, .ro 1 (AV.elems (v4.getD 10 .un)), .ro 1 (AV.elems (v4.getD 11 .un)), v4.getD 12 .un, v4.getD 13 .un, v4.getD 14 .un, .ro 2 (AV.elems (v4.getD 15 .un)), v4.getD 16 .un, .un, v4.getD 18 .un], .ag [.ro 4 (AV.elems (v6.getD 0 .un))]])
section
variable (call : CallT) (run : RunT) (a0 a1 : UInt8) (a2 : Bool) (a3 a4 a5 a6 : UInt8) (a7 : Bool) (a8 : UInt8) (a9 : List UInt8) (a10 a11 : List AV) (a12 : Bool) (a13 : UInt8) (a14 : List UInt8) (a15 : List AV) (a16 : AV) (a17 : Bool) (a18 : List AV)
theorem text48_3 : step C call 48 Tryd.f48 (unr C call run 48 Tryd.f48 400) K48_3 (S48_3 a0 a1 a2 a3 a4 a5 a6 a7 a8 a9 a10 a11 a12 a13 a14 a15 a16 a17 a18) = X48_3 call run a0 a1 a2 a3 a4 a5 a6 a7 a8 a9 a10 a11 a12 a13 a14 a15 a16 a17 a18 := by
  kernel_rfl
end
section
variable (a0 a1 : UInt8) (a2 : Bool) (a3 a4 a5 a6 : UInt8) (a7 : Bool) (a8 : UInt8) (a9 : List UInt8) (a10 a11 : List AV) (a12 : Bool) (a13 : UInt8) (a14 : List UInt8) (a15 : List AV) (a16 : AV) (a17 : Bool) (a18 : List AV)
theorem r48_3 {r : AV} (h : X48_3 (semCall C Tryd.prog) (semRun C Tryd.prog 48 Tryd.f48) a0 a1 a2 a3 a4 a5 a6 a7 a8 a9 a10 a11 a12 a13 a14 a15 a16 a17 a18 = some r) : F48_3 (semRun C Tryd.prog 48 Tryd.f48) a0 a1 a2 a3 a4 a5 a6 a7 a8 a9 a10 a11 a12 a13 a14 a15 a16 a17 a18 = some r :=
  semRun_unr 400 ((text48_3 _ _ a0 a1 a2 a3 a4 a5 a6 a7 a8 a9 a10 a11 a12 a13 a14 a15 a16 a17 a18).trans h)
end
end R4

namespace R4
open Go Go.Proofs Sx
noncomputable def body49 : Code := (Tryd.f49.body).getD .skip
section
variable (run : RunT) (a0 : Int) (a1 a2 : UInt8) (a3 : Bool) (a4 a5 a6 a7 : UInt8) (a8 : Bool) (a9 : UInt8) (a10 : List UInt8) (a11 a12 : List AV) (a13 : Bool) (a14 : UInt8) (a15 : List UInt8) (a16 : List AV) (a17 : List UInt8) (a18 : Bool) (a19 : List AV)
noncomputable def K49_9 : List Item := (kAt 9 body49 []).getD []
def S49_9 : St := St.ofL [(0, .cell (.ptr 96 0)), (6, .cell (.val (.int a0)))] [(96, some [.val (.u8 a1), .val (.u8 a2), .val (.b a3), .val (.u8 a4), .val (.u8 a5), .val (.u8 a6), .val (.u8 a7), .val (.b a8), .val (.u8 a9), .val (.s a10), .own 696010 5 1 a11, .own 696011 5 1 a12, .val (.b a13), .val (.u8 a14), .val (.s a15), .own 696015 45 2 a16, .val (.s a17), .clo 18 [97], .val (.b a18)]), (97, some [.own 697000 39 4 a19])]
noncomputable def F49_9 : Option AV := run K49_9 (S49_9 a0 a1 a2 a3 a4 a5 a6 a7 a8 a9 a10 a11 a12 a13 a14 a15 a16 a17 a18 a19)
end
section
variable (run : RunT) (a0 a1 : UInt8) (a2 : Bool) (a3 a4 a5 a6 : UInt8) (a7 : Bool) (a8 : UInt8) (a9 : List UInt8) (a10 a11 : List AV) (a12 : Bool) (a13 : UInt8) (a14 : List UInt8) (a15 : List AV) (a16 : List UInt8) (a17 : Bool) (a18 : List AV)
noncomputable def K49_15 : List Item := (kAt 15 body49 []).getD []
def S49_15 : St := St.ofL [(0, .cell (.ptr 96 0))] [(96, some [.val (.u8 a0), .val (.u8 a1), .val (.b a2), .val (.u8 a3), .val (.u8 a4), .val (.u8 a5), .val (.u8 a6), .val (.b a7), .val (.u8 a8), .val (.s a9), .own 696010 5 1 a10, .own 696011 5 1 a11, .val (.b a12), .val (.u8 a13), .val (.s a14), .own 696015 45 2 a15, .val (.s a16), .clo 18 [97], .val (.b a17)]), (97, some [.own 697000 39 4 a18])]
noncomputable def F49_15 : Option AV := run K49_15 (S49_15 a0 a1 a2 a3 a4 a5 a6 a7 a8 a9 a10 a11 a12 a13 a14 a15 a16 a17 a18)
end
noncomputable def X49 (call : CallT) (run : RunT) (a0 a1 : UInt8) (a2 : Bool) (a3 a4 a5 a6 : UInt8) (a7 : Bool) (a8 : UInt8) (a9 : List UInt8) (a10 a11 a12 : UInt8) (a13 : Bool) (a14 a15 a16 a17 : UInt8) (a18 : Bool) (a19 : UInt8) (a20 : List UInt8) (a21 a22 : List AV) (a23 : Bool) (a24 : UInt8) (a25 : List UInt8) (a26 : List AV) (a27 : List UInt8) (a28 : Bool) (a29 : List AV) : Option AV :=
  condM (.b (ueq a11 3))
  (some (.tu [.tu [], .ag [.u8 a11, .u8 a12, .b a13, .u8 a14, .u8 a15, .u8 a16, .u8 a17, .b a18, .u8 a19, .s a20, .ro 1 a21, .ro 1 a22, .b a23, .u8 a24, .s a20, .ro 2 a26, .s a27, .un, .b a28], .ag [.ro 4 a29]]))
  (condM (.b (ueq a11 5))
  (condM (.b (une a0 5))
  ((app 32 2 a26 (.ro 2 (([.ag [.s [], .s []]] : List AV)))).bind fun v1 => F49_9 run (w64 (((a26.length : Int)) + 1)) a11 a12 a13 a14 a15 a16 a17 a18 a19 a20 a21 a22 a23 a24 a25 v1 a27 a28 a29)
  (F49_9 run ((a26.length : Int)) a11 a12 a13 a14 a15 a16 a17 a18 a19 a20 a21 a22 a23 a24 a25 a26 a27 a28 a29))
  (condM (.b (ueq a11 8))
  ((selW (.b (ueq a0 8)) false (some (.b (ueq a15 0))) (.b true)).bind fun v2 => condM (v2)
  ((inN a26.length (.int (w64 (((a26.length : Int)) - 1)))).bind fun v3 => (b2s (.ro 1 (([.u8 a10] : List AV)))).bind fun v4 => (binS .add (AV.cell (a26.getD v3 .un) 1) (v4)).bind fun v5 => (inN a26.length (.int (w64 (((a26.length : Int)) - 1)))).bind fun v6 => (AV.one (v5)).bind fun v7 => some (.tu [.tu [], .ag [.u8 a11, .u8 a12, .b a13, .u8 a14, .u8 a15, .u8 a16, .u8 a17, .b a18, .u8 a19, .s a20, .ro 1 a21, .ro 1 a22, .b a23, .u8 a24, .s a25, .ro 2 (a26.set v6 (.ag [AV.cell (a26.getD v6 .un) 0, v7])), .s a27, .un, .b a28], .ag [.ro 4 a29]]))
  (some (.tu [.tu [], .ag [.u8 a11, .u8 a12, .b a13, .u8 a14, .u8 a15, .u8 a16, .u8 a17, .b a18, .u8 a19, .s a20, .ro 1 a21, .ro 1 a22, .b a23, .u8 a24, .s a25, .ro 2 a26, .s a27, .un, .b a28], .ag [.ro 4 a29]])))
  (condM (.b (ueq a11 0))
  (F49_15 run a11 a12 a13 a14 a15 a16 a17 a18 a19 a20 a21 a22 a23 a24 a25 a26 a27 a28 a29)
  (condM (.b (ueq a11 17))
  (F49_15 run a11 a12 a13 a14 a15 a16 a17 a18 a19 a20 a21 a22 a23 a24 a25 a26 a27 a28 a29)
  (some (.tu [.tu [], .ag [.u8 a11, .u8 a12, .b a13, .u8 a14, .u8 a15, .u8 a16, .u8 a17, .b a18, .u8 a19, .s a20, .ro 1 a21, .ro 1 a22, .b a23, .u8 a24, .s a25, .ro 2 a26, .s a27, .un, .b a28], .ag [.ro 4 a29]]))))))
section
variable (call : CallT) (run : RunT) (a0 a1 : UInt8) (a2 : Bool) (a3 a4 a5 a6 : UInt8) (a7 : Bool) (a8 : UInt8) (a9 : List UInt8) (a10 a11 a12 : UInt8) (a13 : Bool) (a14 a15 a16 a17 : UInt8) (a18 : Bool) (a19 : UInt8) (a20 : List UInt8) (a21 a22 : List AV) (a23 : Bool) (a24 : UInt8) (a25 : List UInt8) (a26 : List AV) (a27 : List UInt8) (a28 : Bool) (a29 : List AV)
theorem text49 : unr C call run 49 Tryd.f49 400 [.code body49] (initF C 49 Tryd.f49.ntmps [.un, .ag [.u8 a0, .u8 a1, .b a2, .u8 a3, .u8 a4, .u8 a5, .u8 a6, .b a7, .u8 a8, .s a9], .u8 a10, .ag [.u8 a11, .u8 a12, .b a13, .u8 a14, .u8 a15, .u8 a16, .u8 a17, .b a18, .u8 a19, .s a20, .ro 1 a21, .ro 1 a22, .b a23, .u8 a24, .s a25, .ro 2 a26, .s a27, .un, .b a28], .ag [.ro 4 a29]]) = X49 call run a0 a1 a2 a3 a4 a5 a6 a7 a8 a9 a10 a11 a12 a13 a14 a15 a16 a17 a18 a19 a20 a21 a22 a23 a24 a25 a26 a27 a28 a29 := by
  kernel_rfl
theorem c49 {r : AV} (h : X49 (semCall C Tryd.prog) (semRun C Tryd.prog 49 Tryd.f49) a0 a1 a2 a3 a4 a5 a6 a7 a8 a9 a10 a11 a12 a13 a14 a15 a16 a17 a18 a19 a20 a21 a22 a23 a24 a25 a26 a27 a28 a29 = some r) : semCall C Tryd.prog 49 [.un, .ag [.u8 a0, .u8 a1, .b a2, .u8 a3, .u8 a4, .u8 a5, .u8 a6, .b a7, .u8 a8, .s a9], .u8 a10, .ag [.u8 a11, .u8 a12, .b a13, .u8 a14, .u8 a15, .u8 a16, .u8 a17, .b a18, .u8 a19, .s a20, .ro 1 a21, .ro 1 a22, .b a23, .u8 a24, .s a25, .ro 2 a26, .s a27, .un, .b a28], .ag [.ro 4 a29]] = some r :=
  semCall_unr (fn := Tryd.f49) (c := body49) (by kernel_rfl) (by kernel_rfl) 400 (by kernel_rfl) ((text49 _ _ a0 a1 a2 a3 a4 a5 a6 a7 a8 a9 a10 a11 a12 a13 a14 a15 a16 a17 a18 a19 a20 a21 a22 a23 a24 a25 a26 a27 a28 a29).trans h)
end
noncomputable def X49_9 (call : CallT) (run : RunT) (a0 : Int) (a1 a2 : UInt8) (a3 : Bool) (a4 a5 a6 a7 : UInt8) (a8 : Bool) (a9 : UInt8) (a10 : List UInt8) (a11 a12 : List AV) (a13 : Bool) (a14 : UInt8) (a15 : List UInt8) (a16 : List AV) (a17 : List UInt8) (a18 : Bool) (a19 : List AV) : Option AV :=
  (inN a16.length (.int (w64 (a0 - 1)))).bind fun v1 => some (.tu [.tu [], .ag [.u8 a1, .u8 a2, .b a3, .u8 a4, .u8 a5, .u8 a6, .u8 a7, .b a8, .u8 a9, .s a10, .ro 1 a11, .ro 1 a12, .b a13, .u8 a14, .s a15, .ro 2 (a16.set v1 (.ag [.s a10, AV.cell (a16.getD v1 .un) 1])), .s a17, .un, .b a18], .ag [.ro 4 a19]])
section
variable (call : CallT) (run : RunT) (a0 : Int) (a1 a2 : UInt8) (a3 : Bool) (a4 a5 a6 a7 : UInt8) (a8 : Bool) (a9 : UInt8) (a10 : List UInt8) (a11 a12 : List AV) (a13 : Bool) (a14 : UInt8) (a15 : List UInt8) (a16 : List AV) (a17 : List UInt8) (a18 : Bool) (a19 : List AV)
theorem text49_9 : step C call 49 Tryd.f49 (unr C call run 49 Tryd.f49 400) K49_9 (S49_9 a0 a1 a2 a3 a4 a5 a6 a7 a8 a9 a10 a11 a12 a13 a14 a15 a16 a17 a18 a19) = X49_9 call run a0 a1 a2 a3 a4 a5 a6 a7 a8 a9 a10 a11 a12 a13 a14 a15 a16 a17 a18 a19 := by
  kernel_rfl
end
noncomputable def X49_15 (call : CallT) (run : RunT) (a0 a1 : UInt8) (a2 : Bool) (a3 a4 a5 a6 : UInt8) (a7 : Bool) (a8 : UInt8) (a9 : List UInt8) (a10 a11 : List AV) (a12 : Bool) (a13 : UInt8) (a14 : List UInt8) (a15 : List AV) (a16 : List UInt8) (a17 : Bool) (a18 : List AV) : Option AV :=
  (call 73 [.un, .ag [.u8 a0, .u8 a1, .b a2, .u8 a3, .u8 a4, .u8 a5, .u8 a6, .b a7, .u8 a8, .s a9, .ro 1 a10, .ro 1 a11, .b a12, .u8 a13, .s a14, .ro 2 a15, .s a16, .un, .b a17], .ag [.ro 4 a18]]).bind fun v1 => (tupI v1 0).bind fun v2 => (tupI v1 1).bind fun v3 => (AV.asAg 19 v3).bind fun v4 => (tupI v1 2).bind fun v5 => (AV.asAg 1 v5).bind fun v6 => some (.tu [.tu [], .ag [v4.getD 0 .un, v4.getD 1 .un, v4.getD 2 .un, v4.getD 3 .un, v4.getD 4 .un, v4.getD 5 .un, v4.getD 6 .un, v4.getD 7 .un, v4.getD 8 .un, v4.getD 9 .un, .ro 1 (AV.elems (v4.getD 10 .un)), .ro 1 (AV.elems (v4.getD 11 .un)), v4.getD 12 .un, v4.getD 13 .un, v4.getD 14 .un, .ro 2 (AV.elems (v4.getD 15 .un)), v4.getD 16 .un, .un, v4.getD 18 .un], .ag [.ro 4 (AV.elems (v6.getD 0 .un))]])
section
variable (call : CallT) (run : RunT) (a0 a1 : UInt8) (a2 : Bool) (a3 a4 a5 a6 : UInt8) (a7 : Bool) (a8 : UInt8) (a9 : List UInt8) (a10 a11 : List AV) (a12 : Bool) (a13 : UInt8) (a14 : List UInt8) (a15 : List AV) (a16 : List UInt8) (a17 : Bool) (a18 : List AV)
theorem text49_15 : step C call 49 Tryd.f49 (unr C call run 49 Tryd.f49 400) K49_15 (S49_15 a0 a1 a2 a3 a4 a5 a6 a7 a8 a9 a10 a11 a12 a13 a14 a15 a16 a17 a18) = X49_15 call run a0 a1 a2 a3 a4 a5 a6 a7 a8 a9 a10 a11 a12 a13 a14 a15 a16 a17 a18 := by
  kernel_rfl
end
section
variable (a0 : Int) (a1 a2 : UInt8) (a3 : Bool) (a4 a5 a6 a7 : UInt8) (a8 : Bool) (a9 : UInt8) (a10 : List UInt8) (a11 a12 : List AV) (a13 : Bool) (a14 : UInt8) (a15 : List UInt8) (a16 : List AV) (a17 : List UInt8) (a18 : Bool) (a19 : List AV)
theorem r49_9 {r : AV} (h : X49_9 (semCall C Tryd.prog) (semRun C Tryd.prog 49 Tryd.f49) a0 a1 a2 a3 a4 a5 a6 a7 a8 a9 a10 a11 a12 a13 a14 a15 a16 a17 a18 a19 = some r) : F49_9 (semRun C Tryd.prog 49 Tryd.f49) a0 a1 a2 a3 a4 a5 a6 a7 a8 a9 a10 a11 a12 a13 a14 a15 a16 a17 a18 a19 = some r :=
  semRun_unr 400 ((text49_9 _ _ a0 a1 a2 a3 a4 a5 a6 a7 a8 a9 a10 a11 a12 a13 a14 a15 a16 a17 a18 a19).trans h)
end
section
variable (a0 a1 : UInt8) (a2 : Bool) (a3 a4 a5 a6 : UInt8) (a7 : Bool) (a8 : UInt8) (a9 : List UInt8) (a10 a11 : List AV) (a12 : Bool) (a13 : UInt8) (a14 : List UInt8) (a15 : List AV) (a16 : List UInt8) (a17 : Bool) (a18 : List AV)
theorem r49_15 {r : AV} (h : X49_15 (semCall C Tryd.prog) (semRun C Tryd.prog 49 Tryd.f49) a0 a1 a2 a3 a4 a5 a6 a7 a8 a9 a10 a11 a12 a13 a14 a15 a16 a17 a18 = some r) : F49_15 (semRun C Tryd.prog 49 Tryd.f49) a0 a1 a2 a3 a4 a5 a6 a7 a8 a9 a10 a11 a12 a13 a14 a15 a16 a17 a18 = some r :=
  semRun_unr 400 ((text49_15 _ _ a0 a1 a2 a3 a4 a5 a6 a7 a8 a9 a10 a11 a12 a13 a14 a15 a16 a17 a18).trans h)
end
end R4

namespace R4
open Go Go.Proofs Sx
noncomputable def body50 : Code := (Tryd.f50.body).getD .skip
noncomputable def X50 (call : CallT) (run : RunT) (a0 : UInt8) (a1 : List UInt8) (a2 : AV) (a3 : List UInt8) (a4 a5 : UInt8) (a6 : Bool) (a7 a8 a9 a10 : UInt8) (a11 : Bool) (a12 : UInt8) (a13 : List UInt8) (a14 a15 : List AV) (a16 : Bool) (a17 : UInt8) (a18 : List UInt8) (a19 : AV) (a20 : List UInt8) (a21 : Bool) (a22 : List AV) : Option AV :=
  condM (.b (!a21))
  ((call 18 [.ag [.u8 a0, .s a1, a2, .s a3], .un, .ag [.ro 4 a22]]).bind fun v1 => (tupI v1 0).bind fun v2 => (tupI v1 1).bind fun v3 => (AV.asAg 1 v3).bind fun v4 => (unop .not (v2)).bind fun v5 => condM (v5)
  (some (.tu [.tu [], .ag [.u8 a4, .u8 a5, .b a6, .u8 a7, .u8 a8, .u8 a9, .u8 a10, .b a11, .u8 a12, .s a13, .ro 1 a14, .ro 1 a15, .b a16, .u8 a17, .s a18, a19, .s a20, .un, .b true], .ag [.ro 4 (AV.elems (v4.getD 0 .un))]]))
  (some (.tu [.tu [], .ag [.u8 a4, .u8 a5, .b a6, .u8 a7, .u8 a8, .u8 a9, .u8 a10, .b a11, .u8 a12, .s a13, .ro 1 a14, .ro 1 a15, .b a16, .u8 a17, .s a18, a19, .s a20, .un, .b a21], .ag [.ro 4 (AV.elems (v4.getD 0 .un))]])))
  (some (.tu [.tu [], .ag [.u8 a4, .u8 a5, .b a6, .u8 a7, .u8 a8, .u8 a9, .u8 a10, .b a11, .u8 a12, .s a13, .ro 1 a14, .ro 1 a15, .b a16, .u8 a17, .s a18, a19, .s a20, .un, .b a21], .ag [.ro 4 a22]]))
section
variable (call : CallT) (run : RunT) (a0 : UInt8) (a1 : List UInt8) (a2 : AV) (a3 : List UInt8) (a4 a5 : UInt8) (a6 : Bool) (a7 a8 a9 a10 : UInt8) (a11 : Bool) (a12 : UInt8) (a13 : List UInt8) (a14 a15 : List AV) (a16 : Bool) (a17 : UInt8) (a18 : List UInt8) (a19 : AV) (a20 : List UInt8) (a21 : Bool) (a22 : List AV)
theorem text50 : unr C call run 50 Tryd.f50 400 [.code body50] (initF C 50 Tryd.f50.ntmps [.un, .ag [.u8 a0, .s a1, a2, .s a3], .ag [.u8 a4, .u8 a5, .b a6, .u8 a7, .u8 a8, .u8 a9, .u8 a10, .b a11, .u8 a12, .s a13, .ro 1 a14, .ro 1 a15, .b a16, .u8 a17, .s a18, a19, .s a20, .un, .b a21], .ag [.ro 4 a22]]) = X50 call run a0 a1 a2 a3 a4 a5 a6 a7 a8 a9 a10 a11 a12 a13 a14 a15 a16 a17 a18 a19 a20 a21 a22 := by
  kernel_rfl
theorem c50 {r : AV} (h : X50 (semCall C Tryd.prog) (semRun C Tryd.prog 50 Tryd.f50) a0 a1 a2 a3 a4 a5 a6 a7 a8 a9 a10 a11 a12 a13 a14 a15 a16 a17 a18 a19 a20 a21 a22 = some r) : semCall C Tryd.prog 50 [.un, .ag [.u8 a0, .s a1, a2, .s a3], .ag [.u8 a4, .u8 a5, .b a6, .u8 a7, .u8 a8, .u8 a9, .u8 a10, .b a11, .u8 a12, .s a13, .ro 1 a14, .ro 1 a15, .b a16, .u8 a17, .s a18, a19, .s a20, .un, .b a21], .ag [.ro 4 a22]] = some r :=
  semCall_unr (fn := Tryd.f50) (c := body50) (by kernel_rfl) (by kernel_rfl) 400 (by kernel_rfl) ((text50 _ _ a0 a1 a2 a3 a4 a5 a6 a7 a8 a9 a10 a11 a12 a13 a14 a15 a16 a17 a18 a19 a20 a21 a22).trans h)
end
end R4

namespace R4
open Go Go.Proofs Sx
noncomputable def body51 : Code := (Tryd.f51.body).getD .skip
noncomputable def X51 (call : CallT) (run : RunT) (a0 a1 : UInt8) (a2 : Bool) (a3 a4 a5 a6 : UInt8) (a7 : Bool) (a8 : UInt8) (a9 : List UInt8) : Option AV :=
  (selW (.b ((w64 (a0.toNat : Int)) == 8)) true ((selW (.b (ueq a3 2)) false (some (.b (ueq a3 3))) (.b true)).bind fun v1 => some (v1)) (.b false)).bind fun v2 => (selW (v2) false ((selW (.b (decide ((w64 (a0.toNat : Int)) ≥ 17))) true (some (.b (decide ((w64 (a0.toNat : Int)) ≤ 19)))) (.b false)).bind fun v3 => (selW (v3) true ((selW (.b (ueq a1 3)) false (some (.b (ueq a1 4))) (.b true)).bind fun v4 => some (v4)) (.b false)).bind fun v5 => some (v5)) (.b true)).bind fun v6 => some (v6)
section
variable (call : CallT) (run : RunT) (a0 a1 : UInt8) (a2 : Bool) (a3 a4 a5 a6 : UInt8) (a7 : Bool) (a8 : UInt8) (a9 : List UInt8)
theorem text51 : unr C call run 51 Tryd.f51 400 [.code body51] (initF C 51 Tryd.f51.ntmps [.ag [.u8 a0, .u8 a1, .b a2, .u8 a3, .u8 a4, .u8 a5, .u8 a6, .b a7, .u8 a8, .s a9]]) = X51 call run a0 a1 a2 a3 a4 a5 a6 a7 a8 a9 := by
  kernel_rfl
theorem c51 {r : AV} (h : X51 (semCall C Tryd.prog) (semRun C Tryd.prog 51 Tryd.f51) a0 a1 a2 a3 a4 a5 a6 a7 a8 a9 = some r) : semCall C Tryd.prog 51 [.ag [.u8 a0, .u8 a1, .b a2, .u8 a3, .u8 a4, .u8 a5, .u8 a6, .b a7, .u8 a8, .s a9]] = some r :=
  semCall_unr (fn := Tryd.f51) (c := body51) (by kernel_rfl) (by kernel_rfl) 400 (by kernel_rfl) ((text51 _ _ a0 a1 a2 a3 a4 a5 a6 a7 a8 a9).trans h)
end
end R4

namespace R4
open Go Go.Proofs Sx
noncomputable def body52 : Code := (Tryd.f52.body).getD .skip
section
variable (run : RunT) (a0 : List UInt8) (a1 a2 : Int)
noncomputable def K52_2 : List Item := (kAt 2 body52 []).getD []
def S52_2 : St := St.ofL [(0, .cell (.val (.s a0))), (1, .cell (.val (.int a1))), (5, .cell (.val (.int a2)))] []
noncomputable def F52_2 : Option AV := run K52_2 (S52_2 a0 a1 a2)
end
noncomputable def X52 (call : CallT) (run : RunT) (a0 : List UInt8) (a1 : Int) : Option AV :=
  F52_2 run a0 a1 0
section
variable (call : CallT) (run : RunT) (a0 : List UInt8) (a1 : Int)
theorem text52 : unr C call run 52 Tryd.f52 400 [.code body52] (initF C 52 Tryd.f52.ntmps [.s a0, .int a1]) = X52 call run a0 a1 := by
  kernel_rfl
theorem c52 {r : AV} (h : X52 (semCall C Tryd.prog) (semRun C Tryd.prog 52 Tryd.f52) a0 a1 = some r) : semCall C Tryd.prog 52 [.s a0, .int a1] = some r :=
  semCall_unr (fn := Tryd.f52) (c := body52) (by kernel_rfl) (by kernel_rfl) 400 (by kernel_rfl) ((text52 _ _ a0 a1).trans h)
end
noncomputable def X52_2 (call : CallT) (run : RunT) (a0 : List UInt8) (a1 a2 : Int) : Option AV :=
  condM (.b (decide (a2 < ((a0.length : Int)))))
  ((idxS (.s a0) (.int a2)).bind fun v1 => (binI .geq (v1) (.u8 65)).bind fun v2 => (selW (v2) true ((idxS (.s a0) (.int a2)).bind fun v3 => (binI .leq (v3) (.u8 90)).bind fun v4 => some (v4)) (.b false)).bind fun v5 => condM (v5)
  (some (.b false))
  (F52_2 run a0 a1 (w64 (a2 + 1))))
  ((selW (.b (decide (((a0.length : Int)) > 0))) true (some (.b (decide (((a0.length : Int)) ≤ a1)))) (.b false)).bind fun v6 => some (v6))
section
variable (call : CallT) (run : RunT) (a0 : List UInt8) (a1 a2 : Int)
theorem text52_2 : step C call 52 Tryd.f52 (unr C call run 52 Tryd.f52 400) K52_2 (S52_2 a0 a1 a2) = X52_2 call run a0 a1 a2 := by
  kernel_rfl
end
section
variable (a0 : List UInt8) (a1 a2 : Int)
theorem r52_2 {r : AV} (h : X52_2 (semCall C Tryd.prog) (semRun C Tryd.prog 52 Tryd.f52) a0 a1 a2 = some r) : F52_2 (semRun C Tryd.prog 52 Tryd.f52) a0 a1 a2 = some r :=
  semRun_unr 400 ((text52_2 _ _ a0 a1 a2).trans h)
end
end R4

namespace R4
open Go Go.Proofs Sx
noncomputable def body53 : Code := (Tryd.f53.body).getD .skip
noncomputable def X53 (call : CallT) (run : RunT) (a0 : Int) : Option AV :=
  (conv .u8 (.int a0)).bind fun v1 => (AV.one (v1)).bind fun v2 => some (.ag [v2, .u8 0, .b false, .u8 0, .u8 0, .u8 0, .u8 0, .b false, .u8 0, .s []])
section
variable (call : CallT) (run : RunT) (a0 : Int)
theorem text53 : unr C call run 53 Tryd.f53 400 [.code body53] (initF C 53 Tryd.f53.ntmps [.int a0]) = X53 call run a0 := by
  kernel_rfl
theorem c53 {r : AV} (h : X53 (semCall C Tryd.prog) (semRun C Tryd.prog 53 Tryd.f53) a0 = some r) : semCall C Tryd.prog 53 [.int a0] = some r :=
  semCall_unr (fn := Tryd.f53) (c := body53) (by kernel_rfl) (by kernel_rfl) 400 (by kernel_rfl) ((text53 _ _ a0).trans h)
end
end R4

namespace R4
open Go Go.Proofs Sx
noncomputable def body54 : Code := (Tryd.f54.body).getD .skip
noncomputable def X54 (call : CallT) (run : RunT) (a0 : UInt8) : Option AV :=
  (selW (.b (uge a0 97)) true (some (.b (ule a0 122))) (.b false)).bind fun v1 => (selW (v1) false ((selW (.b (uge a0 65)) true (some (.b (ule a0 90))) (.b false)).bind fun v2 => some (v2)) (.b true)).bind fun v3 => some (v3)
section
variable (call : CallT) (run : RunT) (a0 : UInt8)
theorem text54 : unr C call run 54 Tryd.f54 400 [.code body54] (initF C 54 Tryd.f54.ntmps [.u8 a0]) = X54 call run a0 := by
  kernel_rfl
theorem c54 {r : AV} (h : X54 (semCall C Tryd.prog) (semRun C Tryd.prog 54 Tryd.f54) a0 = some r) : semCall C Tryd.prog 54 [.u8 a0] = some r :=
  semCall_unr (fn := Tryd.f54) (c := body54) (by kernel_rfl) (by kernel_rfl) 400 (by kernel_rfl) ((text54 _ _ a0).trans h)
end
end R4

namespace R4
open Go Go.Proofs Sx
noncomputable def body55 : Code := (Tryd.f55.body).getD .skip
section
variable (run : RunT) (a0 : List UInt8) (a1 : List AV) (a2 : Int)
noncomputable def K55_3 : List Item := (kAt 3 body55 []).getD []
def S55_3 : St := St.ofL [(0, .cell (.val (.s a0))), (3, .cell (.own 5 9 1 a1)), (4, .cell (.val (.int a2)))] []
noncomputable def F55_3 : Option AV := run K55_3 (S55_3 a0 a1 a2)
end
noncomputable def X55 (call : CallT) (run : RunT) (a0 : List UInt8) : Option AV :=
  F55_3 run a0 (([.s [], .s [116, 101, 120, 116, 97, 114, 101, 97], .s [116, 105, 116, 108, 101], .s [115, 99, 114, 105, 112, 116], .s [115, 116, 121, 108, 101]] : List AV)) 1
section
variable (call : CallT) (run : RunT) (a0 : List UInt8)
theorem text55 : unr C call run 55 Tryd.f55 400 [.code body55] (initF C 55 Tryd.f55.ntmps [.s a0]) = X55 call run a0 := by
  kernel_rfl
theorem c55 {r : AV} (h : X55 (semCall C Tryd.prog) (semRun C Tryd.prog 55 Tryd.f55) a0 = some r) : semCall C Tryd.prog 55 [.s a0] = some r :=
  semCall_unr (fn := Tryd.f55) (c := body55) (by kernel_rfl) (by kernel_rfl) 400 (by kernel_rfl) ((text55 _ _ a0).trans h)
end
noncomputable def X55_3 (call : CallT) (run : RunT) (a0 : List UInt8) (a1 : List AV) (a2 : Int) : Option AV :=
  condM (.b (decide (a2 < 5)))
  ((inN a1.length (.int a2)).bind fun v1 => (binS .eql (AV.cell (a1.getD v1 .un) 0) (.s a0)).bind fun v2 => condM (v2)
  (some (.int a2))
  (F55_3 run a0 a1 (w64 (a2 + 1))))
  (some (.int 0))
section
variable (call : CallT) (run : RunT) (a0 : List UInt8) (a1 : List AV) (a2 : Int)
theorem text55_3 : step C call 55 Tryd.f55 (unr C call run 55 Tryd.f55 400) K55_3 (S55_3 a0 a1 a2) = X55_3 call run a0 a1 a2 := by
  kernel_rfl
end
section
variable (a0 : List UInt8) (a1 : List AV) (a2 : Int)
theorem r55_3 {r : AV} (h : X55_3 (semCall C Tryd.prog) (semRun C Tryd.prog 55 Tryd.f55) a0 a1 a2 = some r) : F55_3 (semRun C Tryd.prog 55 Tryd.f55) a0 a1 a2 = some r :=
  semRun_unr 400 ((text55_3 _ _ a0 a1 a2).trans h)
end
end R4

namespace R4
open Go Go.Proofs Sx
noncomputable def body56 : Code := (Tryd.f56.body).getD .skip
noncomputable def X56 (call : CallT) (run : RunT) (a0 a1 : UInt8) (a2 : Bool) (a3 a4 a5 a6 : UInt8) (a7 : Bool) (a8 : UInt8) (a9 : List UInt8) (a10 : UInt8) : Option AV :=
  condM (.b (decide (((a9.length : Int)) ≥ 32)))
  ((call 32 []).bind fun v1 => (AV.asAg 10 (v1)).bind fun v2 => some (.ag [v2.getD 0 .un, v2.getD 1 .un, v2.getD 2 .un, v2.getD 3 .un, v2.getD 4 .un, v2.getD 5 .un, v2.getD 6 .un, v2.getD 7 .un, v2.getD 8 .un, v2.getD 9 .un]))
  ((call 37 [.u8 a10]).bind fun v3 => (binS .add (.s a9) (v3)).bind fun v4 => (AV.one (v4)).bind fun v5 => some (.ag [.u8 a0, .u8 a1, .b a2, .u8 a3, .u8 a4, .u8 a5, .u8 a6, .b a7, .u8 a8, v5]))
section
variable (call : CallT) (run : RunT) (a0 a1 : UInt8) (a2 : Bool) (a3 a4 a5 a6 : UInt8) (a7 : Bool) (a8 : UInt8) (a9 : List UInt8) (a10 : UInt8)
theorem text56 : unr C call run 56 Tryd.f56 400 [.code body56] (initF C 56 Tryd.f56.ntmps [.ag [.u8 a0, .u8 a1, .b a2, .u8 a3, .u8 a4, .u8 a5, .u8 a6, .b a7, .u8 a8, .s a9], .u8 a10]) = X56 call run a0 a1 a2 a3 a4 a5 a6 a7 a8 a9 a10 := by
  kernel_rfl
theorem c56 {r : AV} (h : X56 (semCall C Tryd.prog) (semRun C Tryd.prog 56 Tryd.f56) a0 a1 a2 a3 a4 a5 a6 a7 a8 a9 a10 = some r) : semCall C Tryd.prog 56 [.ag [.u8 a0, .u8 a1, .b a2, .u8 a3, .u8 a4, .u8 a5, .u8 a6, .b a7, .u8 a8, .s a9], .u8 a10] = some r :=
  semCall_unr (fn := Tryd.f56) (c := body56) (by kernel_rfl) (by kernel_rfl) 400 (by kernel_rfl) ((text56 _ _ a0 a1 a2 a3 a4 a5 a6 a7 a8 a9 a10).trans h)
end
end R4

namespace R4
open Go Go.Proofs Sx
noncomputable def body57 : Code := (Tryd.f57.body).getD .skip
noncomputable def X57 (call : CallT) (run : RunT) (a0 a1 : UInt8) (a2 : Bool) (a3 a4 a5 a6 : UInt8) (a7 : Bool) (a8 : UInt8) (a9 : List UInt8) : Option AV :=
  condM (.b (ueq a1 0))
  ((call 53 [.int 0]).bind fun v1 => (AV.asAg 10 (v1)).bind fun v2 => some (.ag [v2.getD 0 .un, v2.getD 1 .un, v2.getD 2 .un, v2.getD 3 .un, v2.getD 4 .un, v2.getD 5 .un, v2.getD 6 .un, v2.getD 7 .un, v2.getD 8 .un, v2.getD 9 .un]))
  (some (.ag [.u8 17, .u8 a1, .b false, .u8 0, .u8 0, .u8 0, .u8 0, .b false, .u8 0, .s []]))
section
variable (call : CallT) (run : RunT) (a0 a1 : UInt8) (a2 : Bool) (a3 a4 a5 a6 : UInt8) (a7 : Bool) (a8 : UInt8) (a9 : List UInt8)
theorem text57 : unr C call run 57 Tryd.f57 400 [.code body57] (initF C 57 Tryd.f57.ntmps [.ag [.u8 a0, .u8 a1, .b a2, .u8 a3, .u8 a4, .u8 a5, .u8 a6, .b a7, .u8 a8, .s a9]]) = X57 call run a0 a1 a2 a3 a4 a5 a6 a7 a8 a9 := by
  kernel_rfl
theorem c57 {r : AV} (h : X57 (semCall C Tryd.prog) (semRun C Tryd.prog 57 Tryd.f57) a0 a1 a2 a3 a4 a5 a6 a7 a8 a9 = some r) : semCall C Tryd.prog 57 [.ag [.u8 a0, .u8 a1, .b a2, .u8 a3, .u8 a4, .u8 a5, .u8 a6, .b a7, .u8 a8, .s a9]] = some r :=
  semCall_unr (fn := Tryd.f57) (c := body57) (by kernel_rfl) (by kernel_rfl) 400 (by kernel_rfl) ((text57 _ _ a0 a1 a2 a3 a4 a5 a6 a7 a8 a9).trans h)
end
end R4

namespace R4
open Go Go.Proofs Sx
noncomputable def body58 : Code := (Tryd.f58.body).getD .skip
noncomputable def X58 (call : CallT) (run : RunT) (a0 a1 : UInt8) (a2 : Bool) (a3 a4 a5 a6 : UInt8) (a7 : Bool) (a8 : UInt8) (a9 : List UInt8) (a10 a11 : UInt8) (a12 : Bool) (a13 a14 a15 a16 : UInt8) (a17 : Bool) (a18 : UInt8) (a19 : List UInt8) (a20 : UInt8) : Option AV :=
  condM (.b (ueq a20 61))
  ((call 74 [.s a9]).bind fun v1 => (conv .u8 (v1)).bind fun v2 => (AV.one (v2)).bind fun v3 => some (.ag [.u8 7, .u8 a11, .b a12, v3, .u8 a14, .u8 a15, .u8 a16, .b a17, .u8 a18, .s a19]))
  ((selW (.b (ueq a20 47)) false (some (.b (ueq a20 62))) (.b true)).bind fun v4 => condM (v4)
  ((call 34 [.ag [.u8 9, .u8 a11, .b a12, .u8 a13, .u8 a14, .u8 a15, .u8 a16, .b a17, .u8 a18, .s a19], .u8 a20]).bind fun v5 => (AV.asAg 10 (v5)).bind fun v6 => some (.ag [v6.getD 0 .un, v6.getD 1 .un, v6.getD 2 .un, v6.getD 3 .un, v6.getD 4 .un, v6.getD 5 .un, v6.getD 6 .un, v6.getD 7 .un, v6.getD 8 .un, v6.getD 9 .un]))
  ((call 36 [.u8 a20]).bind fun v7 => condM (v7)
  (some (.ag [.u8 6, .u8 a1, .b a2, .u8 a3, .u8 a4, .u8 a5, .u8 a6, .b a7, .u8 a8, .s a9]))
  (condM (.b ((w64 (a0.toNat : Int)) == 6))
  ((call 34 [.ag [.u8 4, .u8 a11, .b a12, .u8 a13, .u8 a14, .u8 a15, .u8 a16, .b a17, .u8 a18, .s a19], .u8 a20]).bind fun v8 => (AV.asAg 10 (v8)).bind fun v9 => some (.ag [v9.getD 0 .un, v9.getD 1 .un, v9.getD 2 .un, v9.getD 3 .un, v9.getD 4 .un, v9.getD 5 .un, v9.getD 6 .un, v9.getD 7 .un, v9.getD 8 .un, v9.getD 9 .un]))
  ((selW (.b (ueq a20 34)) false (some (.b (ueq a20 39))) (.b true)).bind fun v10 => (selW (v10) false (some (.b (ueq a20 60))) (.b true)).bind fun v11 => condM (v11)
  ((call 32 []).bind fun v12 => (AV.asAg 10 (v12)).bind fun v13 => some (.ag [v13.getD 0 .un, v13.getD 1 .un, v13.getD 2 .un, v13.getD 3 .un, v13.getD 4 .un, v13.getD 5 .un, v13.getD 6 .un, v13.getD 7 .un, v13.getD 8 .un, v13.getD 9 .un]))
  ((call 56 [.ag [.u8 a0, .u8 a1, .b a2, .u8 a3, .u8 a4, .u8 a5, .u8 a6, .b a7, .u8 a8, .s a9], .u8 a20]).bind fun v14 => (AV.asAg 10 (v14)).bind fun v15 => some (.ag [v15.getD 0 .un, v15.getD 1 .un, v15.getD 2 .un, v15.getD 3 .un, v15.getD 4 .un, v15.getD 5 .un, v15.getD 6 .un, v15.getD 7 .un, v15.getD 8 .un, v15.getD 9 .un]))))))
section
variable (call : CallT) (run : RunT) (a0 a1 : UInt8) (a2 : Bool) (a3 a4 a5 a6 : UInt8) (a7 : Bool) (a8 : UInt8) (a9 : List UInt8) (a10 a11 : UInt8) (a12 : Bool) (a13 a14 a15 a16 : UInt8) (a17 : Bool) (a18 : UInt8) (a19 : List UInt8) (a20 : UInt8)
theorem text58 : unr C call run 58 Tryd.f58 400 [.code body58] (initF C 58 Tryd.f58.ntmps [.ag [.u8 a0, .u8 a1, .b a2, .u8 a3, .u8 a4, .u8 a5, .u8 a6, .b a7, .u8 a8, .s a9], .ag [.u8 a10, .u8 a11, .b a12, .u8 a13, .u8 a14, .u8 a15, .u8 a16, .b a17, .u8 a18, .s a19], .u8 a20]) = X58 call run a0 a1 a2 a3 a4 a5 a6 a7 a8 a9 a10 a11 a12 a13 a14 a15 a16 a17 a18 a19 a20 := by
  kernel_rfl
theorem c58 {r : AV} (h : X58 (semCall C Tryd.prog) (semRun C Tryd.prog 58 Tryd.f58) a0 a1 a2 a3 a4 a5 a6 a7 a8 a9 a10 a11 a12 a13 a14 a15 a16 a17 a18 a19 a20 = some r) : semCall C Tryd.prog 58 [.ag [.u8 a0, .u8 a1, .b a2, .u8 a3, .u8 a4, .u8 a5, .u8 a6, .b a7, .u8 a8, .s a9], .ag [.u8 a10, .u8 a11, .b a12, .u8 a13, .u8 a14, .u8 a15, .u8 a16, .b a17, .u8 a18, .s a19], .u8 a20] = some r :=
  semCall_unr (fn := Tryd.f58) (c := body58) (by kernel_rfl) (by kernel_rfl) 400 (by kernel_rfl) ((text58 _ _ a0 a1 a2 a3 a4 a5 a6 a7 a8 a9 a10 a11 a12 a13 a14 a15 a16 a17 a18 a19 a20).trans h)
end
end R4

namespace R4
open Go Go.Proofs Sx
noncomputable def body59 : Code := (Tryd.f59.body).getD .skip
section
variable (run : RunT) (a0 a1 a2 : UInt8) (a3 : Bool) (a4 a5 a6 a7 : UInt8) (a8 : Bool) (a9 : UInt8) (a10 : List UInt8) (a11 a12 : UInt8) (a13 : Bool) (a14 a15 a16 a17 : UInt8) (a18 : Bool) (a19 : UInt8) (a20 : List UInt8)
noncomputable def K59_17 : List Item := (kAt 17 body59 []).getD []
def S59_17 : St := St.ofL [(2, .cell (.val (.u8 a0))), (3, .cell (.ptr 3 0)), (6, .cell (.ptr 6 0))] [(3, some [.val (.u8 a1), .val (.u8 a2), .val (.b a3), .val (.u8 a4), .val (.u8 a5), .val (.u8 a6), .val (.u8 a7), .val (.b a8), .val (.u8 a9), .val (.s a10)]), (6, some [.val (.u8 a11), .val (.u8 a12), .val (.b a13), .val (.u8 a14), .val (.u8 a15), .val (.u8 a16), .val (.u8 a17), .val (.b a18), .val (.u8 a19), .val (.s a20)])]
noncomputable def F59_17 : Option AV := run K59_17 (S59_17 a0 a1 a2 a3 a4 a5 a6 a7 a8 a9 a10 a11 a12 a13 a14 a15 a16 a17 a18 a19 a20)
end
section
variable (run : RunT) (a0 a1 a2 : UInt8) (a3 : Bool) (a4 a5 a6 a7 : UInt8) (a8 : Bool) (a9 : UInt8) (a10 : List UInt8) (a11 a12 : UInt8) (a13 : Bool) (a14 a15 a16 a17 : UInt8) (a18 : Bool) (a19 : UInt8) (a20 : List UInt8)
noncomputable def K59_22 : List Item := (kAt 22 body59 []).getD []
def S59_22 : St := St.ofL [(2, .cell (.val (.u8 a0))), (3, .cell (.ptr 3 0)), (6, .cell (.ptr 6 0))] [(3, some [.val (.u8 a1), .val (.u8 a2), .val (.b a3), .val (.u8 a4), .val (.u8 a5), .val (.u8 a6), .val (.u8 a7), .val (.b a8), .val (.u8 a9), .val (.s a10)]), (6, some [.val (.u8 a11), .val (.u8 a12), .val (.b a13), .val (.u8 a14), .val (.u8 a15), .val (.u8 a16), .val (.u8 a17), .val (.b a18), .val (.u8 a19), .val (.s a20)])]
noncomputable def F59_22 : Option AV := run K59_22 (S59_22 a0 a1 a2 a3 a4 a5 a6 a7 a8 a9 a10 a11 a12 a13 a14 a15 a16 a17 a18 a19 a20)
end
section
variable (run : RunT) (a0 a1 : UInt8) (a2 : Bool) (a3 a4 a5 a6 : UInt8) (a7 : Bool) (a8 : UInt8) (a9 : List UInt8) (a10 a11 : UInt8) (a12 : Bool) (a13 a14 a15 a16 : UInt8) (a17 : Bool) (a18 : UInt8) (a19 : List UInt8)
noncomputable def K59_25 : List Item := (kAt 25 body59 []).getD []
def S59_25 : St := St.ofL [(3, .cell (.ptr 3 0)), (6, .cell (.ptr 6 0))] [(3, some [.val (.u8 a0), .val (.u8 a1), .val (.b a2), .val (.u8 a3), .val (.u8 a4), .val (.u8 a5), .val (.u8 a6), .val (.b a7), .val (.u8 a8), .val (.s a9)]), (6, some [.val (.u8 a10), .val (.u8 a11), .val (.b a12), .val (.u8 a13), .val (.u8 a14), .val (.u8 a15), .val (.u8 a16), .val (.b a17), .val (.u8 a18), .val (.s a19)])]
noncomputable def F59_25 : Option AV := run K59_25 (S59_25 a0 a1 a2 a3 a4 a5 a6 a7 a8 a9 a10 a11 a12 a13 a14 a15 a16 a17 a18 a19)
end
noncomputable def X59 (call : CallT) (run : RunT) (a0 a1 : UInt8) (a2 : Bool) (a3 a4 a5 a6 : UInt8) (a7 : Bool) (a8 : UInt8) (a9 : List UInt8) (a10 a11 : UInt8) (a12 : Bool) (a13 a14 a15 a16 : UInt8) (a17 : Bool) (a18 : UInt8) (a19 : List UInt8) (a20 : UInt8) : Option AV :=
  (selW (.b (ueq a6 0)) false (some (.b (ueq a6 4))) (.b true)).bind fun v1 => (selW (.b (une a4 0)) true (some (.b (ueq a20 a4))) (.b false)).bind fun v2 => condM (v2)
  ((unop .not (v1)).bind fun v3 => condM (v3)
  ((call 32 []).bind fun v4 => (AV.asAg 10 (v4)).bind fun v5 => some (.ag [v5.getD 0 .un, v5.getD 1 .un, v5.getD 2 .un, v5.getD 3 .un, v5.getD 4 .un, v5.getD 5 .un, v5.getD 6 .un, v5.getD 7 .un, v5.getD 8 .un, v5.getD 9 .un]))
  (some (.ag [.u8 9, .u8 a11, .b a12, .u8 a13, .u8 a14, .u8 a15, .u8 a16, .b a17, .u8 a18, .s a19])))
  (condM (.b (ueq a4 0))
  ((call 36 [.u8 a20]).bind fun v6 => (selW (v6) false (some (.b (ueq a20 62))) (.b true)).bind fun v7 => condM (v7)
  ((unop .not (v1)).bind fun v8 => condM (v8)
  ((call 32 []).bind fun v9 => (AV.asAg 10 (v9)).bind fun v10 => some (.ag [v10.getD 0 .un, v10.getD 1 .un, v10.getD 2 .un, v10.getD 3 .un, v10.getD 4 .un, v10.getD 5 .un, v10.getD 6 .un, v10.getD 7 .un, v10.getD 8 .un, v10.getD 9 .un]))
  (condM (.b (ueq a20 62))
  ((call 57 [.ag [.u8 a0, .u8 a1, .b a2, .u8 a3, .u8 a4, .u8 a5, .u8 a6, .b a7, .u8 a8, .s a9]]).bind fun v11 => (AV.asAg 10 (v11)).bind fun v12 => some (.ag [v12.getD 0 .un, v12.getD 1 .un, v12.getD 2 .un, v12.getD 3 .un, v12.getD 4 .un, v12.getD 5 .un, v12.getD 6 .un, v12.getD 7 .un, v12.getD 8 .un, v12.getD 9 .un]))
  (some (.ag [.u8 4, .u8 a11, .b a12, .u8 a13, .u8 a14, .u8 a15, .u8 a16, .b a17, .u8 a18, .s a19]))))
  ((selW (.b (ueq a20 34)) false (some (.b (ueq a20 39))) (.b true)).bind fun v13 => (selW (v13) false (some (.b (ueq a20 60))) (.b true)).bind fun v14 => (selW (v14) false (some (.b (ueq a20 61))) (.b true)).bind fun v15 => (selW (v15) false (some (.b (ueq a20 96))) (.b true)).bind fun v16 => condM (v16)
  ((call 32 []).bind fun v17 => (AV.asAg 10 (v17)).bind fun v18 => some (.ag [v18.getD 0 .un, v18.getD 1 .un, v18.getD 2 .un, v18.getD 3 .un, v18.getD 4 .un, v18.getD 5 .un, v18.getD 6 .un, v18.getD 7 .un, v18.getD 8 .un, v18.getD 9 .un]))
  (F59_17 run a20 a0 a1 a2 a3 a4 a5 a6 a7 a8 a9 0 0 false 0 0 0 0 false 0 [])))
  (F59_17 run a20 a0 a1 a2 a3 a4 a5 a6 a7 a8 a9 0 0 false 0 0 0 0 false 0 []))
section
variable (call : CallT) (run : RunT) (a0 a1 : UInt8) (a2 : Bool) (a3 a4 a5 a6 : UInt8) (a7 : Bool) (a8 : UInt8) (a9 : List UInt8) (a10 a11 : UInt8) (a12 : Bool) (a13 a14 a15 a16 : UInt8) (a17 : Bool) (a18 : UInt8) (a19 : List UInt8) (a20 : UInt8)
theorem text59 : unr C call run 59 Tryd.f59 400 [.code body59] (initF C 59 Tryd.f59.ntmps [.ag [.u8 a0, .u8 a1, .b a2, .u8 a3, .u8 a4, .u8 a5, .u8 a6, .b a7, .u8 a8, .s a9], .ag [.u8 a10, .u8 a11, .b a12, .u8 a13, .u8 a14, .u8 a15, .u8 a16, .b a17, .u8 a18, .s a19], .u8 a20]) = X59 call run a0 a1 a2 a3 a4 a5 a6 a7 a8 a9 a10 a11 a12 a13 a14 a15 a16 a17 a18 a19 a20 := by
  kernel_rfl
theorem c59 {r : AV} (h : X59 (semCall C Tryd.prog) (semRun C Tryd.prog 59 Tryd.f59) a0 a1 a2 a3 a4 a5 a6 a7 a8 a9 a10 a11 a12 a13 a14 a15 a16 a17 a18 a19 a20 = some r) : semCall C Tryd.prog 59 [.ag [.u8 a0, .u8 a1, .b a2, .u8 a3, .u8 a4, .u8 a5, .u8 a6, .b a7, .u8 a8, .s a9], .ag [.u8 a10, .u8 a11, .b a12, .u8 a13, .u8 a14, .u8 a15, .u8 a16, .b a17, .u8 a18, .s a19], .u8 a20] = some r :=
  semCall_unr (fn := Tryd.f59) (c := body59) (by kernel_rfl) (by kernel_rfl) 400 (by kernel_rfl) ((text59 _ _ a0 a1 a2 a3 a4 a5 a6 a7 a8 a9 a10 a11 a12 a13 a14 a15 a16 a17 a18 a19 a20).trans h)
end
noncomputable def X59_17 (call : CallT) (run : RunT) (a0 a1 a2 : UInt8) (a3 : Bool) (a4 a5 a6 a7 : UInt8) (a8 : Bool) (a9 : UInt8) (a10 : List UInt8) (a11 a12 : UInt8) (a13 : Bool) (a14 a15 a16 a17 : UInt8) (a18 : Bool) (a19 : UInt8) (a20 : List UInt8) : Option AV :=
  condM (.b (ueq a4 1))
  ((call 75 [.ag [.u8 a1, .u8 a2, .b a3, .u8 a4, .u8 a5, .u8 a6, .u8 a7, .b a8, .u8 a9, .s a10], .u8 a0]).bind fun v1 => (AV.asAg 10 (v1)).bind fun v2 => some (.ag [v2.getD 0 .un, v2.getD 1 .un, v2.getD 2 .un, v2.getD 3 .un, v2.getD 4 .un, v2.getD 5 .un, v2.getD 6 .un, v2.getD 7 .un, v2.getD 8 .un, v2.getD 9 .un]))
  (condM (.b (ueq a4 2))
  (F59_22 run a0 a1 a2 a3 a4 a5 a6 a7 a8 a9 a10 a11 a12 a13 a14 a15 a16 a17 a18 a19 a20)
  (condM (.b (ueq a4 3))
  (F59_22 run a0 a1 a2 a3 a4 a5 a6 a7 a8 a9 a10 a11 a12 a13 a14 a15 a16 a17 a18 a19 a20)
  (F59_25 run a1 a2 a3 a4 a5 a6 a7 a8 a9 a10 a11 a12 a13 a14 a15 a16 a17 a18 a19 a20)))
section
variable (call : CallT) (run : RunT) (a0 a1 a2 : UInt8) (a3 : Bool) (a4 a5 a6 a7 : UInt8) (a8 : Bool) (a9 : UInt8) (a10 : List UInt8) (a11 a12 : UInt8) (a13 : Bool) (a14 a15 a16 a17 : UInt8) (a18 : Bool) (a19 : UInt8) (a20 : List UInt8)
theorem text59_17 : step C call 59 Tryd.f59 (unr C call run 59 Tryd.f59 400) K59_17 (S59_17 a0 a1 a2 a3 a4 a5 a6 a7 a8 a9 a10 a11 a12 a13 a14 a15 a16 a17 a18 a19 a20) = X59_17 call run a0 a1 a2 a3 a4 a5 a6 a7 a8 a9 a10 a11 a12 a13 a14 a15 a16 a17 a18 a19 a20 := by
  kernel_rfl
end
noncomputable def X59_22 (call : CallT) (run : RunT) (a0 a1 a2 : UInt8) (a3 : Bool) (a4 a5 a6 a7 : UInt8) (a8 : Bool) (a9 : UInt8) (a10 : List UInt8) (a11 a12 : UInt8) (a13 : Bool) (a14 a15 a16 a17 : UInt8) (a18 : Bool) (a19 : UInt8) (a20 : List UInt8) : Option AV :=
  condM (.b (ueq a0 38))
  ((call 32 []).bind fun v1 => (AV.asAg 10 (v1)).bind fun v2 => some (.ag [v2.getD 0 .un, v2.getD 1 .un, v2.getD 2 .un, v2.getD 3 .un, v2.getD 4 .un, v2.getD 5 .un, v2.getD 6 .un, v2.getD 7 .un, v2.getD 8 .un, v2.getD 9 .un]))
  ((call 76 [.ag [.u8 a1, .u8 a2, .b a3, .u8 a4, .u8 a5, .u8 a6, .u8 a7, .b a8, .u8 a9, .s a10], .u8 a0, .b (ueq a4 2)]).bind fun v3 => (AV.asAg 10 (v3)).bind fun v4 => some (.ag [v4.getD 0 .un, v4.getD 1 .un, v4.getD 2 .un, v4.getD 3 .un, v4.getD 4 .un, v4.getD 5 .un, v4.getD 6 .un, v4.getD 7 .un, v4.getD 8 .un, v4.getD 9 .un]))
section
variable (call : CallT) (run : RunT) (a0 a1 a2 : UInt8) (a3 : Bool) (a4 a5 a6 a7 : UInt8) (a8 : Bool) (a9 : UInt8) (a10 : List UInt8) (a11 a12 : UInt8) (a13 : Bool) (a14 a15 a16 a17 : UInt8) (a18 : Bool) (a19 : UInt8) (a20 : List UInt8)
theorem text59_22 : step C call 59 Tryd.f59 (unr C call run 59 Tryd.f59 400) K59_22 (S59_22 a0 a1 a2 a3 a4 a5 a6 a7 a8 a9 a10 a11 a12 a13 a14 a15 a16 a17 a18 a19 a20) = X59_22 call run a0 a1 a2 a3 a4 a5 a6 a7 a8 a9 a10 a11 a12 a13 a14 a15 a16 a17 a18 a19 a20 := by
  kernel_rfl
end
noncomputable def X59_25 (call : CallT) (run : RunT) (a0 a1 : UInt8) (a2 : Bool) (a3 a4 a5 a6 : UInt8) (a7 : Bool) (a8 : UInt8) (a9 : List UInt8) (a10 a11 : UInt8) (a12 : Bool) (a13 a14 a15 a16 : UInt8) (a17 : Bool) (a18 : UInt8) (a19 : List UInt8) : Option AV :=
  some (.ag [.u8 a0, .u8 a1, .b a2, .u8 a3, .u8 a4, .u8 a5, .u8 a6, .b a7, .u8 a8, .s a9])
section
variable (call : CallT) (run : RunT) (a0 a1 : UInt8) (a2 : Bool) (a3 a4 a5 a6 : UInt8) (a7 : Bool) (a8 : UInt8) (a9 : List UInt8) (a10 a11 : UInt8) (a12 : Bool) (a13 a14 a15 a16 : UInt8) (a17 : Bool) (a18 : UInt8) (a19 : List UInt8)
theorem text59_25 : step C call 59 Tryd.f59 (unr C call run 59 Tryd.f59 400) K59_25 (S59_25 a0 a1 a2 a3 a4 a5 a6 a7 a8 a9 a10 a11 a12 a13 a14 a15 a16 a17 a18 a19) = X59_25 call run a0 a1 a2 a3 a4 a5 a6 a7 a8 a9 a10 a11 a12 a13 a14 a15 a16 a17 a18 a19 := by
  kernel_rfl
end
section
variable (a0 a1 a2 : UInt8) (a3 : Bool) (a4 a5 a6 a7 : UInt8) (a8 : Bool) (a9 : UInt8) (a10 : List UInt8) (a11 a12 : UInt8) (a13 : Bool) (a14 a15 a16 a17 : UInt8) (a18 : Bool) (a19 : UInt8) (a20 : List UInt8)
theorem r59_17 {r : AV} (h : X59_17 (semCall C Tryd.prog) (semRun C Tryd.prog 59 Tryd.f59) a0 a1 a2 a3 a4 a5 a6 a7 a8 a9 a10 a11 a12 a13 a14 a15 a16 a17 a18 a19 a20 = some r) : F59_17 (semRun C Tryd.prog 59 Tryd.f59) a0 a1 a2 a3 a4 a5 a6 a7 a8 a9 a10 a11 a12 a13 a14 a15 a16 a17 a18 a19 a20 = some r :=
  semRun_unr 400 ((text59_17 _ _ a0 a1 a2 a3 a4 a5 a6 a7 a8 a9 a10 a11 a12 a13 a14 a15 a16 a17 a18 a19 a20).trans h)
end
section
variable (a0 a1 a2 : UInt8) (a3 : Bool) (a4 a5 a6 a7 : UInt8) (a8 : Bool) (a9 : UInt8) (a10 : List UInt8) (a11 a12 : UInt8) (a13 : Bool) (a14 a15 a16 a17 : UInt8) (a18 : Bool) (a19 : UInt8) (a20 : List UInt8)
theorem r59_22 {r : AV} (h : X59_22 (semCall C Tryd.prog) (semRun C Tryd.prog 59 Tryd.f59) a0 a1 a2 a3 a4 a5 a6 a7 a8 a9 a10 a11 a12 a13 a14 a15 a16 a17 a18 a19 a20 = some r) : F59_22 (semRun C Tryd.prog 59 Tryd.f59) a0 a1 a2 a3 a4 a5 a6 a7 a8 a9 a10 a11 a12 a13 a14 a15 a16 a17 a18 a19 a20 = some r :=
  semRun_unr 400 ((text59_22 _ _ a0 a1 a2 a3 a4 a5 a6 a7 a8 a9 a10 a11 a12 a13 a14 a15 a16 a17 a18 a19 a20).trans h)
end
section
variable (a0 a1 : UInt8) (a2 : Bool) (a3 a4 a5 a6 : UInt8) (a7 : Bool) (a8 : UInt8) (a9 : List UInt8) (a10 a11 : UInt8) (a12 : Bool) (a13 a14 a15 a16 : UInt8) (a17 : Bool) (a18 : UInt8) (a19 : List UInt8)
theorem r59_25 {r : AV} (h : X59_25 (semCall C Tryd.prog) (semRun C Tryd.prog 59 Tryd.f59) a0 a1 a2 a3 a4 a5 a6 a7 a8 a9 a10 a11 a12 a13 a14 a15 a16 a17 a18 a19 = some r) : F59_25 (semRun C Tryd.prog 59 Tryd.f59) a0 a1 a2 a3 a4 a5 a6 a7 a8 a9 a10 a11 a12 a13 a14 a15 a16 a17 a18 a19 = some r :=
  semRun_unr 400 ((text59_25 _ _ a0 a1 a2 a3 a4 a5 a6 a7 a8 a9 a10 a11 a12 a13 a14 a15 a16 a17 a18 a19).trans h)
end
end R4

namespace R4
open Go Go.Proofs Sx
noncomputable def body60 : Code := (Tryd.f60.body).getD .skip
section
variable (run : RunT) (a0 : UInt8) (a1 : AV) (a2 a3 : UInt8) (a4 : Bool) (a5 a6 a7 a8 : UInt8) (a9 : Bool) (a10 : UInt8) (a11 : List UInt8) (a12 a13 : UInt8) (a14 : Bool) (a15 a16 a17 a18 : UInt8) (a19 : Bool) (a20 : UInt8) (a21 : List UInt8)
noncomputable def K60_8 : List Item := (kAt 8 body60 []).getD []
def S60_8 : St := St.ofL [(1, .cell (.val (.u8 a0))), (2, .cell (.ptr 2 0)), (4, .cell (.ptr 4 0)), (5, .cell (.val (a1)))] [(2, some [.val (.u8 a2), .val (.u8 a3), .val (.b a4), .val (.u8 a5), .val (.u8 a6), .val (.u8 a7), .val (.u8 a8), .val (.b a9), .val (.u8 a10), .val (.s a11)]), (4, some [.val (.u8 a12), .val (.u8 a13), .val (.b a14), .val (.u8 a15), .val (.u8 a16), .val (.u8 a17), .val (.u8 a18), .val (.b a19), .val (.u8 a20), .val (.s a21)])]
noncomputable def F60_8 : Option AV := run K60_8 (S60_8 a0 a1 a2 a3 a4 a5 a6 a7 a8 a9 a10 a11 a12 a13 a14 a15 a16 a17 a18 a19 a20 a21)
end
section
variable (run : RunT) (a0 : UInt8) (a1 a2 a3 a4 a5 a6 a7 a8 a9 a10 : AV) (a11 a12 : UInt8) (a13 : Bool) (a14 a15 a16 a17 : UInt8) (a18 : Bool) (a19 : UInt8) (a20 : List UInt8)
noncomputable def K60_20 : List Item := (kAt 20 body60 []).getD []
def S60_20 : St := St.ofL [(1, .cell (.val (.u8 a0))), (2, .cell (.ptr 2 0)), (4, .cell (.ptr 4 0))] [(2, some [.val (a1), .val (a2), .val (a3), .val (a4), .val (a5), .val (a6), .val (a7), .val (a8), .val (a9), .val (a10)]), (4, some [.val (.u8 a11), .val (.u8 a12), .val (.b a13), .val (.u8 a14), .val (.u8 a15), .val (.u8 a16), .val (.u8 a17), .val (.b a18), .val (.u8 a19), .val (.s a20)])]
noncomputable def F60_20 : Option AV := run K60_20 (S60_20 a0 a1 a2 a3 a4 a5 a6 a7 a8 a9 a10 a11 a12 a13 a14 a15 a16 a17 a18 a19 a20)
end
section
variable (run : RunT) (a0 a1 a2 a3 a4 a5 a6 a7 a8 a9 : AV) (a10 a11 : UInt8) (a12 : Bool) (a13 a14 a15 a16 : UInt8) (a17 : Bool) (a18 : UInt8) (a19 : List UInt8)
noncomputable def K60_23 : List Item := (kAt 23 body60 []).getD []
def S60_23 : St := St.ofL [(2, .cell (.ptr 2 0)), (4, .cell (.ptr 4 0))] [(2, some [.val (a0), .val (a1), .val (a2), .val (a3), .val (a4), .val (a5), .val (a6), .val (a7), .val (a8), .val (a9)]), (4, some [.val (.u8 a10), .val (.u8 a11), .val (.b a12), .val (.u8 a13), .val (.u8 a14), .val (.u8 a15), .val (.u8 a16), .val (.b a17), .val (.u8 a18), .val (.s a19)])]
noncomputable def F60_23 : Option AV := run K60_23 (S60_23 a0 a1 a2 a3 a4 a5 a6 a7 a8 a9 a10 a11 a12 a13 a14 a15 a16 a17 a18 a19)
end
noncomputable def X60 (call : CallT) (run : RunT) (a0 a1 : UInt8) (a2 : Bool) (a3 a4 a5 a6 : UInt8) (a7 : Bool) (a8 : UInt8) (a9 : List UInt8) (a10 : UInt8) : Option AV :=
  (call 35 [.int (w64 (a1.toNat : Int))]).bind fun v1 => condM (.b ((w64 (a0.toNat : Int)) == 18))
  (condM (.b (ueq a10 47))
  (some (.ag [.u8 19, .u8 a1, .b a2, .u8 a3, .u8 a4, .u8 a5, .u8 a6, .b a7, .u8 a8, .s a9]))
  ((selW (.b (ueq a10 33)) true (some (.b (ueq a1 3))) (.b false)).bind fun v2 => condM (v2)
  ((call 32 []).bind fun v3 => (AV.asAg 10 (v3)).bind fun v4 => some (.ag [v4.getD 0 .un, v4.getD 1 .un, v4.getD 2 .un, v4.getD 3 .un, v4.getD 4 .un, v4.getD 5 .un, v4.getD 6 .un, v4.getD 7 .un, v4.getD 8 .un, v4.getD 9 .un]))
  (F60_8 run a10 (v1) a0 a1 a2 a3 a4 a5 a6 a7 a8 a9 0 0 false 0 0 0 0 false 0 [])))
  (F60_8 run a10 (v1) a0 a1 a2 a3 a4 a5 a6 a7 a8 a9 0 0 false 0 0 0 0 false 0 [])
section
variable (call : CallT) (run : RunT) (a0 a1 : UInt8) (a2 : Bool) (a3 a4 a5 a6 : UInt8) (a7 : Bool) (a8 : UInt8) (a9 : List UInt8) (a10 : UInt8)
theorem text60 : unr C call run 60 Tryd.f60 400 [.code body60] (initF C 60 Tryd.f60.ntmps [.ag [.u8 a0, .u8 a1, .b a2, .u8 a3, .u8 a4, .u8 a5, .u8 a6, .b a7, .u8 a8, .s a9], .u8 a10]) = X60 call run a0 a1 a2 a3 a4 a5 a6 a7 a8 a9 a10 := by
  kernel_rfl
theorem c60 {r : AV} (h : X60 (semCall C Tryd.prog) (semRun C Tryd.prog 60 Tryd.f60) a0 a1 a2 a3 a4 a5 a6 a7 a8 a9 a10 = some r) : semCall C Tryd.prog 60 [.ag [.u8 a0, .u8 a1, .b a2, .u8 a3, .u8 a4, .u8 a5, .u8 a6, .b a7, .u8 a8, .s a9], .u8 a10] = some r :=
  semCall_unr (fn := Tryd.f60) (c := body60) (by kernel_rfl) (by kernel_rfl) 400 (by kernel_rfl) ((text60 _ _ a0 a1 a2 a3 a4 a5 a6 a7 a8 a9 a10).trans h)
end
noncomputable def X60_8 (call : CallT) (run : RunT) (a0 : UInt8) (a1 : AV) (a2 a3 : UInt8) (a4 : Bool) (a5 a6 a7 a8 : UInt8) (a9 : Bool) (a10 : UInt8) (a11 : List UInt8) (a12 a13 : UInt8) (a14 : Bool) (a15 a16 a17 a18 : UInt8) (a19 : Bool) (a20 : UInt8) (a21 : List UInt8) : Option AV :=
  condM (.b ((w64 (a2.toNat : Int)) == 19))
  ((binS .eql (.s a11) (a1)).bind fun v1 => (selW (v1) true ((call 36 [.u8 a0]).bind fun v2 => (selW (v2) false (some (.b (ueq a0 47))) (.b true)).bind fun v3 => (selW (v3) false (some (.b (ueq a0 62))) (.b true)).bind fun v4 => some (v4)) (.b false)).bind fun v5 => condM (v5)
  ((selW (.b (une a8 0)) true (some (.b (une a8 4))) (.b false)).bind fun v6 => condM (v6)
  ((call 32 []).bind fun v7 => (AV.asAg 10 (v7)).bind fun v8 => some (.ag [v8.getD 0 .un, v8.getD 1 .un, v8.getD 2 .un, v8.getD 3 .un, v8.getD 4 .un, v8.getD 5 .un, v8.getD 6 .un, v8.getD 7 .un, v8.getD 8 .un, v8.getD 9 .un]))
  ((call 34 [.ag [.u8 9, .u8 0, .b true, .u8 0, .u8 0, .u8 0, .u8 0, .b false, .u8 0, .s []], .u8 a0]).bind fun v9 => (AV.asAg 10 (v9)).bind fun v10 => some (.ag [v10.getD 0 .un, v10.getD 1 .un, v10.getD 2 .un, v10.getD 3 .un, v10.getD 4 .un, v10.getD 5 .un, v10.getD 6 .un, v10.getD 7 .un, v10.getD 8 .un, v10.getD 9 .un])))
  ((call 37 [.u8 a0]).bind fun v11 => (binS .add (.s a11) (v11)).bind fun v12 => (lenS (v12)).bind fun v13 => (lenS (a1)).bind fun v14 => (binI .leq (v13) (v14)).bind fun v15 => (selW (v15) true ((lenS (v12)).bind fun v16 => (slS (a1) none (some (v16))).bind fun v17 => (binS .eql (v17) (v12)).bind fun v18 => some (v18)) (.b false)).bind fun v19 => condM (v19)
  ((AV.one (v12)).bind fun v20 => some (.ag [.u8 a2, .u8 a3, .b a4, .u8 a5, .u8 a6, .u8 a7, .u8 a8, .b a9, .u8 a10, v20]))
  ((binS .add (.s [47]) (.s a11)).bind fun v21 => (call 77 [.ag [.u8 a2, .u8 a3, .b a4, .u8 a5, .u8 a6, .u8 a7, .u8 a8, .b a9, .u8 a10, .s a11], v21]).bind fun v22 => (AV.asAg 10 (v22)).bind fun v23 => (conv .i64 (v23.getD 0 .un)).bind fun v24 => (binI .eql (v24) (.int 20)).bind fun v25 => condM (v25)
  ((call 32 []).bind fun v26 => (AV.asAg 10 (v26)).bind fun v27 => some (.ag [v27.getD 0 .un, v27.getD 1 .un, v27.getD 2 .un, v27.getD 3 .un, v27.getD 4 .un, v27.getD 5 .un, v27.getD 6 .un, v27.getD 7 .un, v27.getD 8 .un, v27.getD 9 .un]))
  (F60_20 run a0 (v23.getD 0 .un) (v23.getD 1 .un) (v23.getD 2 .un) (v23.getD 3 .un) (v23.getD 4 .un) (v23.getD 5 .un) (v23.getD 6 .un) (v23.getD 7 .un) (v23.getD 8 .un) (v23.getD 9 .un) a12 a13 a14 a15 a16 a17 a18 a19 a20 a21))))
  (F60_20 run a0 (.u8 a2) (.u8 a3) (.b a4) (.u8 a5) (.u8 a6) (.u8 a7) (.u8 a8) (.b a9) (.u8 a10) (.s a11) a12 a13 a14 a15 a16 a17 a18 a19 a20 a21)
section
variable (call : CallT) (run : RunT) (a0 : UInt8) (a1 : AV) (a2 a3 : UInt8) (a4 : Bool) (a5 a6 a7 a8 : UInt8) (a9 : Bool) (a10 : UInt8) (a11 : List UInt8) (a12 a13 : UInt8) (a14 : Bool) (a15 a16 a17 a18 : UInt8) (a19 : Bool) (a20 : UInt8) (a21 : List UInt8)
theorem text60_8 : step C call 60 Tryd.f60 (unr C call run 60 Tryd.f60 400) K60_8 (S60_8 a0 a1 a2 a3 a4 a5 a6 a7 a8 a9 a10 a11 a12 a13 a14 a15 a16 a17 a18 a19 a20 a21) = X60_8 call run a0 a1 a2 a3 a4 a5 a6 a7 a8 a9 a10 a11 a12 a13 a14 a15 a16 a17 a18 a19 a20 a21 := by
  kernel_rfl
end
noncomputable def X60_20 (call : CallT) (run : RunT) (a0 : UInt8) (a1 a2 a3 a4 a5 a6 a7 a8 a9 a10 : AV) (a11 a12 : UInt8) (a13 : Bool) (a14 a15 a16 a17 : UInt8) (a18 : Bool) (a19 : UInt8) (a20 : List UInt8) : Option AV :=
  (b2s (.ro 1 (([.u8 a0] : List AV)))).bind fun v1 => (call 77 [.ag [a1, a2, a3, a4, a5, a6, a7, a8, a9, a10], v1]).bind fun v2 => (AV.asAg 10 (v2)).bind fun v3 => (conv .i64 (v3.getD 0 .un)).bind fun v4 => (binI .eql (v4) (.int 17)).bind fun v5 => (selW (v5) true (some (.b (ueq a0 60))) (.b false)).bind fun v6 => condM (v6)
  (F60_23 run (.u8 18) (v3.getD 1 .un) (v3.getD 2 .un) (v3.getD 3 .un) (v3.getD 4 .un) (v3.getD 5 .un) (v3.getD 6 .un) (v3.getD 7 .un) (v3.getD 8 .un) (v3.getD 9 .un) a11 a12 a13 a14 a15 a16 a17 a18 a19 a20)
  (F60_23 run (v3.getD 0 .un) (v3.getD 1 .un) (v3.getD 2 .un) (v3.getD 3 .un) (v3.getD 4 .un) (v3.getD 5 .un) (v3.getD 6 .un) (v3.getD 7 .un) (v3.getD 8 .un) (v3.getD 9 .un) a11 a12 a13 a14 a15 a16 a17 a18 a19 a20)
section
variable (call : CallT) (run : RunT) (a0 : UInt8) (a1 a2 a3 a4 a5 a6 a7 a8 a9 a10 : AV) (a11 a12 : UInt8) (a13 : Bool) (a14 a15 a16 a17 : UInt8) (a18 : Bool) (a19 : UInt8) (a20 : List UInt8)
theorem text60_20 : step C call 60 Tryd.f60 (unr C call run 60 Tryd.f60 400) K60_20 (S60_20 a0 a1 a2 a3 a4 a5 a6 a7 a8 a9 a10 a11 a12 a13 a14 a15 a16 a17 a18 a19 a20) = X60_20 call run a0 a1 a2 a3 a4 a5 a6 a7 a8 a9 a10 a11 a12 a13 a14 a15 a16 a17 a18 a19 a20 := by
  kernel_rfl
end
noncomputable def X60_23 (call : CallT) (run : RunT) (a0 a1 a2 a3 a4 a5 a6 a7 a8 a9 : AV) (a10 a11 : UInt8) (a12 : Bool) (a13 a14 a15 a16 : UInt8) (a17 : Bool) (a18 : UInt8) (a19 : List UInt8) : Option AV :=
  some (.ag [a0, a1, a2, a3, a4, a5, a6, a7, a8, a9])
section
variable (call : CallT) (run : RunT) (a0 a1 a2 a3 a4 a5 a6 a7 a8 a9 : AV) (a10 a11 : UInt8) (a12 : Bool) (a13 a14 a15 a16 : UInt8) (a17 : Bool) (a18 : UInt8) (a19 : List UInt8)
theorem text60_23 : step C call 60 Tryd.f60 (unr C call run 60 Tryd.f60 400) K60_23 (S60_23 a0 a1 a2 a3 a4 a5 a6 a7 a8 a9 a10 a11 a12 a13 a14 a15 a16 a17 a18 a19) = X60_23 call run a0 a1 a2 a3 a4 a5 a6 a7 a8 a9 a10 a11 a12 a13 a14 a15 a16 a17 a18 a19 := by
  kernel_rfl
end
section
variable (a0 : UInt8) (a1 : AV) (a2 a3 : UInt8) (a4 : Bool) (a5 a6 a7 a8 : UInt8) (a9 : Bool) (a10 : UInt8) (a11 : List UInt8) (a12 a13 : UInt8) (a14 : Bool) (a15 a16 a17 a18 : UInt8) (a19 : Bool) (a20 : UInt8) (a21 : List UInt8)
theorem r60_8 {r : AV} (h : X60_8 (semCall C Tryd.prog) (semRun C Tryd.prog 60 Tryd.f60) a0 a1 a2 a3 a4 a5 a6 a7 a8 a9 a10 a11 a12 a13 a14 a15 a16 a17 a18 a19 a20 a21 = some r) : F60_8 (semRun C Tryd.prog 60 Tryd.f60) a0 a1 a2 a3 a4 a5 a6 a7 a8 a9 a10 a11 a12 a13 a14 a15 a16 a17 a18 a19 a20 a21 = some r :=
  semRun_unr 400 ((text60_8 _ _ a0 a1 a2 a3 a4 a5 a6 a7 a8 a9 a10 a11 a12 a13 a14 a15 a16 a17 a18 a19 a20 a21).trans h)
end
section
variable (a0 : UInt8) (a1 a2 a3 a4 a5 a6 a7 a8 a9 a10 : AV) (a11 a12 : UInt8) (a13 : Bool) (a14 a15 a16 a17 : UInt8) (a18 : Bool) (a19 : UInt8) (a20 : List UInt8)
theorem r60_20 {r : AV} (h : X60_20 (semCall C Tryd.prog) (semRun C Tryd.prog 60 Tryd.f60) a0 a1 a2 a3 a4 a5 a6 a7 a8 a9 a10 a11 a12 a13 a14 a15 a16 a17 a18 a19 a20 = some r) : F60_20 (semRun C Tryd.prog 60 Tryd.f60) a0 a1 a2 a3 a4 a5 a6 a7 a8 a9 a10 a11 a12 a13 a14 a15 a16 a17 a18 a19 a20 = some r :=
  semRun_unr 400 ((text60_20 _ _ a0 a1 a2 a3 a4 a5 a6 a7 a8 a9 a10 a11 a12 a13 a14 a15 a16 a17 a18 a19 a20).trans h)
end
section
variable (a0 a1 a2 a3 a4 a5 a6 a7 a8 a9 : AV) (a10 a11 : UInt8) (a12 : Bool) (a13 a14 a15 a16 : UInt8) (a17 : Bool) (a18 : UInt8) (a19 : List UInt8)
theorem r60_23 {r : AV} (h : X60_23 (semCall C Tryd.prog) (semRun C Tryd.prog 60 Tryd.f60) a0 a1 a2 a3 a4 a5 a6 a7 a8 a9 a10 a11 a12 a13 a14 a15 a16 a17 a18 a19 = some r) : F60_23 (semRun C Tryd.prog 60 Tryd.f60) a0 a1 a2 a3 a4 a5 a6 a7 a8 a9 a10 a11 a12 a13 a14 a15 a16 a17 a18 a19 = some r :=
  semRun_unr 400 ((text60_23 _ _ a0 a1 a2 a3 a4 a5 a6 a7 a8 a9 a10 a11 a12 a13 a14 a15 a16 a17 a18 a19).trans h)
end
end R4
