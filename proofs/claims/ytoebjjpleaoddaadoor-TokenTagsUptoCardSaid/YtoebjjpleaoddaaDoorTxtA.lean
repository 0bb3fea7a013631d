/-
  What functions of this seat come to, step by step.
-/
import Derived.Test.YtoebjjpleaoddaaDoorTab
import Derived.Test.YtoebjjpleaoddaaDoorProg
set_option linter.unusedVariables false
set_option linter.unusedSimpArgs false
set_option linter.unusedSectionVars false
set_option linter.unnecessarySimpa false
namespace R4
open Go Go.Proofs Sx
noncomputable def body31 : Code := (Tryd.f31.body).getD .skip
noncomputable def X31 (call : CallT) (run : RunT) (a0 a1 : UInt8) (a2 : Bool) (a3 a4 a5 a6 : UInt8) (a7 : Bool) (a8 : UInt8) (a9 : List UInt8) : Option AV :=
  (selW (.b (decide ((w64 (a0.toNat : Int)) > 20))) false (some (.b (ugt a1 4))) (.b true)).bind fun v1 => (selW (v1) false (some (.b (ugt a3 4))) (.b true)).bind fun v2 => (selW (v2) false (some (.b (ugt a5 5))) (.b true)).bind fun v3 => (selW (v3) false (some (.b (ugt a6 6))) (.b true)).bind fun v4 => (selW (v4) false (some (.b (ugt a8 2))) (.b true)).bind fun v5 => condM (v5)
  (some (.b false))
  ((selW (.b (decide ((w64 (a0.toNat : Int)) ≥ 4))) true (some (.b (decide ((w64 (a0.toNat : Int)) ≤ 10)))) (.b false)).bind fun v6 => (selW (.b (decide ((w64 (a0.toNat : Int)) ≥ 17))) true (some (.b (decide ((w64 (a0.toNat : Int)) ≤ 19)))) (.b false)).bind fun v7 => (selW (.b (une a1 0)) true ((unop .not (v6)).bind fun v8 => some (v8)) (.b false)).bind fun v9 => (selW (v9) true ((unop .not (v7)).bind fun v10 => some (v10)) (.b false)).bind fun v11 => (selW (v11) false ((selW (v7) true (some (.b (ueq a1 0))) (.b false)).bind fun v12 => some (v12)) (.b true)).bind fun v13 => condM (v13)
  (some (.b false))
  ((selW (.b a2) true ((selW (.b ((w64 (a0.toNat : Int)) != 3)) true ((unop .not (v6)).bind fun v14 => some (v14)) (.b false)).bind fun v15 => (selW (v15) false (some (.b (une a1 0))) (.b true)).bind fun v16 => some (v16)) (.b false)).bind fun v17 => condM (v17)
  (some (.b false))
  ((selW (.b (une a3 0)) true (some (.b ((w64 (a0.toNat : Int)) != 7))) (.b false)).bind fun v18 => (selW (v18) true (some (.b ((w64 (a0.toNat : Int)) != 8))) (.b false)).bind fun v19 => condM (v19)
  (some (.b false))
  ((selW (.b (une a4 0)) true ((selW (.b ((w64 (a0.toNat : Int)) != 8)) false ((selW (.b (une a4 34)) true (some (.b (une a4 39))) (.b false)).bind fun v20 => some (v20)) (.b true)).bind fun v21 => some (v21)) (.b false)).bind fun v22 => condM (v22)
  (some (.b false))
  ((selW (.b (une a5 0)) true ((selW (.b ((w64 (a0.toNat : Int)) != 8)) false (some (.b (une a3 1))) (.b true)).bind fun v23 => some (v23)) (.b false)).bind fun v24 => condM (v24)
  (some (.b false))
  ((selW (.b (une a8 0)) true (some (.b ((w64 (a0.toNat : Int)) != 15))) (.b false)).bind fun v25 => condM (v25)
  (some (.b false))
  ((selW (.b ((w64 (a0.toNat : Int)) == 8)) true (some (.b (ueq a3 3))) (.b false)).bind fun v26 => (selW (v26) false ((selW (v7) true (some (.b (ueq a1 4))) (.b false)).bind fun v27 => some (v27)) (.b true)).bind fun v28 => (selW (.b (une a6 0)) true ((call 51 [.ag [.u8 a0, .u8 a1, .b a2, .u8 a3, .u8 a4, .u8 a5, .u8 a6, .b a7, .u8 a8, .s a9]]).bind fun v29 => (unop .not (v29)).bind fun v30 => some (v30)) (.b false)).bind fun v31 => (selW (v31) false ((selW (v28) true (some (.b (ueq a6 4))) (.b false)).bind fun v32 => some (v32)) (.b true)).bind fun v33 => condM (v33)
  (some (.b false))
  ((selW (.b a7) true (some (.b (une a6 1))) (.b false)).bind fun v34 => (selW (v34) true (some (.b (une a6 2))) (.b false)).bind fun v35 => condM (v35)
  (some (.b false))
  ((selW (.b ((w64 (a0.toNat : Int)) == 3)) false (some (.b ((w64 (a0.toNat : Int)) == 5))) (.b true)).bind fun v36 => (selW (v36) false (some (.b ((w64 (a0.toNat : Int)) == 6))) (.b true)).bind fun v37 => condM (v37)
  ((call 52 [.s a9, .int 32]).bind fun v38 => some (v38))
  ((selW (.b ((w64 (a0.toNat : Int)) == 8)) true (some (.b (ueq a3 1))) (.b false)).bind fun v39 => (selW (v39) true (some (.b (ueq a5 1))) (.b false)).bind fun v40 => condM (v40)
  ((call 52 [.s a9, .int 16]).bind fun v41 => some (v41))
  (condM (.b ((w64 (a0.toNat : Int)) == 19))
  ((call 35 [.int (w64 (a1.toNat : Int))]).bind fun v42 => (lenS (v42)).bind fun v43 => (binI .leq (.int ((a9.length : Int))) (v43)).bind fun v44 => (selW (v44) true ((slS (v42) none (some (.int ((a9.length : Int))))).bind fun v45 => (binS .eql (v45) (.s a9)).bind fun v46 => some (v46)) (.b false)).bind fun v47 => some (v47))
  (some (.b (a9 == []))))))))))))))
section
variable (call : CallT) (run : RunT) (a0 a1 : UInt8) (a2 : Bool) (a3 a4 a5 a6 : UInt8) (a7 : Bool) (a8 : UInt8) (a9 : List UInt8)
theorem text31 : unr C call run 31 Tryd.f31 400 [.code body31] (initF C 31 Tryd.f31.ntmps [.ag [.u8 a0, .u8 a1, .b a2, .u8 a3, .u8 a4, .u8 a5, .u8 a6, .b a7, .u8 a8, .s a9]]) = X31 call run a0 a1 a2 a3 a4 a5 a6 a7 a8 a9 := by
  kernel_rfl
theorem c31 {r : AV} (h : X31 (semCall C Tryd.prog) (semRun C Tryd.prog 31 Tryd.f31) a0 a1 a2 a3 a4 a5 a6 a7 a8 a9 = some r) : semCall C Tryd.prog 31 [.ag [.u8 a0, .u8 a1, .b a2, .u8 a3, .u8 a4, .u8 a5, .u8 a6, .b a7, .u8 a8, .s a9]] = some r :=
  semCall_unr (fn := Tryd.f31) (c := body31) (by kernel_rfl) (by kernel_rfl) 400 (by kernel_rfl) ((text31 _ _ a0 a1 a2 a3 a4 a5 a6 a7 a8 a9).trans h)
end
end R4

namespace R4
open Go Go.Proofs Sx
noncomputable def body35 : Code := (Tryd.f35.body).getD .skip
noncomputable def X35 (call : CallT) (run : RunT) (a0 : Int) : Option AV :=
  (selW (.b (decide (a0 < 0))) false (some (.b (decide (a0 > 4)))) (.b true)).bind fun v1 => condM (v1)
  (some (.s []))
  ((inN (([.s [], .s [116, 101, 120, 116, 97, 114, 101, 97], .s [116, 105, 116, 108, 101], .s [115, 99, 114, 105, 112, 116], .s [115, 116, 121, 108, 101]] : List AV)).length (.int a0)).bind fun v2 => some (AV.cell ((([.s [], .s [116, 101, 120, 116, 97, 114, 101, 97], .s [116, 105, 116, 108, 101], .s [115, 99, 114, 105, 112, 116], .s [115, 116, 121, 108, 101]] : List AV)).getD v2 .un) 0))
section
variable (call : CallT) (run : RunT) (a0 : Int)
theorem text35 : unr C call run 35 Tryd.f35 400 [.code body35] (initF C 35 Tryd.f35.ntmps [.int a0]) = X35 call run a0 := by
  kernel_rfl
theorem c35 {r : AV} (h : X35 (semCall C Tryd.prog) (semRun C Tryd.prog 35 Tryd.f35) a0 = some r) : semCall C Tryd.prog 35 [.int a0] = some r :=
  semCall_unr (fn := Tryd.f35) (c := body35) (by kernel_rfl) (by kernel_rfl) 400 (by kernel_rfl) ((text35 _ _ a0).trans h)
end
end R4

namespace R4
open Go Go.Proofs Sx
noncomputable def body43 : Code := (Tryd.f43.body).getD .skip
section
variable (run : RunT) (a0 a1 : UInt8) (a2 : Bool) (a3 a4 a5 a6 : UInt8) (a7 : Bool) (a8 : UInt8) (a9 : List UInt8) (a10 a11 : UInt8) (a12 : Bool) (a13 a14 a15 a16 : UInt8) (a17 : Bool) (a18 : UInt8) (a19 : List UInt8)
noncomputable def K43_11 : List Item := (kAt 11 body43 []).getD []
def S43_11 : St := St.ofL [(1, .cell (.ptr 1 0)), (4, .cell (.ptr 4 0))] [(1, some [.val (.u8 a0), .val (.u8 a1), .val (.b a2), .val (.u8 a3), .val (.u8 a4), .val (.u8 a5), .val (.u8 a6), .val (.b a7), .val (.u8 a8), .val (.s a9)]), (4, some [.val (.u8 a10), .val (.u8 a11), .val (.b a12), .val (.u8 a13), .val (.u8 a14), .val (.u8 a15), .val (.u8 a16), .val (.b a17), .val (.u8 a18), .val (.s a19)])]
noncomputable def F43_11 : Option AV := run K43_11 (S43_11 a0 a1 a2 a3 a4 a5 a6 a7 a8 a9 a10 a11 a12 a13 a14 a15 a16 a17 a18 a19)
end
section
variable (run : RunT) (a0 a1 a2 : UInt8) (a3 : Bool) (a4 a5 a6 a7 : UInt8) (a8 : Bool) (a9 : UInt8) (a10 : List UInt8) (a11 a12 : UInt8) (a13 : Bool) (a14 a15 a16 a17 : UInt8) (a18 : Bool) (a19 : UInt8) (a20 : List UInt8) (a21 a22 : UInt8) (a23 : Bool) (a24 a25 a26 a27 : UInt8) (a28 : Bool) (a29 : UInt8) (a30 : List UInt8)
noncomputable def K43_12 : List Item := (kAt 12 body43 []).getD []
def S43_12 : St := St.ofL [(1, .cell (.ptr 1 0)), (3, .cell (.ptr 3 0)), (4, .cell (.ptr 4 0)), (48, .cell (.val (.u8 a0)))] [(1, some [.val (.u8 a1), .val (.u8 a2), .val (.b a3), .val (.u8 a4), .val (.u8 a5), .val (.u8 a6), .val (.u8 a7), .val (.b a8), .val (.u8 a9), .val (.s a10)]), (3, some [.val (.u8 a11), .val (.u8 a12), .val (.b a13), .val (.u8 a14), .val (.u8 a15), .val (.u8 a16), .val (.u8 a17), .val (.b a18), .val (.u8 a19), .val (.s a20)]), (4, some [.val (.u8 a21), .val (.u8 a22), .val (.b a23), .val (.u8 a24), .val (.u8 a25), .val (.u8 a26), .val (.u8 a27), .val (.b a28), .val (.u8 a29), .val (.s a30)])]
noncomputable def F43_12 : Option AV := run K43_12 (S43_12 a0 a1 a2 a3 a4 a5 a6 a7 a8 a9 a10 a11 a12 a13 a14 a15 a16 a17 a18 a19 a20 a21 a22 a23 a24 a25 a26 a27 a28 a29 a30)
end
section
variable (run : RunT) (a0 a1 : UInt8) (a2 : Bool) (a3 a4 a5 a6 : UInt8) (a7 : Bool) (a8 : UInt8) (a9 : List UInt8) (a10 a11 : UInt8) (a12 : Bool) (a13 a14 a15 a16 : UInt8) (a17 : Bool) (a18 : UInt8) (a19 : List UInt8)
noncomputable def K43_14 : List Item := (kAt 14 body43 []).getD []
def S43_14 : St := St.ofL [(1, .cell (.ptr 1 0)), (4, .cell (.ptr 4 0))] [(1, some [.val (.u8 a0), .val (.u8 a1), .val (.b a2), .val (.u8 a3), .val (.u8 a4), .val (.u8 a5), .val (.u8 a6), .val (.b a7), .val (.u8 a8), .val (.s a9)]), (4, some [.val (.u8 a10), .val (.u8 a11), .val (.b a12), .val (.u8 a13), .val (.u8 a14), .val (.u8 a15), .val (.u8 a16), .val (.b a17), .val (.u8 a18), .val (.s a19)])]
noncomputable def F43_14 : Option AV := run K43_14 (S43_14 a0 a1 a2 a3 a4 a5 a6 a7 a8 a9 a10 a11 a12 a13 a14 a15 a16 a17 a18 a19)
end
section
variable (run : RunT) (a0 a1 a2 : UInt8) (a3 : Bool) (a4 a5 a6 a7 : UInt8) (a8 : Bool) (a9 : UInt8) (a10 : List UInt8) (a11 a12 : UInt8) (a13 : Bool) (a14 a15 a16 a17 : UInt8) (a18 : Bool) (a19 : UInt8) (a20 : List UInt8) (a21 a22 : UInt8) (a23 : Bool) (a24 a25 a26 a27 : UInt8) (a28 : Bool) (a29 : UInt8) (a30 : List UInt8)
noncomputable def K43_16 : List Item := (kAt 16 body43 []).getD []
def S43_16 : St := St.ofL [(1, .cell (.ptr 1 0)), (3, .cell (.ptr 3 0)), (4, .cell (.ptr 4 0)), (48, .cell (.val (.u8 a0)))] [(1, some [.val (.u8 a1), .val (.u8 a2), .val (.b a3), .val (.u8 a4), .val (.u8 a5), .val (.u8 a6), .val (.u8 a7), .val (.b a8), .val (.u8 a9), .val (.s a10)]), (3, some [.val (.u8 a11), .val (.u8 a12), .val (.b a13), .val (.u8 a14), .val (.u8 a15), .val (.u8 a16), .val (.u8 a17), .val (.b a18), .val (.u8 a19), .val (.s a20)]), (4, some [.val (.u8 a21), .val (.u8 a22), .val (.b a23), .val (.u8 a24), .val (.u8 a25), .val (.u8 a26), .val (.u8 a27), .val (.b a28), .val (.u8 a29), .val (.s a30)])]
noncomputable def F43_16 : Option AV := run K43_16 (S43_16 a0 a1 a2 a3 a4 a5 a6 a7 a8 a9 a10 a11 a12 a13 a14 a15 a16 a17 a18 a19 a20 a21 a22 a23 a24 a25 a26 a27 a28 a29 a30)
end
section
variable (run : RunT) (a0 a1 : UInt8) (a2 : Bool) (a3 a4 a5 a6 : UInt8) (a7 : Bool) (a8 : UInt8) (a9 : List UInt8)
noncomputable def K43_27 : List Item := (kAt 27 body43 []).getD []
def S43_27 : St := St.ofL [(1, .cell (.ptr 1 0))] [(1, some [.val (.u8 a0), .val (.u8 a1), .val (.b a2), .val (.u8 a3), .val (.u8 a4), .val (.u8 a5), .val (.u8 a6), .val (.b a7), .val (.u8 a8), .val (.s a9)])]
noncomputable def F43_27 : Option AV := run K43_27 (S43_27 a0 a1 a2 a3 a4 a5 a6 a7 a8 a9)
end
section
variable (run : RunT) (a0 a1 : UInt8) (a2 : Bool) (a3 a4 a5 a6 : UInt8) (a7 : Bool) (a8 : UInt8) (a9 : List UInt8) (a10 a11 : UInt8) (a12 : Bool) (a13 a14 a15 a16 : UInt8) (a17 : Bool) (a18 : UInt8) (a19 : List UInt8)
noncomputable def K43_28 : List Item := (kAt 28 body43 []).getD []
def S43_28 : St := St.ofL [(1, .cell (.ptr 1 0)), (3, .cell (.ptr 3 0))] [(1, some [.val (.u8 a0), .val (.u8 a1), .val (.b a2), .val (.u8 a3), .val (.u8 a4), .val (.u8 a5), .val (.u8 a6), .val (.b a7), .val (.u8 a8), .val (.s a9)]), (3, some [.val (.u8 a10), .val (.u8 a11), .val (.b a12), .val (.u8 a13), .val (.u8 a14), .val (.u8 a15), .val (.u8 a16), .val (.b a17), .val (.u8 a18), .val (.s a19)])]
noncomputable def F43_28 : Option AV := run K43_28 (S43_28 a0 a1 a2 a3 a4 a5 a6 a7 a8 a9 a10 a11 a12 a13 a14 a15 a16 a17 a18 a19)
end
noncomputable def X43 (call : CallT) (run : RunT) (a0 a1 : UInt8) (a2 : Bool) (a3 a4 a5 a6 : UInt8) (a7 : Bool) (a8 : UInt8) (a9 : List UInt8) : Option AV :=
  (selW (.b (ugt a0 20)) false (some (.b (ugt a1 4))) (.b true)).bind fun v1 => (selW (v1) false (some (.b (ugt a3 4))) (.b true)).bind fun v2 => (selW (v2) false (some (.b (ugt a5 5))) (.b true)).bind fun v3 => (selW (v3) false (some (.b (ugt a6 6))) (.b true)).bind fun v4 => (selW (v4) false ((selW (.b a2) true (some (.b (une a1 0))) (.b false)).bind fun v5 => some (v5)) (.b true)).bind fun v6 => condM (v6)
  (some (.b false))
  (condM (.b (ueq a0 3))
  ((selW (.b ((a0 == a0 && (a1 == 0 && (a2 == a2 && (a3 == 0 && (a4 == 0 && (a5 == 0 && (a6 == 0 && (a7 == false && (a8 == 0 && (a9 == a9 && true)))))))))))) true ((call 62 [.s a9, .int 32]).bind fun v7 => some (v7)) (.b false)).bind fun v8 => some (v8))
  (condM (.b (ueq a0 4))
  (F43_11 run a0 a1 a2 a3 a4 a5 a6 a7 a8 a9 a0 a1 a2 0 0 0 0 false 0 [])
  (condM (.b (ueq a0 9))
  (F43_11 run a0 a1 a2 a3 a4 a5 a6 a7 a8 a9 a0 a1 a2 0 0 0 0 false 0 [])
  (condM (.b (ueq a0 10))
  (F43_11 run a0 a1 a2 a3 a4 a5 a6 a7 a8 a9 a0 a1 a2 0 0 0 0 false 0 [])
  (F43_12 run a0 a0 a1 a2 a3 a4 a5 a6 a7 a8 a9 a0 0 false 0 0 0 0 false 0 [] a0 a1 a2 0 0 0 0 false 0 [])))))
section
variable (call : CallT) (run : RunT) (a0 a1 : UInt8) (a2 : Bool) (a3 a4 a5 a6 : UInt8) (a7 : Bool) (a8 : UInt8) (a9 : List UInt8)
theorem text43 : unr C call run 43 Tryd.f43 400 [.code body43] (initF C 43 Tryd.f43.ntmps [.ag [.u8 a0, .u8 a1, .b a2, .u8 a3, .u8 a4, .u8 a5, .u8 a6, .b a7, .u8 a8, .s a9]]) = X43 call run a0 a1 a2 a3 a4 a5 a6 a7 a8 a9 := by
  kernel_rfl
theorem c43 {r : AV} (h : X43 (semCall C Tryd.prog) (semRun C Tryd.prog 43 Tryd.f43) a0 a1 a2 a3 a4 a5 a6 a7 a8 a9 = some r) : semCall C Tryd.prog 43 [.ag [.u8 a0, .u8 a1, .b a2, .u8 a3, .u8 a4, .u8 a5, .u8 a6, .b a7, .u8 a8, .s a9]] = some r :=
  semCall_unr (fn := Tryd.f43) (c := body43) (by kernel_rfl) (by kernel_rfl) 400 (by kernel_rfl) ((text43 _ _ a0 a1 a2 a3 a4 a5 a6 a7 a8 a9).trans h)
end
noncomputable def X43_11 (call : CallT) (run : RunT) (a0 a1 : UInt8) (a2 : Bool) (a3 a4 a5 a6 : UInt8) (a7 : Bool) (a8 : UInt8) (a9 : List UInt8) (a10 a11 : UInt8) (a12 : Bool) (a13 a14 a15 a16 : UInt8) (a17 : Bool) (a18 : UInt8) (a19 : List UInt8) : Option AV :=
  some (.b ((a0 == a10 && (a1 == a11 && (a2 == a12 && (a3 == a13 && (a4 == a14 && (a5 == a15 && (a6 == a16 && (a7 == a17 && (a8 == a18 && (a9 == a19 && true))))))))))))
section
variable (call : CallT) (run : RunT) (a0 a1 : UInt8) (a2 : Bool) (a3 a4 a5 a6 : UInt8) (a7 : Bool) (a8 : UInt8) (a9 : List UInt8) (a10 a11 : UInt8) (a12 : Bool) (a13 a14 a15 a16 : UInt8) (a17 : Bool) (a18 : UInt8) (a19 : List UInt8)
theorem text43_11 : step C call 43 Tryd.f43 (unr C call run 43 Tryd.f43 400) K43_11 (S43_11 a0 a1 a2 a3 a4 a5 a6 a7 a8 a9 a10 a11 a12 a13 a14 a15 a16 a17 a18 a19) = X43_11 call run a0 a1 a2 a3 a4 a5 a6 a7 a8 a9 a10 a11 a12 a13 a14 a15 a16 a17 a18 a19 := by
  kernel_rfl
end
noncomputable def X43_12 (call : CallT) (run : RunT) (a0 a1 a2 : UInt8) (a3 : Bool) (a4 a5 a6 a7 : UInt8) (a8 : Bool) (a9 : UInt8) (a10 : List UInt8) (a11 a12 : UInt8) (a13 : Bool) (a14 a15 a16 a17 : UInt8) (a18 : Bool) (a19 : UInt8) (a20 : List UInt8) (a21 a22 : UInt8) (a23 : Bool) (a24 a25 a26 a27 : UInt8) (a28 : Bool) (a29 : UInt8) (a30 : List UInt8) : Option AV :=
  condM (.b (ueq a0 5))
  (F43_14 run a1 a2 a3 a4 a5 a6 a7 a8 a9 a10 a21 a22 a23 a24 a25 a26 a27 a28 a29 a30)
  (condM (.b (ueq a0 6))
  (F43_14 run a1 a2 a3 a4 a5 a6 a7 a8 a9 a10 a21 a22 a23 a24 a25 a26 a27 a28 a29 a30)
  (F43_16 run a0 a1 a2 a3 a4 a5 a6 a7 a8 a9 a10 a11 a12 a13 a14 a15 a16 a17 a18 a19 a20 a21 a22 a23 a24 a25 a26 a27 a28 a29 a30))
section
variable (call : CallT) (run : RunT) (a0 a1 a2 : UInt8) (a3 : Bool) (a4 a5 a6 a7 : UInt8) (a8 : Bool) (a9 : UInt8) (a10 : List UInt8) (a11 a12 : UInt8) (a13 : Bool) (a14 a15 a16 a17 : UInt8) (a18 : Bool) (a19 : UInt8) (a20 : List UInt8) (a21 a22 : UInt8) (a23 : Bool) (a24 a25 a26 a27 : UInt8) (a28 : Bool) (a29 : UInt8) (a30 : List UInt8)
theorem text43_12 : step C call 43 Tryd.f43 (unr C call run 43 Tryd.f43 400) K43_12 (S43_12 a0 a1 a2 a3 a4 a5 a6 a7 a8 a9 a10 a11 a12 a13 a14 a15 a16 a17 a18 a19 a20 a21 a22 a23 a24 a25 a26 a27 a28 a29 a30) = X43_12 call run a0 a1 a2 a3 a4 a5 a6 a7 a8 a9 a10 a11 a12 a13 a14 a15 a16 a17 a18 a19 a20 a21 a22 a23 a24 a25 a26 a27 a28 a29 a30 := by
  kernel_rfl
end
noncomputable def X43_14 (call : CallT) (run : RunT) (a0 a1 : UInt8) (a2 : Bool) (a3 a4 a5 a6 : UInt8) (a7 : Bool) (a8 : UInt8) (a9 : List UInt8) (a10 a11 : UInt8) (a12 : Bool) (a13 a14 a15 a16 : UInt8) (a17 : Bool) (a18 : UInt8) (a19 : List UInt8) : Option AV :=
  (selW (.b ((a0 == a10 && (a1 == a11 && (a2 == a12 && (a3 == a13 && (a4 == a14 && (a5 == a15 && (a6 == a16 && (a7 == a17 && (a8 == a18 && (a9 == a9 && true)))))))))))) true ((call 62 [.s a9, .int 32]).bind fun v1 => some (v1)) (.b false)).bind fun v2 => some (v2)
section
variable (call : CallT) (run : RunT) (a0 a1 : UInt8) (a2 : Bool) (a3 a4 a5 a6 : UInt8) (a7 : Bool) (a8 : UInt8) (a9 : List UInt8) (a10 a11 : UInt8) (a12 : Bool) (a13 a14 a15 a16 : UInt8) (a17 : Bool) (a18 : UInt8) (a19 : List UInt8)
theorem text43_14 : step C call 43 Tryd.f43 (unr C call run 43 Tryd.f43 400) K43_14 (S43_14 a0 a1 a2 a3 a4 a5 a6 a7 a8 a9 a10 a11 a12 a13 a14 a15 a16 a17 a18 a19) = X43_14 call run a0 a1 a2 a3 a4 a5 a6 a7 a8 a9 a10 a11 a12 a13 a14 a15 a16 a17 a18 a19 := by
  kernel_rfl
end
noncomputable def X43_16 (call : CallT) (run : RunT) (a0 a1 a2 : UInt8) (a3 : Bool) (a4 a5 a6 a7 : UInt8) (a8 : Bool) (a9 : UInt8) (a10 : List UInt8) (a11 a12 : UInt8) (a13 : Bool) (a14 a15 a16 a17 : UInt8) (a18 : Bool) (a19 : UInt8) (a20 : List UInt8) (a21 a22 : UInt8) (a23 : Bool) (a24 a25 a26 a27 : UInt8) (a28 : Bool) (a29 : UInt8) (a30 : List UInt8) : Option AV :=
  condM (.b (ueq a0 7))
  (some (.b ((a1 == a21 && (a2 == a22 && (a3 == a23 && (a4 == a4 && (a5 == a25 && (a6 == a26 && (a7 == a27 && (a8 == a28 && (a9 == a29 && (a10 == a30 && true)))))))))))))
  (condM (.b (ueq a0 8))
  ((call 63 [.ag [.u8 a1, .u8 a2, .b a3, .u8 a4, .u8 a5, .u8 a6, .u8 a7, .b a8, .u8 a9, .s a10], .ag [.u8 a21, .u8 a22, .b a23, .u8 a24, .u8 a25, .u8 a26, .u8 a27, .b a28, .u8 a29, .s a30]]).bind fun v1 => some (v1))
  (condM (.b (ueq a0 15))
  ((selW (.b ((a1 == a11 && (a2 == a12 && (a3 == a13 && (a4 == a14 && (a5 == a15 && (a6 == a16 && (a7 == a17 && (a8 == a18 && (a9 == a9 && (a10 == a20 && true)))))))))))) true (some (.b (ule a9 2))) (.b false)).bind fun v2 => some (v2))
  (condM (.b (ueq a0 17))
  (F43_27 run a1 a2 a3 a4 a5 a6 a7 a8 a9 a10)
  (condM (.b (ueq a0 18))
  (F43_27 run a1 a2 a3 a4 a5 a6 a7 a8 a9 a10)
  (condM (.b (ueq a0 19))
  (F43_27 run a1 a2 a3 a4 a5 a6 a7 a8 a9 a10)
  (F43_28 run a1 a2 a3 a4 a5 a6 a7 a8 a9 a10 a11 a12 a13 a14 a15 a16 a17 a18 a19 a20))))))
section
variable (call : CallT) (run : RunT) (a0 a1 a2 : UInt8) (a3 : Bool) (a4 a5 a6 a7 : UInt8) (a8 : Bool) (a9 : UInt8) (a10 : List UInt8) (a11 a12 : UInt8) (a13 : Bool) (a14 a15 a16 a17 : UInt8) (a18 : Bool) (a19 : UInt8) (a20 : List UInt8) (a21 a22 : UInt8) (a23 : Bool) (a24 a25 a26 a27 : UInt8) (a28 : Bool) (a29 : UInt8) (a30 : List UInt8)
theorem text43_16 : step C call 43 Tryd.f43 (unr C call run 43 Tryd.f43 400) K43_16 (S43_16 a0 a1 a2 a3 a4 a5 a6 a7 a8 a9 a10 a11 a12 a13 a14 a15 a16 a17 a18 a19 a20 a21 a22 a23 a24 a25 a26 a27 a28 a29 a30) = X43_16 call run a0 a1 a2 a3 a4 a5 a6 a7 a8 a9 a10 a11 a12 a13 a14 a15 a16 a17 a18 a19 a20 a21 a22 a23 a24 a25 a26 a27 a28 a29 a30 := by
  kernel_rfl
end
noncomputable def X43_27 (call : CallT) (run : RunT) (a0 a1 : UInt8) (a2 : Bool) (a3 a4 a5 a6 : UInt8) (a7 : Bool) (a8 : UInt8) (a9 : List UInt8) : Option AV :=
  (call 64 [.ag [.u8 a0, .u8 a1, .b a2, .u8 a3, .u8 a4, .u8 a5, .u8 a6, .b a7, .u8 a8, .s a9]]).bind fun v1 => some (v1)
section
variable (call : CallT) (run : RunT) (a0 a1 : UInt8) (a2 : Bool) (a3 a4 a5 a6 : UInt8) (a7 : Bool) (a8 : UInt8) (a9 : List UInt8)
theorem text43_27 : step C call 43 Tryd.f43 (unr C call run 43 Tryd.f43 400) K43_27 (S43_27 a0 a1 a2 a3 a4 a5 a6 a7 a8 a9) = X43_27 call run a0 a1 a2 a3 a4 a5 a6 a7 a8 a9 := by
  kernel_rfl
end
noncomputable def X43_28 (call : CallT) (run : RunT) (a0 a1 : UInt8) (a2 : Bool) (a3 a4 a5 a6 : UInt8) (a7 : Bool) (a8 : UInt8) (a9 : List UInt8) (a10 a11 : UInt8) (a12 : Bool) (a13 a14 a15 a16 : UInt8) (a17 : Bool) (a18 : UInt8) (a19 : List UInt8) : Option AV :=
  some (.b ((a0 == a10 && (a1 == a11 && (a2 == a12 && (a3 == a13 && (a4 == a14 && (a5 == a15 && (a6 == a16 && (a7 == a17 && (a8 == a18 && (a9 == a19 && true))))))))))))
section
variable (call : CallT) (run : RunT) (a0 a1 : UInt8) (a2 : Bool) (a3 a4 a5 a6 : UInt8) (a7 : Bool) (a8 : UInt8) (a9 : List UInt8) (a10 a11 : UInt8) (a12 : Bool) (a13 a14 a15 a16 : UInt8) (a17 : Bool) (a18 : UInt8) (a19 : List UInt8)
theorem text43_28 : step C call 43 Tryd.f43 (unr C call run 43 Tryd.f43 400) K43_28 (S43_28 a0 a1 a2 a3 a4 a5 a6 a7 a8 a9 a10 a11 a12 a13 a14 a15 a16 a17 a18 a19) = X43_28 call run a0 a1 a2 a3 a4 a5 a6 a7 a8 a9 a10 a11 a12 a13 a14 a15 a16 a17 a18 a19 := by
  kernel_rfl
end
section
variable (a0 a1 : UInt8) (a2 : Bool) (a3 a4 a5 a6 : UInt8) (a7 : Bool) (a8 : UInt8) (a9 : List UInt8) (a10 a11 : UInt8) (a12 : Bool) (a13 a14 a15 a16 : UInt8) (a17 : Bool) (a18 : UInt8) (a19 : List UInt8)
theorem r43_11 {r : AV} (h : X43_11 (semCall C Tryd.prog) (semRun C Tryd.prog 43 Tryd.f43) a0 a1 a2 a3 a4 a5 a6 a7 a8 a9 a10 a11 a12 a13 a14 a15 a16 a17 a18 a19 = some r) : F43_11 (semRun C Tryd.prog 43 Tryd.f43) a0 a1 a2 a3 a4 a5 a6 a7 a8 a9 a10 a11 a12 a13 a14 a15 a16 a17 a18 a19 = some r :=
  semRun_unr 400 ((text43_11 _ _ a0 a1 a2 a3 a4 a5 a6 a7 a8 a9 a10 a11 a12 a13 a14 a15 a16 a17 a18 a19).trans h)
end
section
variable (a0 a1 a2 : UInt8) (a3 : Bool) (a4 a5 a6 a7 : UInt8) (a8 : Bool) (a9 : UInt8) (a10 : List UInt8) (a11 a12 : UInt8) (a13 : Bool) (a14 a15 a16 a17 : UInt8) (a18 : Bool) (a19 : UInt8) (a20 : List UInt8) (a21 a22 : UInt8) (a23 : Bool) (a24 a25 a26 a27 : UInt8) (a28 : Bool) (a29 : UInt8) (a30 : List UInt8)
theorem r43_12 {r : AV} (h : X43_12 (semCall C Tryd.prog) (semRun C Tryd.prog 43 Tryd.f43) a0 a1 a2 a3 a4 a5 a6 a7 a8 a9 a10 a11 a12 a13 a14 a15 a16 a17 a18 a19 a20 a21 a22 a23 a24 a25 a26 a27 a28 a29 a30 = some r) : F43_12 (semRun C Tryd.prog 43 Tryd.f43) a0 a1 a2 a3 a4 a5 a6 a7 a8 a9 a10 a11 a12 a13 a14 a15 a16 a17 a18 a19 a20 a21 a22 a23 a24 a25 a26 a27 a28 a29 a30 = some r :=
  semRun_unr 400 ((text43_12 _ _ a0 a1 a2 a3 a4 a5 a6 a7 a8 a9 a10 a11 a12 a13 a14 a15 a16 a17 a18 a19 a20 a21 a22 a23 a24 a25 a26 a27 a28 a29 a30).trans h)
end
section
variable (a0 a1 : UInt8) (a2 : Bool) (a3 a4 a5 a6 : UInt8) (a7 : Bool) (a8 : UInt8) (a9 : List UInt8) (a10 a11 : UInt8) (a12 : Bool) (a13 a14 a15 a16 : UInt8) (a17 : Bool) (a18 : UInt8) (a19 : List UInt8)
theorem r43_14 {r : AV} (h : X43_14 (semCall C Tryd.prog) (semRun C Tryd.prog 43 Tryd.f43) a0 a1 a2 a3 a4 a5 a6 a7 a8 a9 a10 a11 a12 a13 a14 a15 a16 a17 a18 a19 = some r) : F43_14 (semRun C Tryd.prog 43 Tryd.f43) a0 a1 a2 a3 a4 a5 a6 a7 a8 a9 a10 a11 a12 a13 a14 a15 a16 a17 a18 a19 = some r :=
  semRun_unr 400 ((text43_14 _ _ a0 a1 a2 a3 a4 a5 a6 a7 a8 a9 a10 a11 a12 a13 a14 a15 a16 a17 a18 a19).trans h)
end
section
variable (a0 a1 a2 : UInt8) (a3 : Bool) (a4 a5 a6 a7 : UInt8) (a8 : Bool) (a9 : UInt8) (a10 : List UInt8) (a11 a12 : UInt8) (a13 : Bool) (a14 a15 a16 a17 : UInt8) (a18 : Bool) (a19 : UInt8) (a20 : List UInt8) (a21 a22 : UInt8) (a23 : Bool) (a24 a25 a26 a27 : UInt8) (a28 : Bool) (a29 : UInt8) (a30 : List UInt8)
theorem r43_16 {r : AV} (h : X43_16 (semCall C Tryd.prog) (semRun C Tryd.prog 43 Tryd.f43) a0 a1 a2 a3 a4 a5 a6 a7 a8 a9 a10 a11 a12 a13 a14 a15 a16 a17 a18 a19 a20 a21 a22 a23 a24 a25 a26 a27 a28 a29 a30 = some r) : F43_16 (semRun C Tryd.prog 43 Tryd.f43) a0 a1 a2 a3 a4 a5 a6 a7 a8 a9 a10 a11 a12 a13 a14 a15 a16 a17 a18 a19 a20 a21 a22 a23 a24 a25 a26 a27 a28 a29 a30 = some r :=
  semRun_unr 400 ((text43_16 _ _ a0 a1 a2 a3 a4 a5 a6 a7 a8 a9 a10 a11 a12 a13 a14 a15 a16 a17 a18 a19 a20 a21 a22 a23 a24 a25 a26 a27 a28 a29 a30).trans h)
end
section
variable (a0 a1 : UInt8) (a2 : Bool) (a3 a4 a5 a6 : UInt8) (a7 : Bool) (a8 : UInt8) (a9 : List UInt8)
theorem r43_27 {r : AV} (h : X43_27 (semCall C Tryd.prog) (semRun C Tryd.prog 43 Tryd.f43) a0 a1 a2 a3 a4 a5 a6 a7 a8 a9 = some r) : F43_27 (semRun C Tryd.prog 43 Tryd.f43) a0 a1 a2 a3 a4 a5 a6 a7 a8 a9 = some r :=
  semRun_unr 400 ((text43_27 _ _ a0 a1 a2 a3 a4 a5 a6 a7 a8 a9).trans h)
end
section
variable (a0 a1 : UInt8) (a2 : Bool) (a3 a4 a5 a6 : UInt8) (a7 : Bool) (a8 : UInt8) (a9 : List UInt8) (a10 a11 : UInt8) (a12 : Bool) (a13 a14 a15 a16 : UInt8) (a17 : Bool) (a18 : UInt8) (a19 : List UInt8)
theorem r43_28 {r : AV} (h : X43_28 (semCall C Tryd.prog) (semRun C Tryd.prog 43 Tryd.f43) a0 a1 a2 a3 a4 a5 a6 a7 a8 a9 a10 a11 a12 a13 a14 a15 a16 a17 a18 a19 = some r) : F43_28 (semRun C Tryd.prog 43 Tryd.f43) a0 a1 a2 a3 a4 a5 a6 a7 a8 a9 a10 a11 a12 a13 a14 a15 a16 a17 a18 a19 = some r :=
  semRun_unr 400 ((text43_28 _ _ a0 a1 a2 a3 a4 a5 a6 a7 a8 a9 a10 a11 a12 a13 a14 a15 a16 a17 a18 a19).trans h)
end
end R4

namespace R4
open Go Go.Proofs Sx
noncomputable def body51 : Code := (Tryd.f51.body).getD .skip
noncomputable def X51 (call : CallT) (run : RunT) (a0 a1 : UInt8) (a2 : Bool) (a3 a4 a5 a6 : UInt8) (a7 : Bool) (a8 : UInt8) (a9 : List UInt8) : Option AV :=
  (selW (.b ((w64 (a0.toNat : Int)) == 8)) true ((selW (.b (ueq a3 2)) false (some (.b (ueq a3 3))) (.b true)).bind fun v1 => some (v1)) (.b false)).bind fun v2 => (selW (v2) false ((selW (.b (decide ((w64 (a0.toNat : Int)) ≥ 17))) true (some (.b (decide ((w64 (a0.toNat : Int)) ≤ 19)))) (.b false)).bind fun v3 => (selW (v3) true ((selW (.b (ueq a1 3)) false (some (.b (ueq a1 4))) (.b true)).bind fun v4 => some (v4)) (.b false)).bind fun v5 => some (v5)) (.b true)).bind fun v6 => some (v6)
section
variable (call : CallT) (run : RunT) (a0 a1 : UInt8) (a2 : Bool) (a3 a4 a5 a6 : UInt8) (a7 : Bool) (a8 : UInt8) (a9 : List UInt8)
theorem text51 : unr C call run 51 Tryd.f51 400 [.code body51] (initF C 51 Tryd.f51.ntmps [.ag [.u8 a0, .u8 a1, .b a2, .u8 a3, .u8 a4, .u8 a5, .u8 a6, .b a7, .u8 a8, .s a9]]) = X51 call run a0 a1 a2 a3 a4 a5 a6 a7 a8 a9 := by
  kernel_rfl
theorem c51 {r : AV} (h : X51 (semCall C Tryd.prog) (semRun C Tryd.prog 51 Tryd.f51) a0 a1 a2 a3 a4 a5 a6 a7 a8 a9 = some r) : semCall C Tryd.prog 51 [.ag [.u8 a0, .u8 a1, .b a2, .u8 a3, .u8 a4, .u8 a5, .u8 a6, .b a7, .u8 a8, .s a9]] = some r :=
  semCall_unr (fn := Tryd.f51) (c := body51) (by kernel_rfl) (by kernel_rfl) 400 (by kernel_rfl) ((text51 _ _ a0 a1 a2 a3 a4 a5 a6 a7 a8 a9).trans h)
end
end R4

namespace R4
open Go Go.Proofs Sx
noncomputable def body52 : Code := (Tryd.f52.body).getD .skip
section
variable (run : RunT) (a0 : List UInt8) (a1 a2 : Int)
noncomputable def K52_2 : List Item := (kAt 2 body52 []).getD []
def S52_2 : St := St.ofL [(0, .cell (.val (.s a0))), (1, .cell (.val (.int a1))), (5, .cell (.val (.int a2)))] []
noncomputable def F52_2 : Option AV := run K52_2 (S52_2 a0 a1 a2)
end
noncomputable def X52 (call : CallT) (run : RunT) (a0 : List UInt8) (a1 : Int) : Option AV :=
  F52_2 run a0 a1 0
section
variable (call : CallT) (run : RunT) (a0 : List UInt8) (a1 : Int)
theorem text52 : unr C call run 52 Tryd.f52 400 [.code body52] (initF C 52 Tryd.f52.ntmps [.s a0, .int a1]) = X52 call run a0 a1 := by
  kernel_rfl
theorem c52 {r : AV} (h : X52 (semCall C Tryd.prog) (semRun C Tryd.prog 52 Tryd.f52) a0 a1 = some r) : semCall C Tryd.prog 52 [.s a0, .int a1] = some r :=
  semCall_unr (fn := Tryd.f52) (c := body52) (by kernel_rfl) (by kernel_rfl) 400 (by kernel_rfl) ((text52 _ _ a0 a1).trans h)
end
noncomputable def X52_2 (call : CallT) (run : RunT) (a0 : List UInt8) (a1 a2 : Int) : Option AV :=
  condM (.b (decide (a2 < ((a0.length : Int)))))
  ((idxS (.s a0) (.int a2)).bind fun v1 => (binI .geq (v1) (.u8 65)).bind fun v2 => (selW (v2) true ((idxS (.s a0) (.int a2)).bind fun v3 => (binI .leq (v3) (.u8 90)).bind fun v4 => some (v4)) (.b false)).bind fun v5 => condM (v5)
  (some (.b false))
  (F52_2 run a0 a1 (w64 (a2 + 1))))
  ((selW (.b (decide (((a0.length : Int)) > 0))) true (some (.b (decide (((a0.length : Int)) ≤ a1)))) (.b false)).bind fun v6 => some (v6))
section
variable (call : CallT) (run : RunT) (a0 : List UInt8) (a1 a2 : Int)
theorem text52_2 : step C call 52 Tryd.f52 (unr C call run 52 Tryd.f52 400) K52_2 (S52_2 a0 a1 a2) = X52_2 call run a0 a1 a2 := by
  kernel_rfl
end
section
variable (a0 : List UInt8) (a1 a2 : Int)
theorem r52_2 {r : AV} (h : X52_2 (semCall C Tryd.prog) (semRun C Tryd.prog 52 Tryd.f52) a0 a1 a2 = some r) : F52_2 (semRun C Tryd.prog 52 Tryd.f52) a0 a1 a2 = some r :=
  semRun_unr 400 ((text52_2 _ _ a0 a1 a2).trans h)
end
end R4

namespace R4
open Go Go.Proofs Sx
noncomputable def body55 : Code := (Tryd.f55.body).getD .skip
section
variable (run : RunT) (a0 : List UInt8) (a1 : List AV) (a2 : Int)
noncomputable def K55_3 : List Item := (kAt 3 body55 []).getD []
def S55_3 : St := St.ofL [(0, .cell (.val (.s a0))), (3, .cell (.own 5 9 1 a1)), (4, .cell (.val (.int a2)))] []
noncomputable def F55_3 : Option AV := run K55_3 (S55_3 a0 a1 a2)
end
noncomputable def X55 (call : CallT) (run : RunT) (a0 : List UInt8) : Option AV :=
  F55_3 run a0 (([.s [], .s [116, 101, 120, 116, 97, 114, 101, 97], .s [116, 105, 116, 108, 101], .s [115, 99, 114, 105, 112, 116], .s [115, 116, 121, 108, 101]] : List AV)) 1
section
variable (call : CallT) (run : RunT) (a0 : List UInt8)
theorem text55 : unr C call run 55 Tryd.f55 400 [.code body55] (initF C 55 Tryd.f55.ntmps [.s a0]) = X55 call run a0 := by
  kernel_rfl
theorem c55 {r : AV} (h : X55 (semCall C Tryd.prog) (semRun C Tryd.prog 55 Tryd.f55) a0 = some r) : semCall C Tryd.prog 55 [.s a0] = some r :=
  semCall_unr (fn := Tryd.f55) (c := body55) (by kernel_rfl) (by kernel_rfl) 400 (by kernel_rfl) ((text55 _ _ a0).trans h)
end
noncomputable def X55_3 (call : CallT) (run : RunT) (a0 : List UInt8) (a1 : List AV) (a2 : Int) : Option AV :=
  condM (.b (decide (a2 < 5)))
  ((inN a1.length (.int a2)).bind fun v1 => (binS .eql (AV.cell (a1.getD v1 .un) 0) (.s a0)).bind fun v2 => condM (v2)
  (some (.int a2))
  (F55_3 run a0 a1 (w64 (a2 + 1))))
  (some (.int 0))
section
variable (call : CallT) (run : RunT) (a0 : List UInt8) (a1 : List AV) (a2 : Int)
theorem text55_3 : step C call 55 Tryd.f55 (unr C call run 55 Tryd.f55 400) K55_3 (S55_3 a0 a1 a2) = X55_3 call run a0 a1 a2 := by
  kernel_rfl
end
section
variable (a0 : List UInt8) (a1 : List AV) (a2 : Int)
theorem r55_3 {r : AV} (h : X55_3 (semCall C Tryd.prog) (semRun C Tryd.prog 55 Tryd.f55) a0 a1 a2 = some r) : F55_3 (semRun C Tryd.prog 55 Tryd.f55) a0 a1 a2 = some r :=
  semRun_unr 400 ((text55_3 _ _ a0 a1 a2).trans h)
end
end R4

namespace R4
open Go Go.Proofs Sx
noncomputable def body62 : Code := (Tryd.f62.body).getD .skip
section
variable (run : RunT) (a0 : List UInt8) (a1 a2 a3 : Int)
noncomputable def K62_2 : List Item := (kAt 2 body62 []).getD []
def S62_2 : St := St.ofL [(0, .cell (.val (.s a0))), (1, .cell (.val (.int a1))), (7, .cell (.val (.int a2))), (8, .cell (.val (.int a3)))] []
noncomputable def F62_2 : Option AV := run K62_2 (S62_2 a0 a1 a2 a3)
end
noncomputable def X62 (call : CallT) (run : RunT) (a0 : List UInt8) (a1 : Int) : Option AV :=
  F62_2 run a0 a1 ((a0.length : Int)) 0
section
variable (call : CallT) (run : RunT) (a0 : List UInt8) (a1 : Int)
theorem text62 : unr C call run 62 Tryd.f62 400 [.code body62] (initF C 62 Tryd.f62.ntmps [.s a0, .int a1]) = X62 call run a0 a1 := by
  kernel_rfl
theorem c62 {r : AV} (h : X62 (semCall C Tryd.prog) (semRun C Tryd.prog 62 Tryd.f62) a0 a1 = some r) : semCall C Tryd.prog 62 [.s a0, .int a1] = some r :=
  semCall_unr (fn := Tryd.f62) (c := body62) (by kernel_rfl) (by kernel_rfl) 400 (by kernel_rfl) ((text62 _ _ a0 a1).trans h)
end
noncomputable def X62_2 (call : CallT) (run : RunT) (a0 : List UInt8) (a1 a2 a3 : Int) : Option AV :=
  condM (.b (decide (a3 < a2)))
  ((idxS (.s a0) (.int a3)).bind fun v1 => (binI .geq (v1) (.u8 65)).bind fun v2 => (selW (v2) true ((idxS (.s a0) (.int a3)).bind fun v3 => (binI .leq (v3) (.u8 90)).bind fun v4 => some (v4)) (.b false)).bind fun v5 => condM (v5)
  (some (.b false))
  (F62_2 run a0 a1 a2 (w64 (a3 + 1))))
  ((selW (.b (decide (((a0.length : Int)) ≥ 1))) true (some (.b (decide (((a0.length : Int)) ≤ a1)))) (.b false)).bind fun v6 => some (v6))
section
variable (call : CallT) (run : RunT) (a0 : List UInt8) (a1 a2 a3 : Int)
theorem text62_2 : step C call 62 Tryd.f62 (unr C call run 62 Tryd.f62 400) K62_2 (S62_2 a0 a1 a2 a3) = X62_2 call run a0 a1 a2 a3 := by
  kernel_rfl
end
section
variable (a0 : List UInt8) (a1 a2 a3 : Int)
theorem r62_2 {r : AV} (h : X62_2 (semCall C Tryd.prog) (semRun C Tryd.prog 62 Tryd.f62) a0 a1 a2 a3 = some r) : F62_2 (semRun C Tryd.prog 62 Tryd.f62) a0 a1 a2 a3 = some r :=
  semRun_unr 400 ((text62_2 _ _ a0 a1 a2 a3).trans h)
end
end R4

namespace R4
open Go Go.Proofs Sx
noncomputable def body63 : Code := (Tryd.f63.body).getD .skip
section
variable (run : RunT) (a0 a1 : UInt8) (a2 : Bool) (a3 a4 a5 a6 : UInt8) (a7 : Bool) (a8 : UInt8) (a9 : List UInt8) (a10 a11 : UInt8) (a12 : Bool) (a13 a14 a15 a16 : UInt8) (a17 : Bool) (a18 : UInt8) (a19 : List UInt8)
noncomputable def K63_14 : List Item := (kAt 14 body63 []).getD []
def S63_14 : St := St.ofL [(2, .cell (.ptr 2 0)), (3, .cell (.ptr 3 0))] [(2, some [.val (.u8 a0), .val (.u8 a1), .val (.b a2), .val (.u8 a3), .val (.u8 a4), .val (.u8 a5), .val (.u8 a6), .val (.b a7), .val (.u8 a8), .val (.s a9)]), (3, some [.val (.u8 a10), .val (.u8 a11), .val (.b a12), .val (.u8 a13), .val (.u8 a14), .val (.u8 a15), .val (.u8 a16), .val (.b a17), .val (.u8 a18), .val (.s a19)])]
noncomputable def F63_14 : Option AV := run K63_14 (S63_14 a0 a1 a2 a3 a4 a5 a6 a7 a8 a9 a10 a11 a12 a13 a14 a15 a16 a17 a18 a19)
end
section
variable (run : RunT) (a0 a1 : UInt8) (a2 : Bool) (a3 a4 a5 a6 : UInt8) (a7 : Bool) (a8 : UInt8) (a9 : List UInt8) (a10 a11 : UInt8) (a12 : Bool) (a13 a14 a15 a16 : UInt8) (a17 : Bool) (a18 : UInt8) (a19 : List UInt8)
noncomputable def K63_12 : List Item := (kAt 12 body63 []).getD []
def S63_12 : St := St.ofL [(2, .cell (.ptr 2 0)), (3, .cell (.ptr 3 0))] [(2, some [.val (.u8 a0), .val (.u8 a1), .val (.b a2), .val (.u8 a3), .val (.u8 a4), .val (.u8 a5), .val (.u8 a6), .val (.b a7), .val (.u8 a8), .val (.s a9)]), (3, some [.val (.u8 a10), .val (.u8 a11), .val (.b a12), .val (.u8 a13), .val (.u8 a14), .val (.u8 a15), .val (.u8 a16), .val (.b a17), .val (.u8 a18), .val (.s a19)])]
noncomputable def F63_12 : Option AV := run K63_12 (S63_12 a0 a1 a2 a3 a4 a5 a6 a7 a8 a9 a10 a11 a12 a13 a14 a15 a16 a17 a18 a19)
end
noncomputable def X63 (call : CallT) (run : RunT) (a0 a1 : UInt8) (a2 : Bool) (a3 a4 a5 a6 : UInt8) (a7 : Bool) (a8 : UInt8) (a9 : List UInt8) (a10 a11 : UInt8) (a12 : Bool) (a13 a14 a15 a16 : UInt8) (a17 : Bool) (a18 : UInt8) (a19 : List UInt8) : Option AV :=
  (selW (.b (une a4 0)) true (some (.b (une a4 34))) (.b false)).bind fun v1 => (selW (v1) true (some (.b (une a4 39))) (.b false)).bind fun v2 => condM (v2)
  (some (.b false))
  (condM (.b (ueq a3 1))
  (condM (.b (ueq a5 1))
  ((selW (.b ((a0 == a10 && (a1 == a11 && (a2 == a12 && (a3 == a3 && (a4 == a4 && (a5 == a5 && (a6 == a16 && (a7 == a17 && (a8 == a18 && (a9 == a9 && true)))))))))))) true ((call 62 [.s a9, .int 16]).bind fun v3 => some (v3)) (.b false)).bind fun v4 => some (v4))
  (F63_14 run a0 a1 a2 a3 a4 a5 a6 a7 a8 a9 a10 a11 a12 a3 a4 a5 a16 a17 a18 a19))
  (condM (.b (ueq a3 2))
  (F63_12 run a0 a1 a2 a3 a4 a5 a6 a7 a8 a9 a10 a11 a12 a3 a4 a15 a16 a17 a18 a19)
  (condM (.b (ueq a3 3))
  (F63_12 run a0 a1 a2 a3 a4 a5 a6 a7 a8 a9 a10 a11 a12 a3 a4 a15 a16 a17 a18 a19)
  (F63_14 run a0 a1 a2 a3 a4 a5 a6 a7 a8 a9 a10 a11 a12 a3 a4 a15 a16 a17 a18 a19))))
section
variable (call : CallT) (run : RunT) (a0 a1 : UInt8) (a2 : Bool) (a3 a4 a5 a6 : UInt8) (a7 : Bool) (a8 : UInt8) (a9 : List UInt8) (a10 a11 : UInt8) (a12 : Bool) (a13 a14 a15 a16 : UInt8) (a17 : Bool) (a18 : UInt8) (a19 : List UInt8)
theorem text63 : unr C call run 63 Tryd.f63 400 [.code body63] (initF C 63 Tryd.f63.ntmps [.ag [.u8 a0, .u8 a1, .b a2, .u8 a3, .u8 a4, .u8 a5, .u8 a6, .b a7, .u8 a8, .s a9], .ag [.u8 a10, .u8 a11, .b a12, .u8 a13, .u8 a14, .u8 a15, .u8 a16, .b a17, .u8 a18, .s a19]]) = X63 call run a0 a1 a2 a3 a4 a5 a6 a7 a8 a9 a10 a11 a12 a13 a14 a15 a16 a17 a18 a19 := by
  kernel_rfl
theorem c63 {r : AV} (h : X63 (semCall C Tryd.prog) (semRun C Tryd.prog 63 Tryd.f63) a0 a1 a2 a3 a4 a5 a6 a7 a8 a9 a10 a11 a12 a13 a14 a15 a16 a17 a18 a19 = some r) : semCall C Tryd.prog 63 [.ag [.u8 a0, .u8 a1, .b a2, .u8 a3, .u8 a4, .u8 a5, .u8 a6, .b a7, .u8 a8, .s a9], .ag [.u8 a10, .u8 a11, .b a12, .u8 a13, .u8 a14, .u8 a15, .u8 a16, .b a17, .u8 a18, .s a19]] = some r :=
  semCall_unr (fn := Tryd.f63) (c := body63) (by kernel_rfl) (by kernel_rfl) 400 (by kernel_rfl) ((text63 _ _ a0 a1 a2 a3 a4 a5 a6 a7 a8 a9 a10 a11 a12 a13 a14 a15 a16 a17 a18 a19).trans h)
end
noncomputable def X63_14 (call : CallT) (run : RunT) (a0 a1 : UInt8) (a2 : Bool) (a3 a4 a5 a6 : UInt8) (a7 : Bool) (a8 : UInt8) (a9 : List UInt8) (a10 a11 : UInt8) (a12 : Bool) (a13 a14 a15 a16 : UInt8) (a17 : Bool) (a18 : UInt8) (a19 : List UInt8) : Option AV :=
  some (.b ((a0 == a10 && (a1 == a11 && (a2 == a12 && (a3 == a13 && (a4 == a14 && (a5 == a15 && (a6 == a16 && (a7 == a17 && (a8 == a18 && (a9 == a19 && true))))))))))))
section
variable (call : CallT) (run : RunT) (a0 a1 : UInt8) (a2 : Bool) (a3 a4 a5 a6 : UInt8) (a7 : Bool) (a8 : UInt8) (a9 : List UInt8) (a10 a11 : UInt8) (a12 : Bool) (a13 a14 a15 a16 : UInt8) (a17 : Bool) (a18 : UInt8) (a19 : List UInt8)
theorem text63_14 : step C call 63 Tryd.f63 (unr C call run 63 Tryd.f63 400) K63_14 (S63_14 a0 a1 a2 a3 a4 a5 a6 a7 a8 a9 a10 a11 a12 a13 a14 a15 a16 a17 a18 a19) = X63_14 call run a0 a1 a2 a3 a4 a5 a6 a7 a8 a9 a10 a11 a12 a13 a14 a15 a16 a17 a18 a19 := by
  kernel_rfl
end
noncomputable def X63_12 (call : CallT) (run : RunT) (a0 a1 : UInt8) (a2 : Bool) (a3 a4 a5 a6 : UInt8) (a7 : Bool) (a8 : UInt8) (a9 : List UInt8) (a10 a11 : UInt8) (a12 : Bool) (a13 a14 a15 a16 : UInt8) (a17 : Bool) (a18 : UInt8) (a19 : List UInt8) : Option AV :=
  (selW (.b ((a0 == a10 && (a1 == a11 && (a2 == a12 && (a3 == a13 && (a4 == a14 && (a5 == a15 && (a6 == a6 && (a7 == a7 && (a8 == a18 && (a9 == a19 && true)))))))))))) true ((call 78 [.ag [.u8 a0, .u8 a1, .b a2, .u8 a3, .u8 a4, .u8 a5, .u8 a6, .b a7, .u8 a8, .s a9], .b (ueq a3 2)]).bind fun v1 => some (v1)) (.b false)).bind fun v2 => some (v2)
section
variable (call : CallT) (run : RunT) (a0 a1 : UInt8) (a2 : Bool) (a3 a4 a5 a6 : UInt8) (a7 : Bool) (a8 : UInt8) (a9 : List UInt8) (a10 a11 : UInt8) (a12 : Bool) (a13 a14 a15 a16 : UInt8) (a17 : Bool) (a18 : UInt8) (a19 : List UInt8)
theorem text63_12 : step C call 63 Tryd.f63 (unr C call run 63 Tryd.f63 400) K63_12 (S63_12 a0 a1 a2 a3 a4 a5 a6 a7 a8 a9 a10 a11 a12 a13 a14 a15 a16 a17 a18 a19) = X63_12 call run a0 a1 a2 a3 a4 a5 a6 a7 a8 a9 a10 a11 a12 a13 a14 a15 a16 a17 a18 a19 := by
  kernel_rfl
end
section
variable (a0 a1 : UInt8) (a2 : Bool) (a3 a4 a5 a6 : UInt8) (a7 : Bool) (a8 : UInt8) (a9 : List UInt8) (a10 a11 : UInt8) (a12 : Bool) (a13 a14 a15 a16 : UInt8) (a17 : Bool) (a18 : UInt8) (a19 : List UInt8)
theorem r63_14 {r : AV} (h : X63_14 (semCall C Tryd.prog) (semRun C Tryd.prog 63 Tryd.f63) a0 a1 a2 a3 a4 a5 a6 a7 a8 a9 a10 a11 a12 a13 a14 a15 a16 a17 a18 a19 = some r) : F63_14 (semRun C Tryd.prog 63 Tryd.f63) a0 a1 a2 a3 a4 a5 a6 a7 a8 a9 a10 a11 a12 a13 a14 a15 a16 a17 a18 a19 = some r :=
  semRun_unr 400 ((text63_14 _ _ a0 a1 a2 a3 a4 a5 a6 a7 a8 a9 a10 a11 a12 a13 a14 a15 a16 a17 a18 a19).trans h)
end
section
variable (a0 a1 : UInt8) (a2 : Bool) (a3 a4 a5 a6 : UInt8) (a7 : Bool) (a8 : UInt8) (a9 : List UInt8) (a10 a11 : UInt8) (a12 : Bool) (a13 a14 a15 a16 : UInt8) (a17 : Bool) (a18 : UInt8) (a19 : List UInt8)
theorem r63_12 {r : AV} (h : X63_12 (semCall C Tryd.prog) (semRun C Tryd.prog 63 Tryd.f63) a0 a1 a2 a3 a4 a5 a6 a7 a8 a9 a10 a11 a12 a13 a14 a15 a16 a17 a18 a19 = some r) : F63_12 (semRun C Tryd.prog 63 Tryd.f63) a0 a1 a2 a3 a4 a5 a6 a7 a8 a9 a10 a11 a12 a13 a14 a15 a16 a17 a18 a19 = some r :=
  semRun_unr 400 ((text63_12 _ _ a0 a1 a2 a3 a4 a5 a6 a7 a8 a9 a10 a11 a12 a13 a14 a15 a16 a17 a18 a19).trans h)
end
end R4

namespace R4
open Go Go.Proofs Sx
noncomputable def body64 : Code := (Tryd.f64.body).getD .skip
section
variable (run : RunT) (a0 a1 : UInt8) (a2 : Bool) (a3 a4 a5 a6 : UInt8) (a7 : Bool) (a8 : UInt8) (a9 : List UInt8) (a10 a11 : UInt8) (a12 : Bool) (a13 a14 a15 a16 : UInt8) (a17 : Bool) (a18 : UInt8) (a19 : List UInt8)
noncomputable def K64_4 : List Item := (kAt 4 body64 []).getD []
def S64_4 : St := St.ofL [(1, .cell (.ptr 1 0)), (3, .cell (.ptr 3 0))] [(1, some [.val (.u8 a0), .val (.u8 a1), .val (.b a2), .val (.u8 a3), .val (.u8 a4), .val (.u8 a5), .val (.u8 a6), .val (.b a7), .val (.u8 a8), .val (.s a9)]), (3, some [.val (.u8 a10), .val (.u8 a11), .val (.b a12), .val (.u8 a13), .val (.u8 a14), .val (.u8 a15), .val (.u8 a16), .val (.b a17), .val (.u8 a18), .val (.s a19)])]
noncomputable def F64_4 : Option AV := run K64_4 (S64_4 a0 a1 a2 a3 a4 a5 a6 a7 a8 a9 a10 a11 a12 a13 a14 a15 a16 a17 a18 a19)
end
section
variable (run : RunT) (a0 a1 : UInt8) (a2 : Bool) (a3 a4 a5 a6 : UInt8) (a7 : Bool) (a8 : UInt8) (a9 : List UInt8) (a10 a11 : UInt8) (a12 : Bool) (a13 a14 a15 a16 : UInt8) (a17 : Bool) (a18 : UInt8) (a19 : List UInt8)
noncomputable def K64_6 : List Item := (kAt 6 body64 []).getD []
def S64_6 : St := St.ofL [(1, .cell (.ptr 1 0)), (3, .cell (.ptr 3 0))] [(1, some [.val (.u8 a0), .val (.u8 a1), .val (.b a2), .val (.u8 a3), .val (.u8 a4), .val (.u8 a5), .val (.u8 a6), .val (.b a7), .val (.u8 a8), .val (.s a9)]), (3, some [.val (.u8 a10), .val (.u8 a11), .val (.b a12), .val (.u8 a13), .val (.u8 a14), .val (.u8 a15), .val (.u8 a16), .val (.b a17), .val (.u8 a18), .val (.s a19)])]
noncomputable def F64_6 : Option AV := run K64_6 (S64_6 a0 a1 a2 a3 a4 a5 a6 a7 a8 a9 a10 a11 a12 a13 a14 a15 a16 a17 a18 a19)
end
noncomputable def X64 (call : CallT) (run : RunT) (a0 a1 : UInt8) (a2 : Bool) (a3 a4 a5 a6 : UInt8) (a7 : Bool) (a8 : UInt8) (a9 : List UInt8) : Option AV :=
  condM (.b (ueq a0 19))
  (F64_4 run a0 a1 a2 a3 a4 a5 a6 a7 a8 a9 a0 a1 false 0 0 0 0 false 0 a9)
  (F64_4 run a0 a1 a2 a3 a4 a5 a6 a7 a8 a9 a0 a1 false 0 0 0 0 false 0 [])
section
variable (call : CallT) (run : RunT) (a0 a1 : UInt8) (a2 : Bool) (a3 a4 a5 a6 : UInt8) (a7 : Bool) (a8 : UInt8) (a9 : List UInt8)
theorem text64 : unr C call run 64 Tryd.f64 400 [.code body64] (initF C 64 Tryd.f64.ntmps [.ag [.u8 a0, .u8 a1, .b a2, .u8 a3, .u8 a4, .u8 a5, .u8 a6, .b a7, .u8 a8, .s a9]]) = X64 call run a0 a1 a2 a3 a4 a5 a6 a7 a8 a9 := by
  kernel_rfl
theorem c64 {r : AV} (h : X64 (semCall C Tryd.prog) (semRun C Tryd.prog 64 Tryd.f64) a0 a1 a2 a3 a4 a5 a6 a7 a8 a9 = some r) : semCall C Tryd.prog 64 [.ag [.u8 a0, .u8 a1, .b a2, .u8 a3, .u8 a4, .u8 a5, .u8 a6, .b a7, .u8 a8, .s a9]] = some r :=
  semCall_unr (fn := Tryd.f64) (c := body64) (by kernel_rfl) (by kernel_rfl) 400 (by kernel_rfl) ((text64 _ _ a0 a1 a2 a3 a4 a5 a6 a7 a8 a9).trans h)
end
noncomputable def X64_4 (call : CallT) (run : RunT) (a0 a1 : UInt8) (a2 : Bool) (a3 a4 a5 a6 : UInt8) (a7 : Bool) (a8 : UInt8) (a9 : List UInt8) (a10 a11 : UInt8) (a12 : Bool) (a13 a14 a15 a16 : UInt8) (a17 : Bool) (a18 : UInt8) (a19 : List UInt8) : Option AV :=
  (selW (.b (ueq a1 3)) false (some (.b (ueq a1 4))) (.b true)).bind fun v1 => condM (v1)
  (F64_6 run a0 a1 a2 a3 a4 a5 a6 a7 a8 a9 a10 a11 a12 a13 a14 a15 a6 a7 a18 a19)
  (F64_6 run a0 a1 a2 a3 a4 a5 a6 a7 a8 a9 a10 a11 a12 a13 a14 a15 a16 a17 a18 a19)
section
variable (call : CallT) (run : RunT) (a0 a1 : UInt8) (a2 : Bool) (a3 a4 a5 a6 : UInt8) (a7 : Bool) (a8 : UInt8) (a9 : List UInt8) (a10 a11 : UInt8) (a12 : Bool) (a13 a14 a15 a16 : UInt8) (a17 : Bool) (a18 : UInt8) (a19 : List UInt8)
theorem text64_4 : step C call 64 Tryd.f64 (unr C call run 64 Tryd.f64 400) K64_4 (S64_4 a0 a1 a2 a3 a4 a5 a6 a7 a8 a9 a10 a11 a12 a13 a14 a15 a16 a17 a18 a19) = X64_4 call run a0 a1 a2 a3 a4 a5 a6 a7 a8 a9 a10 a11 a12 a13 a14 a15 a16 a17 a18 a19 := by
  kernel_rfl
end
noncomputable def X64_6 (call : CallT) (run : RunT) (a0 a1 : UInt8) (a2 : Bool) (a3 a4 a5 a6 : UInt8) (a7 : Bool) (a8 : UInt8) (a9 : List UInt8) (a10 a11 : UInt8) (a12 : Bool) (a13 a14 a15 a16 : UInt8) (a17 : Bool) (a18 : UInt8) (a19 : List UInt8) : Option AV :=
  (selW (.b ((a0 == a10 && (a1 == a11 && (a2 == a12 && (a3 == a13 && (a4 == a14 && (a5 == a15 && (a6 == a16 && (a7 == a17 && (a8 == a18 && (a9 == a19 && true)))))))))))) true (some (.b (une a1 0))) (.b false)).bind fun v1 => (selW (v1) true ((call 80 [.u8 a1]).bind fun v2 => (call 79 [v2, .s a9]).bind fun v3 => some (v3)) (.b false)).bind fun v4 => (selW (v4) true ((call 78 [.ag [.u8 a0, .u8 a1, .b a2, .u8 a3, .u8 a4, .u8 a5, .u8 a6, .b a7, .u8 a8, .s a9], .b (ueq a1 3)]).bind fun v5 => some (v5)) (.b false)).bind fun v6 => some (v6)
section
variable (call : CallT) (run : RunT) (a0 a1 : UInt8) (a2 : Bool) (a3 a4 a5 a6 : UInt8) (a7 : Bool) (a8 : UInt8) (a9 : List UInt8) (a10 a11 : UInt8) (a12 : Bool) (a13 a14 a15 a16 : UInt8) (a17 : Bool) (a18 : UInt8) (a19 : List UInt8)
theorem text64_6 : step C call 64 Tryd.f64 (unr C call run 64 Tryd.f64 400) K64_6 (S64_6 a0 a1 a2 a3 a4 a5 a6 a7 a8 a9 a10 a11 a12 a13 a14 a15 a16 a17 a18 a19) = X64_6 call run a0 a1 a2 a3 a4 a5 a6 a7 a8 a9 a10 a11 a12 a13 a14 a15 a16 a17 a18 a19 := by
  kernel_rfl
end
section
variable (a0 a1 : UInt8) (a2 : Bool) (a3 a4 a5 a6 : UInt8) (a7 : Bool) (a8 : UInt8) (a9 : List UInt8) (a10 a11 : UInt8) (a12 : Bool) (a13 a14 a15 a16 : UInt8) (a17 : Bool) (a18 : UInt8) (a19 : List UInt8)
theorem r64_4 {r : AV} (h : X64_4 (semCall C Tryd.prog) (semRun C Tryd.prog 64 Tryd.f64) a0 a1 a2 a3 a4 a5 a6 a7 a8 a9 a10 a11 a12 a13 a14 a15 a16 a17 a18 a19 = some r) : F64_4 (semRun C Tryd.prog 64 Tryd.f64) a0 a1 a2 a3 a4 a5 a6 a7 a8 a9 a10 a11 a12 a13 a14 a15 a16 a17 a18 a19 = some r :=
  semRun_unr 400 ((text64_4 _ _ a0 a1 a2 a3 a4 a5 a6 a7 a8 a9 a10 a11 a12 a13 a14 a15 a16 a17 a18 a19).trans h)
end
section
variable (a0 a1 : UInt8) (a2 : Bool) (a3 a4 a5 a6 : UInt8) (a7 : Bool) (a8 : UInt8) (a9 : List UInt8) (a10 a11 : UInt8) (a12 : Bool) (a13 a14 a15 a16 : UInt8) (a17 : Bool) (a18 : UInt8) (a19 : List UInt8)
theorem r64_6 {r : AV} (h : X64_6 (semCall C Tryd.prog) (semRun C Tryd.prog 64 Tryd.f64) a0 a1 a2 a3 a4 a5 a6 a7 a8 a9 a10 a11 a12 a13 a14 a15 a16 a17 a18 a19 = some r) : F64_6 (semRun C Tryd.prog 64 Tryd.f64) a0 a1 a2 a3 a4 a5 a6 a7 a8 a9 a10 a11 a12 a13 a14 a15 a16 a17 a18 a19 = some r :=
  semRun_unr 400 ((text64_6 _ _ a0 a1 a2 a3 a4 a5 a6 a7 a8 a9 a10 a11 a12 a13 a14 a15 a16 a17 a18 a19).trans h)
end
end R4

namespace R4
open Go Go.Proofs Sx
noncomputable def body74 : Code := (Tryd.f74.body).getD .skip
section
variable (run : RunT) (a0 : List UInt8) (a1 : List AV) (a2 : Int)
noncomputable def K74_3 : List Item := (kAt 3 body74 []).getD []
def S74_3 : St := St.ofL [(0, .cell (.val (.s a0))), (3, .cell (.own 7 9 1 a1)), (4, .cell (.val (.int a2)))] []
noncomputable def F74_3 : Option AV := run K74_3 (S74_3 a0 a1 a2)
end
section
variable (run : RunT) (a0 : List UInt8) (a1 : List AV) (a2 : Int)
noncomputable def K74_9 : List Item := (kAt 9 body74 []).getD []
def S74_9 : St := St.ofL [(0, .cell (.val (.s a0))), (5, .cell (.own 20 9 1 a1)), (6, .cell (.val (.int a2)))] []
noncomputable def F74_9 : Option AV := run K74_9 (S74_9 a0 a1 a2)
end
noncomputable def X74 (call : CallT) (run : RunT) (a0 : List UInt8) : Option AV :=
  F74_3 run a0 (([.s [97, 99, 116, 105, 111, 110], .s [98, 97, 99, 107, 103, 114, 111, 117, 110, 100], .s [99, 105, 116, 101], .s [100, 97, 116, 97], .s [102, 111, 114, 109, 97, 99, 116, 105, 111, 110], .s [104, 114, 101, 102], .s [108, 111, 110, 103, 100, 101, 115, 99], .s [109, 97, 110, 105, 102, 101, 115, 116], .s [112, 111, 115, 116, 101, 114], .s [115, 114, 99], .s [120, 108, 105, 110, 107, 58, 104, 114, 101, 102]] : List AV)) 0
section
variable (call : CallT) (run : RunT) (a0 : List UInt8)
theorem text74 : unr C call run 74 Tryd.f74 400 [.code body74] (initF C 74 Tryd.f74.ntmps [.s a0]) = X74 call run a0 := by
  kernel_rfl
theorem c74 {r : AV} (h : X74 (semCall C Tryd.prog) (semRun C Tryd.prog 74 Tryd.f74) a0 = some r) : semCall C Tryd.prog 74 [.s a0] = some r :=
  semCall_unr (fn := Tryd.f74) (c := body74) (by kernel_rfl) (by kernel_rfl) 400 (by kernel_rfl) ((text74 _ _ a0).trans h)
end
noncomputable def X74_3 (call : CallT) (run : RunT) (a0 : List UInt8) (a1 : List AV) (a2 : Int) : Option AV :=
  condM (.b (decide (a2 < ((a1.length : Int)))))
  ((inN a1.length (.int a2)).bind fun v1 => (binS .eql (AV.cell (a1.getD v1 .un) 0) (.s a0)).bind fun v2 => condM (v2)
  (some (.int 1))
  (F74_3 run a0 a1 (w64 (a2 + 1))))
  (F74_9 run a0 (([.s [115, 114, 99, 100, 111, 99], .s [115, 114, 99, 115, 101, 116], .s [105, 109, 97, 103, 101, 115, 114, 99, 115, 101, 116], .s [99, 111, 110, 116, 101, 110, 116], .s [104, 116, 116, 112, 45, 101, 113, 117, 105, 118]] : List AV)) 0)
section
variable (call : CallT) (run : RunT) (a0 : List UInt8) (a1 : List AV) (a2 : Int)
theorem text74_3 : step C call 74 Tryd.f74 (unr C call run 74 Tryd.f74 400) K74_3 (S74_3 a0 a1 a2) = X74_3 call run a0 a1 a2 := by
  kernel_rfl
end
noncomputable def X74_9 (call : CallT) (run : RunT) (a0 : List UInt8) (a1 : List AV) (a2 : Int) : Option AV :=
  condM (.b (decide (a2 < ((a1.length : Int)))))
  ((inN a1.length (.int a2)).bind fun v1 => (binS .eql (AV.cell (a1.getD v1 .un) 0) (.s a0)).bind fun v2 => condM (v2)
  (some (.int 4))
  (F74_9 run a0 a1 (w64 (a2 + 1))))
  (condM (.b (a0 == [115, 116, 121, 108, 101]))
  (some (.int 3))
  ((selW (.b (decide (((a0.length : Int)) ≥ 3))) true ((idxS (.s a0) (.int 0)).bind fun v3 => (binI .eql (v3) (.u8 111)).bind fun v4 => some (v4)) (.b false)).bind fun v5 => (selW (v5) true ((idxS (.s a0) (.int 1)).bind fun v6 => (binI .eql (v6) (.u8 110)).bind fun v7 => some (v7)) (.b false)).bind fun v8 => condM (v8)
  (some (.int 2))
  (some (.int 0))))
section
variable (call : CallT) (run : RunT) (a0 : List UInt8) (a1 : List AV) (a2 : Int)
theorem text74_9 : step C call 74 Tryd.f74 (unr C call run 74 Tryd.f74 400) K74_9 (S74_9 a0 a1 a2) = X74_9 call run a0 a1 a2 := by
  kernel_rfl
end
section
variable (a0 : List UInt8) (a1 : List AV) (a2 : Int)
theorem r74_3 {r : AV} (h : X74_3 (semCall C Tryd.prog) (semRun C Tryd.prog 74 Tryd.f74) a0 a1 a2 = some r) : F74_3 (semRun C Tryd.prog 74 Tryd.f74) a0 a1 a2 = some r :=
  semRun_unr 400 ((text74_3 _ _ a0 a1 a2).trans h)
end
section
variable (a0 : List UInt8) (a1 : List AV) (a2 : Int)
theorem r74_9 {r : AV} (h : X74_9 (semCall C Tryd.prog) (semRun C Tryd.prog 74 Tryd.f74) a0 a1 a2 = some r) : F74_9 (semRun C Tryd.prog 74 Tryd.f74) a0 a1 a2 = some r :=
  semRun_unr 400 ((text74_9 _ _ a0 a1 a2).trans h)
end
end R4

namespace R4
open Go Go.Proofs Sx
noncomputable def body78 : Code := (Tryd.f78.body).getD .skip
noncomputable def X78 (call : CallT) (run : RunT) (a0 a1 : UInt8) (a2 : Bool) (a3 a4 a5 a6 : UInt8) (a7 : Bool) (a8 : UInt8) (a9 : List UInt8) (a10 : Bool) : Option AV :=
  (selW (.b (!a10)) true (some (.b (ueq a6 4))) (.b false)).bind fun v1 => condM (v1)
  (some (.b false))
  ((selW (.b (!a7)) false (some (.b (ueq a6 1))) (.b true)).bind fun v2 => (selW (v2) false (some (.b (ueq a6 2))) (.b true)).bind fun v3 => some (v3))
section
variable (call : CallT) (run : RunT) (a0 a1 : UInt8) (a2 : Bool) (a3 a4 a5 a6 : UInt8) (a7 : Bool) (a8 : UInt8) (a9 : List UInt8) (a10 : Bool)
theorem text78 : unr C call run 78 Tryd.f78 400 [.code body78] (initF C 78 Tryd.f78.ntmps [.ag [.u8 a0, .u8 a1, .b a2, .u8 a3, .u8 a4, .u8 a5, .u8 a6, .b a7, .u8 a8, .s a9], .b a10]) = X78 call run a0 a1 a2 a3 a4 a5 a6 a7 a8 a9 a10 := by
  kernel_rfl
theorem c78 {r : AV} (h : X78 (semCall C Tryd.prog) (semRun C Tryd.prog 78 Tryd.f78) a0 a1 a2 a3 a4 a5 a6 a7 a8 a9 a10 = some r) : semCall C Tryd.prog 78 [.ag [.u8 a0, .u8 a1, .b a2, .u8 a3, .u8 a4, .u8 a5, .u8 a6, .b a7, .u8 a8, .s a9], .b a10] = some r :=
  semCall_unr (fn := Tryd.f78) (c := body78) (by kernel_rfl) (by kernel_rfl) 400 (by kernel_rfl) ((text78 _ _ a0 a1 a2 a3 a4 a5 a6 a7 a8 a9 a10).trans h)
end
end R4

namespace R4
open Go Go.Proofs Sx
noncomputable def body79 : Code := (Tryd.f79.body).getD .skip
noncomputable def X79 (call : CallT) (run : RunT) (a0 a1 : List UInt8) : Option AV :=
  (call 95 [.s a0, .s a1]).bind fun v1 => some (v1)
section
variable (call : CallT) (run : RunT) (a0 a1 : List UInt8)
theorem text79 : unr C call run 79 Tryd.f79 400 [.code body79] (initF C 79 Tryd.f79.ntmps [.s a0, .s a1]) = X79 call run a0 a1 := by
  kernel_rfl
theorem c79 {r : AV} (h : X79 (semCall C Tryd.prog) (semRun C Tryd.prog 79 Tryd.f79) a0 a1 = some r) : semCall C Tryd.prog 79 [.s a0, .s a1] = some r :=
  semCall_unr (fn := Tryd.f79) (c := body79) (by kernel_rfl) (by kernel_rfl) 400 (by kernel_rfl) ((text79 _ _ a0 a1).trans h)
end
end R4

namespace R4
open Go Go.Proofs Sx
noncomputable def body80 : Code := (Tryd.f80.body).getD .skip
noncomputable def X80 (call : CallT) (run : RunT) (a0 : UInt8) : Option AV :=
  condM (.b (ueq a0 1))
  (some (.s [116, 101, 120, 116, 97, 114, 101, 97]))
  (condM (.b (ueq a0 2))
  (some (.s [116, 105, 116, 108, 101]))
  (condM (.b (ueq a0 3))
  (some (.s [115, 99, 114, 105, 112, 116]))
  (condM (.b (ueq a0 4))
  (some (.s [115, 116, 121, 108, 101]))
  (some (.s [])))))
section
variable (call : CallT) (run : RunT) (a0 : UInt8)
theorem text80 : unr C call run 80 Tryd.f80 400 [.code body80] (initF C 80 Tryd.f80.ntmps [.u8 a0]) = X80 call run a0 := by
  kernel_rfl
theorem c80 {r : AV} (h : X80 (semCall C Tryd.prog) (semRun C Tryd.prog 80 Tryd.f80) a0 = some r) : semCall C Tryd.prog 80 [.u8 a0] = some r :=
  semCall_unr (fn := Tryd.f80) (c := body80) (by kernel_rfl) (by kernel_rfl) 400 (by kernel_rfl) ((text80 _ _ a0).trans h)
end
end R4

namespace R4
open Go Go.Proofs Sx
noncomputable def body85 : Code := (Tryd.f85.body).getD .skip
noncomputable def X85 (call : CallT) (run : RunT) (a0 : List UInt8) : Option AV :=
  condM (.b (a0 == [116, 101, 120, 116, 97, 114, 101, 97]))
  (some (.u8 1))
  (condM (.b (a0 == [116, 105, 116, 108, 101]))
  (some (.u8 2))
  (condM (.b (a0 == [115, 99, 114, 105, 112, 116]))
  (some (.u8 3))
  (condM (.b (a0 == [115, 116, 121, 108, 101]))
  (some (.u8 4))
  (some (.u8 0)))))
section
variable (call : CallT) (run : RunT) (a0 : List UInt8)
theorem text85 : unr C call run 85 Tryd.f85 400 [.code body85] (initF C 85 Tryd.f85.ntmps [.s a0]) = X85 call run a0 := by
  kernel_rfl
theorem c85 {r : AV} (h : X85 (semCall C Tryd.prog) (semRun C Tryd.prog 85 Tryd.f85) a0 = some r) : semCall C Tryd.prog 85 [.s a0] = some r :=
  semCall_unr (fn := Tryd.f85) (c := body85) (by kernel_rfl) (by kernel_rfl) 400 (by kernel_rfl) ((text85 _ _ a0).trans h)
end
end R4

namespace R4
open Go Go.Proofs Sx
noncomputable def body95 : Code := (Tryd.f95.body).getD .skip
noncomputable def X95 (call : CallT) (run : RunT) (a0 a1 : List UInt8) : Option AV :=
  (selW (.b (decide (((a0.length : Int)) ≥ ((a1.length : Int))))) true ((slS (.s a0) none (some (.int ((a1.length : Int))))).bind fun v1 => (binS .eql (v1) (.s a1)).bind fun v2 => some (v2)) (.b false)).bind fun v3 => some (v3)
section
variable (call : CallT) (run : RunT) (a0 a1 : List UInt8)
theorem text95 : unr C call run 95 Tryd.f95 400 [.code body95] (initF C 95 Tryd.f95.ntmps [.s a0, .s a1]) = X95 call run a0 a1 := by
  kernel_rfl
theorem c95 {r : AV} (h : X95 (semCall C Tryd.prog) (semRun C Tryd.prog 95 Tryd.f95) a0 a1 = some r) : semCall C Tryd.prog 95 [.s a0, .s a1] = some r :=
  semCall_unr (fn := Tryd.f95) (c := body95) (by kernel_rfl) (by kernel_rfl) 400 (by kernel_rfl) ((text95 _ _ a0 a1).trans h)
end
end R4

namespace R4
open Go Go.Proofs Sx
noncomputable def body96 : Code := (Tryd.f96.body).getD .skip
section
variable (run : RunT) 
noncomputable def K96_13 : List Item := (kAt 13 body96 []).getD []
def S96_13 : St := St.ofL [] []
noncomputable def F96_13 : Option AV := run K96_13 (S96_13 )
end
section
variable (run : RunT) (a0 a1 : List UInt8)
noncomputable def K96_14 : List Item := (kAt 14 body96 []).getD []
def S96_14 : St := St.ofL [(0, .cell (.val (.s a0))), (3, .cell (.val (.s a1)))] []
noncomputable def F96_14 : Option AV := run K96_14 (S96_14 a0 a1)
end
section
variable (run : RunT) 
noncomputable def K96_21 : List Item := (kAt 21 body96 []).getD []
def S96_21 : St := St.ofL [] []
noncomputable def F96_21 : Option AV := run K96_21 (S96_21 )
end
section
variable (run : RunT) (a0 : List UInt8)
noncomputable def K96_22 : List Item := (kAt 22 body96 []).getD []
def S96_22 : St := St.ofL [(0, .cell (.val (.s a0)))] []
noncomputable def F96_22 : Option AV := run K96_22 (S96_22 a0)
end
noncomputable def X96 (call : CallT) (run : RunT) (a0 : List UInt8) : Option AV :=
  condM (.b (a0 == [97, 99, 116, 105, 111, 110]))
  (F96_13 run)
  (condM (.b (a0 == [98, 97, 99, 107, 103, 114, 111, 117, 110, 100]))
  (F96_13 run)
  (condM (.b (a0 == [99, 105, 116, 101]))
  (F96_13 run)
  (condM (.b (a0 == [100, 97, 116, 97]))
  (F96_13 run)
  (condM (.b (a0 == [102, 111, 114, 109, 97, 99, 116, 105, 111, 110]))
  (F96_13 run)
  (condM (.b (a0 == [104, 114, 101, 102]))
  (F96_13 run)
  (condM (.b (a0 == [108, 111, 110, 103, 100, 101, 115, 99]))
  (F96_13 run)
  (condM (.b (a0 == [109, 97, 110, 105, 102, 101, 115, 116]))
  (F96_13 run)
  (condM (.b (a0 == [112, 111, 115, 116, 101, 114]))
  (F96_13 run)
  (condM (.b (a0 == [115, 114, 99]))
  (F96_13 run)
  (condM (.b (a0 == [120, 108, 105, 110, 107, 58, 104, 114, 101, 102]))
  (F96_13 run)
  (F96_14 run a0 a0)))))))))))
section
variable (call : CallT) (run : RunT) (a0 : List UInt8)
theorem text96 : unr C call run 96 Tryd.f96 400 [.code body96] (initF C 96 Tryd.f96.ntmps [.s a0]) = X96 call run a0 := by
  kernel_rfl
theorem c96 {r : AV} (h : X96 (semCall C Tryd.prog) (semRun C Tryd.prog 96 Tryd.f96) a0 = some r) : semCall C Tryd.prog 96 [.s a0] = some r :=
  semCall_unr (fn := Tryd.f96) (c := body96) (by kernel_rfl) (by kernel_rfl) 400 (by kernel_rfl) ((text96 _ _ a0).trans h)
end
noncomputable def X96_13 (call : CallT) (run : RunT)  : Option AV :=
  some (.u8 1)
section
variable (call : CallT) (run : RunT) 
theorem text96_13 : step C call 96 Tryd.f96 (unr C call run 96 Tryd.f96 400) K96_13 (S96_13 ) = X96_13 call run  := by
  kernel_rfl
end
noncomputable def X96_14 (call : CallT) (run : RunT) (a0 a1 : List UInt8) : Option AV :=
  condM (.b (a1 == [115, 116, 121, 108, 101]))
  (some (.u8 3))
  (condM (.b (a1 == [115, 114, 99, 100, 111, 99]))
  (F96_21 run)
  (condM (.b (a1 == [115, 114, 99, 115, 101, 116]))
  (F96_21 run)
  (condM (.b (a1 == [105, 109, 97, 103, 101, 115, 114, 99, 115, 101, 116]))
  (F96_21 run)
  (condM (.b (a1 == [99, 111, 110, 116, 101, 110, 116]))
  (F96_21 run)
  (condM (.b (a1 == [104, 116, 116, 112, 45, 101, 113, 117, 105, 118]))
  (F96_21 run)
  (F96_22 run a0))))))
section
variable (call : CallT) (run : RunT) (a0 a1 : List UInt8)
theorem text96_14 : step C call 96 Tryd.f96 (unr C call run 96 Tryd.f96 400) K96_14 (S96_14 a0 a1) = X96_14 call run a0 a1 := by
  kernel_rfl
end
noncomputable def X96_21 (call : CallT) (run : RunT)  : Option AV :=
  some (.u8 4)
section
variable (call : CallT) (run : RunT) 
theorem text96_21 : step C call 96 Tryd.f96 (unr C call run 96 Tryd.f96 400) K96_21 (S96_21 ) = X96_21 call run  := by
  kernel_rfl
end
noncomputable def X96_22 (call : CallT) (run : RunT) (a0 : List UInt8) : Option AV :=
  (selW (.b (decide (((a0.length : Int)) > 2))) true ((call 79 [.s a0, .s [111, 110]]).bind fun v1 => some (v1)) (.b false)).bind fun v2 => condM (v2)
  (some (.u8 2))
  (some (.u8 0))
section
variable (call : CallT) (run : RunT) (a0 : List UInt8)
theorem text96_22 : step C call 96 Tryd.f96 (unr C call run 96 Tryd.f96 400) K96_22 (S96_22 a0) = X96_22 call run a0 := by
  kernel_rfl
end
section
theorem r96_13 {r : AV} (h : X96_13 (semCall C Tryd.prog) (semRun C Tryd.prog 96 Tryd.f96)  = some r) : F96_13 (semRun C Tryd.prog 96 Tryd.f96)  = some r :=
  semRun_unr 400 ((text96_13 _ _ ).trans h)
end
section
variable (a0 a1 : List UInt8)
theorem r96_14 {r : AV} (h : X96_14 (semCall C Tryd.prog) (semRun C Tryd.prog 96 Tryd.f96) a0 a1 = some r) : F96_14 (semRun C Tryd.prog 96 Tryd.f96) a0 a1 = some r :=
  semRun_unr 400 ((text96_14 _ _ a0 a1).trans h)
end
section
theorem r96_21 {r : AV} (h : X96_21 (semCall C Tryd.prog) (semRun C Tryd.prog 96 Tryd.f96)  = some r) : F96_21 (semRun C Tryd.prog 96 Tryd.f96)  = some r :=
  semRun_unr 400 ((text96_21 _ _ ).trans h)
end
section
variable (a0 : List UInt8)
theorem r96_22 {r : AV} (h : X96_22 (semCall C Tryd.prog) (semRun C Tryd.prog 96 Tryd.f96) a0 = some r) : F96_22 (semRun C Tryd.prog 96 Tryd.f96) a0 = some r :=
  semRun_unr 400 ((text96_22 _ _ a0).trans h)
end
end R4

namespace R4
open Go Go.Proofs Sx
noncomputable def body99 : Code := (Tryd.f99.body).getD .skip
section
variable (run : RunT) (a0 a1 : UInt8) (a2 : Bool) (a3 a4 a5 a6 : UInt8) (a7 : Bool) (a8 : UInt8) (a9 : List UInt8)
noncomputable def K99_7 : List Item := (kAt 7 body99 []).getD []
def S99_7 : St := St.ofL [(1, .cell (.ptr 1 0))] [(1, some [.val (.u8 a0), .val (.u8 a1), .val (.b a2), .val (.u8 a3), .val (.u8 a4), .val (.u8 a5), .val (.u8 a6), .val (.b a7), .val (.u8 a8), .val (.s a9)])]
noncomputable def F99_7 : Option AV := run K99_7 (S99_7 a0 a1 a2 a3 a4 a5 a6 a7 a8 a9)
end
section
variable (run : RunT) 
noncomputable def K99_8 : List Item := (kAt 8 body99 []).getD []
def S99_8 : St := St.ofL [] []
noncomputable def F99_8 : Option AV := run K99_8 (S99_8 )
end
noncomputable def X99 (call : CallT) (run : RunT) (a0 a1 : UInt8) (a2 : Bool) (a3 a4 a5 a6 : UInt8) (a7 : Bool) (a8 : UInt8) (a9 : List UInt8) : Option AV :=
  condM (.b (ueq a0 8))
  ((selW (.b (ueq a3 2)) false (some (.b (ueq a3 3))) (.b true)).bind fun v1 => some (v1))
  (condM (.b (ueq a0 17))
  (F99_7 run a0 a1 a2 a3 a4 a5 a6 a7 a8 a9)
  (condM (.b (ueq a0 18))
  (F99_7 run a0 a1 a2 a3 a4 a5 a6 a7 a8 a9)
  (condM (.b (ueq a0 19))
  (F99_7 run a0 a1 a2 a3 a4 a5 a6 a7 a8 a9)
  (F99_8 run))))
section
variable (call : CallT) (run : RunT) (a0 a1 : UInt8) (a2 : Bool) (a3 a4 a5 a6 : UInt8) (a7 : Bool) (a8 : UInt8) (a9 : List UInt8)
theorem text99 : unr C call run 99 Tryd.f99 400 [.code body99] (initF C 99 Tryd.f99.ntmps [.ag [.u8 a0, .u8 a1, .b a2, .u8 a3, .u8 a4, .u8 a5, .u8 a6, .b a7, .u8 a8, .s a9]]) = X99 call run a0 a1 a2 a3 a4 a5 a6 a7 a8 a9 := by
  kernel_rfl
theorem c99 {r : AV} (h : X99 (semCall C Tryd.prog) (semRun C Tryd.prog 99 Tryd.f99) a0 a1 a2 a3 a4 a5 a6 a7 a8 a9 = some r) : semCall C Tryd.prog 99 [.ag [.u8 a0, .u8 a1, .b a2, .u8 a3, .u8 a4, .u8 a5, .u8 a6, .b a7, .u8 a8, .s a9]] = some r :=
  semCall_unr (fn := Tryd.f99) (c := body99) (by kernel_rfl) (by kernel_rfl) 400 (by kernel_rfl) ((text99 _ _ a0 a1 a2 a3 a4 a5 a6 a7 a8 a9).trans h)
end
noncomputable def X99_7 (call : CallT) (run : RunT) (a0 a1 : UInt8) (a2 : Bool) (a3 a4 a5 a6 : UInt8) (a7 : Bool) (a8 : UInt8) (a9 : List UInt8) : Option AV :=
  (selW (.b (ueq a1 3)) false (some (.b (ueq a1 4))) (.b true)).bind fun v1 => some (v1)
section
variable (call : CallT) (run : RunT) (a0 a1 : UInt8) (a2 : Bool) (a3 a4 a5 a6 : UInt8) (a7 : Bool) (a8 : UInt8) (a9 : List UInt8)
theorem text99_7 : step C call 99 Tryd.f99 (unr C call run 99 Tryd.f99 400) K99_7 (S99_7 a0 a1 a2 a3 a4 a5 a6 a7 a8 a9) = X99_7 call run a0 a1 a2 a3 a4 a5 a6 a7 a8 a9 := by
  kernel_rfl
end
noncomputable def X99_8 (call : CallT) (run : RunT)  : Option AV :=
  some (.b false)
section
variable (call : CallT) (run : RunT) 
theorem text99_8 : step C call 99 Tryd.f99 (unr C call run 99 Tryd.f99 400) K99_8 (S99_8 ) = X99_8 call run  := by
  kernel_rfl
end
section
variable (a0 a1 : UInt8) (a2 : Bool) (a3 a4 a5 a6 : UInt8) (a7 : Bool) (a8 : UInt8) (a9 : List UInt8)
theorem r99_7 {r : AV} (h : X99_7 (semCall C Tryd.prog) (semRun C Tryd.prog 99 Tryd.f99) a0 a1 a2 a3 a4 a5 a6 a7 a8 a9 = some r) : F99_7 (semRun C Tryd.prog 99 Tryd.f99) a0 a1 a2 a3 a4 a5 a6 a7 a8 a9 = some r :=
  semRun_unr 400 ((text99_7 _ _ a0 a1 a2 a3 a4 a5 a6 a7 a8 a9).trans h)
end
section
theorem r99_8 {r : AV} (h : X99_8 (semCall C Tryd.prog) (semRun C Tryd.prog 99 Tryd.f99)  = some r) : F99_8 (semRun C Tryd.prog 99 Tryd.f99)  = some r :=
  semRun_unr 400 ((text99_8 _ _ ).trans h)
end
end R4

namespace R4
open Go Go.Proofs Sx
noncomputable def body45 : Code := (Tryd.f45.body).getD .skip
section
variable (run : RunT) (a0 : UInt8) (a1 : Bool) (a2 a3 a4 a5 a6 a7 a8 a9 a10 a11 : AV) (a12 a13 : UInt8) (a14 : Bool) (a15 a16 a17 a18 : UInt8) (a19 : Bool) (a20 : UInt8) (a21 : List UInt8)
noncomputable def K45_3 : List Item := (kAt 3 body45 []).getD []
def S45_3 : St := St.ofL [(1, .cell (.val (.u8 a0))), (2, .cell (.val (.b a1))), (3, .cell (.ptr 3 0)), (6, .cell (.ptr 6 0))] [(3, some [.val (a2), .val (a3), .val (a4), .val (a5), .val (a6), .val (a7), .val (a8), .val (a9), .val (a10), .val (a11)]), (6, some [.val (.u8 a12), .val (.u8 a13), .val (.b a14), .val (.u8 a15), .val (.u8 a16), .val (.u8 a17), .val (.u8 a18), .val (.b a19), .val (.u8 a20), .val (.s a21)])]
noncomputable def F45_3 : Option AV := run K45_3 (S45_3 a0 a1 a2 a3 a4 a5 a6 a7 a8 a9 a10 a11 a12 a13 a14 a15 a16 a17 a18 a19 a20 a21)
end
section
variable (run : RunT) (a0 a1 a2 a3 a4 a5 a6 a7 a8 a9 : AV) (a10 a11 : UInt8) (a12 : Bool) (a13 a14 a15 a16 : UInt8) (a17 : Bool) (a18 : UInt8) (a19 : List UInt8)
noncomputable def K45_32 : List Item := (kAt 32 body45 []).getD []
def S45_32 : St := St.ofL [(3, .cell (.ptr 3 0)), (6, .cell (.ptr 6 0))] [(3, some [.val (a0), .val (a1), .val (a2), .val (a3), .val (a4), .val (a5), .val (a6), .val (a7), .val (a8), .val (a9)]), (6, some [.val (.u8 a10), .val (.u8 a11), .val (.b a12), .val (.u8 a13), .val (.u8 a14), .val (.u8 a15), .val (.u8 a16), .val (.b a17), .val (.u8 a18), .val (.s a19)])]
noncomputable def F45_32 : Option AV := run K45_32 (S45_32 a0 a1 a2 a3 a4 a5 a6 a7 a8 a9 a10 a11 a12 a13 a14 a15 a16 a17 a18 a19)
end
section
variable (run : RunT) (a0 : UInt8) (a1 : Bool) (a2 a3 a4 a5 a6 a7 a8 a9 a10 a11 : AV) (a12 a13 : UInt8) (a14 : Bool) (a15 a16 a17 a18 : UInt8) (a19 : Bool) (a20 : UInt8) (a21 : List UInt8)
noncomputable def K45_22 : List Item := (kAt 22 body45 []).getD []
def S45_22 : St := St.ofL [(1, .cell (.val (.u8 a0))), (2, .cell (.val (.b a1))), (3, .cell (.ptr 3 0)), (6, .cell (.ptr 6 0))] [(3, some [.val (a2), .val (a3), .val (a4), .val (a5), .val (a6), .val (a7), .val (a8), .val (a9), .val (a10), .val (a11)]), (6, some [.val (.u8 a12), .val (.u8 a13), .val (.b a14), .val (.u8 a15), .val (.u8 a16), .val (.u8 a17), .val (.u8 a18), .val (.b a19), .val (.u8 a20), .val (.s a21)])]
noncomputable def F45_22 : Option AV := run K45_22 (S45_22 a0 a1 a2 a3 a4 a5 a6 a7 a8 a9 a10 a11 a12 a13 a14 a15 a16 a17 a18 a19 a20 a21)
end
section
variable (run : RunT) (a0 : UInt8) (a1 : Bool) (a2 a3 a4 a5 a6 a7 a8 a9 a10 a11 a12 : AV) (a13 a14 : UInt8) (a15 : Bool) (a16 a17 a18 a19 : UInt8) (a20 : Bool) (a21 : UInt8) (a22 : List UInt8)
noncomputable def K45_26 : List Item := (kAt 26 body45 []).getD []
def S45_26 : St := St.ofL [(1, .cell (.val (.u8 a0))), (2, .cell (.val (.b a1))), (3, .cell (.ptr 3 0)), (6, .cell (.ptr 6 0)), (16, .cell (.val (a2)))] [(3, some [.val (a3), .val (a4), .val (a5), .val (a6), .val (a7), .val (a8), .val (a9), .val (a10), .val (a11), .val (a12)]), (6, some [.val (.u8 a13), .val (.u8 a14), .val (.b a15), .val (.u8 a16), .val (.u8 a17), .val (.u8 a18), .val (.u8 a19), .val (.b a20), .val (.u8 a21), .val (.s a22)])]
noncomputable def F45_26 : Option AV := run K45_26 (S45_26 a0 a1 a2 a3 a4 a5 a6 a7 a8 a9 a10 a11 a12 a13 a14 a15 a16 a17 a18 a19 a20 a21 a22)
end
section
variable (run : RunT) (a0 : UInt8) (a1 : Bool) (a2 a3 a4 a5 a6 a7 a8 a9 a10 a11 : AV) (a12 a13 : UInt8) (a14 : Bool) (a15 a16 a17 a18 : UInt8) (a19 : Bool) (a20 : UInt8) (a21 : List UInt8)
noncomputable def K45_31 : List Item := (kAt 31 body45 []).getD []
def S45_31 : St := St.ofL [(1, .cell (.val (.u8 a0))), (2, .cell (.val (.b a1))), (3, .cell (.ptr 3 0)), (6, .cell (.ptr 6 0))] [(3, some [.val (a2), .val (a3), .val (a4), .val (a5), .val (a6), .val (a7), .val (a8), .val (a9), .val (a10), .val (a11)]), (6, some [.val (.u8 a12), .val (.u8 a13), .val (.b a14), .val (.u8 a15), .val (.u8 a16), .val (.u8 a17), .val (.u8 a18), .val (.b a19), .val (.u8 a20), .val (.s a21)])]
noncomputable def F45_31 : Option AV := run K45_31 (S45_31 a0 a1 a2 a3 a4 a5 a6 a7 a8 a9 a10 a11 a12 a13 a14 a15 a16 a17 a18 a19 a20 a21)
end
section
variable (run : RunT) (a0 : UInt8) (a1 a2 a3 a4 a5 a6 a7 a8 a9 a10 : AV) (a11 a12 : UInt8) (a13 : Bool) (a14 a15 a16 a17 : UInt8) (a18 : Bool) (a19 : UInt8) (a20 : List UInt8)
noncomputable def K45_4 : List Item := (kAt 4 body45 []).getD []
def S45_4 : St := St.ofL [(1, .cell (.val (.u8 a0))), (3, .cell (.ptr 3 0)), (6, .cell (.ptr 6 0))] [(3, some [.val (a1), .val (a2), .val (a3), .val (a4), .val (a5), .val (a6), .val (a7), .val (a8), .val (a9), .val (a10)]), (6, some [.val (.u8 a11), .val (.u8 a12), .val (.b a13), .val (.u8 a14), .val (.u8 a15), .val (.u8 a16), .val (.u8 a17), .val (.b a18), .val (.u8 a19), .val (.s a20)])]
noncomputable def F45_4 : Option AV := run K45_4 (S45_4 a0 a1 a2 a3 a4 a5 a6 a7 a8 a9 a10 a11 a12 a13 a14 a15 a16 a17 a18 a19 a20)
end
noncomputable def X45 (call : CallT) (run : RunT) (a0 a1 : UInt8) (a2 : Bool) (a3 a4 a5 a6 : UInt8) (a7 : Bool) (a8 : UInt8) (a9 : List UInt8) (a10 : UInt8) (a11 : Bool) : Option AV :=
  (call 43 [.ag [.u8 a0, .u8 a1, .b a2, .u8 a3, .u8 a4, .u8 a5, .u8 a6, .b a7, .u8 a8, .s a9]]).bind fun v1 => (unop .not (v1)).bind fun v2 => condM (v2)
  (some (.ag [.u8 20, .u8 0, .b false, .u8 0, .u8 0, .u8 0, .u8 0, .b false, .u8 0, .s []]))
  (F45_3 run a10 a11 (.u8 a0) (.u8 a1) (.b a2) (.u8 a3) (.u8 a4) (.u8 a5) (.u8 a6) (.b a7) (.u8 a8) (.s a9) 0 0 false 0 0 0 0 false 0 [])
section
variable (call : CallT) (run : RunT) (a0 a1 : UInt8) (a2 : Bool) (a3 a4 a5 a6 : UInt8) (a7 : Bool) (a8 : UInt8) (a9 : List UInt8) (a10 : UInt8) (a11 : Bool)
theorem text45 : unr C call run 45 Tryd.f45 400 [.code body45] (initF C 45 Tryd.f45.ntmps [.ag [.u8 a0, .u8 a1, .b a2, .u8 a3, .u8 a4, .u8 a5, .u8 a6, .b a7, .u8 a8, .s a9], .u8 a10, .b a11]) = X45 call run a0 a1 a2 a3 a4 a5 a6 a7 a8 a9 a10 a11 := by
  kernel_rfl
theorem c45 {r : AV} (h : X45 (semCall C Tryd.prog) (semRun C Tryd.prog 45 Tryd.f45) a0 a1 a2 a3 a4 a5 a6 a7 a8 a9 a10 a11 = some r) : semCall C Tryd.prog 45 [.ag [.u8 a0, .u8 a1, .b a2, .u8 a3, .u8 a4, .u8 a5, .u8 a6, .b a7, .u8 a8, .s a9], .u8 a10, .b a11] = some r :=
  semCall_unr (fn := Tryd.f45) (c := body45) (by kernel_rfl) (by kernel_rfl) 400 (by kernel_rfl) ((text45 _ _ a0 a1 a2 a3 a4 a5 a6 a7 a8 a9 a10 a11).trans h)
end
noncomputable def X45_3 (call : CallT) (run : RunT) (a0 : UInt8) (a1 : Bool) (a2 a3 a4 a5 a6 a7 a8 a9 a10 a11 : AV) (a12 a13 : UInt8) (a14 : Bool) (a15 a16 a17 a18 : UInt8) (a19 : Bool) (a20 : UInt8) (a21 : List UInt8) : Option AV :=
  (binI .eql (a2) (.u8 0)).bind fun v1 => condM (v1)
  (condM (.b (ueq a0 60))
  (F45_32 run (.u8 1) (a3) (a4) (a5) (a6) (a7) (a8) (a9) (a10) (a11) a12 a13 a14 a15 a16 a17 a18 a19 a20 a21)
  (F45_32 run (a2) (a3) (a4) (a5) (a6) (a7) (a8) (a9) (a10) (a11) a12 a13 a14 a15 a16 a17 a18 a19 a20 a21))
  ((binI .eql (a2) (.u8 1)).bind fun v2 => condM (v2)
  ((call 65 [.u8 a0]).bind fun v3 => (tupI (v3) 0).bind fun v4 => (tupI (v3) 1).bind fun v5 => (AV.asAg 10 (v4)).bind fun v6 => condM (v5)
  (some (.ag [v6.getD 0 .un, v6.getD 1 .un, v6.getD 2 .un, v6.getD 3 .un, v6.getD 4 .un, v6.getD 5 .un, v6.getD 6 .un, v6.getD 7 .un, v6.getD 8 .un, v6.getD 9 .un]))
  (F45_3 run a0 a1 (.u8 0) (a3) (a4) (a5) (a6) (a7) (a8) (a9) (a10) (a11) a12 a13 a14 a15 a16 a17 a18 a19 a20 a21))
  ((binI .eql (a2) (.u8 2)).bind fun v7 => condM (v7)
  ((call 66 [.u8 a0]).bind fun v8 => (AV.asAg 10 (v8)).bind fun v9 => some (.ag [v9.getD 0 .un, v9.getD 1 .un, v9.getD 2 .un, v9.getD 3 .un, v9.getD 4 .un, v9.getD 5 .un, v9.getD 6 .un, v9.getD 7 .un, v9.getD 8 .un, v9.getD 9 .un]))
  ((binI .eql (a2) (.u8 3)).bind fun v10 => condM (v10)
  (F45_22 run a0 a1 (a2) (a3) (a4) (a5) (a6) (a7) (a8) (a9) (a10) (a11) a12 a13 a14 a15 a16 a17 a18 a19 a20 a21)
  ((binI .eql (a2) (.u8 4)).bind fun v11 => condM (v11)
  (F45_22 run a0 a1 (a2) (a3) (a4) (a5) (a6) (a7) (a8) (a9) (a10) (a11) a12 a13 a14 a15 a16 a17 a18 a19 a20 a21)
  ((binI .eql (a2) (.u8 5)).bind fun v12 => condM (v12)
  (F45_22 run a0 a1 (a2) (a3) (a4) (a5) (a6) (a7) (a8) (a9) (a10) (a11) a12 a13 a14 a15 a16 a17 a18 a19 a20 a21)
  ((binI .eql (a2) (.u8 6)).bind fun v13 => condM (v13)
  (F45_22 run a0 a1 (a2) (a3) (a4) (a5) (a6) (a7) (a8) (a9) (a10) (a11) a12 a13 a14 a15 a16 a17 a18 a19 a20 a21)
  ((binI .eql (a2) (.u8 7)).bind fun v14 => condM (v14)
  (F45_22 run a0 a1 (a2) (a3) (a4) (a5) (a6) (a7) (a8) (a9) (a10) (a11) a12 a13 a14 a15 a16 a17 a18 a19 a20 a21)
  ((binI .eql (a2) (.u8 9)).bind fun v15 => condM (v15)
  (F45_22 run a0 a1 (a2) (a3) (a4) (a5) (a6) (a7) (a8) (a9) (a10) (a11) a12 a13 a14 a15 a16 a17 a18 a19 a20 a21)
  ((binI .eql (a2) (.u8 10)).bind fun v16 => condM (v16)
  (F45_22 run a0 a1 (a2) (a3) (a4) (a5) (a6) (a7) (a8) (a9) (a10) (a11) a12 a13 a14 a15 a16 a17 a18 a19 a20 a21)
  (F45_26 run a0 a1 (a2) (a2) (a3) (a4) (a5) (a6) (a7) (a8) (a9) (a10) (a11) a12 a13 a14 a15 a16 a17 a18 a19 a20 a21))))))))))
section
variable (call : CallT) (run : RunT) (a0 : UInt8) (a1 : Bool) (a2 a3 a4 a5 a6 a7 a8 a9 a10 a11 : AV) (a12 a13 : UInt8) (a14 : Bool) (a15 a16 a17 a18 : UInt8) (a19 : Bool) (a20 : UInt8) (a21 : List UInt8)
theorem text45_3 : step C call 45 Tryd.f45 (unr C call run 45 Tryd.f45 400) K45_3 (S45_3 a0 a1 a2 a3 a4 a5 a6 a7 a8 a9 a10 a11 a12 a13 a14 a15 a16 a17 a18 a19 a20 a21) = X45_3 call run a0 a1 a2 a3 a4 a5 a6 a7 a8 a9 a10 a11 a12 a13 a14 a15 a16 a17 a18 a19 a20 a21 := by
  kernel_rfl
end
noncomputable def X45_32 (call : CallT) (run : RunT) (a0 a1 a2 a3 a4 a5 a6 a7 a8 a9 : AV) (a10 a11 : UInt8) (a12 : Bool) (a13 a14 a15 a16 : UInt8) (a17 : Bool) (a18 : UInt8) (a19 : List UInt8) : Option AV :=
  some (.ag [a0, a1, a2, a3, a4, a5, a6, a7, a8, a9])
section
variable (call : CallT) (run : RunT) (a0 a1 a2 a3 a4 a5 a6 a7 a8 a9 : AV) (a10 a11 : UInt8) (a12 : Bool) (a13 a14 a15 a16 : UInt8) (a17 : Bool) (a18 : UInt8) (a19 : List UInt8)
theorem text45_32 : step C call 45 Tryd.f45 (unr C call run 45 Tryd.f45 400) K45_32 (S45_32 a0 a1 a2 a3 a4 a5 a6 a7 a8 a9 a10 a11 a12 a13 a14 a15 a16 a17 a18 a19) = X45_32 call run a0 a1 a2 a3 a4 a5 a6 a7 a8 a9 a10 a11 a12 a13 a14 a15 a16 a17 a18 a19 := by
  kernel_rfl
end
noncomputable def X45_22 (call : CallT) (run : RunT) (a0 : UInt8) (a1 : Bool) (a2 a3 a4 a5 a6 a7 a8 a9 a10 a11 : AV) (a12 a13 : UInt8) (a14 : Bool) (a15 a16 a17 a18 : UInt8) (a19 : Bool) (a20 : UInt8) (a21 : List UInt8) : Option AV :=
  (call 67 [.ag [a2, a3, a4, a5, a6, a7, a8, a9, a10, a11], .u8 a0]).bind fun v1 => (tupI (v1) 0).bind fun v2 => (tupI (v1) 1).bind fun v3 => (AV.asAg 10 (v2)).bind fun v4 => condM (v3)
  (F45_3 run a0 a1 (v4.getD 0 .un) (v4.getD 1 .un) (v4.getD 2 .un) (v4.getD 3 .un) (v4.getD 4 .un) (v4.getD 5 .un) (v4.getD 6 .un) (v4.getD 7 .un) (v4.getD 8 .un) (v4.getD 9 .un) a12 a13 a14 a15 a16 a17 a18 a19 a20 a21)
  (some (.ag [v4.getD 0 .un, v4.getD 1 .un, v4.getD 2 .un, v4.getD 3 .un, v4.getD 4 .un, v4.getD 5 .un, v4.getD 6 .un, v4.getD 7 .un, v4.getD 8 .un, v4.getD 9 .un]))
section
variable (call : CallT) (run : RunT) (a0 : UInt8) (a1 : Bool) (a2 a3 a4 a5 a6 a7 a8 a9 a10 a11 : AV) (a12 a13 : UInt8) (a14 : Bool) (a15 a16 a17 a18 : UInt8) (a19 : Bool) (a20 : UInt8) (a21 : List UInt8)
theorem text45_22 : step C call 45 Tryd.f45 (unr C call run 45 Tryd.f45 400) K45_22 (S45_22 a0 a1 a2 a3 a4 a5 a6 a7 a8 a9 a10 a11 a12 a13 a14 a15 a16 a17 a18 a19 a20 a21) = X45_22 call run a0 a1 a2 a3 a4 a5 a6 a7 a8 a9 a10 a11 a12 a13 a14 a15 a16 a17 a18 a19 a20 a21 := by
  kernel_rfl
end
noncomputable def X45_26 (call : CallT) (run : RunT) (a0 : UInt8) (a1 : Bool) (a2 a3 a4 a5 a6 a7 a8 a9 a10 a11 a12 : AV) (a13 a14 : UInt8) (a15 : Bool) (a16 a17 a18 a19 : UInt8) (a20 : Bool) (a21 : UInt8) (a22 : List UInt8) : Option AV :=
  (binI .eql (a2) (.u8 8)).bind fun v1 => condM (v1)
  ((call 68 [.ag [a3, a4, a5, a6, a7, a8, a9, a10, a11, a12], .u8 a0]).bind fun v2 => (AV.asAg 10 (v2)).bind fun v3 => some (.ag [v3.getD 0 .un, v3.getD 1 .un, v3.getD 2 .un, v3.getD 3 .un, v3.getD 4 .un, v3.getD 5 .un, v3.getD 6 .un, v3.getD 7 .un, v3.getD 8 .un, v3.getD 9 .un]))
  ((binI .eql (a2) (.u8 17)).bind fun v4 => condM (v4)
  (F45_31 run a0 a1 (a3) (a4) (a5) (a6) (a7) (a8) (a9) (a10) (a11) (a12) a13 a14 a15 a16 a17 a18 a19 a20 a21 a22)
  ((binI .eql (a2) (.u8 18)).bind fun v5 => condM (v5)
  (F45_31 run a0 a1 (a3) (a4) (a5) (a6) (a7) (a8) (a9) (a10) (a11) (a12) a13 a14 a15 a16 a17 a18 a19 a20 a21 a22)
  ((binI .eql (a2) (.u8 19)).bind fun v6 => condM (v6)
  (F45_31 run a0 a1 (a3) (a4) (a5) (a6) (a7) (a8) (a9) (a10) (a11) (a12) a13 a14 a15 a16 a17 a18 a19 a20 a21 a22)
  (F45_4 run a0 (a3) (a4) (a5) (a6) (a7) (a8) (a9) (a10) (a11) (a12) a13 a14 a15 a16 a17 a18 a19 a20 a21 a22))))
section
variable (call : CallT) (run : RunT) (a0 : UInt8) (a1 : Bool) (a2 a3 a4 a5 a6 a7 a8 a9 a10 a11 a12 : AV) (a13 a14 : UInt8) (a15 : Bool) (a16 a17 a18 a19 : UInt8) (a20 : Bool) (a21 : UInt8) (a22 : List UInt8)
theorem text45_26 : step C call 45 Tryd.f45 (unr C call run 45 Tryd.f45 400) K45_26 (S45_26 a0 a1 a2 a3 a4 a5 a6 a7 a8 a9 a10 a11 a12 a13 a14 a15 a16 a17 a18 a19 a20 a21 a22) = X45_26 call run a0 a1 a2 a3 a4 a5 a6 a7 a8 a9 a10 a11 a12 a13 a14 a15 a16 a17 a18 a19 a20 a21 a22 := by
  kernel_rfl
end
noncomputable def X45_31 (call : CallT) (run : RunT) (a0 : UInt8) (a1 : Bool) (a2 a3 a4 a5 a6 a7 a8 a9 a10 a11 : AV) (a12 a13 : UInt8) (a14 : Bool) (a15 a16 a17 a18 : UInt8) (a19 : Bool) (a20 : UInt8) (a21 : List UInt8) : Option AV :=
  (call 69 [.ag [a2, a3, a4, a5, a6, a7, a8, a9, a10, a11], .u8 a0, .b a1]).bind fun v1 => (AV.asAg 10 (v1)).bind fun v2 => some (.ag [v2.getD 0 .un, v2.getD 1 .un, v2.getD 2 .un, v2.getD 3 .un, v2.getD 4 .un, v2.getD 5 .un, v2.getD 6 .un, v2.getD 7 .un, v2.getD 8 .un, v2.getD 9 .un])
section
variable (call : CallT) (run : RunT) (a0 : UInt8) (a1 : Bool) (a2 a3 a4 a5 a6 a7 a8 a9 a10 a11 : AV) (a12 a13 : UInt8) (a14 : Bool) (a15 a16 a17 a18 : UInt8) (a19 : Bool) (a20 : UInt8) (a21 : List UInt8)
theorem text45_31 : step C call 45 Tryd.f45 (unr C call run 45 Tryd.f45 400) K45_31 (S45_31 a0 a1 a2 a3 a4 a5 a6 a7 a8 a9 a10 a11 a12 a13 a14 a15 a16 a17 a18 a19 a20 a21) = X45_31 call run a0 a1 a2 a3 a4 a5 a6 a7 a8 a9 a10 a11 a12 a13 a14 a15 a16 a17 a18 a19 a20 a21 := by
  kernel_rfl
end
noncomputable def X45_4 (call : CallT) (run : RunT) (a0 : UInt8) (a1 a2 a3 a4 a5 a6 a7 a8 a9 a10 : AV) (a11 a12 : UInt8) (a13 : Bool) (a14 a15 a16 a17 : UInt8) (a18 : Bool) (a19 : UInt8) (a20 : List UInt8) : Option AV :=
  (call 70 [.ag [a1, a2, a3, a4, a5, a6, a7, a8, a9, a10], .u8 a0]).bind fun v1 => (AV.asAg 10 (v1)).bind fun v2 => some (.ag [v2.getD 0 .un, v2.getD 1 .un, v2.getD 2 .un, v2.getD 3 .un, v2.getD 4 .un, v2.getD 5 .un, v2.getD 6 .un, v2.getD 7 .un, v2.getD 8 .un, v2.getD 9 .un])
section
variable (call : CallT) (run : RunT) (a0 : UInt8) (a1 a2 a3 a4 a5 a6 a7 a8 a9 a10 : AV) (a11 a12 : UInt8) (a13 : Bool) (a14 a15 a16 a17 : UInt8) (a18 : Bool) (a19 : UInt8) (a20 : List UInt8)
theorem text45_4 : step C call 45 Tryd.f45 (unr C call run 45 Tryd.f45 400) K45_4 (S45_4 a0 a1 a2 a3 a4 a5 a6 a7 a8 a9 a10 a11 a12 a13 a14 a15 a16 a17 a18 a19 a20) = X45_4 call run a0 a1 a2 a3 a4 a5 a6 a7 a8 a9 a10 a11 a12 a13 a14 a15 a16 a17 a18 a19 a20 := by
  kernel_rfl
end
section
variable (a0 : UInt8) (a1 : Bool) (a2 a3 a4 a5 a6 a7 a8 a9 a10 a11 : AV) (a12 a13 : UInt8) (a14 : Bool) (a15 a16 a17 a18 : UInt8) (a19 : Bool) (a20 : UInt8) (a21 : List UInt8)
theorem r45_3 {r : AV} (h : X45_3 (semCall C Tryd.prog) (semRun C Tryd.prog 45 Tryd.f45) a0 a1 a2 a3 a4 a5 a6 a7 a8 a9 a10 a11 a12 a13 a14 a15 a16 a17 a18 a19 a20 a21 = some r) : F45_3 (semRun C Tryd.prog 45 Tryd.f45) a0 a1 a2 a3 a4 a5 a6 a7 a8 a9 a10 a11 a12 a13 a14 a15 a16 a17 a18 a19 a20 a21 = some r :=
  semRun_unr 400 ((text45_3 _ _ a0 a1 a2 a3 a4 a5 a6 a7 a8 a9 a10 a11 a12 a13 a14 a15 a16 a17 a18 a19 a20 a21).trans h)
end
section
variable (a0 a1 a2 a3 a4 a5 a6 a7 a8 a9 : AV) (a10 a11 : UInt8) (a12 : Bool) (a13 a14 a15 a16 : UInt8) (a17 : Bool) (a18 : UInt8) (a19 : List UInt8)
theorem r45_32 {r : AV} (h : X45_32 (semCall C Tryd.prog) (semRun C Tryd.prog 45 Tryd.f45) a0 a1 a2 a3 a4 a5 a6 a7 a8 a9 a10 a11 a12 a13 a14 a15 a16 a17 a18 a19 = some r) : F45_32 (semRun C Tryd.prog 45 Tryd.f45) a0 a1 a2 a3 a4 a5 a6 a7 a8 a9 a10 a11 a12 a13 a14 a15 a16 a17 a18 a19 = some r :=
  semRun_unr 400 ((text45_32 _ _ a0 a1 a2 a3 a4 a5 a6 a7 a8 a9 a10 a11 a12 a13 a14 a15 a16 a17 a18 a19).trans h)
end
section
variable (a0 : UInt8) (a1 : Bool) (a2 a3 a4 a5 a6 a7 a8 a9 a10 a11 : AV) (a12 a13 : UInt8) (a14 : Bool) (a15 a16 a17 a18 : UInt8) (a19 : Bool) (a20 : UInt8) (a21 : List UInt8)
theorem r45_22 {r : AV} (h : X45_22 (semCall C Tryd.prog) (semRun C Tryd.prog 45 Tryd.f45) a0 a1 a2 a3 a4 a5 a6 a7 a8 a9 a10 a11 a12 a13 a14 a15 a16 a17 a18 a19 a20 a21 = some r) : F45_22 (semRun C Tryd.prog 45 Tryd.f45) a0 a1 a2 a3 a4 a5 a6 a7 a8 a9 a10 a11 a12 a13 a14 a15 a16 a17 a18 a19 a20 a21 = some r :=
  semRun_unr 400 ((text45_22 _ _ a0 a1 a2 a3 a4 a5 a6 a7 a8 a9 a10 a11 a12 a13 a14 a15 a16 a17 a18 a19 a20 a21).trans h)
end
section
variable (a0 : UInt8) (a1 : Bool) (a2 a3 a4 a5 a6 a7 a8 a9 a10 a11 a12 : AV) (a13 a14 : UInt8) (a15 : Bool) (a16 a17 a18 a19 : UInt8) (a20 : Bool) (a21 : UInt8) (a22 : List UInt8)
theorem r45_26 {r : AV} (h : X45_26 (semCall C Tryd.prog) (semRun C Tryd.prog 45 Tryd.f45) a0 a1 a2 a3 a4 a5 a6 a7 a8 a9 a10 a11 a12 a13 a14 a15 a16 a17 a18 a19 a20 a21 a22 = some r) : F45_26 (semRun C Tryd.prog 45 Tryd.f45) a0 a1 a2 a3 a4 a5 a6 a7 a8 a9 a10 a11 a12 a13 a14 a15 a16 a17 a18 a19 a20 a21 a22 = some r :=
  semRun_unr 400 ((text45_26 _ _ a0 a1 a2 a3 a4 a5 a6 a7 a8 a9 a10 a11 a12 a13 a14 a15 a16 a17 a18 a19 a20 a21 a22).trans h)
end
section
variable (a0 : UInt8) (a1 : Bool) (a2 a3 a4 a5 a6 a7 a8 a9 a10 a11 : AV) (a12 a13 : UInt8) (a14 : Bool) (a15 a16 a17 a18 : UInt8) (a19 : Bool) (a20 : UInt8) (a21 : List UInt8)
theorem r45_31 {r : AV} (h : X45_31 (semCall C Tryd.prog) (semRun C Tryd.prog 45 Tryd.f45) a0 a1 a2 a3 a4 a5 a6 a7 a8 a9 a10 a11 a12 a13 a14 a15 a16 a17 a18 a19 a20 a21 = some r) : F45_31 (semRun C Tryd.prog 45 Tryd.f45) a0 a1 a2 a3 a4 a5 a6 a7 a8 a9 a10 a11 a12 a13 a14 a15 a16 a17 a18 a19 a20 a21 = some r :=
  semRun_unr 400 ((text45_31 _ _ a0 a1 a2 a3 a4 a5 a6 a7 a8 a9 a10 a11 a12 a13 a14 a15 a16 a17 a18 a19 a20 a21).trans h)
end
section
variable (a0 : UInt8) (a1 a2 a3 a4 a5 a6 a7 a8 a9 a10 : AV) (a11 a12 : UInt8) (a13 : Bool) (a14 a15 a16 a17 : UInt8) (a18 : Bool) (a19 : UInt8) (a20 : List UInt8)
theorem r45_4 {r : AV} (h : X45_4 (semCall C Tryd.prog) (semRun C Tryd.prog 45 Tryd.f45) a0 a1 a2 a3 a4 a5 a6 a7 a8 a9 a10 a11 a12 a13 a14 a15 a16 a17 a18 a19 a20 = some r) : F45_4 (semRun C Tryd.prog 45 Tryd.f45) a0 a1 a2 a3 a4 a5 a6 a7 a8 a9 a10 a11 a12 a13 a14 a15 a16 a17 a18 a19 a20 = some r :=
  semRun_unr 400 ((text45_4 _ _ a0 a1 a2 a3 a4 a5 a6 a7 a8 a9 a10 a11 a12 a13 a14 a15 a16 a17 a18 a19 a20).trans h)
end
end R4

namespace R4
open Go Go.Proofs Sx
noncomputable def body65 : Code := (Tryd.f65.body).getD .skip
noncomputable def X65 (call : CallT) (run : RunT) (a0 : UInt8) : Option AV :=
  (call 81 [.u8 a0]).bind fun v1 => condM (v1)
  ((call 82 [.u8 a0]).bind fun v2 => (AV.one (v2)).bind fun v3 => (b2s (.ro 1 (([v3] : List AV)))).bind fun v4 => (AV.one (v4)).bind fun v5 => some (.tu [.ag [.u8 3, .u8 0, .b false, .u8 0, .u8 0, .u8 0, .u8 0, .b false, .u8 0, v5], .b true]))
  (condM (.b (ueq a0 47))
  (some (.tu [.ag [.u8 2, .u8 0, .b false, .u8 0, .u8 0, .u8 0, .u8 0, .b false, .u8 0, .s []], .b true]))
  (condM (.b (ueq a0 33))
  (some (.tu [.ag [.u8 11, .u8 0, .b false, .u8 0, .u8 0, .u8 0, .u8 0, .b false, .u8 0, .s []], .b true]))
  (condM (.b (ueq a0 63))
  (some (.tu [.ag [.u8 16, .u8 0, .b false, .u8 0, .u8 0, .u8 0, .u8 0, .b false, .u8 0, .s []], .b true]))
  (some (.tu [.ag [.u8 0, .u8 0, .b false, .u8 0, .u8 0, .u8 0, .u8 0, .b false, .u8 0, .s []], .b false])))))
section
variable (call : CallT) (run : RunT) (a0 : UInt8)
theorem text65 : unr C call run 65 Tryd.f65 400 [.code body65] (initF C 65 Tryd.f65.ntmps [.u8 a0]) = X65 call run a0 := by
  kernel_rfl
theorem c65 {r : AV} (h : X65 (semCall C Tryd.prog) (semRun C Tryd.prog 65 Tryd.f65) a0 = some r) : semCall C Tryd.prog 65 [.u8 a0] = some r :=
  semCall_unr (fn := Tryd.f65) (c := body65) (by kernel_rfl) (by kernel_rfl) 400 (by kernel_rfl) ((text65 _ _ a0).trans h)
end
end R4

namespace R4
open Go Go.Proofs Sx
noncomputable def body66 : Code := (Tryd.f66.body).getD .skip
noncomputable def X66 (call : CallT) (run : RunT) (a0 : UInt8) : Option AV :=
  (call 81 [.u8 a0]).bind fun v1 => condM (v1)
  ((call 82 [.u8 a0]).bind fun v2 => (AV.one (v2)).bind fun v3 => (b2s (.ro 1 (([v3] : List AV)))).bind fun v4 => (AV.one (v4)).bind fun v5 => some (.ag [.u8 3, .u8 0, .b true, .u8 0, .u8 0, .u8 0, .u8 0, .b false, .u8 0, v5]))
  (condM (.b (ueq a0 62))
  (some (.ag [.u8 0, .u8 0, .b false, .u8 0, .u8 0, .u8 0, .u8 0, .b false, .u8 0, .s []]))
  (some (.ag [.u8 16, .u8 0, .b false, .u8 0, .u8 0, .u8 0, .u8 0, .b false, .u8 0, .s []])))
section
variable (call : CallT) (run : RunT) (a0 : UInt8)
theorem text66 : unr C call run 66 Tryd.f66 400 [.code body66] (initF C 66 Tryd.f66.ntmps [.u8 a0]) = X66 call run a0 := by
  kernel_rfl
theorem c66 {r : AV} (h : X66 (semCall C Tryd.prog) (semRun C Tryd.prog 66 Tryd.f66) a0 = some r) : semCall C Tryd.prog 66 [.u8 a0] = some r :=
  semCall_unr (fn := Tryd.f66) (c := body66) (by kernel_rfl) (by kernel_rfl) 400 (by kernel_rfl) ((text66 _ _ a0).trans h)
end
end R4

namespace R4
open Go Go.Proofs Sx
noncomputable def body67 : Code := (Tryd.f67.body).getD .skip
section
variable (run : RunT) (a0 : UInt8) (a1 : AV) (a2 : Bool) (a3 a4 a5 a6 : UInt8) (a7 : Bool) (a8 : UInt8) (a9 : List UInt8) (a10 a11 : UInt8) (a12 : Bool) (a13 a14 a15 a16 : UInt8) (a17 : Bool) (a18 : UInt8) (a19 : List UInt8)
noncomputable def K67_7 : List Item := (kAt 7 body67 []).getD []
def S67_7 : St := St.ofL [(2, .cell (.ptr 2 0)), (4, .cell (.ptr 4 0))] [(2, some [.val (.u8 a0), .val (a1), .val (.b a2), .val (.u8 a3), .val (.u8 a4), .val (.u8 a5), .val (.u8 a6), .val (.b a7), .val (.u8 a8), .val (.s a9)]), (4, some [.val (.u8 a10), .val (.u8 a11), .val (.b a12), .val (.u8 a13), .val (.u8 a14), .val (.u8 a15), .val (.u8 a16), .val (.b a17), .val (.u8 a18), .val (.s a19)])]
noncomputable def F67_7 : Option AV := run K67_7 (S67_7 a0 a1 a2 a3 a4 a5 a6 a7 a8 a9 a10 a11 a12 a13 a14 a15 a16 a17 a18 a19)
end
noncomputable def X67 (call : CallT) (run : RunT) (a0 a1 : UInt8) (a2 : Bool) (a3 a4 a5 a6 : UInt8) (a7 : Bool) (a8 : UInt8) (a9 : List UInt8) (a10 : UInt8) : Option AV :=
  condM (.b (ueq a0 3))
  ((call 83 [.u8 a10]).bind fun v1 => (unop .not (v1)).bind fun v2 => (selW (v2) true (some (.b (une a10 47))) (.b false)).bind fun v3 => (selW (v3) true (some (.b (une a10 62))) (.b false)).bind fun v4 => condM (v4)
  ((call 84 [.ag [.u8 a0, .u8 a1, .b a2, .u8 a3, .u8 a4, .u8 a5, .u8 a6, .b a7, .u8 a8, .s a9], .u8 a10]).bind fun v5 => (AV.asAg 10 (v5)).bind fun v6 => some (.tu [.ag [v6.getD 0 .un, v6.getD 1 .un, v6.getD 2 .un, v6.getD 3 .un, v6.getD 4 .un, v6.getD 5 .un, v6.getD 6 .un, v6.getD 7 .un, v6.getD 8 .un, v6.getD 9 .un], .b false]))
  (condM (.b (!a2))
  ((call 85 [.s a9]).bind fun v7 => (AV.one (v7)).bind fun v8 => F67_7 run a0 (v8) a2 a3 a4 a5 a6 a7 a8 a9 0 0 false 0 0 0 0 false 0 [])
  (F67_7 run a0 (.u8 a1) a2 a3 a4 a5 a6 a7 a8 a9 0 0 false 0 0 0 0 false 0 [])))
  (condM (.b (ueq a0 9))
  ((call 83 [.u8 a10]).bind fun v9 => condM (v9)
  ((call 86 [.ag [.u8 a0, .u8 a1, .b a2, .u8 a3, .u8 a4, .u8 a5, .u8 a6, .b a7, .u8 a8, .s a9], .u8 4]).bind fun v10 => (AV.asAg 10 (v10)).bind fun v11 => some (.tu [.ag [v11.getD 0 .un, v11.getD 1 .un, v11.getD 2 .un, v11.getD 3 .un, v11.getD 4 .un, v11.getD 5 .un, v11.getD 6 .un, v11.getD 7 .un, v11.getD 8 .un, v11.getD 9 .un], .b false]))
  (condM (.b (ueq a10 47))
  ((call 86 [.ag [.u8 a0, .u8 a1, .b a2, .u8 a3, .u8 a4, .u8 a5, .u8 a6, .b a7, .u8 a8, .s a9], .u8 10]).bind fun v12 => (AV.asAg 10 (v12)).bind fun v13 => some (.tu [.ag [v13.getD 0 .un, v13.getD 1 .un, v13.getD 2 .un, v13.getD 3 .un, v13.getD 4 .un, v13.getD 5 .un, v13.getD 6 .un, v13.getD 7 .un, v13.getD 8 .un, v13.getD 9 .un], .b false]))
  (condM (.b (ueq a10 62))
  ((call 87 [.u8 a1]).bind fun v14 => (AV.asAg 10 (v14)).bind fun v15 => some (.tu [.ag [v15.getD 0 .un, v15.getD 1 .un, v15.getD 2 .un, v15.getD 3 .un, v15.getD 4 .un, v15.getD 5 .un, v15.getD 6 .un, v15.getD 7 .un, v15.getD 8 .un, v15.getD 9 .un], .b false]))
  (some (.tu [.ag [.u8 20, .u8 0, .b false, .u8 0, .u8 0, .u8 0, .u8 0, .b false, .u8 0, .s []], .b false])))))
  (condM (.b (ueq a0 10))
  (condM (.b (ueq a10 62))
  ((call 87 [.u8 a1]).bind fun v16 => (AV.asAg 10 (v16)).bind fun v17 => some (.tu [.ag [v17.getD 0 .un, v17.getD 1 .un, v17.getD 2 .un, v17.getD 3 .un, v17.getD 4 .un, v17.getD 5 .un, v17.getD 6 .un, v17.getD 7 .un, v17.getD 8 .un, v17.getD 9 .un], .b false]))
  ((call 86 [.ag [.u8 a0, .u8 a1, .b a2, .u8 a3, .u8 a4, .u8 a5, .u8 a6, .b a7, .u8 a8, .s a9], .u8 4]).bind fun v18 => (AV.asAg 10 (v18)).bind fun v19 => some (.tu [.ag [v19.getD 0 .un, v19.getD 1 .un, v19.getD 2 .un, v19.getD 3 .un, v19.getD 4 .un, v19.getD 5 .un, v19.getD 6 .un, v19.getD 7 .un, v19.getD 8 .un, v19.getD 9 .un], .b true])))
  (condM (.b (ueq a0 4))
  ((call 83 [.u8 a10]).bind fun v20 => condM (v20)
  (some (.tu [.ag [.u8 a0, .u8 a1, .b a2, .u8 a3, .u8 a4, .u8 a5, .u8 a6, .b a7, .u8 a8, .s a9], .b false]))
  ((selW (.b (ueq a10 47)) false (some (.b (ueq a10 62))) (.b true)).bind fun v21 => condM (v21)
  ((call 86 [.ag [.u8 a0, .u8 a1, .b a2, .u8 a3, .u8 a4, .u8 a5, .u8 a6, .b a7, .u8 a8, .s a9], .u8 9]).bind fun v22 => (AV.asAg 10 (v22)).bind fun v23 => some (.tu [.ag [v23.getD 0 .un, v23.getD 1 .un, v23.getD 2 .un, v23.getD 3 .un, v23.getD 4 .un, v23.getD 5 .un, v23.getD 6 .un, v23.getD 7 .un, v23.getD 8 .un, v23.getD 9 .un], .b true]))
  (condM (.b (ueq a10 61))
  (some (.tu [.ag [.u8 20, .u8 0, .b false, .u8 0, .u8 0, .u8 0, .u8 0, .b false, .u8 0, .s []], .b false]))
  (some (.tu [.ag [.u8 5, .u8 a1, .b a2, .u8 a3, .u8 a4, .u8 a5, .u8 a6, .b a7, .u8 a8, .s a9], .b true])))))
  (condM (.b (ueq a0 7))
  ((call 88 [.ag [.u8 a0, .u8 a1, .b a2, .u8 a3, .u8 a4, .u8 a5, .u8 a6, .b a7, .u8 a8, .s a9], .u8 a10]).bind fun v24 => (tupI (v24) 0).bind fun v25 => (tupI (v24) 1).bind fun v26 => (AV.asAg 10 (v25)).bind fun v27 => some (.tu [.ag [v27.getD 0 .un, v27.getD 1 .un, v27.getD 2 .un, v27.getD 3 .un, v27.getD 4 .un, v27.getD 5 .un, v27.getD 6 .un, v27.getD 7 .un, v27.getD 8 .un, v27.getD 9 .un], v26]))
  ((call 89 [.ag [.u8 a0, .u8 a1, .b a2, .u8 a3, .u8 a4, .u8 a5, .u8 a6, .b a7, .u8 a8, .s a9], .u8 a10]).bind fun v28 => (tupI (v28) 0).bind fun v29 => (tupI (v28) 1).bind fun v30 => (AV.asAg 10 (v29)).bind fun v31 => some (.tu [.ag [v31.getD 0 .un, v31.getD 1 .un, v31.getD 2 .un, v31.getD 3 .un, v31.getD 4 .un, v31.getD 5 .un, v31.getD 6 .un, v31.getD 7 .un, v31.getD 8 .un, v31.getD 9 .un], v30]))))))
section
variable (call : CallT) (run : RunT) (a0 a1 : UInt8) (a2 : Bool) (a3 a4 a5 a6 : UInt8) (a7 : Bool) (a8 : UInt8) (a9 : List UInt8) (a10 : UInt8)
theorem text67 : unr C call run 67 Tryd.f67 400 [.code body67] (initF C 67 Tryd.f67.ntmps [.ag [.u8 a0, .u8 a1, .b a2, .u8 a3, .u8 a4, .u8 a5, .u8 a6, .b a7, .u8 a8, .s a9], .u8 a10]) = X67 call run a0 a1 a2 a3 a4 a5 a6 a7 a8 a9 a10 := by
  kernel_rfl
theorem c67 {r : AV} (h : X67 (semCall C Tryd.prog) (semRun C Tryd.prog 67 Tryd.f67) a0 a1 a2 a3 a4 a5 a6 a7 a8 a9 a10 = some r) : semCall C Tryd.prog 67 [.ag [.u8 a0, .u8 a1, .b a2, .u8 a3, .u8 a4, .u8 a5, .u8 a6, .b a7, .u8 a8, .s a9], .u8 a10] = some r :=
  semCall_unr (fn := Tryd.f67) (c := body67) (by kernel_rfl) (by kernel_rfl) 400 (by kernel_rfl) ((text67 _ _ a0 a1 a2 a3 a4 a5 a6 a7 a8 a9 a10).trans h)
end
noncomputable def X67_7 (call : CallT) (run : RunT) (a0 : UInt8) (a1 : AV) (a2 : Bool) (a3 a4 a5 a6 : UInt8) (a7 : Bool) (a8 : UInt8) (a9 : List UInt8) (a10 a11 : UInt8) (a12 : Bool) (a13 a14 a15 a16 : UInt8) (a17 : Bool) (a18 : UInt8) (a19 : List UInt8) : Option AV :=
  (call 86 [.ag [.u8 a0, a1, .b a2, .u8 a3, .u8 a4, .u8 a5, .u8 a6, .b a7, .u8 a8, .s a9], .u8 9]).bind fun v1 => (AV.asAg 10 (v1)).bind fun v2 => some (.tu [.ag [v2.getD 0 .un, v2.getD 1 .un, v2.getD 2 .un, v2.getD 3 .un, v2.getD 4 .un, v2.getD 5 .un, v2.getD 6 .un, v2.getD 7 .un, v2.getD 8 .un, v2.getD 9 .un], .b true])
section
variable (call : CallT) (run : RunT) (a0 : UInt8) (a1 : AV) (a2 : Bool) (a3 a4 a5 a6 : UInt8) (a7 : Bool) (a8 : UInt8) (a9 : List UInt8) (a10 a11 : UInt8) (a12 : Bool) (a13 a14 a15 a16 : UInt8) (a17 : Bool) (a18 : UInt8) (a19 : List UInt8)
theorem text67_7 : step C call 67 Tryd.f67 (unr C call run 67 Tryd.f67 400) K67_7 (S67_7 a0 a1 a2 a3 a4 a5 a6 a7 a8 a9 a10 a11 a12 a13 a14 a15 a16 a17 a18 a19) = X67_7 call run a0 a1 a2 a3 a4 a5 a6 a7 a8 a9 a10 a11 a12 a13 a14 a15 a16 a17 a18 a19 := by
  kernel_rfl
end
section
variable (a0 : UInt8) (a1 : AV) (a2 : Bool) (a3 a4 a5 a6 : UInt8) (a7 : Bool) (a8 : UInt8) (a9 : List UInt8) (a10 a11 : UInt8) (a12 : Bool) (a13 a14 a15 a16 : UInt8) (a17 : Bool) (a18 : UInt8) (a19 : List UInt8)
theorem r67_7 {r : AV} (h : X67_7 (semCall C Tryd.prog) (semRun C Tryd.prog 67 Tryd.f67) a0 a1 a2 a3 a4 a5 a6 a7 a8 a9 a10 a11 a12 a13 a14 a15 a16 a17 a18 a19 = some r) : F67_7 (semRun C Tryd.prog 67 Tryd.f67) a0 a1 a2 a3 a4 a5 a6 a7 a8 a9 a10 a11 a12 a13 a14 a15 a16 a17 a18 a19 = some r :=
  semRun_unr 400 ((text67_7 _ _ a0 a1 a2 a3 a4 a5 a6 a7 a8 a9 a10 a11 a12 a13 a14 a15 a16 a17 a18 a19).trans h)
end
end R4

namespace R4
open Go Go.Proofs Sx
noncomputable def body68 : Code := (Tryd.f68.body).getD .skip
noncomputable def X68 (call : CallT) (run : RunT) (a0 a1 : UInt8) (a2 : Bool) (a3 a4 a5 a6 : UInt8) (a7 : Bool) (a8 : UInt8) (a9 : List UInt8) (a10 : UInt8) : Option AV :=
  (selW (.b (!(ueq a4 0))) true (some (.b (ueq a10 a4))) (.b false)).bind fun v1 => (selW (v1) false ((selW (.b (ueq a4 0)) true ((call 83 [.u8 a10]).bind fun v2 => (selW (v2) false (some (.b (ueq a10 62))) (.b true)).bind fun v3 => some (v3)) (.b false)).bind fun v4 => some (v4)) (.b true)).bind fun v5 => condM (v5)
  ((call 90 [.ag [.u8 a0, .u8 a1, .b a2, .u8 a3, .u8 a4, .u8 a5, .u8 a6, .b a7, .u8 a8, .s a9]]).bind fun v6 => (unop .not (v6)).bind fun v7 => condM (v7)
  (some (.ag [.u8 20, .u8 0, .b false, .u8 0, .u8 0, .u8 0, .u8 0, .b false, .u8 0, .s []]))
  (condM (.b (!(ueq a4 0)))
  ((call 86 [.ag [.u8 a0, .u8 a1, .b a2, .u8 a3, .u8 a4, .u8 a5, .u8 a6, .b a7, .u8 a8, .s a9], .u8 9]).bind fun v8 => (AV.asAg 10 (v8)).bind fun v9 => some (.ag [v9.getD 0 .un, v9.getD 1 .un, v9.getD 2 .un, v9.getD 3 .un, v9.getD 4 .un, v9.getD 5 .un, v9.getD 6 .un, v9.getD 7 .un, v9.getD 8 .un, v9.getD 9 .un]))
  (condM (.b (ueq a10 62))
  ((call 87 [.u8 a1]).bind fun v10 => (AV.asAg 10 (v10)).bind fun v11 => some (.ag [v11.getD 0 .un, v11.getD 1 .un, v11.getD 2 .un, v11.getD 3 .un, v11.getD 4 .un, v11.getD 5 .un, v11.getD 6 .un, v11.getD 7 .un, v11.getD 8 .un, v11.getD 9 .un]))
  ((call 86 [.ag [.u8 a0, .u8 a1, .b a2, .u8 a3, .u8 a4, .u8 a5, .u8 a6, .b a7, .u8 a8, .s a9], .u8 4]).bind fun v12 => (AV.asAg 10 (v12)).bind fun v13 => some (.ag [v13.getD 0 .un, v13.getD 1 .un, v13.getD 2 .un, v13.getD 3 .un, v13.getD 4 .un, v13.getD 5 .un, v13.getD 6 .un, v13.getD 7 .un, v13.getD 8 .un, v13.getD 9 .un])))))
  ((selW (.b (ueq a4 0)) true ((call 91 [.s [34, 39, 60, 61, 96], .u8 a10]).bind fun v14 => (binI .geq (v14) (.int 0)).bind fun v15 => some (v15)) (.b false)).bind fun v16 => condM (v16)
  (some (.ag [.u8 20, .u8 0, .b false, .u8 0, .u8 0, .u8 0, .u8 0, .b false, .u8 0, .s []]))
  (condM (.b (ueq a3 1))
  ((call 92 [.ag [.u8 a0, .u8 a1, .b a2, .u8 a3, .u8 a4, .u8 a5, .u8 a6, .b a7, .u8 a8, .s a9], .u8 a10]).bind fun v17 => (AV.asAg 10 (v17)).bind fun v18 => some (.ag [v18.getD 0 .un, v18.getD 1 .un, v18.getD 2 .un, v18.getD 3 .un, v18.getD 4 .un, v18.getD 5 .un, v18.getD 6 .un, v18.getD 7 .un, v18.getD 8 .un, v18.getD 9 .un]))
  ((selW (.b (ueq a3 2)) false (some (.b (ueq a3 3))) (.b true)).bind fun v19 => condM (v19)
  (condM (.b (ueq a10 38))
  (some (.ag [.u8 20, .u8 0, .b false, .u8 0, .u8 0, .u8 0, .u8 0, .b false, .u8 0, .s []]))
  ((call 93 [.ag [.u8 a0, .u8 a1, .b a2, .u8 a3, .u8 a4, .u8 a5, .u8 a6, .b a7, .u8 a8, .s a9], .u8 a10, .b (ueq a3 2)]).bind fun v20 => (AV.asAg 10 (v20)).bind fun v21 => some (.ag [v21.getD 0 .un, v21.getD 1 .un, v21.getD 2 .un, v21.getD 3 .un, v21.getD 4 .un, v21.getD 5 .un, v21.getD 6 .un, v21.getD 7 .un, v21.getD 8 .un, v21.getD 9 .un])))
  (some (.ag [.u8 a0, .u8 a1, .b a2, .u8 a3, .u8 a4, .u8 a5, .u8 a6, .b a7, .u8 a8, .s a9])))))
section
variable (call : CallT) (run : RunT) (a0 a1 : UInt8) (a2 : Bool) (a3 a4 a5 a6 : UInt8) (a7 : Bool) (a8 : UInt8) (a9 : List UInt8) (a10 : UInt8)
theorem text68 : unr C call run 68 Tryd.f68 400 [.code body68] (initF C 68 Tryd.f68.ntmps [.ag [.u8 a0, .u8 a1, .b a2, .u8 a3, .u8 a4, .u8 a5, .u8 a6, .b a7, .u8 a8, .s a9], .u8 a10]) = X68 call run a0 a1 a2 a3 a4 a5 a6 a7 a8 a9 a10 := by
  kernel_rfl
theorem c68 {r : AV} (h : X68 (semCall C Tryd.prog) (semRun C Tryd.prog 68 Tryd.f68) a0 a1 a2 a3 a4 a5 a6 a7 a8 a9 a10 = some r) : semCall C Tryd.prog 68 [.ag [.u8 a0, .u8 a1, .b a2, .u8 a3, .u8 a4, .u8 a5, .u8 a6, .b a7, .u8 a8, .s a9], .u8 a10] = some r :=
  semCall_unr (fn := Tryd.f68) (c := body68) (by kernel_rfl) (by kernel_rfl) 400 (by kernel_rfl) ((text68 _ _ a0 a1 a2 a3 a4 a5 a6 a7 a8 a9 a10).trans h)
end
end R4

namespace R4
open Go Go.Proofs Sx
noncomputable def body69 : Code := (Tryd.f69.body).getD .skip
section
variable (run : RunT) (a0 : UInt8) (a1 : Bool) (a2 a3 a4 a5 a6 a7 a8 a9 a10 a11 : AV) (a12 a13 : UInt8) (a14 : Bool) (a15 a16 a17 a18 : UInt8) (a19 : Bool) (a20 : UInt8) (a21 : List UInt8)
noncomputable def K69_17 : List Item := (kAt 17 body69 []).getD []
def S69_17 : St := St.ofL [(1, .cell (.val (.u8 a0))), (2, .cell (.val (.b a1))), (3, .cell (.ptr 3 0)), (6, .cell (.ptr 6 0))] [(3, some [.val (a2), .val (a3), .val (a4), .val (a5), .val (a6), .val (a7), .val (a8), .val (a9), .val (a10), .val (a11)]), (6, some [.val (.u8 a12), .val (.u8 a13), .val (.b a14), .val (.u8 a15), .val (.u8 a16), .val (.u8 a17), .val (.u8 a18), .val (.b a19), .val (.u8 a20), .val (.s a21)])]
noncomputable def F69_17 : Option AV := run K69_17 (S69_17 a0 a1 a2 a3 a4 a5 a6 a7 a8 a9 a10 a11 a12 a13 a14 a15 a16 a17 a18 a19 a20 a21)
end
section
variable (run : RunT) (a0 a1 a2 a3 a4 a5 a6 a7 a8 a9 : AV) (a10 a11 : UInt8) (a12 : Bool) (a13 a14 a15 a16 : UInt8) (a17 : Bool) (a18 : UInt8) (a19 : List UInt8)
noncomputable def K69_22 : List Item := (kAt 22 body69 []).getD []
def S69_22 : St := St.ofL [(3, .cell (.ptr 3 0)), (6, .cell (.ptr 6 0))] [(3, some [.val (a0), .val (a1), .val (a2), .val (a3), .val (a4), .val (a5), .val (a6), .val (a7), .val (a8), .val (a9)]), (6, some [.val (.u8 a10), .val (.u8 a11), .val (.b a12), .val (.u8 a13), .val (.u8 a14), .val (.u8 a15), .val (.u8 a16), .val (.b a17), .val (.u8 a18), .val (.s a19)])]
noncomputable def F69_22 : Option AV := run K69_22 (S69_22 a0 a1 a2 a3 a4 a5 a6 a7 a8 a9 a10 a11 a12 a13 a14 a15 a16 a17 a18 a19)
end
noncomputable def X69 (call : CallT) (run : RunT) (a0 a1 : UInt8) (a2 : Bool) (a3 a4 a5 a6 : UInt8) (a7 : Bool) (a8 : UInt8) (a9 : List UInt8) (a10 : UInt8) (a11 : Bool) : Option AV :=
  (call 80 [.u8 a1]).bind fun v1 => (selW (.b (ueq a0 18)) true (some (.b (ueq a10 47))) (.b false)).bind fun v2 => condM (v2)
  (some (.ag [.u8 19, .u8 a1, .b a2, .u8 a3, .u8 a4, .u8 a5, .u8 a6, .b a7, .u8 a8, .s a9]))
  ((selW (.b (ueq a0 18)) true (some (.b (ueq a10 33))) (.b false)).bind fun v3 => (selW (v3) true (some (.b (ueq a1 3))) (.b false)).bind fun v4 => condM (v4)
  (some (.ag [.u8 20, .u8 0, .b false, .u8 0, .u8 0, .u8 0, .u8 0, .b false, .u8 0, .s []]))
  ((selW (.b (ueq a0 19)) true ((binS .eql (.s a9) (v1)).bind fun v5 => some (v5)) (.b false)).bind fun v6 => (selW (v6) true ((call 83 [.u8 a10]).bind fun v7 => (selW (v7) false (some (.b (ueq a10 47))) (.b true)).bind fun v8 => (selW (v8) false (some (.b (ueq a10 62))) (.b true)).bind fun v9 => some (v9)) (.b false)).bind fun v10 => condM (v10)
  ((call 90 [.ag [.u8 a0, .u8 a1, .b a2, .u8 a3, .u8 a4, .u8 a5, .u8 a6, .b a7, .u8 a8, .s a9]]).bind fun v11 => (unop .not (v11)).bind fun v12 => condM (v12)
  (some (.ag [.u8 20, .u8 0, .b false, .u8 0, .u8 0, .u8 0, .u8 0, .b false, .u8 0, .s []]))
  ((call 67 [.ag [.u8 9, .u8 0, .b true, .u8 0, .u8 0, .u8 0, .u8 0, .b false, .u8 0, .s []], .u8 a10]).bind fun v13 => (tupI (v13) 0).bind fun v14 => (tupI (v13) 1).bind fun v15 => (AV.asAg 10 (v14)).bind fun v16 => some (.ag [v16.getD 0 .un, v16.getD 1 .un, v16.getD 2 .un, v16.getD 3 .un, v16.getD 4 .un, v16.getD 5 .un, v16.getD 6 .un, v16.getD 7 .un, v16.getD 8 .un, v16.getD 9 .un])))
  ((selW (.b (ueq a0 19)) true ((call 82 [.u8 a10]).bind fun v17 => (AV.one (v17)).bind fun v18 => (b2s (.ro 1 (([v18] : List AV)))).bind fun v19 => (binS .add (.s a9) (v19)).bind fun v20 => (call 79 [v1, v20]).bind fun v21 => some (v21)) (.b false)).bind fun v22 => condM (v22)
  ((call 82 [.u8 a10]).bind fun v23 => (AV.one (v23)).bind fun v24 => (b2s (.ro 1 (([v24] : List AV)))).bind fun v25 => (binS .add (.s a9) (v25)).bind fun v26 => (AV.one (v26)).bind fun v27 => some (.ag [.u8 a0, .u8 a1, .b a2, .u8 a3, .u8 a4, .u8 a5, .u8 a6, .b a7, .u8 a8, v27]))
  (condM (.b (ueq a0 19))
  ((binS .add (.s [47]) (.s a9)).bind fun v28 => (call 94 [.ag [.u8 a0, .u8 a1, .b a2, .u8 a3, .u8 a4, .u8 a5, .u8 a6, .b a7, .u8 a8, .s a9], v28, .b a11]).bind fun v29 => (AV.asAg 10 (v29)).bind fun v30 => F69_17 run a10 a11 (v30.getD 0 .un) (v30.getD 1 .un) (v30.getD 2 .un) (v30.getD 3 .un) (v30.getD 4 .un) (v30.getD 5 .un) (v30.getD 6 .un) (v30.getD 7 .un) (v30.getD 8 .un) (v30.getD 9 .un) 0 0 false 0 0 0 0 false 0 [])
  (F69_17 run a10 a11 (.u8 a0) (.u8 a1) (.b a2) (.u8 a3) (.u8 a4) (.u8 a5) (.u8 a6) (.b a7) (.u8 a8) (.s a9) 0 0 false 0 0 0 0 false 0 [])))))
section
variable (call : CallT) (run : RunT) (a0 a1 : UInt8) (a2 : Bool) (a3 a4 a5 a6 : UInt8) (a7 : Bool) (a8 : UInt8) (a9 : List UInt8) (a10 : UInt8) (a11 : Bool)
theorem text69 : unr C call run 69 Tryd.f69 400 [.code body69] (initF C 69 Tryd.f69.ntmps [.ag [.u8 a0, .u8 a1, .b a2, .u8 a3, .u8 a4, .u8 a5, .u8 a6, .b a7, .u8 a8, .s a9], .u8 a10, .b a11]) = X69 call run a0 a1 a2 a3 a4 a5 a6 a7 a8 a9 a10 a11 := by
  kernel_rfl
theorem c69 {r : AV} (h : X69 (semCall C Tryd.prog) (semRun C Tryd.prog 69 Tryd.f69) a0 a1 a2 a3 a4 a5 a6 a7 a8 a9 a10 a11 = some r) : semCall C Tryd.prog 69 [.ag [.u8 a0, .u8 a1, .b a2, .u8 a3, .u8 a4, .u8 a5, .u8 a6, .b a7, .u8 a8, .s a9], .u8 a10, .b a11] = some r :=
  semCall_unr (fn := Tryd.f69) (c := body69) (by kernel_rfl) (by kernel_rfl) 400 (by kernel_rfl) ((text69 _ _ a0 a1 a2 a3 a4 a5 a6 a7 a8 a9 a10 a11).trans h)
end
noncomputable def X69_17 (call : CallT) (run : RunT) (a0 : UInt8) (a1 : Bool) (a2 a3 a4 a5 a6 a7 a8 a9 a10 a11 : AV) (a12 a13 : UInt8) (a14 : Bool) (a15 a16 a17 a18 : UInt8) (a19 : Bool) (a20 : UInt8) (a21 : List UInt8) : Option AV :=
  (binI .eql (a2) (.u8 20)).bind fun v1 => condM (v1)
  (some (.ag [.u8 20, .u8 0, .b false, .u8 0, .u8 0, .u8 0, .u8 0, .b false, .u8 0, .s []]))
  ((b2s (.ro 1 (([.u8 a0] : List AV)))).bind fun v2 => (call 94 [.ag [a2, a3, a4, a5, a6, a7, a8, a9, a10, a11], v2, .b a1]).bind fun v3 => (AV.asAg 10 (v3)).bind fun v4 => (binI .eql (v4.getD 0 .un) (.u8 17)).bind fun v5 => (selW (v5) true (some (.b (ueq a0 60))) (.b false)).bind fun v6 => condM (v6)
  (F69_22 run (.u8 18) (v4.getD 1 .un) (v4.getD 2 .un) (v4.getD 3 .un) (v4.getD 4 .un) (v4.getD 5 .un) (v4.getD 6 .un) (v4.getD 7 .un) (v4.getD 8 .un) (v4.getD 9 .un) a12 a13 a14 a15 a16 a17 a18 a19 a20 a21)
  (F69_22 run (v4.getD 0 .un) (v4.getD 1 .un) (v4.getD 2 .un) (v4.getD 3 .un) (v4.getD 4 .un) (v4.getD 5 .un) (v4.getD 6 .un) (v4.getD 7 .un) (v4.getD 8 .un) (v4.getD 9 .un) a12 a13 a14 a15 a16 a17 a18 a19 a20 a21))
section
variable (call : CallT) (run : RunT) (a0 : UInt8) (a1 : Bool) (a2 a3 a4 a5 a6 a7 a8 a9 a10 a11 : AV) (a12 a13 : UInt8) (a14 : Bool) (a15 a16 a17 a18 : UInt8) (a19 : Bool) (a20 : UInt8) (a21 : List UInt8)
theorem text69_17 : step C call 69 Tryd.f69 (unr C call run 69 Tryd.f69 400) K69_17 (S69_17 a0 a1 a2 a3 a4 a5 a6 a7 a8 a9 a10 a11 a12 a13 a14 a15 a16 a17 a18 a19 a20 a21) = X69_17 call run a0 a1 a2 a3 a4 a5 a6 a7 a8 a9 a10 a11 a12 a13 a14 a15 a16 a17 a18 a19 a20 a21 := by
  kernel_rfl
end
noncomputable def X69_22 (call : CallT) (run : RunT) (a0 a1 a2 a3 a4 a5 a6 a7 a8 a9 : AV) (a10 a11 : UInt8) (a12 : Bool) (a13 a14 a15 a16 : UInt8) (a17 : Bool) (a18 : UInt8) (a19 : List UInt8) : Option AV :=
  some (.ag [a0, a1, a2, a3, a4, a5, a6, a7, a8, a9])
section
variable (call : CallT) (run : RunT) (a0 a1 a2 a3 a4 a5 a6 a7 a8 a9 : AV) (a10 a11 : UInt8) (a12 : Bool) (a13 a14 a15 a16 : UInt8) (a17 : Bool) (a18 : UInt8) (a19 : List UInt8)
theorem text69_22 : step C call 69 Tryd.f69 (unr C call run 69 Tryd.f69 400) K69_22 (S69_22 a0 a1 a2 a3 a4 a5 a6 a7 a8 a9 a10 a11 a12 a13 a14 a15 a16 a17 a18 a19) = X69_22 call run a0 a1 a2 a3 a4 a5 a6 a7 a8 a9 a10 a11 a12 a13 a14 a15 a16 a17 a18 a19 := by
  kernel_rfl
end
section
variable (a0 : UInt8) (a1 : Bool) (a2 a3 a4 a5 a6 a7 a8 a9 a10 a11 : AV) (a12 a13 : UInt8) (a14 : Bool) (a15 a16 a17 a18 : UInt8) (a19 : Bool) (a20 : UInt8) (a21 : List UInt8)
theorem r69_17 {r : AV} (h : X69_17 (semCall C Tryd.prog) (semRun C Tryd.prog 69 Tryd.f69) a0 a1 a2 a3 a4 a5 a6 a7 a8 a9 a10 a11 a12 a13 a14 a15 a16 a17 a18 a19 a20 a21 = some r) : F69_17 (semRun C Tryd.prog 69 Tryd.f69) a0 a1 a2 a3 a4 a5 a6 a7 a8 a9 a10 a11 a12 a13 a14 a15 a16 a17 a18 a19 a20 a21 = some r :=
  semRun_unr 400 ((text69_17 _ _ a0 a1 a2 a3 a4 a5 a6 a7 a8 a9 a10 a11 a12 a13 a14 a15 a16 a17 a18 a19 a20 a21).trans h)
end
section
variable (a0 a1 a2 a3 a4 a5 a6 a7 a8 a9 : AV) (a10 a11 : UInt8) (a12 : Bool) (a13 a14 a15 a16 : UInt8) (a17 : Bool) (a18 : UInt8) (a19 : List UInt8)
theorem r69_22 {r : AV} (h : X69_22 (semCall C Tryd.prog) (semRun C Tryd.prog 69 Tryd.f69) a0 a1 a2 a3 a4 a5 a6 a7 a8 a9 a10 a11 a12 a13 a14 a15 a16 a17 a18 a19 = some r) : F69_22 (semRun C Tryd.prog 69 Tryd.f69) a0 a1 a2 a3 a4 a5 a6 a7 a8 a9 a10 a11 a12 a13 a14 a15 a16 a17 a18 a19 = some r :=
  semRun_unr 400 ((text69_22 _ _ a0 a1 a2 a3 a4 a5 a6 a7 a8 a9 a10 a11 a12 a13 a14 a15 a16 a17 a18 a19).trans h)
end
end R4

namespace R4
open Go Go.Proofs Sx
noncomputable def body70 : Code := (Tryd.f70.body).getD .skip
section
variable (run : RunT) (a0 a1 a2 : UInt8) (a3 : Bool) (a4 a5 a6 a7 : UInt8) (a8 : Bool) (a9 : UInt8) (a10 : List UInt8) (a11 a12 : UInt8) (a13 : Bool) (a14 a15 a16 a17 : UInt8) (a18 : Bool) (a19 : UInt8) (a20 : List UInt8)
noncomputable def K70_4 : List Item := (kAt 4 body70 []).getD []
def S70_4 : St := St.ofL [(1, .cell (.val (.u8 a0))), (2, .cell (.ptr 2 0)), (4, .cell (.ptr 4 0))] [(2, some [.val (.u8 a1), .val (.u8 a2), .val (.b a3), .val (.u8 a4), .val (.u8 a5), .val (.u8 a6), .val (.u8 a7), .val (.b a8), .val (.u8 a9), .val (.s a10)]), (4, some [.val (.u8 a11), .val (.u8 a12), .val (.b a13), .val (.u8 a14), .val (.u8 a15), .val (.u8 a16), .val (.u8 a17), .val (.b a18), .val (.u8 a19), .val (.s a20)])]
noncomputable def F70_4 : Option AV := run K70_4 (S70_4 a0 a1 a2 a3 a4 a5 a6 a7 a8 a9 a10 a11 a12 a13 a14 a15 a16 a17 a18 a19 a20)
end
section
variable (run : RunT) (a0 a1 a2 a3 : UInt8) (a4 : Bool) (a5 a6 a7 a8 : UInt8) (a9 : Bool) (a10 : UInt8) (a11 : List UInt8) (a12 a13 : UInt8) (a14 : Bool) (a15 a16 a17 a18 : UInt8) (a19 : Bool) (a20 : UInt8) (a21 : List UInt8)
noncomputable def K70_11 : List Item := (kAt 11 body70 []).getD []
def S70_11 : St := St.ofL [(1, .cell (.val (.u8 a0))), (2, .cell (.ptr 2 0)), (4, .cell (.ptr 4 0)), (6, .cell (.val (.u8 a1)))] [(2, some [.val (.u8 a2), .val (.u8 a3), .val (.b a4), .val (.u8 a5), .val (.u8 a6), .val (.u8 a7), .val (.u8 a8), .val (.b a9), .val (.u8 a10), .val (.s a11)]), (4, some [.val (.u8 a12), .val (.u8 a13), .val (.b a14), .val (.u8 a15), .val (.u8 a16), .val (.u8 a17), .val (.u8 a18), .val (.b a19), .val (.u8 a20), .val (.s a21)])]
noncomputable def F70_11 : Option AV := run K70_11 (S70_11 a0 a1 a2 a3 a4 a5 a6 a7 a8 a9 a10 a11 a12 a13 a14 a15 a16 a17 a18 a19 a20 a21)
end
section
variable (run : RunT) (a0 a1 a2 : UInt8) (a3 : Bool) (a4 a5 a6 a7 : UInt8) (a8 : Bool) (a9 : UInt8) (a10 : List UInt8) (a11 a12 : UInt8) (a13 : Bool) (a14 a15 a16 a17 : UInt8) (a18 : Bool) (a19 : UInt8) (a20 : List UInt8)
noncomputable def K70_13 : List Item := (kAt 13 body70 []).getD []
def S70_13 : St := St.ofL [(1, .cell (.val (.u8 a0))), (2, .cell (.ptr 2 0)), (4, .cell (.ptr 4 0))] [(2, some [.val (.u8 a1), .val (.u8 a2), .val (.b a3), .val (.u8 a4), .val (.u8 a5), .val (.u8 a6), .val (.u8 a7), .val (.b a8), .val (.u8 a9), .val (.s a10)]), (4, some [.val (.u8 a11), .val (.u8 a12), .val (.b a13), .val (.u8 a14), .val (.u8 a15), .val (.u8 a16), .val (.u8 a17), .val (.b a18), .val (.u8 a19), .val (.s a20)])]
noncomputable def F70_13 : Option AV := run K70_13 (S70_13 a0 a1 a2 a3 a4 a5 a6 a7 a8 a9 a10 a11 a12 a13 a14 a15 a16 a17 a18 a19 a20)
end
section
variable (run : RunT) (a0 a1 a2 a3 : UInt8) (a4 : Bool) (a5 a6 a7 a8 : UInt8) (a9 : Bool) (a10 : UInt8) (a11 : List UInt8) (a12 a13 : UInt8) (a14 : Bool) (a15 a16 a17 a18 : UInt8) (a19 : Bool) (a20 : UInt8) (a21 : List UInt8)
noncomputable def K70_20 : List Item := (kAt 20 body70 []).getD []
def S70_20 : St := St.ofL [(1, .cell (.val (.u8 a0))), (2, .cell (.ptr 2 0)), (4, .cell (.ptr 4 0)), (6, .cell (.val (.u8 a1)))] [(2, some [.val (.u8 a2), .val (.u8 a3), .val (.b a4), .val (.u8 a5), .val (.u8 a6), .val (.u8 a7), .val (.u8 a8), .val (.b a9), .val (.u8 a10), .val (.s a11)]), (4, some [.val (.u8 a12), .val (.u8 a13), .val (.b a14), .val (.u8 a15), .val (.u8 a16), .val (.u8 a17), .val (.u8 a18), .val (.b a19), .val (.u8 a20), .val (.s a21)])]
noncomputable def F70_20 : Option AV := run K70_20 (S70_20 a0 a1 a2 a3 a4 a5 a6 a7 a8 a9 a10 a11 a12 a13 a14 a15 a16 a17 a18 a19 a20 a21)
end
section
variable (run : RunT) (a0 a1 : UInt8) (a2 : Bool) (a3 a4 a5 a6 : UInt8) (a7 : Bool) (a8 : UInt8) (a9 : List UInt8) (a10 a11 : UInt8) (a12 : Bool) (a13 a14 a15 a16 : UInt8) (a17 : Bool) (a18 : UInt8) (a19 : List UInt8)
noncomputable def K70_31 : List Item := (kAt 31 body70 []).getD []
def S70_31 : St := St.ofL [(2, .cell (.ptr 2 0)), (4, .cell (.ptr 4 0))] [(2, some [.val (.u8 a0), .val (.u8 a1), .val (.b a2), .val (.u8 a3), .val (.u8 a4), .val (.u8 a5), .val (.u8 a6), .val (.b a7), .val (.u8 a8), .val (.s a9)]), (4, some [.val (.u8 a10), .val (.u8 a11), .val (.b a12), .val (.u8 a13), .val (.u8 a14), .val (.u8 a15), .val (.u8 a16), .val (.b a17), .val (.u8 a18), .val (.s a19)])]
noncomputable def F70_31 : Option AV := run K70_31 (S70_31 a0 a1 a2 a3 a4 a5 a6 a7 a8 a9 a10 a11 a12 a13 a14 a15 a16 a17 a18 a19)
end
noncomputable def X70 (call : CallT) (run : RunT) (a0 a1 : UInt8) (a2 : Bool) (a3 a4 a5 a6 : UInt8) (a7 : Bool) (a8 : UInt8) (a9 : List UInt8) (a10 : UInt8) : Option AV :=
  condM (.b (ueq a0 11))
  (F70_4 run a10 a0 a1 a2 a3 a4 a5 a6 a7 a8 a9 0 0 false 0 0 0 0 false 0 [])
  (condM (.b (ueq a0 12))
  (F70_4 run a10 a0 a1 a2 a3 a4 a5 a6 a7 a8 a9 0 0 false 0 0 0 0 false 0 [])
  (F70_11 run a10 a0 a0 a1 a2 a3 a4 a5 a6 a7 a8 a9 0 0 false 0 0 0 0 false 0 []))
section
variable (call : CallT) (run : RunT) (a0 a1 : UInt8) (a2 : Bool) (a3 a4 a5 a6 : UInt8) (a7 : Bool) (a8 : UInt8) (a9 : List UInt8) (a10 : UInt8)
theorem text70 : unr C call run 70 Tryd.f70 400 [.code body70] (initF C 70 Tryd.f70.ntmps [.ag [.u8 a0, .u8 a1, .b a2, .u8 a3, .u8 a4, .u8 a5, .u8 a6, .b a7, .u8 a8, .s a9], .u8 a10]) = X70 call run a0 a1 a2 a3 a4 a5 a6 a7 a8 a9 a10 := by
  kernel_rfl
theorem c70 {r : AV} (h : X70 (semCall C Tryd.prog) (semRun C Tryd.prog 70 Tryd.f70) a0 a1 a2 a3 a4 a5 a6 a7 a8 a9 a10 = some r) : semCall C Tryd.prog 70 [.ag [.u8 a0, .u8 a1, .b a2, .u8 a3, .u8 a4, .u8 a5, .u8 a6, .b a7, .u8 a8, .s a9], .u8 a10] = some r :=
  semCall_unr (fn := Tryd.f70) (c := body70) (by kernel_rfl) (by kernel_rfl) 400 (by kernel_rfl) ((text70 _ _ a0 a1 a2 a3 a4 a5 a6 a7 a8 a9 a10).trans h)
end
noncomputable def X70_4 (call : CallT) (run : RunT) (a0 a1 a2 : UInt8) (a3 : Bool) (a4 a5 a6 a7 : UInt8) (a8 : Bool) (a9 : UInt8) (a10 : List UInt8) (a11 a12 : UInt8) (a13 : Bool) (a14 a15 a16 a17 : UInt8) (a18 : Bool) (a19 : UInt8) (a20 : List UInt8) : Option AV :=
  condM (.b (ueq a0 62))
  (some (.ag [.u8 0, .u8 0, .b false, .u8 0, .u8 0, .u8 0, .u8 0, .b false, .u8 0, .s []]))
  ((selW (.b (ueq a0 45)) true (some (.b (ueq a1 11))) (.b false)).bind fun v1 => condM (v1)
  (some (.ag [.u8 12, .u8 0, .b false, .u8 0, .u8 0, .u8 0, .u8 0, .b false, .u8 0, .s []]))
  (condM (.b (ueq a0 45))
  (some (.ag [.u8 13, .u8 0, .b false, .u8 0, .u8 0, .u8 0, .u8 0, .b false, .u8 0, .s []]))
  (some (.ag [.u8 16, .u8 0, .b false, .u8 0, .u8 0, .u8 0, .u8 0, .b false, .u8 0, .s []]))))
section
variable (call : CallT) (run : RunT) (a0 a1 a2 : UInt8) (a3 : Bool) (a4 a5 a6 a7 : UInt8) (a8 : Bool) (a9 : UInt8) (a10 : List UInt8) (a11 a12 : UInt8) (a13 : Bool) (a14 a15 a16 a17 : UInt8) (a18 : Bool) (a19 : UInt8) (a20 : List UInt8)
theorem text70_4 : step C call 70 Tryd.f70 (unr C call run 70 Tryd.f70 400) K70_4 (S70_4 a0 a1 a2 a3 a4 a5 a6 a7 a8 a9 a10 a11 a12 a13 a14 a15 a16 a17 a18 a19 a20) = X70_4 call run a0 a1 a2 a3 a4 a5 a6 a7 a8 a9 a10 a11 a12 a13 a14 a15 a16 a17 a18 a19 a20 := by
  kernel_rfl
end
noncomputable def X70_11 (call : CallT) (run : RunT) (a0 a1 a2 a3 : UInt8) (a4 : Bool) (a5 a6 a7 a8 : UInt8) (a9 : Bool) (a10 : UInt8) (a11 : List UInt8) (a12 a13 : UInt8) (a14 : Bool) (a15 a16 a17 a18 : UInt8) (a19 : Bool) (a20 : UInt8) (a21 : List UInt8) : Option AV :=
  condM (.b (ueq a1 13))
  (F70_13 run a0 a2 a3 a4 a5 a6 a7 a8 a9 a10 a11 a12 a13 a14 a15 a16 a17 a18 a19 a20 a21)
  (condM (.b (ueq a1 14))
  (F70_13 run a0 a2 a3 a4 a5 a6 a7 a8 a9 a10 a11 a12 a13 a14 a15 a16 a17 a18 a19 a20 a21)
  (F70_20 run a0 a1 a2 a3 a4 a5 a6 a7 a8 a9 a10 a11 a12 a13 a14 a15 a16 a17 a18 a19 a20 a21))
section
variable (call : CallT) (run : RunT) (a0 a1 a2 a3 : UInt8) (a4 : Bool) (a5 a6 a7 a8 : UInt8) (a9 : Bool) (a10 : UInt8) (a11 : List UInt8) (a12 a13 : UInt8) (a14 : Bool) (a15 a16 a17 a18 : UInt8) (a19 : Bool) (a20 : UInt8) (a21 : List UInt8)
theorem text70_11 : step C call 70 Tryd.f70 (unr C call run 70 Tryd.f70 400) K70_11 (S70_11 a0 a1 a2 a3 a4 a5 a6 a7 a8 a9 a10 a11 a12 a13 a14 a15 a16 a17 a18 a19 a20 a21) = X70_11 call run a0 a1 a2 a3 a4 a5 a6 a7 a8 a9 a10 a11 a12 a13 a14 a15 a16 a17 a18 a19 a20 a21 := by
  kernel_rfl
end
noncomputable def X70_13 (call : CallT) (run : RunT) (a0 a1 a2 : UInt8) (a3 : Bool) (a4 a5 a6 a7 : UInt8) (a8 : Bool) (a9 : UInt8) (a10 : List UInt8) (a11 a12 : UInt8) (a13 : Bool) (a14 a15 a16 a17 : UInt8) (a18 : Bool) (a19 : UInt8) (a20 : List UInt8) : Option AV :=
  condM (.b (ueq a0 62))
  (some (.ag [.u8 20, .u8 0, .b false, .u8 0, .u8 0, .u8 0, .u8 0, .b false, .u8 0, .s []]))
  ((selW (.b (ueq a0 45)) true (some (.b (ueq a1 13))) (.b false)).bind fun v1 => condM (v1)
  (some (.ag [.u8 14, .u8 0, .b false, .u8 0, .u8 0, .u8 0, .u8 0, .b false, .u8 0, .s []]))
  (condM (.b (ueq a0 45))
  (some (.ag [.u8 15, .u8 0, .b false, .u8 0, .u8 0, .u8 0, .u8 0, .b false, .u8 2, .s []]))
  (some (.ag [.u8 15, .u8 0, .b false, .u8 0, .u8 0, .u8 0, .u8 0, .b false, .u8 0, .s []]))))
section
variable (call : CallT) (run : RunT) (a0 a1 a2 : UInt8) (a3 : Bool) (a4 a5 a6 a7 : UInt8) (a8 : Bool) (a9 : UInt8) (a10 : List UInt8) (a11 a12 : UInt8) (a13 : Bool) (a14 a15 a16 a17 : UInt8) (a18 : Bool) (a19 : UInt8) (a20 : List UInt8)
theorem text70_13 : step C call 70 Tryd.f70 (unr C call run 70 Tryd.f70 400) K70_13 (S70_13 a0 a1 a2 a3 a4 a5 a6 a7 a8 a9 a10 a11 a12 a13 a14 a15 a16 a17 a18 a19 a20) = X70_13 call run a0 a1 a2 a3 a4 a5 a6 a7 a8 a9 a10 a11 a12 a13 a14 a15 a16 a17 a18 a19 a20 := by
  kernel_rfl
end
noncomputable def X70_20 (call : CallT) (run : RunT) (a0 a1 a2 a3 : UInt8) (a4 : Bool) (a5 a6 a7 a8 : UInt8) (a9 : Bool) (a10 : UInt8) (a11 : List UInt8) (a12 a13 : UInt8) (a14 : Bool) (a15 a16 a17 a18 : UInt8) (a19 : Bool) (a20 : UInt8) (a21 : List UInt8) : Option AV :=
  condM (.b (ueq a1 15))
  ((selW (.b (ueq a0 62)) true (some (.b (ueq a10 2))) (.b false)).bind fun v1 => condM (v1)
  (some (.ag [.u8 0, .u8 0, .b false, .u8 0, .u8 0, .u8 0, .u8 0, .b false, .u8 0, .s []]))
  ((selW (.b (ueq a0 33)) true (some (.b (ueq a10 2))) (.b false)).bind fun v2 => condM (v2)
  (some (.ag [.u8 20, .u8 0, .b false, .u8 0, .u8 0, .u8 0, .u8 0, .b false, .u8 0, .s []]))
  (condM (.b (ueq a0 45))
  ((binI .add (.u8 a10) (.u8 1)).bind fun v3 => (mm true (v3) (.u8 2)).bind fun v4 => (AV.one (v4)).bind fun v5 => some (.ag [.u8 15, .u8 0, .b false, .u8 0, .u8 0, .u8 0, .u8 0, .b false, v5, .s []]))
  (some (.ag [.u8 15, .u8 0, .b false, .u8 0, .u8 0, .u8 0, .u8 0, .b false, .u8 0, .s []])))))
  (condM (.b (ueq a1 16))
  (condM (.b (ueq a0 62))
  (some (.ag [.u8 0, .u8 0, .b false, .u8 0, .u8 0, .u8 0, .u8 0, .b false, .u8 0, .s []]))
  (F70_31 run a2 a3 a4 a5 a6 a7 a8 a9 a10 a11 a12 a13 a14 a15 a16 a17 a18 a19 a20 a21))
  (F70_31 run a2 a3 a4 a5 a6 a7 a8 a9 a10 a11 a12 a13 a14 a15 a16 a17 a18 a19 a20 a21))
section
variable (call : CallT) (run : RunT) (a0 a1 a2 a3 : UInt8) (a4 : Bool) (a5 a6 a7 a8 : UInt8) (a9 : Bool) (a10 : UInt8) (a11 : List UInt8) (a12 a13 : UInt8) (a14 : Bool) (a15 a16 a17 a18 : UInt8) (a19 : Bool) (a20 : UInt8) (a21 : List UInt8)
theorem text70_20 : step C call 70 Tryd.f70 (unr C call run 70 Tryd.f70 400) K70_20 (S70_20 a0 a1 a2 a3 a4 a5 a6 a7 a8 a9 a10 a11 a12 a13 a14 a15 a16 a17 a18 a19 a20 a21) = X70_20 call run a0 a1 a2 a3 a4 a5 a6 a7 a8 a9 a10 a11 a12 a13 a14 a15 a16 a17 a18 a19 a20 a21 := by
  kernel_rfl
end
noncomputable def X70_31 (call : CallT) (run : RunT) (a0 a1 : UInt8) (a2 : Bool) (a3 a4 a5 a6 : UInt8) (a7 : Bool) (a8 : UInt8) (a9 : List UInt8) (a10 a11 : UInt8) (a12 : Bool) (a13 a14 a15 a16 : UInt8) (a17 : Bool) (a18 : UInt8) (a19 : List UInt8) : Option AV :=
  some (.ag [.u8 a0, .u8 a1, .b a2, .u8 a3, .u8 a4, .u8 a5, .u8 a6, .b a7, .u8 a8, .s a9])
section
variable (call : CallT) (run : RunT) (a0 a1 : UInt8) (a2 : Bool) (a3 a4 a5 a6 : UInt8) (a7 : Bool) (a8 : UInt8) (a9 : List UInt8) (a10 a11 : UInt8) (a12 : Bool) (a13 a14 a15 a16 : UInt8) (a17 : Bool) (a18 : UInt8) (a19 : List UInt8)
theorem text70_31 : step C call 70 Tryd.f70 (unr C call run 70 Tryd.f70 400) K70_31 (S70_31 a0 a1 a2 a3 a4 a5 a6 a7 a8 a9 a10 a11 a12 a13 a14 a15 a16 a17 a18 a19) = X70_31 call run a0 a1 a2 a3 a4 a5 a6 a7 a8 a9 a10 a11 a12 a13 a14 a15 a16 a17 a18 a19 := by
  kernel_rfl
end
section
variable (a0 a1 a2 : UInt8) (a3 : Bool) (a4 a5 a6 a7 : UInt8) (a8 : Bool) (a9 : UInt8) (a10 : List UInt8) (a11 a12 : UInt8) (a13 : Bool) (a14 a15 a16 a17 : UInt8) (a18 : Bool) (a19 : UInt8) (a20 : List UInt8)
theorem r70_4 {r : AV} (h : X70_4 (semCall C Tryd.prog) (semRun C Tryd.prog 70 Tryd.f70) a0 a1 a2 a3 a4 a5 a6 a7 a8 a9 a10 a11 a12 a13 a14 a15 a16 a17 a18 a19 a20 = some r) : F70_4 (semRun C Tryd.prog 70 Tryd.f70) a0 a1 a2 a3 a4 a5 a6 a7 a8 a9 a10 a11 a12 a13 a14 a15 a16 a17 a18 a19 a20 = some r :=
  semRun_unr 400 ((text70_4 _ _ a0 a1 a2 a3 a4 a5 a6 a7 a8 a9 a10 a11 a12 a13 a14 a15 a16 a17 a18 a19 a20).trans h)
end
section
variable (a0 a1 a2 a3 : UInt8) (a4 : Bool) (a5 a6 a7 a8 : UInt8) (a9 : Bool) (a10 : UInt8) (a11 : List UInt8) (a12 a13 : UInt8) (a14 : Bool) (a15 a16 a17 a18 : UInt8) (a19 : Bool) (a20 : UInt8) (a21 : List UInt8)
theorem r70_11 {r : AV} (h : X70_11 (semCall C Tryd.prog) (semRun C Tryd.prog 70 Tryd.f70) a0 a1 a2 a3 a4 a5 a6 a7 a8 a9 a10 a11 a12 a13 a14 a15 a16 a17 a18 a19 a20 a21 = some r) : F70_11 (semRun C Tryd.prog 70 Tryd.f70) a0 a1 a2 a3 a4 a5 a6 a7 a8 a9 a10 a11 a12 a13 a14 a15 a16 a17 a18 a19 a20 a21 = some r :=
  semRun_unr 400 ((text70_11 _ _ a0 a1 a2 a3 a4 a5 a6 a7 a8 a9 a10 a11 a12 a13 a14 a15 a16 a17 a18 a19 a20 a21).trans h)
end
section
variable (a0 a1 a2 : UInt8) (a3 : Bool) (a4 a5 a6 a7 : UInt8) (a8 : Bool) (a9 : UInt8) (a10 : List UInt8) (a11 a12 : UInt8) (a13 : Bool) (a14 a15 a16 a17 : UInt8) (a18 : Bool) (a19 : UInt8) (a20 : List UInt8)
theorem r70_13 {r : AV} (h : X70_13 (semCall C Tryd.prog) (semRun C Tryd.prog 70 Tryd.f70) a0 a1 a2 a3 a4 a5 a6 a7 a8 a9 a10 a11 a12 a13 a14 a15 a16 a17 a18 a19 a20 = some r) : F70_13 (semRun C Tryd.prog 70 Tryd.f70) a0 a1 a2 a3 a4 a5 a6 a7 a8 a9 a10 a11 a12 a13 a14 a15 a16 a17 a18 a19 a20 = some r :=
  semRun_unr 400 ((text70_13 _ _ a0 a1 a2 a3 a4 a5 a6 a7 a8 a9 a10 a11 a12 a13 a14 a15 a16 a17 a18 a19 a20).trans h)
end
section
variable (a0 a1 a2 a3 : UInt8) (a4 : Bool) (a5 a6 a7 a8 : UInt8) (a9 : Bool) (a10 : UInt8) (a11 : List UInt8) (a12 a13 : UInt8) (a14 : Bool) (a15 a16 a17 a18 : UInt8) (a19 : Bool) (a20 : UInt8) (a21 : List UInt8)
theorem r70_20 {r : AV} (h : X70_20 (semCall C Tryd.prog) (semRun C Tryd.prog 70 Tryd.f70) a0 a1 a2 a3 a4 a5 a6 a7 a8 a9 a10 a11 a12 a13 a14 a15 a16 a17 a18 a19 a20 a21 = some r) : F70_20 (semRun C Tryd.prog 70 Tryd.f70) a0 a1 a2 a3 a4 a5 a6 a7 a8 a9 a10 a11 a12 a13 a14 a15 a16 a17 a18 a19 a20 a21 = some r :=
  semRun_unr 400 ((text70_20 _ _ a0 a1 a2 a3 a4 a5 a6 a7 a8 a9 a10 a11 a12 a13 a14 a15 a16 a17 a18 a19 a20 a21).trans h)
end
section
variable (a0 a1 : UInt8) (a2 : Bool) (a3 a4 a5 a6 : UInt8) (a7 : Bool) (a8 : UInt8) (a9 : List UInt8) (a10 a11 : UInt8) (a12 : Bool) (a13 a14 a15 a16 : UInt8) (a17 : Bool) (a18 : UInt8) (a19 : List UInt8)
theorem r70_31 {r : AV} (h : X70_31 (semCall C Tryd.prog) (semRun C Tryd.prog 70 Tryd.f70) a0 a1 a2 a3 a4 a5 a6 a7 a8 a9 a10 a11 a12 a13 a14 a15 a16 a17 a18 a19 = some r) : F70_31 (semRun C Tryd.prog 70 Tryd.f70) a0 a1 a2 a3 a4 a5 a6 a7 a8 a9 a10 a11 a12 a13 a14 a15 a16 a17 a18 a19 = some r :=
  semRun_unr 400 ((text70_31 _ _ a0 a1 a2 a3 a4 a5 a6 a7 a8 a9 a10 a11 a12 a13 a14 a15 a16 a17 a18 a19).trans h)
end
end R4

namespace R4
open Go Go.Proofs Sx
noncomputable def body81 : Code := (Tryd.f81.body).getD .skip
noncomputable def X81 (call : CallT) (run : RunT) (a0 : UInt8) : Option AV :=
  (selW (.b (uge a0 97)) true (some (.b (ule a0 122))) (.b false)).bind fun v1 => (selW (v1) false ((selW (.b (uge a0 65)) true (some (.b (ule a0 90))) (.b false)).bind fun v2 => some (v2)) (.b true)).bind fun v3 => some (v3)
section
variable (call : CallT) (run : RunT) (a0 : UInt8)
theorem text81 : unr C call run 81 Tryd.f81 400 [.code body81] (initF C 81 Tryd.f81.ntmps [.u8 a0]) = X81 call run a0 := by
  kernel_rfl
theorem c81 {r : AV} (h : X81 (semCall C Tryd.prog) (semRun C Tryd.prog 81 Tryd.f81) a0 = some r) : semCall C Tryd.prog 81 [.u8 a0] = some r :=
  semCall_unr (fn := Tryd.f81) (c := body81) (by kernel_rfl) (by kernel_rfl) 400 (by kernel_rfl) ((text81 _ _ a0).trans h)
end
end R4

namespace R4
open Go Go.Proofs Sx
noncomputable def body82 : Code := (Tryd.f82.body).getD .skip
noncomputable def X82 (call : CallT) (run : RunT) (a0 : UInt8) : Option AV :=
  (selW (.b (uge a0 65)) true (some (.b (ule a0 90))) (.b false)).bind fun v1 => condM (v1)
  ((binI .add (.u8 a0) (.u8 97)).bind fun v2 => (binI .sub (v2) (.u8 65)).bind fun v3 => some (v3))
  (some (.u8 a0))
section
variable (call : CallT) (run : RunT) (a0 : UInt8)
theorem text82 : unr C call run 82 Tryd.f82 400 [.code body82] (initF C 82 Tryd.f82.ntmps [.u8 a0]) = X82 call run a0 := by
  kernel_rfl
theorem c82 {r : AV} (h : X82 (semCall C Tryd.prog) (semRun C Tryd.prog 82 Tryd.f82) a0 = some r) : semCall C Tryd.prog 82 [.u8 a0] = some r :=
  semCall_unr (fn := Tryd.f82) (c := body82) (by kernel_rfl) (by kernel_rfl) 400 (by kernel_rfl) ((text82 _ _ a0).trans h)
end
end R4

namespace R4
open Go Go.Proofs Sx
noncomputable def body83 : Code := (Tryd.f83.body).getD .skip
noncomputable def X83 (call : CallT) (run : RunT) (a0 : UInt8) : Option AV :=
  (selW (.b (ueq a0 32)) false (some (.b (ueq a0 9))) (.b true)).bind fun v1 => (selW (v1) false (some (.b (ueq a0 10))) (.b true)).bind fun v2 => (selW (v2) false (some (.b (ueq a0 12))) (.b true)).bind fun v3 => (selW (v3) false (some (.b (ueq a0 13))) (.b true)).bind fun v4 => some (v4)
section
variable (call : CallT) (run : RunT) (a0 : UInt8)
theorem text83 : unr C call run 83 Tryd.f83 400 [.code body83] (initF C 83 Tryd.f83.ntmps [.u8 a0]) = X83 call run a0 := by
  kernel_rfl
theorem c83 {r : AV} (h : X83 (semCall C Tryd.prog) (semRun C Tryd.prog 83 Tryd.f83) a0 = some r) : semCall C Tryd.prog 83 [.u8 a0] = some r :=
  semCall_unr (fn := Tryd.f83) (c := body83) (by kernel_rfl) (by kernel_rfl) 400 (by kernel_rfl) ((text83 _ _ a0).trans h)
end
end R4

namespace R4
open Go Go.Proofs Sx
noncomputable def body84 : Code := (Tryd.f84.body).getD .skip
noncomputable def X84 (call : CallT) (run : RunT) (a0 a1 : UInt8) (a2 : Bool) (a3 a4 a5 a6 : UInt8) (a7 : Bool) (a8 : UInt8) (a9 : List UInt8) (a10 : UInt8) : Option AV :=
  condM (.b (decide (((a9.length : Int)) ≥ 32)))
  (some (.ag [.u8 20, .u8 0, .b false, .u8 0, .u8 0, .u8 0, .u8 0, .b false, .u8 0, .s []]))
  ((call 82 [.u8 a10]).bind fun v1 => (AV.one (v1)).bind fun v2 => (b2s (.ro 1 (([v2] : List AV)))).bind fun v3 => (binS .add (.s a9) (v3)).bind fun v4 => (AV.one (v4)).bind fun v5 => some (.ag [.u8 a0, .u8 a1, .b a2, .u8 a3, .u8 a4, .u8 a5, .u8 a6, .b a7, .u8 a8, v5]))
section
variable (call : CallT) (run : RunT) (a0 a1 : UInt8) (a2 : Bool) (a3 a4 a5 a6 : UInt8) (a7 : Bool) (a8 : UInt8) (a9 : List UInt8) (a10 : UInt8)
theorem text84 : unr C call run 84 Tryd.f84 400 [.code body84] (initF C 84 Tryd.f84.ntmps [.ag [.u8 a0, .u8 a1, .b a2, .u8 a3, .u8 a4, .u8 a5, .u8 a6, .b a7, .u8 a8, .s a9], .u8 a10]) = X84 call run a0 a1 a2 a3 a4 a5 a6 a7 a8 a9 a10 := by
  kernel_rfl
theorem c84 {r : AV} (h : X84 (semCall C Tryd.prog) (semRun C Tryd.prog 84 Tryd.f84) a0 a1 a2 a3 a4 a5 a6 a7 a8 a9 a10 = some r) : semCall C Tryd.prog 84 [.ag [.u8 a0, .u8 a1, .b a2, .u8 a3, .u8 a4, .u8 a5, .u8 a6, .b a7, .u8 a8, .s a9], .u8 a10] = some r :=
  semCall_unr (fn := Tryd.f84) (c := body84) (by kernel_rfl) (by kernel_rfl) 400 (by kernel_rfl) ((text84 _ _ a0 a1 a2 a3 a4 a5 a6 a7 a8 a9 a10).trans h)
end
end R4

namespace R4
open Go Go.Proofs Sx
noncomputable def body86 : Code := (Tryd.f86.body).getD .skip
noncomputable def X86 (call : CallT) (run : RunT) (a0 a1 : UInt8) (a2 : Bool) (a3 a4 a5 a6 : UInt8) (a7 : Bool) (a8 : UInt8) (a9 : List UInt8) (a10 : UInt8) : Option AV :=
  some (.ag [.u8 a10, .u8 a1, .b a2, .u8 0, .u8 0, .u8 0, .u8 0, .b false, .u8 0, .s []])
section
variable (call : CallT) (run : RunT) (a0 a1 : UInt8) (a2 : Bool) (a3 a4 a5 a6 : UInt8) (a7 : Bool) (a8 : UInt8) (a9 : List UInt8) (a10 : UInt8)
theorem text86 : unr C call run 86 Tryd.f86 400 [.code body86] (initF C 86 Tryd.f86.ntmps [.ag [.u8 a0, .u8 a1, .b a2, .u8 a3, .u8 a4, .u8 a5, .u8 a6, .b a7, .u8 a8, .s a9], .u8 a10]) = X86 call run a0 a1 a2 a3 a4 a5 a6 a7 a8 a9 a10 := by
  kernel_rfl
theorem c86 {r : AV} (h : X86 (semCall C Tryd.prog) (semRun C Tryd.prog 86 Tryd.f86) a0 a1 a2 a3 a4 a5 a6 a7 a8 a9 a10 = some r) : semCall C Tryd.prog 86 [.ag [.u8 a0, .u8 a1, .b a2, .u8 a3, .u8 a4, .u8 a5, .u8 a6, .b a7, .u8 a8, .s a9], .u8 a10] = some r :=
  semCall_unr (fn := Tryd.f86) (c := body86) (by kernel_rfl) (by kernel_rfl) 400 (by kernel_rfl) ((text86 _ _ a0 a1 a2 a3 a4 a5 a6 a7 a8 a9 a10).trans h)
end
end R4

namespace R4
open Go Go.Proofs Sx
noncomputable def body87 : Code := (Tryd.f87.body).getD .skip
noncomputable def X87 (call : CallT) (run : RunT) (a0 : UInt8) : Option AV :=
  condM (.b (une a0 0))
  (some (.ag [.u8 17, .u8 a0, .b false, .u8 0, .u8 0, .u8 0, .u8 0, .b false, .u8 0, .s []]))
  (some (.ag [.u8 0, .u8 0, .b false, .u8 0, .u8 0, .u8 0, .u8 0, .b false, .u8 0, .s []]))
section
variable (call : CallT) (run : RunT) (a0 : UInt8)
theorem text87 : unr C call run 87 Tryd.f87 400 [.code body87] (initF C 87 Tryd.f87.ntmps [.u8 a0]) = X87 call run a0 := by
  kernel_rfl
theorem c87 {r : AV} (h : X87 (semCall C Tryd.prog) (semRun C Tryd.prog 87 Tryd.f87) a0 = some r) : semCall C Tryd.prog 87 [.u8 a0] = some r :=
  semCall_unr (fn := Tryd.f87) (c := body87) (by kernel_rfl) (by kernel_rfl) 400 (by kernel_rfl) ((text87 _ _ a0).trans h)
end
end R4

namespace R4
open Go Go.Proofs Sx
noncomputable def body88 : Code := (Tryd.f88.body).getD .skip
noncomputable def X88 (call : CallT) (run : RunT) (a0 a1 : UInt8) (a2 : Bool) (a3 a4 a5 a6 : UInt8) (a7 : Bool) (a8 : UInt8) (a9 : List UInt8) (a10 : UInt8) : Option AV :=
  (call 83 [.u8 a10]).bind fun v1 => condM (v1)
  (some (.tu [.ag [.u8 a0, .u8 a1, .b a2, .u8 a3, .u8 a4, .u8 a5, .u8 a6, .b a7, .u8 a8, .s a9], .b false]))
  (condM (.b (ueq a10 62))
  (some (.tu [.ag [.u8 20, .u8 0, .b false, .u8 0, .u8 0, .u8 0, .u8 0, .b false, .u8 0, .s []], .b false]))
  ((selW (.b (ueq a10 34)) false (some (.b (ueq a10 39))) (.b true)).bind fun v2 => condM (v2)
  (some (.tu [.ag [.u8 8, .u8 a1, .b a2, .u8 a3, .u8 a10, .u8 a5, .u8 a6, .b a7, .u8 a8, .s a9], .b false]))
  (some (.tu [.ag [.u8 8, .u8 a1, .b a2, .u8 a3, .u8 a4, .u8 a5, .u8 a6, .b a7, .u8 a8, .s a9], .b true]))))
section
variable (call : CallT) (run : RunT) (a0 a1 : UInt8) (a2 : Bool) (a3 a4 a5 a6 : UInt8) (a7 : Bool) (a8 : UInt8) (a9 : List UInt8) (a10 : UInt8)
theorem text88 : unr C call run 88 Tryd.f88 400 [.code body88] (initF C 88 Tryd.f88.ntmps [.ag [.u8 a0, .u8 a1, .b a2, .u8 a3, .u8 a4, .u8 a5, .u8 a6, .b a7, .u8 a8, .s a9], .u8 a10]) = X88 call run a0 a1 a2 a3 a4 a5 a6 a7 a8 a9 a10 := by
  kernel_rfl
theorem c88 {r : AV} (h : X88 (semCall C Tryd.prog) (semRun C Tryd.prog 88 Tryd.f88) a0 a1 a2 a3 a4 a5 a6 a7 a8 a9 a10 = some r) : semCall C Tryd.prog 88 [.ag [.u8 a0, .u8 a1, .b a2, .u8 a3, .u8 a4, .u8 a5, .u8 a6, .b a7, .u8 a8, .s a9], .u8 a10] = some r :=
  semCall_unr (fn := Tryd.f88) (c := body88) (by kernel_rfl) (by kernel_rfl) 400 (by kernel_rfl) ((text88 _ _ a0 a1 a2 a3 a4 a5 a6 a7 a8 a9 a10).trans h)
end
end R4

namespace R4
open Go Go.Proofs Sx
noncomputable def body89 : Code := (Tryd.f89.body).getD .skip
noncomputable def X89 (call : CallT) (run : RunT) (a0 a1 : UInt8) (a2 : Bool) (a3 a4 a5 a6 : UInt8) (a7 : Bool) (a8 : UInt8) (a9 : List UInt8) (a10 : UInt8) : Option AV :=
  (selW (.b (ueq a10 61)) true (some (.b (a9 != []))) (.b false)).bind fun v1 => condM (v1)
  ((call 86 [.ag [.u8 a0, .u8 a1, .b a2, .u8 a3, .u8 a4, .u8 a5, .u8 a6, .b a7, .u8 a8, .s a9], .u8 7]).bind fun v2 => (AV.asAg 10 (v2)).bind fun v3 => (call 96 [.s a9]).bind fun v4 => (AV.one (v4)).bind fun v5 => some (.tu [.ag [v3.getD 0 .un, v3.getD 1 .un, v3.getD 2 .un, v5, v3.getD 4 .un, v3.getD 5 .un, v3.getD 6 .un, v3.getD 7 .un, v3.getD 8 .un, v3.getD 9 .un], .b false]))
  ((selW (.b (ueq a10 47)) false (some (.b (ueq a10 62))) (.b true)).bind fun v6 => condM (v6)
  ((call 86 [.ag [.u8 a0, .u8 a1, .b a2, .u8 a3, .u8 a4, .u8 a5, .u8 a6, .b a7, .u8 a8, .s a9], .u8 9]).bind fun v7 => (AV.asAg 10 (v7)).bind fun v8 => some (.tu [.ag [v8.getD 0 .un, v8.getD 1 .un, v8.getD 2 .un, v8.getD 3 .un, v8.getD 4 .un, v8.getD 5 .un, v8.getD 6 .un, v8.getD 7 .un, v8.getD 8 .un, v8.getD 9 .un], .b true]))
  ((call 83 [.u8 a10]).bind fun v9 => condM (v9)
  (some (.tu [.ag [.u8 6, .u8 a1, .b a2, .u8 a3, .u8 a4, .u8 a5, .u8 a6, .b a7, .u8 a8, .s a9], .b false]))
  (condM (.b (ueq a0 6))
  ((call 86 [.ag [.u8 a0, .u8 a1, .b a2, .u8 a3, .u8 a4, .u8 a5, .u8 a6, .b a7, .u8 a8, .s a9], .u8 4]).bind fun v10 => (AV.asAg 10 (v10)).bind fun v11 => some (.tu [.ag [v11.getD 0 .un, v11.getD 1 .un, v11.getD 2 .un, v11.getD 3 .un, v11.getD 4 .un, v11.getD 5 .un, v11.getD 6 .un, v11.getD 7 .un, v11.getD 8 .un, v11.getD 9 .un], .b true]))
  ((selW (.b (ueq a10 34)) false (some (.b (ueq a10 39))) (.b true)).bind fun v12 => (selW (v12) false (some (.b (ueq a10 60))) (.b true)).bind fun v13 => condM (v13)
  (some (.tu [.ag [.u8 20, .u8 0, .b false, .u8 0, .u8 0, .u8 0, .u8 0, .b false, .u8 0, .s []], .b false]))
  ((call 84 [.ag [.u8 a0, .u8 a1, .b a2, .u8 a3, .u8 a4, .u8 a5, .u8 a6, .b a7, .u8 a8, .s a9], .u8 a10]).bind fun v14 => (AV.asAg 10 (v14)).bind fun v15 => some (.tu [.ag [v15.getD 0 .un, v15.getD 1 .un, v15.getD 2 .un, v15.getD 3 .un, v15.getD 4 .un, v15.getD 5 .un, v15.getD 6 .un, v15.getD 7 .un, v15.getD 8 .un, v15.getD 9 .un], .b false]))))))
section
variable (call : CallT) (run : RunT) (a0 a1 : UInt8) (a2 : Bool) (a3 a4 a5 a6 : UInt8) (a7 : Bool) (a8 : UInt8) (a9 : List UInt8) (a10 : UInt8)
theorem text89 : unr C call run 89 Tryd.f89 400 [.code body89] (initF C 89 Tryd.f89.ntmps [.ag [.u8 a0, .u8 a1, .b a2, .u8 a3, .u8 a4, .u8 a5, .u8 a6, .b a7, .u8 a8, .s a9], .u8 a10]) = X89 call run a0 a1 a2 a3 a4 a5 a6 a7 a8 a9 a10 := by
  kernel_rfl
theorem c89 {r : AV} (h : X89 (semCall C Tryd.prog) (semRun C Tryd.prog 89 Tryd.f89) a0 a1 a2 a3 a4 a5 a6 a7 a8 a9 a10 = some r) : semCall C Tryd.prog 89 [.ag [.u8 a0, .u8 a1, .b a2, .u8 a3, .u8 a4, .u8 a5, .u8 a6, .b a7, .u8 a8, .s a9], .u8 a10] = some r :=
  semCall_unr (fn := Tryd.f89) (c := body89) (by kernel_rfl) (by kernel_rfl) 400 (by kernel_rfl) ((text89 _ _ a0 a1 a2 a3 a4 a5 a6 a7 a8 a9 a10).trans h)
end
end R4

namespace R4
open Go Go.Proofs Sx
noncomputable def body90 : Code := (Tryd.f90.body).getD .skip
noncomputable def X90 (call : CallT) (run : RunT) (a0 a1 : UInt8) (a2 : Bool) (a3 a4 a5 a6 : UInt8) (a7 : Bool) (a8 : UInt8) (a9 : List UInt8) : Option AV :=
  (selW (.b (ueq a6 0)) false (some (.b (ueq a6 4))) (.b true)).bind fun v1 => some (v1)
section
variable (call : CallT) (run : RunT) (a0 a1 : UInt8) (a2 : Bool) (a3 a4 a5 a6 : UInt8) (a7 : Bool) (a8 : UInt8) (a9 : List UInt8)
theorem text90 : unr C call run 90 Tryd.f90 400 [.code body90] (initF C 90 Tryd.f90.ntmps [.ag [.u8 a0, .u8 a1, .b a2, .u8 a3, .u8 a4, .u8 a5, .u8 a6, .b a7, .u8 a8, .s a9]]) = X90 call run a0 a1 a2 a3 a4 a5 a6 a7 a8 a9 := by
  kernel_rfl
theorem c90 {r : AV} (h : X90 (semCall C Tryd.prog) (semRun C Tryd.prog 90 Tryd.f90) a0 a1 a2 a3 a4 a5 a6 a7 a8 a9 = some r) : semCall C Tryd.prog 90 [.ag [.u8 a0, .u8 a1, .b a2, .u8 a3, .u8 a4, .u8 a5, .u8 a6, .b a7, .u8 a8, .s a9]] = some r :=
  semCall_unr (fn := Tryd.f90) (c := body90) (by kernel_rfl) (by kernel_rfl) 400 (by kernel_rfl) ((text90 _ _ a0 a1 a2 a3 a4 a5 a6 a7 a8 a9).trans h)
end
end R4

namespace R4
open Go Go.Proofs Sx
noncomputable def body91 : Code := (Tryd.f91.body).getD .skip
noncomputable def X91 (call : CallT) (run : RunT) (a0 : List UInt8) (a1 : UInt8) : Option AV :=
  (call 97 [.s a0, .u8 a1]).bind fun v1 => some (v1)
section
variable (call : CallT) (run : RunT) (a0 : List UInt8) (a1 : UInt8)
theorem text91 : unr C call run 91 Tryd.f91 400 [.code body91] (initF C 91 Tryd.f91.ntmps [.s a0, .u8 a1]) = X91 call run a0 a1 := by
  kernel_rfl
theorem c91 {r : AV} (h : X91 (semCall C Tryd.prog) (semRun C Tryd.prog 91 Tryd.f91) a0 a1 = some r) : semCall C Tryd.prog 91 [.s a0, .u8 a1] = some r :=
  semCall_unr (fn := Tryd.f91) (c := body91) (by kernel_rfl) (by kernel_rfl) 400 (by kernel_rfl) ((text91 _ _ a0 a1).trans h)
end
end R4

namespace R4
open Go Go.Proofs Sx
noncomputable def body92 : Code := (Tryd.f92.body).getD .skip
section
variable (run : RunT) (a0 a1 : UInt8) (a2 : Bool) (a3 a4 a5 a6 : UInt8) (a7 : Bool) (a8 : UInt8) (a9 : AV) (a10 a11 : UInt8) (a12 : Bool) (a13 a14 a15 a16 : UInt8) (a17 : Bool) (a18 : UInt8) (a19 : List UInt8)
noncomputable def K92_24 : List Item := (kAt 24 body92 []).getD []
def S92_24 : St := St.ofL [(2, .cell (.ptr 2 0)), (4, .cell (.ptr 4 0))] [(2, some [.val (.u8 a0), .val (.u8 a1), .val (.b a2), .val (.u8 a3), .val (.u8 a4), .val (.u8 a5), .val (.u8 a6), .val (.b a7), .val (.u8 a8), .val (a9)]), (4, some [.val (.u8 a10), .val (.u8 a11), .val (.b a12), .val (.u8 a13), .val (.u8 a14), .val (.u8 a15), .val (.u8 a16), .val (.b a17), .val (.u8 a18), .val (.s a19)])]
noncomputable def F92_24 : Option AV := run K92_24 (S92_24 a0 a1 a2 a3 a4 a5 a6 a7 a8 a9 a10 a11 a12 a13 a14 a15 a16 a17 a18 a19)
end
noncomputable def X92 (call : CallT) (run : RunT) (a0 a1 : UInt8) (a2 : Bool) (a3 a4 a5 a6 : UInt8) (a7 : Bool) (a8 : UInt8) (a9 : List UInt8) (a10 : UInt8) : Option AV :=
  (selW (.b (ueq a5 4)) false (some (.b (ueq a5 5))) (.b true)).bind fun v1 => condM (v1)
  (some (.ag [.u8 a0, .u8 a1, .b a2, .u8 a3, .u8 a4, .u8 a5, .u8 a6, .b a7, .u8 a8, .s []]))
  (condM (.b (ueq a10 38))
  (some (.ag [.u8 20, .u8 0, .b false, .u8 0, .u8 0, .u8 0, .u8 0, .b false, .u8 0, .s []]))
  ((selW (.b (ueq a10 63)) false (some (.b (ueq a10 35))) (.b true)).bind fun v2 => condM (v2)
  (F92_24 run a0 a1 a2 a3 a4 4 a6 a7 a8 (.s []) 0 0 false 0 0 0 0 false 0 [])
  (condM (.b (ueq a5 3))
  (some (.ag [.u8 a0, .u8 a1, .b a2, .u8 a3, .u8 a4, .u8 a5, .u8 a6, .b a7, .u8 a8, .s []]))
  (condM (.b (ueq a10 47))
  (F92_24 run a0 a1 a2 a3 a4 3 a6 a7 a8 (.s []) 0 0 false 0 0 0 0 false 0 [])
  ((selW (.b (ueq a10 58)) true (some (.b (ueq a5 2))) (.b false)).bind fun v3 => condM (v3)
  (some (.ag [.u8 20, .u8 0, .b false, .u8 0, .u8 0, .u8 0, .u8 0, .b false, .u8 0, .s []]))
  (condM (.b (ueq a10 58))
  ((selW (.b (a9 == [104, 116, 116, 112])) false (some (.b (a9 == [104, 116, 116, 112, 115]))) (.b true)).bind fun v4 => (selW (v4) false (some (.b (a9 == [109, 97, 105, 108, 116, 111]))) (.b true)).bind fun v5 => condM (v5)
  (F92_24 run a0 a1 a2 a3 a4 3 a6 a7 a8 (.s []) 0 0 false 0 0 0 0 false 0 [])
  (F92_24 run a0 a1 a2 a3 a4 5 a6 a7 a8 (.s []) 0 0 false 0 0 0 0 false 0 []))
  (condM (.b (ueq a5 2))
  (some (.ag [.u8 a0, .u8 a1, .b a2, .u8 a3, .u8 a4, .u8 a5, .u8 a6, .b a7, .u8 a8, .s []]))
  (condM (.b (decide (((a9.length : Int)) ≥ 16)))
  (F92_24 run a0 a1 a2 a3 a4 1 a6 a7 a8 (.s a9) 0 0 false 0 0 0 0 false 0 [])
  ((call 82 [.u8 a10]).bind fun v6 => same ((AV.one (v6)).bind fun v7 => (b2s (.ro 1 (([v7] : List AV)))).bind fun v8 => (binS .add (.s a9) (v8)).bind fun v9 => (AV.one (v9)).bind fun v10 => F92_24 run a0 a1 a2 a3 a4 1 a6 a7 a8 (v10) 0 0 false 0 0 0 0 false 0 []))))))))))
section
variable (call : CallT) (run : RunT) (a0 a1 : UInt8) (a2 : Bool) (a3 a4 a5 a6 : UInt8) (a7 : Bool) (a8 : UInt8) (a9 : List UInt8) (a10 : UInt8)
theorem text92 : unr C call run 92 Tryd.f92 400 [.code body92] (initF C 92 Tryd.f92.ntmps [.ag [.u8 a0, .u8 a1, .b a2, .u8 a3, .u8 a4, .u8 a5, .u8 a6, .b a7, .u8 a8, .s a9], .u8 a10]) = X92 call run a0 a1 a2 a3 a4 a5 a6 a7 a8 a9 a10 := by
  kernel_rfl
theorem c92 {r : AV} (h : X92 (semCall C Tryd.prog) (semRun C Tryd.prog 92 Tryd.f92) a0 a1 a2 a3 a4 a5 a6 a7 a8 a9 a10 = some r) : semCall C Tryd.prog 92 [.ag [.u8 a0, .u8 a1, .b a2, .u8 a3, .u8 a4, .u8 a5, .u8 a6, .b a7, .u8 a8, .s a9], .u8 a10] = some r :=
  semCall_unr (fn := Tryd.f92) (c := body92) (by kernel_rfl) (by kernel_rfl) 400 (by kernel_rfl) ((text92 _ _ a0 a1 a2 a3 a4 a5 a6 a7 a8 a9 a10).trans h)
end
noncomputable def X92_24 (call : CallT) (run : RunT) (a0 a1 : UInt8) (a2 : Bool) (a3 a4 a5 a6 : UInt8) (a7 : Bool) (a8 : UInt8) (a9 : AV) (a10 a11 : UInt8) (a12 : Bool) (a13 a14 a15 a16 : UInt8) (a17 : Bool) (a18 : UInt8) (a19 : List UInt8) : Option AV :=
  some (.ag [.u8 a0, .u8 a1, .b a2, .u8 a3, .u8 a4, .u8 a5, .u8 a6, .b a7, .u8 a8, a9])
section
variable (call : CallT) (run : RunT) (a0 a1 : UInt8) (a2 : Bool) (a3 a4 a5 a6 : UInt8) (a7 : Bool) (a8 : UInt8) (a9 : AV) (a10 a11 : UInt8) (a12 : Bool) (a13 a14 a15 a16 : UInt8) (a17 : Bool) (a18 : UInt8) (a19 : List UInt8)
theorem text92_24 : step C call 92 Tryd.f92 (unr C call run 92 Tryd.f92 400) K92_24 (S92_24 a0 a1 a2 a3 a4 a5 a6 a7 a8 a9 a10 a11 a12 a13 a14 a15 a16 a17 a18 a19) = X92_24 call run a0 a1 a2 a3 a4 a5 a6 a7 a8 a9 a10 a11 a12 a13 a14 a15 a16 a17 a18 a19 := by
  kernel_rfl
end
section
variable (a0 a1 : UInt8) (a2 : Bool) (a3 a4 a5 a6 : UInt8) (a7 : Bool) (a8 : UInt8) (a9 : AV) (a10 a11 : UInt8) (a12 : Bool) (a13 a14 a15 a16 : UInt8) (a17 : Bool) (a18 : UInt8) (a19 : List UInt8)
theorem r92_24 {r : AV} (h : X92_24 (semCall C Tryd.prog) (semRun C Tryd.prog 92 Tryd.f92) a0 a1 a2 a3 a4 a5 a6 a7 a8 a9 a10 a11 a12 a13 a14 a15 a16 a17 a18 a19 = some r) : F92_24 (semRun C Tryd.prog 92 Tryd.f92) a0 a1 a2 a3 a4 a5 a6 a7 a8 a9 a10 a11 a12 a13 a14 a15 a16 a17 a18 a19 = some r :=
  semRun_unr 400 ((text92_24 _ _ a0 a1 a2 a3 a4 a5 a6 a7 a8 a9 a10 a11 a12 a13 a14 a15 a16 a17 a18 a19).trans h)
end
end R4

namespace R4
open Go Go.Proofs Sx
noncomputable def body93 : Code := (Tryd.f93.body).getD .skip
section
variable (run : RunT) (a0 a1 : UInt8) (a2 : Bool) (a3 a4 a5 a6 : UInt8) (a7 : Bool) (a8 : UInt8) (a9 : List UInt8) (a10 a11 : UInt8) (a12 : Bool) (a13 a14 a15 a16 : UInt8) (a17 : Bool) (a18 : UInt8) (a19 : List UInt8)
noncomputable def K93_36 : List Item := (kAt 36 body93 []).getD []
def S93_36 : St := St.ofL [(3, .cell (.ptr 3 0)), (6, .cell (.ptr 6 0))] [(3, some [.val (.u8 a0), .val (.u8 a1), .val (.b a2), .val (.u8 a3), .val (.u8 a4), .val (.u8 a5), .val (.u8 a6), .val (.b a7), .val (.u8 a8), .val (.s a9)]), (6, some [.val (.u8 a10), .val (.u8 a11), .val (.b a12), .val (.u8 a13), .val (.u8 a14), .val (.u8 a15), .val (.u8 a16), .val (.b a17), .val (.u8 a18), .val (.s a19)])]
noncomputable def F93_36 : Option AV := run K93_36 (S93_36 a0 a1 a2 a3 a4 a5 a6 a7 a8 a9 a10 a11 a12 a13 a14 a15 a16 a17 a18 a19)
end
section
variable (run : RunT) (a0 a1 : UInt8) (a2 : Bool) (a3 a4 a5 a6 : UInt8) (a7 : Bool) (a8 : UInt8) (a9 : List UInt8)
noncomputable def K93_11 : List Item := (kAt 11 body93 []).getD []
def S93_11 : St := St.ofL [(6, .cell (.ptr 6 0))] [(6, some [.val (.u8 a0), .val (.u8 a1), .val (.b a2), .val (.u8 a3), .val (.u8 a4), .val (.u8 a5), .val (.u8 a6), .val (.b a7), .val (.u8 a8), .val (.s a9)])]
noncomputable def F93_11 : Option AV := run K93_11 (S93_11 a0 a1 a2 a3 a4 a5 a6 a7 a8 a9)
end
section
variable (run : RunT) (a0 a1 a2 : UInt8) (a3 : Bool) (a4 a5 a6 a7 : UInt8) (a8 : Bool) (a9 : UInt8) (a10 : List UInt8) (a11 a12 : UInt8) (a13 : Bool) (a14 a15 a16 a17 : UInt8) (a18 : Bool) (a19 : UInt8) (a20 : List UInt8)
noncomputable def K93_23 : List Item := (kAt 23 body93 []).getD []
def S93_23 : St := St.ofL [(1, .cell (.val (.u8 a0))), (3, .cell (.ptr 3 0)), (6, .cell (.ptr 6 0))] [(3, some [.val (.u8 a1), .val (.u8 a2), .val (.b a3), .val (.u8 a4), .val (.u8 a5), .val (.u8 a6), .val (.u8 a7), .val (.b a8), .val (.u8 a9), .val (.s a10)]), (6, some [.val (.u8 a11), .val (.u8 a12), .val (.b a13), .val (.u8 a14), .val (.u8 a15), .val (.u8 a16), .val (.u8 a17), .val (.b a18), .val (.u8 a19), .val (.s a20)])]
noncomputable def F93_23 : Option AV := run K93_23 (S93_23 a0 a1 a2 a3 a4 a5 a6 a7 a8 a9 a10 a11 a12 a13 a14 a15 a16 a17 a18 a19 a20)
end
section
variable (run : RunT) (a0 a1 a2 a3 : UInt8) (a4 : Bool) (a5 a6 a7 a8 : UInt8) (a9 : Bool) (a10 : UInt8) (a11 : List UInt8) (a12 a13 : UInt8) (a14 : Bool) (a15 a16 a17 a18 : UInt8) (a19 : Bool) (a20 : UInt8) (a21 : List UInt8)
noncomputable def K93_24 : List Item := (kAt 24 body93 []).getD []
def S93_24 : St := St.ofL [(1, .cell (.val (.u8 a0))), (3, .cell (.ptr 3 0)), (6, .cell (.ptr 6 0)), (8, .cell (.val (.u8 a1)))] [(3, some [.val (.u8 a2), .val (.u8 a3), .val (.b a4), .val (.u8 a5), .val (.u8 a6), .val (.u8 a7), .val (.u8 a8), .val (.b a9), .val (.u8 a10), .val (.s a11)]), (6, some [.val (.u8 a12), .val (.u8 a13), .val (.b a14), .val (.u8 a15), .val (.u8 a16), .val (.u8 a17), .val (.u8 a18), .val (.b a19), .val (.u8 a20), .val (.s a21)])]
noncomputable def F93_24 : Option AV := run K93_24 (S93_24 a0 a1 a2 a3 a4 a5 a6 a7 a8 a9 a10 a11 a12 a13 a14 a15 a16 a17 a18 a19 a20 a21)
end
noncomputable def X93 (call : CallT) (run : RunT) (a0 a1 : UInt8) (a2 : Bool) (a3 a4 a5 a6 : UInt8) (a7 : Bool) (a8 : UInt8) (a9 : List UInt8) (a10 : UInt8) (a11 : Bool) : Option AV :=
  condM (.b (ueq a6 0))
  (condM (.b (ueq a10 34))
  (F93_36 run a0 a1 a2 a3 a4 a5 1 a7 a8 a9 0 0 false 0 0 0 0 false 0 [])
  (condM (.b (ueq a10 39))
  (F93_36 run a0 a1 a2 a3 a4 a5 2 a7 a8 a9 0 0 false 0 0 0 0 false 0 [])
  (condM (.b (ueq a10 47))
  (F93_36 run a0 a1 a2 a3 a4 a5 3 a7 a8 a9 0 0 false 0 0 0 0 false 0 [])
  ((selW (.b a11) true (some (.b (ueq a10 96))) (.b false)).bind fun v1 => condM (v1)
  (F93_11 run 0 0 false 0 0 0 0 false 0 [])
  ((selW (.b (!a11)) true ((selW (.b (ueq a10 40)) false (some (.b (ueq a10 92))) (.b true)).bind fun v2 => some (v2)) (.b false)).bind fun v3 => condM (v3)
  (F93_11 run 0 0 false 0 0 0 0 false 0 [])
  (F93_36 run a0 a1 a2 a3 a4 a5 a6 a7 a8 a9 0 0 false 0 0 0 0 false 0 []))))))
  (condM (.b (ueq a6 3))
  (condM (.b (ueq a10 42))
  (F93_36 run a0 a1 a2 a3 a4 a5 5 a7 a8 a9 0 0 false 0 0 0 0 false 0 [])
  ((selW (.b a11) true (some (.b (ueq a10 47))) (.b false)).bind fun v4 => condM (v4)
  (F93_36 run a0 a1 a2 a3 a4 a5 4 a7 a8 a9 0 0 false 0 0 0 0 false 0 [])
  (condM (.b a11)
  (some (.ag [.u8 20, .u8 0, .b false, .u8 0, .u8 0, .u8 0, .u8 0, .b false, .u8 0, .s []]))
  ((call 93 [.ag [.u8 a0, .u8 a1, .b a2, .u8 a3, .u8 a4, .u8 a5, .u8 0, .b a7, .u8 a8, .s a9], .u8 a10, .b a11]).bind fun v5 => (AV.asAg 10 (v5)).bind fun v6 => some (.ag [v6.getD 0 .un, v6.getD 1 .un, v6.getD 2 .un, v6.getD 3 .un, v6.getD 4 .un, v6.getD 5 .un, v6.getD 6 .un, v6.getD 7 .un, v6.getD 8 .un, v6.getD 9 .un])))))
  (condM (.b (ueq a6 1))
  (F93_23 run a10 a0 a1 a2 a3 a4 a5 a6 a7 a8 a9 0 0 false 0 0 0 0 false 0 [])
  (condM (.b (ueq a6 2))
  (F93_23 run a10 a0 a1 a2 a3 a4 a5 a6 a7 a8 a9 0 0 false 0 0 0 0 false 0 [])
  (F93_24 run a10 a6 a0 a1 a2 a3 a4 a5 a6 a7 a8 a9 0 0 false 0 0 0 0 false 0 []))))
section
variable (call : CallT) (run : RunT) (a0 a1 : UInt8) (a2 : Bool) (a3 a4 a5 a6 : UInt8) (a7 : Bool) (a8 : UInt8) (a9 : List UInt8) (a10 : UInt8) (a11 : Bool)
theorem text93 : unr C call run 93 Tryd.f93 400 [.code body93] (initF C 93 Tryd.f93.ntmps [.ag [.u8 a0, .u8 a1, .b a2, .u8 a3, .u8 a4, .u8 a5, .u8 a6, .b a7, .u8 a8, .s a9], .u8 a10, .b a11]) = X93 call run a0 a1 a2 a3 a4 a5 a6 a7 a8 a9 a10 a11 := by
  kernel_rfl
theorem c93 {r : AV} (h : X93 (semCall C Tryd.prog) (semRun C Tryd.prog 93 Tryd.f93) a0 a1 a2 a3 a4 a5 a6 a7 a8 a9 a10 a11 = some r) : semCall C Tryd.prog 93 [.ag [.u8 a0, .u8 a1, .b a2, .u8 a3, .u8 a4, .u8 a5, .u8 a6, .b a7, .u8 a8, .s a9], .u8 a10, .b a11] = some r :=
  semCall_unr (fn := Tryd.f93) (c := body93) (by kernel_rfl) (by kernel_rfl) 400 (by kernel_rfl) ((text93 _ _ a0 a1 a2 a3 a4 a5 a6 a7 a8 a9 a10 a11).trans h)
end
noncomputable def X93_36 (call : CallT) (run : RunT) (a0 a1 : UInt8) (a2 : Bool) (a3 a4 a5 a6 : UInt8) (a7 : Bool) (a8 : UInt8) (a9 : List UInt8) (a10 a11 : UInt8) (a12 : Bool) (a13 a14 a15 a16 : UInt8) (a17 : Bool) (a18 : UInt8) (a19 : List UInt8) : Option AV :=
  some (.ag [.u8 a0, .u8 a1, .b a2, .u8 a3, .u8 a4, .u8 a5, .u8 a6, .b a7, .u8 a8, .s a9])
section
variable (call : CallT) (run : RunT) (a0 a1 : UInt8) (a2 : Bool) (a3 a4 a5 a6 : UInt8) (a7 : Bool) (a8 : UInt8) (a9 : List UInt8) (a10 a11 : UInt8) (a12 : Bool) (a13 a14 a15 a16 : UInt8) (a17 : Bool) (a18 : UInt8) (a19 : List UInt8)
theorem text93_36 : step C call 93 Tryd.f93 (unr C call run 93 Tryd.f93 400) K93_36 (S93_36 a0 a1 a2 a3 a4 a5 a6 a7 a8 a9 a10 a11 a12 a13 a14 a15 a16 a17 a18 a19) = X93_36 call run a0 a1 a2 a3 a4 a5 a6 a7 a8 a9 a10 a11 a12 a13 a14 a15 a16 a17 a18 a19 := by
  kernel_rfl
end
noncomputable def X93_11 (call : CallT) (run : RunT) (a0 a1 : UInt8) (a2 : Bool) (a3 a4 a5 a6 : UInt8) (a7 : Bool) (a8 : UInt8) (a9 : List UInt8) : Option AV :=
  some (.ag [.u8 20, .u8 0, .b false, .u8 0, .u8 0, .u8 0, .u8 0, .b false, .u8 0, .s []])
section
variable (call : CallT) (run : RunT) (a0 a1 : UInt8) (a2 : Bool) (a3 a4 a5 a6 : UInt8) (a7 : Bool) (a8 : UInt8) (a9 : List UInt8)
theorem text93_11 : step C call 93 Tryd.f93 (unr C call run 93 Tryd.f93 400) K93_11 (S93_11 a0 a1 a2 a3 a4 a5 a6 a7 a8 a9) = X93_11 call run a0 a1 a2 a3 a4 a5 a6 a7 a8 a9 := by
  kernel_rfl
end
noncomputable def X93_23 (call : CallT) (run : RunT) (a0 a1 a2 : UInt8) (a3 : Bool) (a4 a5 a6 a7 : UInt8) (a8 : Bool) (a9 : UInt8) (a10 : List UInt8) (a11 a12 : UInt8) (a13 : Bool) (a14 a15 a16 a17 : UInt8) (a18 : Bool) (a19 : UInt8) (a20 : List UInt8) : Option AV :=
  (call 98 [.ag [.u8 a1, .u8 a2, .b a3, .u8 a4, .u8 a5, .u8 a6, .u8 a7, .b a8, .u8 a9, .s a10], .u8 a0]).bind fun v1 => (AV.asAg 10 (v1)).bind fun v2 => some (.ag [v2.getD 0 .un, v2.getD 1 .un, v2.getD 2 .un, v2.getD 3 .un, v2.getD 4 .un, v2.getD 5 .un, v2.getD 6 .un, v2.getD 7 .un, v2.getD 8 .un, v2.getD 9 .un])
section
variable (call : CallT) (run : RunT) (a0 a1 a2 : UInt8) (a3 : Bool) (a4 a5 a6 a7 : UInt8) (a8 : Bool) (a9 : UInt8) (a10 : List UInt8) (a11 a12 : UInt8) (a13 : Bool) (a14 a15 a16 a17 : UInt8) (a18 : Bool) (a19 : UInt8) (a20 : List UInt8)
theorem text93_23 : step C call 93 Tryd.f93 (unr C call run 93 Tryd.f93 400) K93_23 (S93_23 a0 a1 a2 a3 a4 a5 a6 a7 a8 a9 a10 a11 a12 a13 a14 a15 a16 a17 a18 a19 a20) = X93_23 call run a0 a1 a2 a3 a4 a5 a6 a7 a8 a9 a10 a11 a12 a13 a14 a15 a16 a17 a18 a19 a20 := by
  kernel_rfl
end
noncomputable def X93_24 (call : CallT) (run : RunT) (a0 a1 a2 a3 : UInt8) (a4 : Bool) (a5 a6 a7 a8 : UInt8) (a9 : Bool) (a10 : UInt8) (a11 : List UInt8) (a12 a13 : UInt8) (a14 : Bool) (a15 a16 a17 a18 : UInt8) (a19 : Bool) (a20 : UInt8) (a21 : List UInt8) : Option AV :=
  condM (.b (ueq a1 4))
  ((selW (.b (ueq a0 10)) false (some (.b (ueq a0 13))) (.b true)).bind fun v1 => condM (v1)
  (F93_36 run a2 a3 a4 a5 a6 a7 0 a9 a10 a11 a12 a13 a14 a15 a16 a17 a18 a19 a20 a21)
  (F93_36 run a2 a3 a4 a5 a6 a7 a8 a9 a10 a11 a12 a13 a14 a15 a16 a17 a18 a19 a20 a21))
  (condM (.b (ueq a1 5))
  (condM (.b (ueq a0 42))
  (F93_36 run a2 a3 a4 a5 a6 a7 6 a9 a10 a11 a12 a13 a14 a15 a16 a17 a18 a19 a20 a21)
  (F93_36 run a2 a3 a4 a5 a6 a7 a8 a9 a10 a11 a12 a13 a14 a15 a16 a17 a18 a19 a20 a21))
  (condM (.b (ueq a1 6))
  (condM (.b (ueq a0 47))
  (F93_36 run a2 a3 a4 a5 a6 a7 0 a9 a10 a11 a12 a13 a14 a15 a16 a17 a18 a19 a20 a21)
  (condM (.b (ueq a0 42))
  (F93_36 run a2 a3 a4 a5 a6 a7 a8 a9 a10 a11 a12 a13 a14 a15 a16 a17 a18 a19 a20 a21)
  (F93_36 run a2 a3 a4 a5 a6 a7 5 a9 a10 a11 a12 a13 a14 a15 a16 a17 a18 a19 a20 a21)))
  (F93_36 run a2 a3 a4 a5 a6 a7 a8 a9 a10 a11 a12 a13 a14 a15 a16 a17 a18 a19 a20 a21)))
section
variable (call : CallT) (run : RunT) (a0 a1 a2 a3 : UInt8) (a4 : Bool) (a5 a6 a7 a8 : UInt8) (a9 : Bool) (a10 : UInt8) (a11 : List UInt8) (a12 a13 : UInt8) (a14 : Bool) (a15 a16 a17 a18 : UInt8) (a19 : Bool) (a20 : UInt8) (a21 : List UInt8)
theorem text93_24 : step C call 93 Tryd.f93 (unr C call run 93 Tryd.f93 400) K93_24 (S93_24 a0 a1 a2 a3 a4 a5 a6 a7 a8 a9 a10 a11 a12 a13 a14 a15 a16 a17 a18 a19 a20 a21) = X93_24 call run a0 a1 a2 a3 a4 a5 a6 a7 a8 a9 a10 a11 a12 a13 a14 a15 a16 a17 a18 a19 a20 a21 := by
  kernel_rfl
end
section
variable (a0 a1 : UInt8) (a2 : Bool) (a3 a4 a5 a6 : UInt8) (a7 : Bool) (a8 : UInt8) (a9 : List UInt8) (a10 a11 : UInt8) (a12 : Bool) (a13 a14 a15 a16 : UInt8) (a17 : Bool) (a18 : UInt8) (a19 : List UInt8)
theorem r93_36 {r : AV} (h : X93_36 (semCall C Tryd.prog) (semRun C Tryd.prog 93 Tryd.f93) a0 a1 a2 a3 a4 a5 a6 a7 a8 a9 a10 a11 a12 a13 a14 a15 a16 a17 a18 a19 = some r) : F93_36 (semRun C Tryd.prog 93 Tryd.f93) a0 a1 a2 a3 a4 a5 a6 a7 a8 a9 a10 a11 a12 a13 a14 a15 a16 a17 a18 a19 = some r :=
  semRun_unr 400 ((text93_36 _ _ a0 a1 a2 a3 a4 a5 a6 a7 a8 a9 a10 a11 a12 a13 a14 a15 a16 a17 a18 a19).trans h)
end
section
variable (a0 a1 : UInt8) (a2 : Bool) (a3 a4 a5 a6 : UInt8) (a7 : Bool) (a8 : UInt8) (a9 : List UInt8)
theorem r93_11 {r : AV} (h : X93_11 (semCall C Tryd.prog) (semRun C Tryd.prog 93 Tryd.f93) a0 a1 a2 a3 a4 a5 a6 a7 a8 a9 = some r) : F93_11 (semRun C Tryd.prog 93 Tryd.f93) a0 a1 a2 a3 a4 a5 a6 a7 a8 a9 = some r :=
  semRun_unr 400 ((text93_11 _ _ a0 a1 a2 a3 a4 a5 a6 a7 a8 a9).trans h)
end
section
variable (a0 a1 a2 : UInt8) (a3 : Bool) (a4 a5 a6 a7 : UInt8) (a8 : Bool) (a9 : UInt8) (a10 : List UInt8) (a11 a12 : UInt8) (a13 : Bool) (a14 a15 a16 a17 : UInt8) (a18 : Bool) (a19 : UInt8) (a20 : List UInt8)
theorem r93_23 {r : AV} (h : X93_23 (semCall C Tryd.prog) (semRun C Tryd.prog 93 Tryd.f93) a0 a1 a2 a3 a4 a5 a6 a7 a8 a9 a10 a11 a12 a13 a14 a15 a16 a17 a18 a19 a20 = some r) : F93_23 (semRun C Tryd.prog 93 Tryd.f93) a0 a1 a2 a3 a4 a5 a6 a7 a8 a9 a10 a11 a12 a13 a14 a15 a16 a17 a18 a19 a20 = some r :=
  semRun_unr 400 ((text93_23 _ _ a0 a1 a2 a3 a4 a5 a6 a7 a8 a9 a10 a11 a12 a13 a14 a15 a16 a17 a18 a19 a20).trans h)
end
section
variable (a0 a1 a2 a3 : UInt8) (a4 : Bool) (a5 a6 a7 a8 : UInt8) (a9 : Bool) (a10 : UInt8) (a11 : List UInt8) (a12 a13 : UInt8) (a14 : Bool) (a15 a16 a17 a18 : UInt8) (a19 : Bool) (a20 : UInt8) (a21 : List UInt8)
theorem r93_24 {r : AV} (h : X93_24 (semCall C Tryd.prog) (semRun C Tryd.prog 93 Tryd.f93) a0 a1 a2 a3 a4 a5 a6 a7 a8 a9 a10 a11 a12 a13 a14 a15 a16 a17 a18 a19 a20 a21 = some r) : F93_24 (semRun C Tryd.prog 93 Tryd.f93) a0 a1 a2 a3 a4 a5 a6 a7 a8 a9 a10 a11 a12 a13 a14 a15 a16 a17 a18 a19 a20 a21 = some r :=
  semRun_unr 400 ((text93_24 _ _ a0 a1 a2 a3 a4 a5 a6 a7 a8 a9 a10 a11 a12 a13 a14 a15 a16 a17 a18 a19 a20 a21).trans h)
end
end R4

namespace R4
open Go Go.Proofs Sx
noncomputable def body94 : Code := (Tryd.f94.body).getD .skip
section
variable (run : RunT) (a0 : List UInt8) (a1 a2 : Int) (a3 a4 a5 a6 a7 a8 a9 a10 a11 a12 : AV) (a13 a14 : UInt8) (a15 : Bool) (a16 a17 a18 a19 : UInt8) (a20 : Bool) (a21 : UInt8) (a22 : List UInt8)
noncomputable def K94_5 : List Item := (kAt 5 body94 []).getD []
def S94_5 : St := St.ofL [(1, .cell (.val (.s a0))), (3, .cell (.ptr 3 0)), (6, .cell (.ptr 6 0)), (19, .cell (.val (.int a1))), (20, .cell (.val (.int a2)))] [(3, some [.val (a3), .val (a4), .val (a5), .val (a6), .val (a7), .val (a8), .val (a9), .val (a10), .val (a11), .val (a12)]), (6, some [.val (.u8 a13), .val (.u8 a14), .val (.b a15), .val (.u8 a16), .val (.u8 a17), .val (.u8 a18), .val (.u8 a19), .val (.b a20), .val (.u8 a21), .val (.s a22)])]
noncomputable def F94_5 : Option AV := run K94_5 (S94_5 a0 a1 a2 a3 a4 a5 a6 a7 a8 a9 a10 a11 a12 a13 a14 a15 a16 a17 a18 a19 a20 a21 a22)
end
noncomputable def X94 (call : CallT) (run : RunT) (a0 a1 : UInt8) (a2 : Bool) (a3 a4 a5 a6 : UInt8) (a7 : Bool) (a8 : UInt8) (a9 a10 : List UInt8) (a11 : Bool) : Option AV :=
  (selW (.b (!a11)) false ((call 99 [.ag [.u8 17, .u8 a1, .b a2, .u8 a3, .u8 a4, .u8 a5, .u8 a6, .b a7, .u8 a8, .s []]]).bind fun v1 => (unop .not (v1)).bind fun v2 => some (v2)) (.b true)).bind fun v3 => condM (v3)
  (some (.ag [.u8 17, .u8 a1, .b a2, .u8 a3, .u8 a4, .u8 a5, .u8 a6, .b a7, .u8 a8, .s []]))
  (F94_5 run a10 ((a10.length : Int)) 0 (.u8 17) (.u8 a1) (.b a2) (.u8 a3) (.u8 a4) (.u8 a5) (.u8 a6) (.b a7) (.u8 a8) (.s []) 0 0 false 0 0 0 0 false 0 [])
section
variable (call : CallT) (run : RunT) (a0 a1 : UInt8) (a2 : Bool) (a3 a4 a5 a6 : UInt8) (a7 : Bool) (a8 : UInt8) (a9 a10 : List UInt8) (a11 : Bool)
theorem text94 : unr C call run 94 Tryd.f94 400 [.code body94] (initF C 94 Tryd.f94.ntmps [.ag [.u8 a0, .u8 a1, .b a2, .u8 a3, .u8 a4, .u8 a5, .u8 a6, .b a7, .u8 a8, .s a9], .s a10, .b a11]) = X94 call run a0 a1 a2 a3 a4 a5 a6 a7 a8 a9 a10 a11 := by
  kernel_rfl
theorem c94 {r : AV} (h : X94 (semCall C Tryd.prog) (semRun C Tryd.prog 94 Tryd.f94) a0 a1 a2 a3 a4 a5 a6 a7 a8 a9 a10 a11 = some r) : semCall C Tryd.prog 94 [.ag [.u8 a0, .u8 a1, .b a2, .u8 a3, .u8 a4, .u8 a5, .u8 a6, .b a7, .u8 a8, .s a9], .s a10, .b a11] = some r :=
  semCall_unr (fn := Tryd.f94) (c := body94) (by kernel_rfl) (by kernel_rfl) 400 (by kernel_rfl) ((text94 _ _ a0 a1 a2 a3 a4 a5 a6 a7 a8 a9 a10 a11).trans h)
end
noncomputable def X94_5 (call : CallT) (run : RunT) (a0 : List UInt8) (a1 a2 : Int) (a3 a4 a5 a6 a7 a8 a9 a10 a11 a12 : AV) (a13 a14 : UInt8) (a15 : Bool) (a16 a17 a18 a19 : UInt8) (a20 : Bool) (a21 : UInt8) (a22 : List UInt8) : Option AV :=
  condM (.b (decide (a2 < a1)))
  ((idxS (.s a0) (.int a2)).bind fun v1 => (binI .eql (a4) (.u8 3)).bind fun v2 => (call 93 [.ag [a3, a4, a5, a6, a7, a8, a9, a10, a11, a12], v1, v2]).bind fun v3 => (AV.asAg 10 (v3)).bind fun v4 => (binI .eql (v4.getD 0 .un) (.u8 20)).bind fun v5 => condM (v5)
  (some (.ag [.u8 20, .u8 0, .b false, .u8 0, .u8 0, .u8 0, .u8 0, .b false, .u8 0, .s []]))
  (F94_5 run a0 a1 (w64 (a2 + 1)) (v4.getD 0 .un) (v4.getD 1 .un) (v4.getD 2 .un) (v4.getD 3 .un) (v4.getD 4 .un) (v4.getD 5 .un) (v4.getD 6 .un) (v4.getD 7 .un) (v4.getD 8 .un) (v4.getD 9 .un) a13 a14 a15 a16 a17 a18 a19 a20 a21 a22))
  (some (.ag [a3, a4, a5, a6, a7, a8, a9, a10, a11, a12]))
section
variable (call : CallT) (run : RunT) (a0 : List UInt8) (a1 a2 : Int) (a3 a4 a5 a6 a7 a8 a9 a10 a11 a12 : AV) (a13 a14 : UInt8) (a15 : Bool) (a16 a17 a18 a19 : UInt8) (a20 : Bool) (a21 : UInt8) (a22 : List UInt8)
theorem text94_5 : step C call 94 Tryd.f94 (unr C call run 94 Tryd.f94 400) K94_5 (S94_5 a0 a1 a2 a3 a4 a5 a6 a7 a8 a9 a10 a11 a12 a13 a14 a15 a16 a17 a18 a19 a20 a21 a22) = X94_5 call run a0 a1 a2 a3 a4 a5 a6 a7 a8 a9 a10 a11 a12 a13 a14 a15 a16 a17 a18 a19 a20 a21 a22 := by
  kernel_rfl
end
section
variable (a0 : List UInt8) (a1 a2 : Int) (a3 a4 a5 a6 a7 a8 a9 a10 a11 a12 : AV) (a13 a14 : UInt8) (a15 : Bool) (a16 a17 a18 a19 : UInt8) (a20 : Bool) (a21 : UInt8) (a22 : List UInt8)
theorem r94_5 {r : AV} (h : X94_5 (semCall C Tryd.prog) (semRun C Tryd.prog 94 Tryd.f94) a0 a1 a2 a3 a4 a5 a6 a7 a8 a9 a10 a11 a12 a13 a14 a15 a16 a17 a18 a19 a20 a21 a22 = some r) : F94_5 (semRun C Tryd.prog 94 Tryd.f94) a0 a1 a2 a3 a4 a5 a6 a7 a8 a9 a10 a11 a12 a13 a14 a15 a16 a17 a18 a19 a20 a21 a22 = some r :=
  semRun_unr 400 ((text94_5 _ _ a0 a1 a2 a3 a4 a5 a6 a7 a8 a9 a10 a11 a12 a13 a14 a15 a16 a17 a18 a19 a20 a21 a22).trans h)
end
end R4

namespace R4
open Go Go.Proofs Sx
noncomputable def body97 : Code := (Tryd.f97.body).getD .skip
noncomputable def X97 (call : CallT) (run : RunT) (a0 : List UInt8) (a1 : UInt8) : Option AV :=
  (call 100 [.s a0, .u8 a1]).bind fun v1 => some (v1)
section
variable (call : CallT) (run : RunT) (a0 : List UInt8) (a1 : UInt8)
theorem text97 : unr C call run 97 Tryd.f97 400 [.code body97] (initF C 97 Tryd.f97.ntmps [.s a0, .u8 a1]) = X97 call run a0 a1 := by
  kernel_rfl
theorem c97 {r : AV} (h : X97 (semCall C Tryd.prog) (semRun C Tryd.prog 97 Tryd.f97) a0 a1 = some r) : semCall C Tryd.prog 97 [.s a0, .u8 a1] = some r :=
  semCall_unr (fn := Tryd.f97) (c := body97) (by kernel_rfl) (by kernel_rfl) 400 (by kernel_rfl) ((text97 _ _ a0 a1).trans h)
end
end R4

namespace R4
open Go Go.Proofs Sx
noncomputable def body98 : Code := (Tryd.f98.body).getD .skip
section
variable (run : RunT) (a0 a1 : UInt8) (a2 : Bool) (a3 a4 a5 a6 : UInt8) (a7 : Bool) (a8 : UInt8) (a9 : List UInt8) (a10 a11 : UInt8) (a12 : Bool) (a13 a14 a15 a16 : UInt8) (a17 : Bool) (a18 : UInt8) (a19 : List UInt8)
noncomputable def K98_9 : List Item := (kAt 9 body98 []).getD []
def S98_9 : St := St.ofL [(2, .cell (.ptr 2 0)), (4, .cell (.ptr 4 0))] [(2, some [.val (.u8 a0), .val (.u8 a1), .val (.b a2), .val (.u8 a3), .val (.u8 a4), .val (.u8 a5), .val (.u8 a6), .val (.b a7), .val (.u8 a8), .val (.s a9)]), (4, some [.val (.u8 a10), .val (.u8 a11), .val (.b a12), .val (.u8 a13), .val (.u8 a14), .val (.u8 a15), .val (.u8 a16), .val (.b a17), .val (.u8 a18), .val (.s a19)])]
noncomputable def F98_9 : Option AV := run K98_9 (S98_9 a0 a1 a2 a3 a4 a5 a6 a7 a8 a9 a10 a11 a12 a13 a14 a15 a16 a17 a18 a19)
end
noncomputable def X98 (call : CallT) (run : RunT) (a0 a1 : UInt8) (a2 : Bool) (a3 a4 a5 a6 : UInt8) (a7 : Bool) (a8 : UInt8) (a9 : List UInt8) (a10 : UInt8) : Option AV :=
  condM (.b a7)
  (F98_9 run a0 a1 a2 a3 a4 a5 a6 false a8 a9 0 0 false 0 0 0 0 false 0 [])
  (condM (.b (ueq a10 92))
  (F98_9 run a0 a1 a2 a3 a4 a5 a6 true a8 a9 0 0 false 0 0 0 0 false 0 [])
  ((selW (.b (ueq a10 10)) false (some (.b (ueq a10 13))) (.b true)).bind fun v1 => condM (v1)
  (some (.ag [.u8 20, .u8 0, .b false, .u8 0, .u8 0, .u8 0, .u8 0, .b false, .u8 0, .s []]))
  ((selW (.b (ueq a10 34)) true (some (.b (ueq a6 1))) (.b false)).bind fun v2 => (selW (v2) false ((selW (.b (ueq a10 39)) true (some (.b (ueq a6 2))) (.b false)).bind fun v3 => some (v3)) (.b true)).bind fun v4 => condM (v4)
  (F98_9 run a0 a1 a2 a3 a4 a5 0 a7 a8 a9 0 0 false 0 0 0 0 false 0 [])
  (F98_9 run a0 a1 a2 a3 a4 a5 a6 a7 a8 a9 0 0 false 0 0 0 0 false 0 []))))
section
variable (call : CallT) (run : RunT) (a0 a1 : UInt8) (a2 : Bool) (a3 a4 a5 a6 : UInt8) (a7 : Bool) (a8 : UInt8) (a9 : List UInt8) (a10 : UInt8)
theorem text98 : unr C call run 98 Tryd.f98 400 [.code body98] (initF C 98 Tryd.f98.ntmps [.ag [.u8 a0, .u8 a1, .b a2, .u8 a3, .u8 a4, .u8 a5, .u8 a6, .b a7, .u8 a8, .s a9], .u8 a10]) = X98 call run a0 a1 a2 a3 a4 a5 a6 a7 a8 a9 a10 := by
  kernel_rfl
theorem c98 {r : AV} (h : X98 (semCall C Tryd.prog) (semRun C Tryd.prog 98 Tryd.f98) a0 a1 a2 a3 a4 a5 a6 a7 a8 a9 a10 = some r) : semCall C Tryd.prog 98 [.ag [.u8 a0, .u8 a1, .b a2, .u8 a3, .u8 a4, .u8 a5, .u8 a6, .b a7, .u8 a8, .s a9], .u8 a10] = some r :=
  semCall_unr (fn := Tryd.f98) (c := body98) (by kernel_rfl) (by kernel_rfl) 400 (by kernel_rfl) ((text98 _ _ a0 a1 a2 a3 a4 a5 a6 a7 a8 a9 a10).trans h)
end
noncomputable def X98_9 (call : CallT) (run : RunT) (a0 a1 : UInt8) (a2 : Bool) (a3 a4 a5 a6 : UInt8) (a7 : Bool) (a8 : UInt8) (a9 : List UInt8) (a10 a11 : UInt8) (a12 : Bool) (a13 a14 a15 a16 : UInt8) (a17 : Bool) (a18 : UInt8) (a19 : List UInt8) : Option AV :=
  some (.ag [.u8 a0, .u8 a1, .b a2, .u8 a3, .u8 a4, .u8 a5, .u8 a6, .b a7, .u8 a8, .s a9])
section
variable (call : CallT) (run : RunT) (a0 a1 : UInt8) (a2 : Bool) (a3 a4 a5 a6 : UInt8) (a7 : Bool) (a8 : UInt8) (a9 : List UInt8) (a10 a11 : UInt8) (a12 : Bool) (a13 a14 a15 a16 : UInt8) (a17 : Bool) (a18 : UInt8) (a19 : List UInt8)
theorem text98_9 : step C call 98 Tryd.f98 (unr C call run 98 Tryd.f98 400) K98_9 (S98_9 a0 a1 a2 a3 a4 a5 a6 a7 a8 a9 a10 a11 a12 a13 a14 a15 a16 a17 a18 a19) = X98_9 call run a0 a1 a2 a3 a4 a5 a6 a7 a8 a9 a10 a11 a12 a13 a14 a15 a16 a17 a18 a19 := by
  kernel_rfl
end
section
variable (a0 a1 : UInt8) (a2 : Bool) (a3 a4 a5 a6 : UInt8) (a7 : Bool) (a8 : UInt8) (a9 : List UInt8) (a10 a11 : UInt8) (a12 : Bool) (a13 a14 a15 a16 : UInt8) (a17 : Bool) (a18 : UInt8) (a19 : List UInt8)
theorem r98_9 {r : AV} (h : X98_9 (semCall C Tryd.prog) (semRun C Tryd.prog 98 Tryd.f98) a0 a1 a2 a3 a4 a5 a6 a7 a8 a9 a10 a11 a12 a13 a14 a15 a16 a17 a18 a19 = some r) : F98_9 (semRun C Tryd.prog 98 Tryd.f98) a0 a1 a2 a3 a4 a5 a6 a7 a8 a9 a10 a11 a12 a13 a14 a15 a16 a17 a18 a19 = some r :=
  semRun_unr 400 ((text98_9 _ _ a0 a1 a2 a3 a4 a5 a6 a7 a8 a9 a10 a11 a12 a13 a14 a15 a16 a17 a18 a19).trans h)
end
end R4

namespace R4
open Go Go.Proofs Sx
noncomputable def body32 : Code := (Tryd.f32.body).getD .skip
noncomputable def X32 (call : CallT) (run : RunT)  : Option AV :=
  some (.ag [.u8 20, .u8 0, .b false, .u8 0, .u8 0, .u8 0, .u8 0, .b false, .u8 0, .s []])
section
variable (call : CallT) (run : RunT) 
theorem text32 : unr C call run 32 Tryd.f32 400 [.code body32] (initF C 32 Tryd.f32.ntmps []) = X32 call run  := by
  kernel_rfl
theorem c32 {r : AV} (h : X32 (semCall C Tryd.prog) (semRun C Tryd.prog 32 Tryd.f32)  = some r) : semCall C Tryd.prog 32 [] = some r :=
  semCall_unr (fn := Tryd.f32) (c := body32) (by kernel_rfl) (by kernel_rfl) 400 (by kernel_rfl) ((text32 _ _ ).trans h)
end
end R4

namespace R4
open Go Go.Proofs Sx
noncomputable def body36 : Code := (Tryd.f36.body).getD .skip
noncomputable def X36 (call : CallT) (run : RunT) (a0 : UInt8) : Option AV :=
  (selW (.b (ueq a0 32)) false (some (.b (ueq a0 9))) (.b true)).bind fun v1 => (selW (v1) false (some (.b (ueq a0 10))) (.b true)).bind fun v2 => (selW (v2) false (some (.b (ueq a0 12))) (.b true)).bind fun v3 => (selW (v3) false (some (.b (ueq a0 13))) (.b true)).bind fun v4 => some (v4)
section
variable (call : CallT) (run : RunT) (a0 : UInt8)
theorem text36 : unr C call run 36 Tryd.f36 400 [.code body36] (initF C 36 Tryd.f36.ntmps [.u8 a0]) = X36 call run a0 := by
  kernel_rfl
theorem c36 {r : AV} (h : X36 (semCall C Tryd.prog) (semRun C Tryd.prog 36 Tryd.f36) a0 = some r) : semCall C Tryd.prog 36 [.u8 a0] = some r :=
  semCall_unr (fn := Tryd.f36) (c := body36) (by kernel_rfl) (by kernel_rfl) 400 (by kernel_rfl) ((text36 _ _ a0).trans h)
end
end R4

namespace R4
open Go Go.Proofs Sx
noncomputable def body37 : Code := (Tryd.f37.body).getD .skip
section
variable (run : RunT) (a0 : AV)
noncomputable def K37_3 : List Item := (kAt 3 body37 []).getD []
def S37_3 : St := St.ofL [(0, .cell (.val (a0)))] []
noncomputable def F37_3 : Option AV := run K37_3 (S37_3 a0)
end
noncomputable def X37 (call : CallT) (run : RunT) (a0 : UInt8) : Option AV :=
  (selW (.b (uge a0 65)) true (some (.b (ule a0 90))) (.b false)).bind fun v1 => condM (v1)
  ((binI .add (.u8 a0) (.u8 32)).bind fun v2 => F37_3 run (v2))
  (F37_3 run (.u8 a0))
section
variable (call : CallT) (run : RunT) (a0 : UInt8)
theorem text37 : unr C call run 37 Tryd.f37 400 [.code body37] (initF C 37 Tryd.f37.ntmps [.u8 a0]) = X37 call run a0 := by
  kernel_rfl
theorem c37 {r : AV} (h : X37 (semCall C Tryd.prog) (semRun C Tryd.prog 37 Tryd.f37) a0 = some r) : semCall C Tryd.prog 37 [.u8 a0] = some r :=
  semCall_unr (fn := Tryd.f37) (c := body37) (by kernel_rfl) (by kernel_rfl) 400 (by kernel_rfl) ((text37 _ _ a0).trans h)
end
noncomputable def X37_3 (call : CallT) (run : RunT) (a0 : AV) : Option AV :=
  (AV.one (a0)).bind fun v1 => (b2s (.ro 1 (([v1] : List AV)))).bind fun v2 => some (v2)
section
variable (call : CallT) (run : RunT) (a0 : AV)
theorem text37_3 : step C call 37 Tryd.f37 (unr C call run 37 Tryd.f37 400) K37_3 (S37_3 a0) = X37_3 call run a0 := by
  kernel_rfl
end
section
variable (a0 : AV)
theorem r37_3 {r : AV} (h : X37_3 (semCall C Tryd.prog) (semRun C Tryd.prog 37 Tryd.f37) a0 = some r) : F37_3 (semRun C Tryd.prog 37 Tryd.f37) a0 = some r :=
  semRun_unr 400 ((text37_3 _ _ a0).trans h)
end
end R4

namespace R4
open Go Go.Proofs Sx
noncomputable def body53 : Code := (Tryd.f53.body).getD .skip
noncomputable def X53 (call : CallT) (run : RunT) (a0 : Int) : Option AV :=
  (conv .u8 (.int a0)).bind fun v1 => (AV.one (v1)).bind fun v2 => some (.ag [v2, .u8 0, .b false, .u8 0, .u8 0, .u8 0, .u8 0, .b false, .u8 0, .s []])
section
variable (call : CallT) (run : RunT) (a0 : Int)
theorem text53 : unr C call run 53 Tryd.f53 400 [.code body53] (initF C 53 Tryd.f53.ntmps [.int a0]) = X53 call run a0 := by
  kernel_rfl
theorem c53 {r : AV} (h : X53 (semCall C Tryd.prog) (semRun C Tryd.prog 53 Tryd.f53) a0 = some r) : semCall C Tryd.prog 53 [.int a0] = some r :=
  semCall_unr (fn := Tryd.f53) (c := body53) (by kernel_rfl) (by kernel_rfl) 400 (by kernel_rfl) ((text53 _ _ a0).trans h)
end
end R4

namespace R4
open Go Go.Proofs Sx
noncomputable def body54 : Code := (Tryd.f54.body).getD .skip
noncomputable def X54 (call : CallT) (run : RunT) (a0 : UInt8) : Option AV :=
  (selW (.b (uge a0 97)) true (some (.b (ule a0 122))) (.b false)).bind fun v1 => (selW (v1) false ((selW (.b (uge a0 65)) true (some (.b (ule a0 90))) (.b false)).bind fun v2 => some (v2)) (.b true)).bind fun v3 => some (v3)
section
variable (call : CallT) (run : RunT) (a0 : UInt8)
theorem text54 : unr C call run 54 Tryd.f54 400 [.code body54] (initF C 54 Tryd.f54.ntmps [.u8 a0]) = X54 call run a0 := by
  kernel_rfl
theorem c54 {r : AV} (h : X54 (semCall C Tryd.prog) (semRun C Tryd.prog 54 Tryd.f54) a0 = some r) : semCall C Tryd.prog 54 [.u8 a0] = some r :=
  semCall_unr (fn := Tryd.f54) (c := body54) (by kernel_rfl) (by kernel_rfl) 400 (by kernel_rfl) ((text54 _ _ a0).trans h)
end
end R4

namespace R4
open Go Go.Proofs Sx
noncomputable def body56 : Code := (Tryd.f56.body).getD .skip
noncomputable def X56 (call : CallT) (run : RunT) (a0 a1 : UInt8) (a2 : Bool) (a3 a4 a5 a6 : UInt8) (a7 : Bool) (a8 : UInt8) (a9 : List UInt8) (a10 : UInt8) : Option AV :=
  condM (.b (decide (((a9.length : Int)) ≥ 32)))
  ((call 32 []).bind fun v1 => (AV.asAg 10 (v1)).bind fun v2 => some (.ag [v2.getD 0 .un, v2.getD 1 .un, v2.getD 2 .un, v2.getD 3 .un, v2.getD 4 .un, v2.getD 5 .un, v2.getD 6 .un, v2.getD 7 .un, v2.getD 8 .un, v2.getD 9 .un]))
  ((call 37 [.u8 a10]).bind fun v3 => (binS .add (.s a9) (v3)).bind fun v4 => (AV.one (v4)).bind fun v5 => some (.ag [.u8 a0, .u8 a1, .b a2, .u8 a3, .u8 a4, .u8 a5, .u8 a6, .b a7, .u8 a8, v5]))
section
variable (call : CallT) (run : RunT) (a0 a1 : UInt8) (a2 : Bool) (a3 a4 a5 a6 : UInt8) (a7 : Bool) (a8 : UInt8) (a9 : List UInt8) (a10 : UInt8)
theorem text56 : unr C call run 56 Tryd.f56 400 [.code body56] (initF C 56 Tryd.f56.ntmps [.ag [.u8 a0, .u8 a1, .b a2, .u8 a3, .u8 a4, .u8 a5, .u8 a6, .b a7, .u8 a8, .s a9], .u8 a10]) = X56 call run a0 a1 a2 a3 a4 a5 a6 a7 a8 a9 a10 := by
  kernel_rfl
theorem c56 {r : AV} (h : X56 (semCall C Tryd.prog) (semRun C Tryd.prog 56 Tryd.f56) a0 a1 a2 a3 a4 a5 a6 a7 a8 a9 a10 = some r) : semCall C Tryd.prog 56 [.ag [.u8 a0, .u8 a1, .b a2, .u8 a3, .u8 a4, .u8 a5, .u8 a6, .b a7, .u8 a8, .s a9], .u8 a10] = some r :=
  semCall_unr (fn := Tryd.f56) (c := body56) (by kernel_rfl) (by kernel_rfl) 400 (by kernel_rfl) ((text56 _ _ a0 a1 a2 a3 a4 a5 a6 a7 a8 a9 a10).trans h)
end
end R4

namespace R4
open Go Go.Proofs Sx
noncomputable def body57 : Code := (Tryd.f57.body).getD .skip
noncomputable def X57 (call : CallT) (run : RunT) (a0 a1 : UInt8) (a2 : Bool) (a3 a4 a5 a6 : UInt8) (a7 : Bool) (a8 : UInt8) (a9 : List UInt8) : Option AV :=
  condM (.b (ueq a1 0))
  ((call 53 [.int 0]).bind fun v1 => (AV.asAg 10 (v1)).bind fun v2 => some (.ag [v2.getD 0 .un, v2.getD 1 .un, v2.getD 2 .un, v2.getD 3 .un, v2.getD 4 .un, v2.getD 5 .un, v2.getD 6 .un, v2.getD 7 .un, v2.getD 8 .un, v2.getD 9 .un]))
  (some (.ag [.u8 17, .u8 a1, .b false, .u8 0, .u8 0, .u8 0, .u8 0, .b false, .u8 0, .s []]))
section
variable (call : CallT) (run : RunT) (a0 a1 : UInt8) (a2 : Bool) (a3 a4 a5 a6 : UInt8) (a7 : Bool) (a8 : UInt8) (a9 : List UInt8)
theorem text57 : unr C call run 57 Tryd.f57 400 [.code body57] (initF C 57 Tryd.f57.ntmps [.ag [.u8 a0, .u8 a1, .b a2, .u8 a3, .u8 a4, .u8 a5, .u8 a6, .b a7, .u8 a8, .s a9]]) = X57 call run a0 a1 a2 a3 a4 a5 a6 a7 a8 a9 := by
  kernel_rfl
theorem c57 {r : AV} (h : X57 (semCall C Tryd.prog) (semRun C Tryd.prog 57 Tryd.f57) a0 a1 a2 a3 a4 a5 a6 a7 a8 a9 = some r) : semCall C Tryd.prog 57 [.ag [.u8 a0, .u8 a1, .b a2, .u8 a3, .u8 a4, .u8 a5, .u8 a6, .b a7, .u8 a8, .s a9]] = some r :=
  semCall_unr (fn := Tryd.f57) (c := body57) (by kernel_rfl) (by kernel_rfl) 400 (by kernel_rfl) ((text57 _ _ a0 a1 a2 a3 a4 a5 a6 a7 a8 a9).trans h)
end
end R4

namespace R4
open Go Go.Proofs Sx
noncomputable def body75 : Code := (Tryd.f75.body).getD .skip
section
variable (run : RunT) (a0 a1 : UInt8) (a2 : Bool) (a3 a4 a5 a6 : UInt8) (a7 : Bool) (a8 : UInt8) (a9 : List UInt8) (a10 a11 : UInt8) (a12 : Bool) (a13 a14 a15 a16 : UInt8) (a17 : Bool) (a18 : UInt8) (a19 : List UInt8)
noncomputable def K75_21 : List Item := (kAt 21 body75 []).getD []
def S75_21 : St := St.ofL [(4, .cell (.ptr 4 0)), (5, .cell (.ptr 5 0))] [(4, some [.val (.u8 a0), .val (.u8 a1), .val (.b a2), .val (.u8 a3), .val (.u8 a4), .val (.u8 a5), .val (.u8 a6), .val (.b a7), .val (.u8 a8), .val (.s a9)]), (5, some [.val (.u8 a10), .val (.u8 a11), .val (.b a12), .val (.u8 a13), .val (.u8 a14), .val (.u8 a15), .val (.u8 a16), .val (.b a17), .val (.u8 a18), .val (.s a19)])]
noncomputable def F75_21 : Option AV := run K75_21 (S75_21 a0 a1 a2 a3 a4 a5 a6 a7 a8 a9 a10 a11 a12 a13 a14 a15 a16 a17 a18 a19)
end
section
variable (run : RunT) (a0 a1 : UInt8) (a2 : Bool) (a3 a4 a5 a6 : UInt8) (a7 : Bool) (a8 : UInt8) (a9 : AV) (a10 a11 : UInt8) (a12 : Bool) (a13 a14 a15 a16 : UInt8) (a17 : Bool) (a18 : UInt8) (a19 : List UInt8)
noncomputable def K75_27 : List Item := (kAt 27 body75 []).getD []
def S75_27 : St := St.ofL [(2, .cell (.ptr 2 0)), (4, .cell (.ptr 4 0))] [(2, some [.val (.u8 a0), .val (.u8 a1), .val (.b a2), .val (.u8 a3), .val (.u8 a4), .val (.u8 a5), .val (.u8 a6), .val (.b a7), .val (.u8 a8), .val (a9)]), (4, some [.val (.u8 a10), .val (.u8 a11), .val (.b a12), .val (.u8 a13), .val (.u8 a14), .val (.u8 a15), .val (.u8 a16), .val (.b a17), .val (.u8 a18), .val (.s a19)])]
noncomputable def F75_27 : Option AV := run K75_27 (S75_27 a0 a1 a2 a3 a4 a5 a6 a7 a8 a9 a10 a11 a12 a13 a14 a15 a16 a17 a18 a19)
end
noncomputable def X75 (call : CallT) (run : RunT) (a0 a1 : UInt8) (a2 : Bool) (a3 a4 a5 a6 : UInt8) (a7 : Bool) (a8 : UInt8) (a9 : List UInt8) (a10 : UInt8) : Option AV :=
  condM (.b (uge a5 4))
  (some (.ag [.u8 a0, .u8 a1, .b a2, .u8 a3, .u8 a4, .u8 a5, .u8 a6, .b a7, .u8 a8, .s a9]))
  (condM (.b (ueq a10 38))
  ((call 32 []).bind fun v1 => (AV.asAg 10 (v1)).bind fun v2 => some (.ag [v2.getD 0 .un, v2.getD 1 .un, v2.getD 2 .un, v2.getD 3 .un, v2.getD 4 .un, v2.getD 5 .un, v2.getD 6 .un, v2.getD 7 .un, v2.getD 8 .un, v2.getD 9 .un]))
  ((selW (.b (ueq a10 63)) false (some (.b (ueq a10 35))) (.b true)).bind fun v3 => condM (v3)
  (some (.ag [.u8 a0, .u8 a1, .b a2, .u8 a3, .u8 a4, .u8 4, .u8 a6, .b a7, .u8 a8, .s []]))
  (condM (.b (ueq a5 3))
  (some (.ag [.u8 a0, .u8 a1, .b a2, .u8 a3, .u8 a4, .u8 a5, .u8 a6, .b a7, .u8 a8, .s a9]))
  (condM (.b (ueq a10 47))
  (some (.ag [.u8 a0, .u8 a1, .b a2, .u8 a3, .u8 a4, .u8 3, .u8 a6, .b a7, .u8 a8, .s []]))
  (condM (.b (ueq a10 58))
  (condM (.b (ueq a5 2))
  ((call 32 []).bind fun v4 => (AV.asAg 10 (v4)).bind fun v5 => some (.ag [v5.getD 0 .un, v5.getD 1 .un, v5.getD 2 .un, v5.getD 3 .un, v5.getD 4 .un, v5.getD 5 .un, v5.getD 6 .un, v5.getD 7 .un, v5.getD 8 .un, v5.getD 9 .un]))
  ((selW (.b (a9 == [104, 116, 116, 112])) false (some (.b (a9 == [104, 116, 116, 112, 115]))) (.b true)).bind fun v6 => (selW (v6) false (some (.b (a9 == [109, 97, 105, 108, 116, 111]))) (.b true)).bind fun v7 => condM (v7)
  (F75_21 run 0 0 false 0 0 0 0 false 0 [] a0 a1 a2 a3 a4 3 a6 a7 a8 [])
  (F75_21 run 0 0 false 0 0 0 0 false 0 [] a0 a1 a2 a3 a4 5 a6 a7 a8 [])))
  (condM (.b (ueq a5 2))
  (some (.ag [.u8 a0, .u8 a1, .b a2, .u8 a3, .u8 a4, .u8 a5, .u8 a6, .b a7, .u8 a8, .s a9]))
  (condM (.b (decide (((a9.length : Int)) < 16)))
  ((call 37 [.u8 a10]).bind fun v8 => (binS .add (.s a9) (v8)).bind fun v9 => (AV.one (v9)).bind fun v10 => F75_27 run a0 a1 a2 a3 a4 1 a6 a7 a8 (v10) 0 0 false 0 0 0 0 false 0 [])
  (F75_27 run a0 a1 a2 a3 a4 1 a6 a7 a8 (.s a9) 0 0 false 0 0 0 0 false 0 []))))))))
section
variable (call : CallT) (run : RunT) (a0 a1 : UInt8) (a2 : Bool) (a3 a4 a5 a6 : UInt8) (a7 : Bool) (a8 : UInt8) (a9 : List UInt8) (a10 : UInt8)
theorem text75 : unr C call run 75 Tryd.f75 400 [.code body75] (initF C 75 Tryd.f75.ntmps [.ag [.u8 a0, .u8 a1, .b a2, .u8 a3, .u8 a4, .u8 a5, .u8 a6, .b a7, .u8 a8, .s a9], .u8 a10]) = X75 call run a0 a1 a2 a3 a4 a5 a6 a7 a8 a9 a10 := by
  kernel_rfl
theorem c75 {r : AV} (h : X75 (semCall C Tryd.prog) (semRun C Tryd.prog 75 Tryd.f75) a0 a1 a2 a3 a4 a5 a6 a7 a8 a9 a10 = some r) : semCall C Tryd.prog 75 [.ag [.u8 a0, .u8 a1, .b a2, .u8 a3, .u8 a4, .u8 a5, .u8 a6, .b a7, .u8 a8, .s a9], .u8 a10] = some r :=
  semCall_unr (fn := Tryd.f75) (c := body75) (by kernel_rfl) (by kernel_rfl) 400 (by kernel_rfl) ((text75 _ _ a0 a1 a2 a3 a4 a5 a6 a7 a8 a9 a10).trans h)
end
noncomputable def X75_21 (call : CallT) (run : RunT) (a0 a1 : UInt8) (a2 : Bool) (a3 a4 a5 a6 : UInt8) (a7 : Bool) (a8 : UInt8) (a9 : List UInt8) (a10 a11 : UInt8) (a12 : Bool) (a13 a14 a15 a16 : UInt8) (a17 : Bool) (a18 : UInt8) (a19 : List UInt8) : Option AV :=
  some (.ag [.u8 a10, .u8 a11, .b a12, .u8 a13, .u8 a14, .u8 a15, .u8 a16, .b a17, .u8 a18, .s a19])
section
variable (call : CallT) (run : RunT) (a0 a1 : UInt8) (a2 : Bool) (a3 a4 a5 a6 : UInt8) (a7 : Bool) (a8 : UInt8) (a9 : List UInt8) (a10 a11 : UInt8) (a12 : Bool) (a13 a14 a15 a16 : UInt8) (a17 : Bool) (a18 : UInt8) (a19 : List UInt8)
theorem text75_21 : step C call 75 Tryd.f75 (unr C call run 75 Tryd.f75 400) K75_21 (S75_21 a0 a1 a2 a3 a4 a5 a6 a7 a8 a9 a10 a11 a12 a13 a14 a15 a16 a17 a18 a19) = X75_21 call run a0 a1 a2 a3 a4 a5 a6 a7 a8 a9 a10 a11 a12 a13 a14 a15 a16 a17 a18 a19 := by
  kernel_rfl
end
noncomputable def X75_27 (call : CallT) (run : RunT) (a0 a1 : UInt8) (a2 : Bool) (a3 a4 a5 a6 : UInt8) (a7 : Bool) (a8 : UInt8) (a9 : AV) (a10 a11 : UInt8) (a12 : Bool) (a13 a14 a15 a16 : UInt8) (a17 : Bool) (a18 : UInt8) (a19 : List UInt8) : Option AV :=
  some (.ag [.u8 a0, .u8 a1, .b a2, .u8 a3, .u8 a4, .u8 a5, .u8 a6, .b a7, .u8 a8, a9])
section
variable (call : CallT) (run : RunT) (a0 a1 : UInt8) (a2 : Bool) (a3 a4 a5 a6 : UInt8) (a7 : Bool) (a8 : UInt8) (a9 : AV) (a10 a11 : UInt8) (a12 : Bool) (a13 a14 a15 a16 : UInt8) (a17 : Bool) (a18 : UInt8) (a19 : List UInt8)
theorem text75_27 : step C call 75 Tryd.f75 (unr C call run 75 Tryd.f75 400) K75_27 (S75_27 a0 a1 a2 a3 a4 a5 a6 a7 a8 a9 a10 a11 a12 a13 a14 a15 a16 a17 a18 a19) = X75_27 call run a0 a1 a2 a3 a4 a5 a6 a7 a8 a9 a10 a11 a12 a13 a14 a15 a16 a17 a18 a19 := by
  kernel_rfl
end
section
variable (a0 a1 : UInt8) (a2 : Bool) (a3 a4 a5 a6 : UInt8) (a7 : Bool) (a8 : UInt8) (a9 : List UInt8) (a10 a11 : UInt8) (a12 : Bool) (a13 a14 a15 a16 : UInt8) (a17 : Bool) (a18 : UInt8) (a19 : List UInt8)
theorem r75_21 {r : AV} (h : X75_21 (semCall C Tryd.prog) (semRun C Tryd.prog 75 Tryd.f75) a0 a1 a2 a3 a4 a5 a6 a7 a8 a9 a10 a11 a12 a13 a14 a15 a16 a17 a18 a19 = some r) : F75_21 (semRun C Tryd.prog 75 Tryd.f75) a0 a1 a2 a3 a4 a5 a6 a7 a8 a9 a10 a11 a12 a13 a14 a15 a16 a17 a18 a19 = some r :=
  semRun_unr 400 ((text75_21 _ _ a0 a1 a2 a3 a4 a5 a6 a7 a8 a9 a10 a11 a12 a13 a14 a15 a16 a17 a18 a19).trans h)
end
section
variable (a0 a1 : UInt8) (a2 : Bool) (a3 a4 a5 a6 : UInt8) (a7 : Bool) (a8 : UInt8) (a9 : AV) (a10 a11 : UInt8) (a12 : Bool) (a13 a14 a15 a16 : UInt8) (a17 : Bool) (a18 : UInt8) (a19 : List UInt8)
theorem r75_27 {r : AV} (h : X75_27 (semCall C Tryd.prog) (semRun C Tryd.prog 75 Tryd.f75) a0 a1 a2 a3 a4 a5 a6 a7 a8 a9 a10 a11 a12 a13 a14 a15 a16 a17 a18 a19 = some r) : F75_27 (semRun C Tryd.prog 75 Tryd.f75) a0 a1 a2 a3 a4 a5 a6 a7 a8 a9 a10 a11 a12 a13 a14 a15 a16 a17 a18 a19 = some r :=
  semRun_unr 400 ((text75_27 _ _ a0 a1 a2 a3 a4 a5 a6 a7 a8 a9 a10 a11 a12 a13 a14 a15 a16 a17 a18 a19).trans h)
end
end R4

namespace R4
open Go Go.Proofs Sx
noncomputable def body76 : Code := (Tryd.f76.body).getD .skip
section
variable (run : RunT) (a0 a1 a2 : UInt8) (a3 : Bool) (a4 a5 a6 a7 : UInt8) (a8 : Bool) (a9 : UInt8) (a10 : List UInt8) (a11 a12 : UInt8) (a13 : Bool) (a14 a15 a16 a17 : UInt8) (a18 : Bool) (a19 : UInt8) (a20 : List UInt8)
noncomputable def K76_8 : List Item := (kAt 8 body76 []).getD []
def S76_8 : St := St.ofL [(1, .cell (.val (.u8 a0))), (3, .cell (.ptr 3 0)), (6, .cell (.ptr 6 0))] [(3, some [.val (.u8 a1), .val (.u8 a2), .val (.b a3), .val (.u8 a4), .val (.u8 a5), .val (.u8 a6), .val (.u8 a7), .val (.b a8), .val (.u8 a9), .val (.s a10)]), (6, some [.val (.u8 a11), .val (.u8 a12), .val (.b a13), .val (.u8 a14), .val (.u8 a15), .val (.u8 a16), .val (.u8 a17), .val (.b a18), .val (.u8 a19), .val (.s a20)])]
noncomputable def F76_8 : Option AV := run K76_8 (S76_8 a0 a1 a2 a3 a4 a5 a6 a7 a8 a9 a10 a11 a12 a13 a14 a15 a16 a17 a18 a19 a20)
end
section
variable (run : RunT) (a0 : UInt8) (a1 : Int) (a2 a3 : UInt8) (a4 : Bool) (a5 a6 a7 a8 : UInt8) (a9 : Bool) (a10 : UInt8) (a11 : List UInt8) (a12 a13 : UInt8) (a14 : Bool) (a15 a16 a17 a18 : UInt8) (a19 : Bool) (a20 : UInt8) (a21 : List UInt8)
noncomputable def K76_14 : List Item := (kAt 14 body76 []).getD []
def S76_14 : St := St.ofL [(1, .cell (.val (.u8 a0))), (3, .cell (.ptr 3 0)), (6, .cell (.ptr 6 0)), (7, .cell (.val (.int a1)))] [(3, some [.val (.u8 a2), .val (.u8 a3), .val (.b a4), .val (.u8 a5), .val (.u8 a6), .val (.u8 a7), .val (.u8 a8), .val (.b a9), .val (.u8 a10), .val (.s a11)]), (6, some [.val (.u8 a12), .val (.u8 a13), .val (.b a14), .val (.u8 a15), .val (.u8 a16), .val (.u8 a17), .val (.u8 a18), .val (.b a19), .val (.u8 a20), .val (.s a21)])]
noncomputable def F76_14 : Option AV := run K76_14 (S76_14 a0 a1 a2 a3 a4 a5 a6 a7 a8 a9 a10 a11 a12 a13 a14 a15 a16 a17 a18 a19 a20 a21)
end
section
variable (run : RunT) (a0 : UInt8) (a1 : Bool) (a2 : Int) (a3 a4 : UInt8) (a5 : Bool) (a6 a7 a8 a9 : UInt8) (a10 : Bool) (a11 : UInt8) (a12 : List UInt8) (a13 a14 : UInt8) (a15 : Bool) (a16 a17 a18 a19 : UInt8) (a20 : Bool) (a21 : UInt8) (a22 : List UInt8)
noncomputable def K76_23 : List Item := (kAt 23 body76 []).getD []
def S76_23 : St := St.ofL [(1, .cell (.val (.u8 a0))), (2, .cell (.val (.b a1))), (3, .cell (.ptr 3 0)), (6, .cell (.ptr 6 0)), (11, .cell (.val (.int a2)))] [(3, some [.val (.u8 a3), .val (.u8 a4), .val (.b a5), .val (.u8 a6), .val (.u8 a7), .val (.u8 a8), .val (.u8 a9), .val (.b a10), .val (.u8 a11), .val (.s a12)]), (6, some [.val (.u8 a13), .val (.u8 a14), .val (.b a15), .val (.u8 a16), .val (.u8 a17), .val (.u8 a18), .val (.u8 a19), .val (.b a20), .val (.u8 a21), .val (.s a22)])]
noncomputable def F76_23 : Option AV := run K76_23 (S76_23 a0 a1 a2 a3 a4 a5 a6 a7 a8 a9 a10 a11 a12 a13 a14 a15 a16 a17 a18 a19 a20 a21 a22)
end
section
variable (run : RunT) (a0 a1 a2 : UInt8) (a3 : Bool) (a4 a5 a6 a7 : UInt8) (a8 : Bool) (a9 : UInt8) (a10 : List UInt8) (a11 a12 : UInt8) (a13 : Bool) (a14 a15 a16 a17 : UInt8) (a18 : Bool) (a19 : UInt8) (a20 : List UInt8)
noncomputable def K76_10 : List Item := (kAt 10 body76 []).getD []
def S76_10 : St := St.ofL [(1, .cell (.val (.u8 a0))), (3, .cell (.ptr 3 0)), (6, .cell (.ptr 6 0))] [(3, some [.val (.u8 a1), .val (.u8 a2), .val (.b a3), .val (.u8 a4), .val (.u8 a5), .val (.u8 a6), .val (.u8 a7), .val (.b a8), .val (.u8 a9), .val (.s a10)]), (6, some [.val (.u8 a11), .val (.u8 a12), .val (.b a13), .val (.u8 a14), .val (.u8 a15), .val (.u8 a16), .val (.u8 a17), .val (.b a18), .val (.u8 a19), .val (.s a20)])]
noncomputable def F76_10 : Option AV := run K76_10 (S76_10 a0 a1 a2 a3 a4 a5 a6 a7 a8 a9 a10 a11 a12 a13 a14 a15 a16 a17 a18 a19 a20)
end
section
variable (run : RunT) (a0 : UInt8) (a1 : Int) (a2 a3 : UInt8) (a4 : Bool) (a5 a6 a7 a8 : UInt8) (a9 : Bool) (a10 : UInt8) (a11 : List UInt8) (a12 a13 : UInt8) (a14 : Bool) (a15 a16 a17 a18 : UInt8) (a19 : Bool) (a20 : UInt8) (a21 : List UInt8)
noncomputable def K76_19 : List Item := (kAt 19 body76 []).getD []
def S76_19 : St := St.ofL [(1, .cell (.val (.u8 a0))), (3, .cell (.ptr 3 0)), (6, .cell (.ptr 6 0)), (7, .cell (.val (.int a1)))] [(3, some [.val (.u8 a2), .val (.u8 a3), .val (.b a4), .val (.u8 a5), .val (.u8 a6), .val (.u8 a7), .val (.u8 a8), .val (.b a9), .val (.u8 a10), .val (.s a11)]), (6, some [.val (.u8 a12), .val (.u8 a13), .val (.b a14), .val (.u8 a15), .val (.u8 a16), .val (.u8 a17), .val (.u8 a18), .val (.b a19), .val (.u8 a20), .val (.s a21)])]
noncomputable def F76_19 : Option AV := run K76_19 (S76_19 a0 a1 a2 a3 a4 a5 a6 a7 a8 a9 a10 a11 a12 a13 a14 a15 a16 a17 a18 a19 a20 a21)
end
section
variable (run : RunT) (a0 a1 : UInt8) (a2 : Bool) (a3 a4 a5 a6 : UInt8) (a7 : Bool) (a8 : UInt8) (a9 : List UInt8) (a10 a11 : UInt8) (a12 : Bool) (a13 a14 a15 a16 : UInt8) (a17 : Bool) (a18 : UInt8) (a19 : List UInt8)
noncomputable def K76_45 : List Item := (kAt 45 body76 []).getD []
def S76_45 : St := St.ofL [(3, .cell (.ptr 3 0)), (6, .cell (.ptr 6 0))] [(3, some [.val (.u8 a0), .val (.u8 a1), .val (.b a2), .val (.u8 a3), .val (.u8 a4), .val (.u8 a5), .val (.u8 a6), .val (.b a7), .val (.u8 a8), .val (.s a9)]), (6, some [.val (.u8 a10), .val (.u8 a11), .val (.b a12), .val (.u8 a13), .val (.u8 a14), .val (.u8 a15), .val (.u8 a16), .val (.b a17), .val (.u8 a18), .val (.s a19)])]
noncomputable def F76_45 : Option AV := run K76_45 (S76_45 a0 a1 a2 a3 a4 a5 a6 a7 a8 a9 a10 a11 a12 a13 a14 a15 a16 a17 a18 a19)
end
noncomputable def X76 (call : CallT) (run : RunT) (a0 a1 : UInt8) (a2 : Bool) (a3 a4 a5 a6 : UInt8) (a7 : Bool) (a8 : UInt8) (a9 : List UInt8) (a10 : UInt8) (a11 : Bool) : Option AV :=
  condM (.b ((w64 (a6.toNat : Int)) == 0))
  ((selW (.b a11) true (some (.b (ueq a10 96))) (.b false)).bind fun v1 => (selW (v1) false ((selW (.b (!a11)) true ((selW (.b (ueq a10 40)) false (some (.b (ueq a10 92))) (.b true)).bind fun v2 => some (v2)) (.b false)).bind fun v3 => some (v3)) (.b true)).bind fun v4 => condM (v4)
  ((call 32 []).bind fun v5 => (AV.asAg 10 (v5)).bind fun v6 => some (.ag [v6.getD 0 .un, v6.getD 1 .un, v6.getD 2 .un, v6.getD 3 .un, v6.getD 4 .un, v6.getD 5 .un, v6.getD 6 .un, v6.getD 7 .un, v6.getD 8 .un, v6.getD 9 .un]))
  (condM (.b (ueq a10 34))
  (F76_8 run a10 a0 a1 a2 a3 a4 a5 1 a7 a8 a9 0 0 false 0 0 0 0 false 0 [])
  (F76_8 run a10 a0 a1 a2 a3 a4 a5 a6 a7 a8 a9 0 0 false 0 0 0 0 false 0 [])))
  (condM (.b ((w64 (a6.toNat : Int)) == 1))
  (F76_14 run a10 (w64 (a6.toNat : Int)) a0 a1 a2 a3 a4 a5 a6 a7 a8 a9 0 0 false 0 0 0 0 false 0 [])
  (condM (.b ((w64 (a6.toNat : Int)) == 2))
  (F76_14 run a10 (w64 (a6.toNat : Int)) a0 a1 a2 a3 a4 a5 a6 a7 a8 a9 0 0 false 0 0 0 0 false 0 [])
  (F76_23 run a10 a11 (w64 (a6.toNat : Int)) a0 a1 a2 a3 a4 a5 a6 a7 a8 a9 0 0 false 0 0 0 0 false 0 [])))
section
variable (call : CallT) (run : RunT) (a0 a1 : UInt8) (a2 : Bool) (a3 a4 a5 a6 : UInt8) (a7 : Bool) (a8 : UInt8) (a9 : List UInt8) (a10 : UInt8) (a11 : Bool)
theorem text76 : unr C call run 76 Tryd.f76 400 [.code body76] (initF C 76 Tryd.f76.ntmps [.ag [.u8 a0, .u8 a1, .b a2, .u8 a3, .u8 a4, .u8 a5, .u8 a6, .b a7, .u8 a8, .s a9], .u8 a10, .b a11]) = X76 call run a0 a1 a2 a3 a4 a5 a6 a7 a8 a9 a10 a11 := by
  kernel_rfl
theorem c76 {r : AV} (h : X76 (semCall C Tryd.prog) (semRun C Tryd.prog 76 Tryd.f76) a0 a1 a2 a3 a4 a5 a6 a7 a8 a9 a10 a11 = some r) : semCall C Tryd.prog 76 [.ag [.u8 a0, .u8 a1, .b a2, .u8 a3, .u8 a4, .u8 a5, .u8 a6, .b a7, .u8 a8, .s a9], .u8 a10, .b a11] = some r :=
  semCall_unr (fn := Tryd.f76) (c := body76) (by kernel_rfl) (by kernel_rfl) 400 (by kernel_rfl) ((text76 _ _ a0 a1 a2 a3 a4 a5 a6 a7 a8 a9 a10 a11).trans h)
end
noncomputable def X76_8 (call : CallT) (run : RunT) (a0 a1 a2 : UInt8) (a3 : Bool) (a4 a5 a6 a7 : UInt8) (a8 : Bool) (a9 : UInt8) (a10 : List UInt8) (a11 a12 : UInt8) (a13 : Bool) (a14 a15 a16 a17 : UInt8) (a18 : Bool) (a19 : UInt8) (a20 : List UInt8) : Option AV :=
  condM (.b (ueq a0 39))
  (F76_10 run a0 a1 a2 a3 a4 a5 a6 2 a8 a9 a10 a11 a12 a13 a14 a15 a16 a17 a18 a19 a20)
  (F76_10 run a0 a1 a2 a3 a4 a5 a6 a7 a8 a9 a10 a11 a12 a13 a14 a15 a16 a17 a18 a19 a20)
section
variable (call : CallT) (run : RunT) (a0 a1 a2 : UInt8) (a3 : Bool) (a4 a5 a6 a7 : UInt8) (a8 : Bool) (a9 : UInt8) (a10 : List UInt8) (a11 a12 : UInt8) (a13 : Bool) (a14 a15 a16 a17 : UInt8) (a18 : Bool) (a19 : UInt8) (a20 : List UInt8)
theorem text76_8 : step C call 76 Tryd.f76 (unr C call run 76 Tryd.f76 400) K76_8 (S76_8 a0 a1 a2 a3 a4 a5 a6 a7 a8 a9 a10 a11 a12 a13 a14 a15 a16 a17 a18 a19 a20) = X76_8 call run a0 a1 a2 a3 a4 a5 a6 a7 a8 a9 a10 a11 a12 a13 a14 a15 a16 a17 a18 a19 a20 := by
  kernel_rfl
end
noncomputable def X76_14 (call : CallT) (run : RunT) (a0 : UInt8) (a1 : Int) (a2 a3 : UInt8) (a4 : Bool) (a5 a6 a7 a8 : UInt8) (a9 : Bool) (a10 : UInt8) (a11 : List UInt8) (a12 a13 : UInt8) (a14 : Bool) (a15 a16 a17 a18 : UInt8) (a19 : Bool) (a20 : UInt8) (a21 : List UInt8) : Option AV :=
  condM (.b a9)
  (some (.ag [.u8 a2, .u8 a3, .b a4, .u8 a5, .u8 a6, .u8 a7, .u8 a8, .b false, .u8 a10, .s a11]))
  (condM (.b (ueq a0 92))
  (F76_19 run a0 a1 a2 a3 a4 a5 a6 a7 a8 true a10 a11 a12 a13 a14 a15 a16 a17 a18 a19 a20 a21)
  (F76_19 run a0 a1 a2 a3 a4 a5 a6 a7 a8 a9 a10 a11 a12 a13 a14 a15 a16 a17 a18 a19 a20 a21))
section
variable (call : CallT) (run : RunT) (a0 : UInt8) (a1 : Int) (a2 a3 : UInt8) (a4 : Bool) (a5 a6 a7 a8 : UInt8) (a9 : Bool) (a10 : UInt8) (a11 : List UInt8) (a12 a13 : UInt8) (a14 : Bool) (a15 a16 a17 a18 : UInt8) (a19 : Bool) (a20 : UInt8) (a21 : List UInt8)
theorem text76_14 : step C call 76 Tryd.f76 (unr C call run 76 Tryd.f76 400) K76_14 (S76_14 a0 a1 a2 a3 a4 a5 a6 a7 a8 a9 a10 a11 a12 a13 a14 a15 a16 a17 a18 a19 a20 a21) = X76_14 call run a0 a1 a2 a3 a4 a5 a6 a7 a8 a9 a10 a11 a12 a13 a14 a15 a16 a17 a18 a19 a20 a21 := by
  kernel_rfl
end
noncomputable def X76_23 (call : CallT) (run : RunT) (a0 : UInt8) (a1 : Bool) (a2 : Int) (a3 a4 : UInt8) (a5 : Bool) (a6 a7 a8 a9 : UInt8) (a10 : Bool) (a11 : UInt8) (a12 : List UInt8) (a13 a14 : UInt8) (a15 : Bool) (a16 a17 a18 a19 : UInt8) (a20 : Bool) (a21 : UInt8) (a22 : List UInt8) : Option AV :=
  condM (.b (a2 == 3))
  (condM (.b (ueq a0 42))
  (some (.ag [.u8 a3, .u8 a4, .b a5, .u8 a6, .u8 a7, .u8 a8, .u8 5, .b a10, .u8 a11, .s a12]))
  ((selW (.b a1) true (some (.b (ueq a0 47))) (.b false)).bind fun v1 => condM (v1)
  (some (.ag [.u8 a3, .u8 a4, .b a5, .u8 a6, .u8 a7, .u8 a8, .u8 4, .b a10, .u8 a11, .s a12]))
  (condM (.b a1)
  ((call 32 []).bind fun v2 => (AV.asAg 10 (v2)).bind fun v3 => some (.ag [v3.getD 0 .un, v3.getD 1 .un, v3.getD 2 .un, v3.getD 3 .un, v3.getD 4 .un, v3.getD 5 .un, v3.getD 6 .un, v3.getD 7 .un, v3.getD 8 .un, v3.getD 9 .un]))
  ((call 76 [.ag [.u8 a3, .u8 a4, .b a5, .u8 a6, .u8 a7, .u8 a8, .u8 0, .b a10, .u8 a11, .s a12], .u8 a0, .b a1]).bind fun v4 => (AV.asAg 10 (v4)).bind fun v5 => some (.ag [v5.getD 0 .un, v5.getD 1 .un, v5.getD 2 .un, v5.getD 3 .un, v5.getD 4 .un, v5.getD 5 .un, v5.getD 6 .un, v5.getD 7 .un, v5.getD 8 .un, v5.getD 9 .un])))))
  (condM (.b (a2 == 4))
  ((selW (.b (ueq a0 10)) false (some (.b (ueq a0 13))) (.b true)).bind fun v6 => condM (v6)
  (F76_45 run a3 a4 a5 a6 a7 a8 0 a10 a11 a12 a13 a14 a15 a16 a17 a18 a19 a20 a21 a22)
  (F76_45 run a3 a4 a5 a6 a7 a8 a9 a10 a11 a12 a13 a14 a15 a16 a17 a18 a19 a20 a21 a22))
  (condM (.b (a2 == 5))
  (condM (.b (ueq a0 42))
  (F76_45 run a3 a4 a5 a6 a7 a8 6 a10 a11 a12 a13 a14 a15 a16 a17 a18 a19 a20 a21 a22)
  (F76_45 run a3 a4 a5 a6 a7 a8 a9 a10 a11 a12 a13 a14 a15 a16 a17 a18 a19 a20 a21 a22))
  (condM (.b (a2 == 6))
  (condM (.b (ueq a0 47))
  (F76_45 run a3 a4 a5 a6 a7 a8 0 a10 a11 a12 a13 a14 a15 a16 a17 a18 a19 a20 a21 a22)
  (condM (.b (une a0 42))
  (F76_45 run a3 a4 a5 a6 a7 a8 5 a10 a11 a12 a13 a14 a15 a16 a17 a18 a19 a20 a21 a22)
  (F76_45 run a3 a4 a5 a6 a7 a8 a9 a10 a11 a12 a13 a14 a15 a16 a17 a18 a19 a20 a21 a22)))
  (F76_45 run a3 a4 a5 a6 a7 a8 a9 a10 a11 a12 a13 a14 a15 a16 a17 a18 a19 a20 a21 a22))))
section
variable (call : CallT) (run : RunT) (a0 : UInt8) (a1 : Bool) (a2 : Int) (a3 a4 : UInt8) (a5 : Bool) (a6 a7 a8 a9 : UInt8) (a10 : Bool) (a11 : UInt8) (a12 : List UInt8) (a13 a14 : UInt8) (a15 : Bool) (a16 a17 a18 a19 : UInt8) (a20 : Bool) (a21 : UInt8) (a22 : List UInt8)
theorem text76_23 : step C call 76 Tryd.f76 (unr C call run 76 Tryd.f76 400) K76_23 (S76_23 a0 a1 a2 a3 a4 a5 a6 a7 a8 a9 a10 a11 a12 a13 a14 a15 a16 a17 a18 a19 a20 a21 a22) = X76_23 call run a0 a1 a2 a3 a4 a5 a6 a7 a8 a9 a10 a11 a12 a13 a14 a15 a16 a17 a18 a19 a20 a21 a22 := by
  kernel_rfl
end
noncomputable def X76_10 (call : CallT) (run : RunT) (a0 a1 a2 : UInt8) (a3 : Bool) (a4 a5 a6 a7 : UInt8) (a8 : Bool) (a9 : UInt8) (a10 : List UInt8) (a11 a12 : UInt8) (a13 : Bool) (a14 a15 a16 a17 : UInt8) (a18 : Bool) (a19 : UInt8) (a20 : List UInt8) : Option AV :=
  condM (.b (ueq a0 47))
  (F76_45 run a1 a2 a3 a4 a5 a6 3 a8 a9 a10 a11 a12 a13 a14 a15 a16 a17 a18 a19 a20)
  (F76_45 run a1 a2 a3 a4 a5 a6 a7 a8 a9 a10 a11 a12 a13 a14 a15 a16 a17 a18 a19 a20)
section
variable (call : CallT) (run : RunT) (a0 a1 a2 : UInt8) (a3 : Bool) (a4 a5 a6 a7 : UInt8) (a8 : Bool) (a9 : UInt8) (a10 : List UInt8) (a11 a12 : UInt8) (a13 : Bool) (a14 a15 a16 a17 : UInt8) (a18 : Bool) (a19 : UInt8) (a20 : List UInt8)
theorem text76_10 : step C call 76 Tryd.f76 (unr C call run 76 Tryd.f76 400) K76_10 (S76_10 a0 a1 a2 a3 a4 a5 a6 a7 a8 a9 a10 a11 a12 a13 a14 a15 a16 a17 a18 a19 a20) = X76_10 call run a0 a1 a2 a3 a4 a5 a6 a7 a8 a9 a10 a11 a12 a13 a14 a15 a16 a17 a18 a19 a20 := by
  kernel_rfl
end
noncomputable def X76_19 (call : CallT) (run : RunT) (a0 : UInt8) (a1 : Int) (a2 a3 : UInt8) (a4 : Bool) (a5 a6 a7 a8 : UInt8) (a9 : Bool) (a10 : UInt8) (a11 : List UInt8) (a12 a13 : UInt8) (a14 : Bool) (a15 a16 a17 a18 : UInt8) (a19 : Bool) (a20 : UInt8) (a21 : List UInt8) : Option AV :=
  (selW (.b (ueq a0 10)) false (some (.b (ueq a0 13))) (.b true)).bind fun v1 => condM (v1)
  ((call 32 []).bind fun v2 => (AV.asAg 10 (v2)).bind fun v3 => some (.ag [v3.getD 0 .un, v3.getD 1 .un, v3.getD 2 .un, v3.getD 3 .un, v3.getD 4 .un, v3.getD 5 .un, v3.getD 6 .un, v3.getD 7 .un, v3.getD 8 .un, v3.getD 9 .un]))
  ((selW (.b (a1 == 1)) true (some (.b (ueq a0 34))) (.b false)).bind fun v4 => (selW (v4) false ((selW (.b (a1 == 2)) true (some (.b (ueq a0 39))) (.b false)).bind fun v5 => some (v5)) (.b true)).bind fun v6 => condM (v6)
  (F76_45 run a2 a3 a4 a5 a6 a7 0 a9 a10 a11 a12 a13 a14 a15 a16 a17 a18 a19 a20 a21)
  (F76_45 run a2 a3 a4 a5 a6 a7 a8 a9 a10 a11 a12 a13 a14 a15 a16 a17 a18 a19 a20 a21))
section
variable (call : CallT) (run : RunT) (a0 : UInt8) (a1 : Int) (a2 a3 : UInt8) (a4 : Bool) (a5 a6 a7 a8 : UInt8) (a9 : Bool) (a10 : UInt8) (a11 : List UInt8) (a12 a13 : UInt8) (a14 : Bool) (a15 a16 a17 a18 : UInt8) (a19 : Bool) (a20 : UInt8) (a21 : List UInt8)
theorem text76_19 : step C call 76 Tryd.f76 (unr C call run 76 Tryd.f76 400) K76_19 (S76_19 a0 a1 a2 a3 a4 a5 a6 a7 a8 a9 a10 a11 a12 a13 a14 a15 a16 a17 a18 a19 a20 a21) = X76_19 call run a0 a1 a2 a3 a4 a5 a6 a7 a8 a9 a10 a11 a12 a13 a14 a15 a16 a17 a18 a19 a20 a21 := by
  kernel_rfl
end
noncomputable def X76_45 (call : CallT) (run : RunT) (a0 a1 : UInt8) (a2 : Bool) (a3 a4 a5 a6 : UInt8) (a7 : Bool) (a8 : UInt8) (a9 : List UInt8) (a10 a11 : UInt8) (a12 : Bool) (a13 a14 a15 a16 : UInt8) (a17 : Bool) (a18 : UInt8) (a19 : List UInt8) : Option AV :=
  some (.ag [.u8 a0, .u8 a1, .b a2, .u8 a3, .u8 a4, .u8 a5, .u8 a6, .b a7, .u8 a8, .s a9])
section
variable (call : CallT) (run : RunT) (a0 a1 : UInt8) (a2 : Bool) (a3 a4 a5 a6 : UInt8) (a7 : Bool) (a8 : UInt8) (a9 : List UInt8) (a10 a11 : UInt8) (a12 : Bool) (a13 a14 a15 a16 : UInt8) (a17 : Bool) (a18 : UInt8) (a19 : List UInt8)
theorem text76_45 : step C call 76 Tryd.f76 (unr C call run 76 Tryd.f76 400) K76_45 (S76_45 a0 a1 a2 a3 a4 a5 a6 a7 a8 a9 a10 a11 a12 a13 a14 a15 a16 a17 a18 a19) = X76_45 call run a0 a1 a2 a3 a4 a5 a6 a7 a8 a9 a10 a11 a12 a13 a14 a15 a16 a17 a18 a19 := by
  kernel_rfl
end
section
variable (a0 a1 a2 : UInt8) (a3 : Bool) (a4 a5 a6 a7 : UInt8) (a8 : Bool) (a9 : UInt8) (a10 : List UInt8) (a11 a12 : UInt8) (a13 : Bool) (a14 a15 a16 a17 : UInt8) (a18 : Bool) (a19 : UInt8) (a20 : List UInt8)
theorem r76_8 {r : AV} (h : X76_8 (semCall C Tryd.prog) (semRun C Tryd.prog 76 Tryd.f76) a0 a1 a2 a3 a4 a5 a6 a7 a8 a9 a10 a11 a12 a13 a14 a15 a16 a17 a18 a19 a20 = some r) : F76_8 (semRun C Tryd.prog 76 Tryd.f76) a0 a1 a2 a3 a4 a5 a6 a7 a8 a9 a10 a11 a12 a13 a14 a15 a16 a17 a18 a19 a20 = some r :=
  semRun_unr 400 ((text76_8 _ _ a0 a1 a2 a3 a4 a5 a6 a7 a8 a9 a10 a11 a12 a13 a14 a15 a16 a17 a18 a19 a20).trans h)
end
section
variable (a0 : UInt8) (a1 : Int) (a2 a3 : UInt8) (a4 : Bool) (a5 a6 a7 a8 : UInt8) (a9 : Bool) (a10 : UInt8) (a11 : List UInt8) (a12 a13 : UInt8) (a14 : Bool) (a15 a16 a17 a18 : UInt8) (a19 : Bool) (a20 : UInt8) (a21 : List UInt8)
theorem r76_14 {r : AV} (h : X76_14 (semCall C Tryd.prog) (semRun C Tryd.prog 76 Tryd.f76) a0 a1 a2 a3 a4 a5 a6 a7 a8 a9 a10 a11 a12 a13 a14 a15 a16 a17 a18 a19 a20 a21 = some r) : F76_14 (semRun C Tryd.prog 76 Tryd.f76) a0 a1 a2 a3 a4 a5 a6 a7 a8 a9 a10 a11 a12 a13 a14 a15 a16 a17 a18 a19 a20 a21 = some r :=
  semRun_unr 400 ((text76_14 _ _ a0 a1 a2 a3 a4 a5 a6 a7 a8 a9 a10 a11 a12 a13 a14 a15 a16 a17 a18 a19 a20 a21).trans h)
end
section
variable (a0 : UInt8) (a1 : Bool) (a2 : Int) (a3 a4 : UInt8) (a5 : Bool) (a6 a7 a8 a9 : UInt8) (a10 : Bool) (a11 : UInt8) (a12 : List UInt8) (a13 a14 : UInt8) (a15 : Bool) (a16 a17 a18 a19 : UInt8) (a20 : Bool) (a21 : UInt8) (a22 : List UInt8)
theorem r76_23 {r : AV} (h : X76_23 (semCall C Tryd.prog) (semRun C Tryd.prog 76 Tryd.f76) a0 a1 a2 a3 a4 a5 a6 a7 a8 a9 a10 a11 a12 a13 a14 a15 a16 a17 a18 a19 a20 a21 a22 = some r) : F76_23 (semRun C Tryd.prog 76 Tryd.f76) a0 a1 a2 a3 a4 a5 a6 a7 a8 a9 a10 a11 a12 a13 a14 a15 a16 a17 a18 a19 a20 a21 a22 = some r :=
  semRun_unr 400 ((text76_23 _ _ a0 a1 a2 a3 a4 a5 a6 a7 a8 a9 a10 a11 a12 a13 a14 a15 a16 a17 a18 a19 a20 a21 a22).trans h)
end
section
variable (a0 a1 a2 : UInt8) (a3 : Bool) (a4 a5 a6 a7 : UInt8) (a8 : Bool) (a9 : UInt8) (a10 : List UInt8) (a11 a12 : UInt8) (a13 : Bool) (a14 a15 a16 a17 : UInt8) (a18 : Bool) (a19 : UInt8) (a20 : List UInt8)
theorem r76_10 {r : AV} (h : X76_10 (semCall C Tryd.prog) (semRun C Tryd.prog 76 Tryd.f76) a0 a1 a2 a3 a4 a5 a6 a7 a8 a9 a10 a11 a12 a13 a14 a15 a16 a17 a18 a19 a20 = some r) : F76_10 (semRun C Tryd.prog 76 Tryd.f76) a0 a1 a2 a3 a4 a5 a6 a7 a8 a9 a10 a11 a12 a13 a14 a15 a16 a17 a18 a19 a20 = some r :=
  semRun_unr 400 ((text76_10 _ _ a0 a1 a2 a3 a4 a5 a6 a7 a8 a9 a10 a11 a12 a13 a14 a15 a16 a17 a18 a19 a20).trans h)
end
section
variable (a0 : UInt8) (a1 : Int) (a2 a3 : UInt8) (a4 : Bool) (a5 a6 a7 a8 : UInt8) (a9 : Bool) (a10 : UInt8) (a11 : List UInt8) (a12 a13 : UInt8) (a14 : Bool) (a15 a16 a17 a18 : UInt8) (a19 : Bool) (a20 : UInt8) (a21 : List UInt8)
theorem r76_19 {r : AV} (h : X76_19 (semCall C Tryd.prog) (semRun C Tryd.prog 76 Tryd.f76) a0 a1 a2 a3 a4 a5 a6 a7 a8 a9 a10 a11 a12 a13 a14 a15 a16 a17 a18 a19 a20 a21 = some r) : F76_19 (semRun C Tryd.prog 76 Tryd.f76) a0 a1 a2 a3 a4 a5 a6 a7 a8 a9 a10 a11 a12 a13 a14 a15 a16 a17 a18 a19 a20 a21 = some r :=
  semRun_unr 400 ((text76_19 _ _ a0 a1 a2 a3 a4 a5 a6 a7 a8 a9 a10 a11 a12 a13 a14 a15 a16 a17 a18 a19 a20 a21).trans h)
end
section
variable (a0 a1 : UInt8) (a2 : Bool) (a3 a4 a5 a6 : UInt8) (a7 : Bool) (a8 : UInt8) (a9 : List UInt8) (a10 a11 : UInt8) (a12 : Bool) (a13 a14 a15 a16 : UInt8) (a17 : Bool) (a18 : UInt8) (a19 : List UInt8)
theorem r76_45 {r : AV} (h : X76_45 (semCall C Tryd.prog) (semRun C Tryd.prog 76 Tryd.f76) a0 a1 a2 a3 a4 a5 a6 a7 a8 a9 a10 a11 a12 a13 a14 a15 a16 a17 a18 a19 = some r) : F76_45 (semRun C Tryd.prog 76 Tryd.f76) a0 a1 a2 a3 a4 a5 a6 a7 a8 a9 a10 a11 a12 a13 a14 a15 a16 a17 a18 a19 = some r :=
  semRun_unr 400 ((text76_45 _ _ a0 a1 a2 a3 a4 a5 a6 a7 a8 a9 a10 a11 a12 a13 a14 a15 a16 a17 a18 a19).trans h)
end
end R4

namespace R4
open Go Go.Proofs Sx
noncomputable def body34 : Code := (Tryd.f34.body).getD .skip
section
variable (run : RunT) (a0 a1 a2 : UInt8) (a3 : Bool) (a4 a5 a6 a7 : UInt8) (a8 : Bool) (a9 : UInt8) (a10 : List UInt8) (a11 : UInt8) (a12 : AV) (a13 : Bool) (a14 a15 a16 a17 : UInt8) (a18 : Bool) (a19 : UInt8) (a20 : List UInt8)
noncomputable def K34_27 : List Item := (kAt 27 body34 []).getD []
def S34_27 : St := St.ofL [(1, .cell (.val (.u8 a0))), (4, .cell (.ptr 4 0)), (5, .cell (.ptr 5 0))] [(4, some [.val (.u8 a1), .val (.u8 a2), .val (.b a3), .val (.u8 a4), .val (.u8 a5), .val (.u8 a6), .val (.u8 a7), .val (.b a8), .val (.u8 a9), .val (.s a10)]), (5, some [.val (.u8 a11), .val (a12), .val (.b a13), .val (.u8 a14), .val (.u8 a15), .val (.u8 a16), .val (.u8 a17), .val (.b a18), .val (.u8 a19), .val (.s a20)])]
noncomputable def F34_27 : Option AV := run K34_27 (S34_27 a0 a1 a2 a3 a4 a5 a6 a7 a8 a9 a10 a11 a12 a13 a14 a15 a16 a17 a18 a19 a20)
end
section
variable (run : RunT) (a0 a1 a2 : UInt8) (a3 : Bool) (a4 a5 a6 a7 : UInt8) (a8 : Bool) (a9 : UInt8) (a10 : List UInt8) (a11 a12 : UInt8) (a13 : Bool) (a14 a15 a16 a17 : UInt8) (a18 : Bool) (a19 : UInt8) (a20 : List UInt8) (a21 a22 : UInt8) (a23 : Bool) (a24 a25 a26 a27 : UInt8) (a28 : Bool) (a29 : UInt8) (a30 : List UInt8)
noncomputable def K34_57 : List Item := (kAt 57 body34 []).getD []
def S34_57 : St := St.ofL [(1, .cell (.val (.u8 a0))), (2, .cell (.ptr 2 0)), (4, .cell (.ptr 4 0)), (5, .cell (.ptr 5 0))] [(2, some [.val (.u8 a1), .val (.u8 a2), .val (.b a3), .val (.u8 a4), .val (.u8 a5), .val (.u8 a6), .val (.u8 a7), .val (.b a8), .val (.u8 a9), .val (.s a10)]), (4, some [.val (.u8 a11), .val (.u8 a12), .val (.b a13), .val (.u8 a14), .val (.u8 a15), .val (.u8 a16), .val (.u8 a17), .val (.b a18), .val (.u8 a19), .val (.s a20)]), (5, some [.val (.u8 a21), .val (.u8 a22), .val (.b a23), .val (.u8 a24), .val (.u8 a25), .val (.u8 a26), .val (.u8 a27), .val (.b a28), .val (.u8 a29), .val (.s a30)])]
noncomputable def F34_57 : Option AV := run K34_57 (S34_57 a0 a1 a2 a3 a4 a5 a6 a7 a8 a9 a10 a11 a12 a13 a14 a15 a16 a17 a18 a19 a20 a21 a22 a23 a24 a25 a26 a27 a28 a29 a30)
end
section
variable (run : RunT) (a0 : UInt8) (a1 : Int) (a2 a3 : UInt8) (a4 : Bool) (a5 a6 a7 a8 : UInt8) (a9 : Bool) (a10 : UInt8) (a11 : List UInt8) (a12 a13 : UInt8) (a14 : Bool) (a15 a16 a17 a18 : UInt8) (a19 : Bool) (a20 : UInt8) (a21 : List UInt8) (a22 a23 : UInt8) (a24 : Bool) (a25 a26 a27 a28 : UInt8) (a29 : Bool) (a30 : UInt8) (a31 : List UInt8)
noncomputable def K34_58 : List Item := (kAt 58 body34 []).getD []
def S34_58 : St := St.ofL [(1, .cell (.val (.u8 a0))), (2, .cell (.ptr 2 0)), (4, .cell (.ptr 4 0)), (5, .cell (.ptr 5 0)), (13, .cell (.val (.int a1)))] [(2, some [.val (.u8 a2), .val (.u8 a3), .val (.b a4), .val (.u8 a5), .val (.u8 a6), .val (.u8 a7), .val (.u8 a8), .val (.b a9), .val (.u8 a10), .val (.s a11)]), (4, some [.val (.u8 a12), .val (.u8 a13), .val (.b a14), .val (.u8 a15), .val (.u8 a16), .val (.u8 a17), .val (.u8 a18), .val (.b a19), .val (.u8 a20), .val (.s a21)]), (5, some [.val (.u8 a22), .val (.u8 a23), .val (.b a24), .val (.u8 a25), .val (.u8 a26), .val (.u8 a27), .val (.u8 a28), .val (.b a29), .val (.u8 a30), .val (.s a31)])]
noncomputable def F34_58 : Option AV := run K34_58 (S34_58 a0 a1 a2 a3 a4 a5 a6 a7 a8 a9 a10 a11 a12 a13 a14 a15 a16 a17 a18 a19 a20 a21 a22 a23 a24 a25 a26 a27 a28 a29 a30 a31)
end
section
variable (run : RunT) (a0 a1 a2 : UInt8) (a3 : Bool) (a4 a5 a6 a7 : UInt8) (a8 : Bool) (a9 : UInt8) (a10 : List UInt8) (a11 a12 : UInt8) (a13 : Bool) (a14 a15 a16 a17 : UInt8) (a18 : Bool) (a19 : UInt8) (a20 : List UInt8)
noncomputable def K34_73 : List Item := (kAt 73 body34 []).getD []
def S34_73 : St := St.ofL [(1, .cell (.val (.u8 a0))), (2, .cell (.ptr 2 0)), (4, .cell (.ptr 4 0))] [(2, some [.val (.u8 a1), .val (.u8 a2), .val (.b a3), .val (.u8 a4), .val (.u8 a5), .val (.u8 a6), .val (.u8 a7), .val (.b a8), .val (.u8 a9), .val (.s a10)]), (4, some [.val (.u8 a11), .val (.u8 a12), .val (.b a13), .val (.u8 a14), .val (.u8 a15), .val (.u8 a16), .val (.u8 a17), .val (.b a18), .val (.u8 a19), .val (.s a20)])]
noncomputable def F34_73 : Option AV := run K34_73 (S34_73 a0 a1 a2 a3 a4 a5 a6 a7 a8 a9 a10 a11 a12 a13 a14 a15 a16 a17 a18 a19 a20)
end
section
variable (run : RunT) (a0 a1 a2 : UInt8) (a3 : Bool) (a4 a5 a6 a7 : UInt8) (a8 : Bool) (a9 : UInt8) (a10 : List UInt8) (a11 a12 : UInt8) (a13 : Bool) (a14 a15 a16 a17 : UInt8) (a18 : Bool) (a19 : UInt8) (a20 : List UInt8)
noncomputable def K34_74 : List Item := (kAt 74 body34 []).getD []
def S34_74 : St := St.ofL [(1, .cell (.val (.u8 a0))), (2, .cell (.ptr 2 0)), (4, .cell (.ptr 4 0))] [(2, some [.val (.u8 a1), .val (.u8 a2), .val (.b a3), .val (.u8 a4), .val (.u8 a5), .val (.u8 a6), .val (.u8 a7), .val (.b a8), .val (.u8 a9), .val (.s a10)]), (4, some [.val (.u8 a11), .val (.u8 a12), .val (.b a13), .val (.u8 a14), .val (.u8 a15), .val (.u8 a16), .val (.u8 a17), .val (.b a18), .val (.u8 a19), .val (.s a20)])]
noncomputable def F34_74 : Option AV := run K34_74 (S34_74 a0 a1 a2 a3 a4 a5 a6 a7 a8 a9 a10 a11 a12 a13 a14 a15 a16 a17 a18 a19 a20)
end
noncomputable def X34 (call : CallT) (run : RunT) (a0 a1 : UInt8) (a2 : Bool) (a3 a4 a5 a6 : UInt8) (a7 : Bool) (a8 : UInt8) (a9 : List UInt8) (a10 : UInt8) : Option AV :=
  condM (.b ((w64 (a0.toNat : Int)) == 0))
  (condM (.b (ueq a10 60))
  ((call 53 [.int 1]).bind fun v1 => (AV.asAg 10 (v1)).bind fun v2 => some (.ag [v2.getD 0 .un, v2.getD 1 .un, v2.getD 2 .un, v2.getD 3 .un, v2.getD 4 .un, v2.getD 5 .un, v2.getD 6 .un, v2.getD 7 .un, v2.getD 8 .un, v2.getD 9 .un]))
  (some (.ag [.u8 a0, .u8 a1, .b a2, .u8 a3, .u8 a4, .u8 a5, .u8 a6, .b a7, .u8 a8, .s a9])))
  (condM (.b ((w64 (a0.toNat : Int)) == 1))
  ((call 54 [.u8 a10]).bind fun v3 => condM (v3)
  ((call 37 [.u8 a10]).bind fun v4 => (AV.one (v4)).bind fun v5 => some (.ag [.u8 3, .u8 0, .b false, .u8 0, .u8 0, .u8 0, .u8 0, .b false, .u8 0, v5]))
  (condM (.b (ueq a10 47))
  ((call 53 [.int 2]).bind fun v6 => (AV.asAg 10 (v6)).bind fun v7 => some (.ag [v7.getD 0 .un, v7.getD 1 .un, v7.getD 2 .un, v7.getD 3 .un, v7.getD 4 .un, v7.getD 5 .un, v7.getD 6 .un, v7.getD 7 .un, v7.getD 8 .un, v7.getD 9 .un]))
  (condM (.b (ueq a10 33))
  ((call 53 [.int 11]).bind fun v8 => (AV.asAg 10 (v8)).bind fun v9 => some (.ag [v9.getD 0 .un, v9.getD 1 .un, v9.getD 2 .un, v9.getD 3 .un, v9.getD 4 .un, v9.getD 5 .un, v9.getD 6 .un, v9.getD 7 .un, v9.getD 8 .un, v9.getD 9 .un]))
  (condM (.b (ueq a10 63))
  ((call 53 [.int 16]).bind fun v10 => (AV.asAg 10 (v10)).bind fun v11 => some (.ag [v11.getD 0 .un, v11.getD 1 .un, v11.getD 2 .un, v11.getD 3 .un, v11.getD 4 .un, v11.getD 5 .un, v11.getD 6 .un, v11.getD 7 .un, v11.getD 8 .un, v11.getD 9 .un]))
  ((call 53 [.int 0]).bind fun v12 => (call 34 [v12, .u8 a10]).bind fun v13 => (AV.asAg 10 (v13)).bind fun v14 => some (.ag [v14.getD 0 .un, v14.getD 1 .un, v14.getD 2 .un, v14.getD 3 .un, v14.getD 4 .un, v14.getD 5 .un, v14.getD 6 .un, v14.getD 7 .un, v14.getD 8 .un, v14.getD 9 .un]))))))
  (condM (.b ((w64 (a0.toNat : Int)) == 2))
  ((call 54 [.u8 a10]).bind fun v15 => condM (v15)
  ((call 37 [.u8 a10]).bind fun v16 => (AV.one (v16)).bind fun v17 => some (.ag [.u8 3, .u8 0, .b true, .u8 0, .u8 0, .u8 0, .u8 0, .b false, .u8 0, v17]))
  (condM (.b (ueq a10 62))
  ((call 53 [.int 0]).bind fun v18 => (AV.asAg 10 (v18)).bind fun v19 => some (.ag [v19.getD 0 .un, v19.getD 1 .un, v19.getD 2 .un, v19.getD 3 .un, v19.getD 4 .un, v19.getD 5 .un, v19.getD 6 .un, v19.getD 7 .un, v19.getD 8 .un, v19.getD 9 .un]))
  ((call 53 [.int 16]).bind fun v20 => (AV.asAg 10 (v20)).bind fun v21 => some (.ag [v21.getD 0 .un, v21.getD 1 .un, v21.getD 2 .un, v21.getD 3 .un, v21.getD 4 .un, v21.getD 5 .un, v21.getD 6 .un, v21.getD 7 .un, v21.getD 8 .un, v21.getD 9 .un]))))
  (condM (.b ((w64 (a0.toNat : Int)) == 3))
  ((call 36 [.u8 a10]).bind fun v22 => (selW (v22) false (some (.b (ueq a10 47))) (.b true)).bind fun v23 => (selW (v23) false (some (.b (ueq a10 62))) (.b true)).bind fun v24 => condM (v24)
  (condM (.b (!a2))
  ((call 55 [.s a9]).bind fun v25 => (conv .u8 (v25)).bind fun v26 => (AV.one (v26)).bind fun v27 => F34_27 run a10 0 0 false 0 0 0 0 false 0 [] 0 (v27) a2 0 0 0 0 false 0 [])
  (F34_27 run a10 0 0 false 0 0 0 0 false 0 [] 0 (.u8 a1) a2 0 0 0 0 false 0 []))
  ((call 56 [.ag [.u8 a0, .u8 a1, .b a2, .u8 a3, .u8 a4, .u8 a5, .u8 a6, .b a7, .u8 a8, .s a9], .u8 a10]).bind fun v28 => (AV.asAg 10 (v28)).bind fun v29 => some (.ag [v29.getD 0 .un, v29.getD 1 .un, v29.getD 2 .un, v29.getD 3 .un, v29.getD 4 .un, v29.getD 5 .un, v29.getD 6 .un, v29.getD 7 .un, v29.getD 8 .un, v29.getD 9 .un])))
  (condM (.b ((w64 (a0.toNat : Int)) == 9))
  ((call 36 [.u8 a10]).bind fun v30 => condM (v30)
  (some (.ag [.u8 4, .u8 a1, .b a2, .u8 0, .u8 0, .u8 0, .u8 0, .b false, .u8 0, .s []]))
  (condM (.b (ueq a10 47))
  (some (.ag [.u8 10, .u8 a1, .b a2, .u8 0, .u8 0, .u8 0, .u8 0, .b false, .u8 0, .s []]))
  (condM (.b (ueq a10 62))
  ((call 57 [.ag [.u8 a0, .u8 a1, .b a2, .u8 a3, .u8 a4, .u8 a5, .u8 a6, .b a7, .u8 a8, .s a9]]).bind fun v31 => (AV.asAg 10 (v31)).bind fun v32 => some (.ag [v32.getD 0 .un, v32.getD 1 .un, v32.getD 2 .un, v32.getD 3 .un, v32.getD 4 .un, v32.getD 5 .un, v32.getD 6 .un, v32.getD 7 .un, v32.getD 8 .un, v32.getD 9 .un]))
  ((call 32 []).bind fun v33 => (AV.asAg 10 (v33)).bind fun v34 => some (.ag [v34.getD 0 .un, v34.getD 1 .un, v34.getD 2 .un, v34.getD 3 .un, v34.getD 4 .un, v34.getD 5 .un, v34.getD 6 .un, v34.getD 7 .un, v34.getD 8 .un, v34.getD 9 .un])))))
  (condM (.b ((w64 (a0.toNat : Int)) == 10))
  (condM (.b (ueq a10 62))
  ((call 57 [.ag [.u8 a0, .u8 a1, .b a2, .u8 a3, .u8 a4, .u8 a5, .u8 a6, .b a7, .u8 a8, .s a9]]).bind fun v35 => (AV.asAg 10 (v35)).bind fun v36 => some (.ag [v36.getD 0 .un, v36.getD 1 .un, v36.getD 2 .un, v36.getD 3 .un, v36.getD 4 .un, v36.getD 5 .un, v36.getD 6 .un, v36.getD 7 .un, v36.getD 8 .un, v36.getD 9 .un]))
  ((call 34 [.ag [.u8 4, .u8 a1, .b a2, .u8 0, .u8 0, .u8 0, .u8 0, .b false, .u8 0, .s []], .u8 a10]).bind fun v37 => (AV.asAg 10 (v37)).bind fun v38 => some (.ag [v38.getD 0 .un, v38.getD 1 .un, v38.getD 2 .un, v38.getD 3 .un, v38.getD 4 .un, v38.getD 5 .un, v38.getD 6 .un, v38.getD 7 .un, v38.getD 8 .un, v38.getD 9 .un])))
  (condM (.b ((w64 (a0.toNat : Int)) == 4))
  ((call 36 [.u8 a10]).bind fun v39 => condM (v39)
  (some (.ag [.u8 a0, .u8 a1, .b a2, .u8 a3, .u8 a4, .u8 a5, .u8 a6, .b a7, .u8 a8, .s a9]))
  ((selW (.b (ueq a10 47)) false (some (.b (ueq a10 62))) (.b true)).bind fun v40 => condM (v40)
  ((call 34 [.ag [.u8 9, .u8 a1, .b a2, .u8 0, .u8 0, .u8 0, .u8 0, .b false, .u8 0, .s []], .u8 a10]).bind fun v41 => (AV.asAg 10 (v41)).bind fun v42 => some (.ag [v42.getD 0 .un, v42.getD 1 .un, v42.getD 2 .un, v42.getD 3 .un, v42.getD 4 .un, v42.getD 5 .un, v42.getD 6 .un, v42.getD 7 .un, v42.getD 8 .un, v42.getD 9 .un]))
  (condM (.b (ueq a10 61))
  ((call 32 []).bind fun v43 => (AV.asAg 10 (v43)).bind fun v44 => some (.ag [v44.getD 0 .un, v44.getD 1 .un, v44.getD 2 .un, v44.getD 3 .un, v44.getD 4 .un, v44.getD 5 .un, v44.getD 6 .un, v44.getD 7 .un, v44.getD 8 .un, v44.getD 9 .un]))
  ((call 34 [.ag [.u8 5, .u8 a1, .b a2, .u8 0, .u8 0, .u8 0, .u8 0, .b false, .u8 0, .s []], .u8 a10]).bind fun v45 => (AV.asAg 10 (v45)).bind fun v46 => some (.ag [v46.getD 0 .un, v46.getD 1 .un, v46.getD 2 .un, v46.getD 3 .un, v46.getD 4 .un, v46.getD 5 .un, v46.getD 6 .un, v46.getD 7 .un, v46.getD 8 .un, v46.getD 9 .un])))))
  (condM (.b ((w64 (a0.toNat : Int)) == 5))
  (F34_57 run a10 a0 a1 a2 a3 a4 a5 a6 a7 a8 a9 0 0 false 0 0 0 0 false 0 [] 0 a1 a2 0 0 0 0 false 0 [])
  (condM (.b ((w64 (a0.toNat : Int)) == 6))
  (F34_57 run a10 a0 a1 a2 a3 a4 a5 a6 a7 a8 a9 0 0 false 0 0 0 0 false 0 [] 0 a1 a2 0 0 0 0 false 0 [])
  (F34_58 run a10 (w64 (a0.toNat : Int)) a0 a1 a2 a3 a4 a5 a6 a7 a8 a9 0 0 false 0 0 0 0 false 0 [] 0 a1 a2 0 0 0 0 false 0 [])))))))))
section
variable (call : CallT) (run : RunT) (a0 a1 : UInt8) (a2 : Bool) (a3 a4 a5 a6 : UInt8) (a7 : Bool) (a8 : UInt8) (a9 : List UInt8) (a10 : UInt8)
theorem text34 : unr C call run 34 Tryd.f34 400 [.code body34] (initF C 34 Tryd.f34.ntmps [.ag [.u8 a0, .u8 a1, .b a2, .u8 a3, .u8 a4, .u8 a5, .u8 a6, .b a7, .u8 a8, .s a9], .u8 a10]) = X34 call run a0 a1 a2 a3 a4 a5 a6 a7 a8 a9 a10 := by
  kernel_rfl
theorem c34 {r : AV} (h : X34 (semCall C Tryd.prog) (semRun C Tryd.prog 34 Tryd.f34) a0 a1 a2 a3 a4 a5 a6 a7 a8 a9 a10 = some r) : semCall C Tryd.prog 34 [.ag [.u8 a0, .u8 a1, .b a2, .u8 a3, .u8 a4, .u8 a5, .u8 a6, .b a7, .u8 a8, .s a9], .u8 a10] = some r :=
  semCall_unr (fn := Tryd.f34) (c := body34) (by kernel_rfl) (by kernel_rfl) 400 (by kernel_rfl) ((text34 _ _ a0 a1 a2 a3 a4 a5 a6 a7 a8 a9 a10).trans h)
end
noncomputable def X34_27 (call : CallT) (run : RunT) (a0 a1 a2 : UInt8) (a3 : Bool) (a4 a5 a6 a7 : UInt8) (a8 : Bool) (a9 : UInt8) (a10 : List UInt8) (a11 : UInt8) (a12 : AV) (a13 : Bool) (a14 a15 a16 a17 : UInt8) (a18 : Bool) (a19 : UInt8) (a20 : List UInt8) : Option AV :=
  (call 34 [.ag [.u8 9, a12, .b a13, .u8 a14, .u8 a15, .u8 a16, .u8 a17, .b a18, .u8 a19, .s a20], .u8 a0]).bind fun v1 => (AV.asAg 10 (v1)).bind fun v2 => some (.ag [v2.getD 0 .un, v2.getD 1 .un, v2.getD 2 .un, v2.getD 3 .un, v2.getD 4 .un, v2.getD 5 .un, v2.getD 6 .un, v2.getD 7 .un, v2.getD 8 .un, v2.getD 9 .un])
section
variable (call : CallT) (run : RunT) (a0 a1 a2 : UInt8) (a3 : Bool) (a4 a5 a6 a7 : UInt8) (a8 : Bool) (a9 : UInt8) (a10 : List UInt8) (a11 : UInt8) (a12 : AV) (a13 : Bool) (a14 a15 a16 a17 : UInt8) (a18 : Bool) (a19 : UInt8) (a20 : List UInt8)
theorem text34_27 : step C call 34 Tryd.f34 (unr C call run 34 Tryd.f34 400) K34_27 (S34_27 a0 a1 a2 a3 a4 a5 a6 a7 a8 a9 a10 a11 a12 a13 a14 a15 a16 a17 a18 a19 a20) = X34_27 call run a0 a1 a2 a3 a4 a5 a6 a7 a8 a9 a10 a11 a12 a13 a14 a15 a16 a17 a18 a19 a20 := by
  kernel_rfl
end
noncomputable def X34_57 (call : CallT) (run : RunT) (a0 a1 a2 : UInt8) (a3 : Bool) (a4 a5 a6 a7 : UInt8) (a8 : Bool) (a9 : UInt8) (a10 : List UInt8) (a11 a12 : UInt8) (a13 : Bool) (a14 a15 a16 a17 : UInt8) (a18 : Bool) (a19 : UInt8) (a20 : List UInt8) (a21 a22 : UInt8) (a23 : Bool) (a24 a25 a26 a27 : UInt8) (a28 : Bool) (a29 : UInt8) (a30 : List UInt8) : Option AV :=
  (call 58 [.ag [.u8 a1, .u8 a2, .b a3, .u8 a4, .u8 a5, .u8 a6, .u8 a7, .b a8, .u8 a9, .s a10], .ag [.u8 a21, .u8 a22, .b a23, .u8 a24, .u8 a25, .u8 a26, .u8 a27, .b a28, .u8 a29, .s a30], .u8 a0]).bind fun v1 => (AV.asAg 10 (v1)).bind fun v2 => some (.ag [v2.getD 0 .un, v2.getD 1 .un, v2.getD 2 .un, v2.getD 3 .un, v2.getD 4 .un, v2.getD 5 .un, v2.getD 6 .un, v2.getD 7 .un, v2.getD 8 .un, v2.getD 9 .un])
section
variable (call : CallT) (run : RunT) (a0 a1 a2 : UInt8) (a3 : Bool) (a4 a5 a6 a7 : UInt8) (a8 : Bool) (a9 : UInt8) (a10 : List UInt8) (a11 a12 : UInt8) (a13 : Bool) (a14 a15 a16 a17 : UInt8) (a18 : Bool) (a19 : UInt8) (a20 : List UInt8) (a21 a22 : UInt8) (a23 : Bool) (a24 a25 a26 a27 : UInt8) (a28 : Bool) (a29 : UInt8) (a30 : List UInt8)
theorem text34_57 : step C call 34 Tryd.f34 (unr C call run 34 Tryd.f34 400) K34_57 (S34_57 a0 a1 a2 a3 a4 a5 a6 a7 a8 a9 a10 a11 a12 a13 a14 a15 a16 a17 a18 a19 a20 a21 a22 a23 a24 a25 a26 a27 a28 a29 a30) = X34_57 call run a0 a1 a2 a3 a4 a5 a6 a7 a8 a9 a10 a11 a12 a13 a14 a15 a16 a17 a18 a19 a20 a21 a22 a23 a24 a25 a26 a27 a28 a29 a30 := by
  kernel_rfl
end
noncomputable def X34_58 (call : CallT) (run : RunT) (a0 : UInt8) (a1 : Int) (a2 a3 : UInt8) (a4 : Bool) (a5 a6 a7 a8 : UInt8) (a9 : Bool) (a10 : UInt8) (a11 : List UInt8) (a12 a13 : UInt8) (a14 : Bool) (a15 a16 a17 a18 : UInt8) (a19 : Bool) (a20 : UInt8) (a21 : List UInt8) (a22 a23 : UInt8) (a24 : Bool) (a25 a26 a27 a28 : UInt8) (a29 : Bool) (a30 : UInt8) (a31 : List UInt8) : Option AV :=
  condM (.b (a1 == 7))
  ((call 36 [.u8 a0]).bind fun v1 => condM (v1)
  (some (.ag [.u8 a2, .u8 a3, .b a4, .u8 a5, .u8 a6, .u8 a7, .u8 a8, .b a9, .u8 a10, .s a11]))
  (condM (.b (ueq a0 62))
  ((call 32 []).bind fun v2 => (AV.asAg 10 (v2)).bind fun v3 => some (.ag [v3.getD 0 .un, v3.getD 1 .un, v3.getD 2 .un, v3.getD 3 .un, v3.getD 4 .un, v3.getD 5 .un, v3.getD 6 .un, v3.getD 7 .un, v3.getD 8 .un, v3.getD 9 .un]))
  ((selW (.b (ueq a0 34)) false (some (.b (ueq a0 39))) (.b true)).bind fun v4 => condM (v4)
  (some (.ag [.u8 8, .u8 a3, .b a4, .u8 a5, .u8 a0, .u8 a7, .u8 a8, .b a9, .u8 a10, .s a11]))
  ((call 34 [.ag [.u8 8, .u8 a3, .b a4, .u8 a5, .u8 a6, .u8 a7, .u8 a8, .b a9, .u8 a10, .s a11], .u8 a0]).bind fun v5 => (AV.asAg 10 (v5)).bind fun v6 => some (.ag [v6.getD 0 .un, v6.getD 1 .un, v6.getD 2 .un, v6.getD 3 .un, v6.getD 4 .un, v6.getD 5 .un, v6.getD 6 .un, v6.getD 7 .un, v6.getD 8 .un, v6.getD 9 .un])))))
  (condM (.b (a1 == 8))
  ((call 59 [.ag [.u8 a2, .u8 a3, .b a4, .u8 a5, .u8 a6, .u8 a7, .u8 a8, .b a9, .u8 a10, .s a11], .ag [.u8 a22, .u8 a23, .b a24, .u8 a25, .u8 a26, .u8 a27, .u8 a28, .b a29, .u8 a30, .s a31], .u8 a0]).bind fun v7 => (AV.asAg 10 (v7)).bind fun v8 => some (.ag [v8.getD 0 .un, v8.getD 1 .un, v8.getD 2 .un, v8.getD 3 .un, v8.getD 4 .un, v8.getD 5 .un, v8.getD 6 .un, v8.getD 7 .un, v8.getD 8 .un, v8.getD 9 .un]))
  (condM (.b (a1 == 17))
  (F34_73 run a0 a2 a3 a4 a5 a6 a7 a8 a9 a10 a11 a12 a13 a14 a15 a16 a17 a18 a19 a20 a21)
  (condM (.b (a1 == 18))
  (F34_73 run a0 a2 a3 a4 a5 a6 a7 a8 a9 a10 a11 a12 a13 a14 a15 a16 a17 a18 a19 a20 a21)
  (condM (.b (a1 == 19))
  (F34_73 run a0 a2 a3 a4 a5 a6 a7 a8 a9 a10 a11 a12 a13 a14 a15 a16 a17 a18 a19 a20 a21)
  (F34_74 run a0 a2 a3 a4 a5 a6 a7 a8 a9 a10 a11 a12 a13 a14 a15 a16 a17 a18 a19 a20 a21)))))
section
variable (call : CallT) (run : RunT) (a0 : UInt8) (a1 : Int) (a2 a3 : UInt8) (a4 : Bool) (a5 a6 a7 a8 : UInt8) (a9 : Bool) (a10 : UInt8) (a11 : List UInt8) (a12 a13 : UInt8) (a14 : Bool) (a15 a16 a17 a18 : UInt8) (a19 : Bool) (a20 : UInt8) (a21 : List UInt8) (a22 a23 : UInt8) (a24 : Bool) (a25 a26 a27 a28 : UInt8) (a29 : Bool) (a30 : UInt8) (a31 : List UInt8)
theorem text34_58 : step C call 34 Tryd.f34 (unr C call run 34 Tryd.f34 400) K34_58 (S34_58 a0 a1 a2 a3 a4 a5 a6 a7 a8 a9 a10 a11 a12 a13 a14 a15 a16 a17 a18 a19 a20 a21 a22 a23 a24 a25 a26 a27 a28 a29 a30 a31) = X34_58 call run a0 a1 a2 a3 a4 a5 a6 a7 a8 a9 a10 a11 a12 a13 a14 a15 a16 a17 a18 a19 a20 a21 a22 a23 a24 a25 a26 a27 a28 a29 a30 a31 := by
  kernel_rfl
end
noncomputable def X34_73 (call : CallT) (run : RunT) (a0 a1 a2 : UInt8) (a3 : Bool) (a4 a5 a6 a7 : UInt8) (a8 : Bool) (a9 : UInt8) (a10 : List UInt8) (a11 a12 : UInt8) (a13 : Bool) (a14 a15 a16 a17 : UInt8) (a18 : Bool) (a19 : UInt8) (a20 : List UInt8) : Option AV :=
  (call 60 [.ag [.u8 a1, .u8 a2, .b a3, .u8 a4, .u8 a5, .u8 a6, .u8 a7, .b a8, .u8 a9, .s a10], .u8 a0]).bind fun v1 => (AV.asAg 10 (v1)).bind fun v2 => some (.ag [v2.getD 0 .un, v2.getD 1 .un, v2.getD 2 .un, v2.getD 3 .un, v2.getD 4 .un, v2.getD 5 .un, v2.getD 6 .un, v2.getD 7 .un, v2.getD 8 .un, v2.getD 9 .un])
section
variable (call : CallT) (run : RunT) (a0 a1 a2 : UInt8) (a3 : Bool) (a4 a5 a6 a7 : UInt8) (a8 : Bool) (a9 : UInt8) (a10 : List UInt8) (a11 a12 : UInt8) (a13 : Bool) (a14 a15 a16 a17 : UInt8) (a18 : Bool) (a19 : UInt8) (a20 : List UInt8)
theorem text34_73 : step C call 34 Tryd.f34 (unr C call run 34 Tryd.f34 400) K34_73 (S34_73 a0 a1 a2 a3 a4 a5 a6 a7 a8 a9 a10 a11 a12 a13 a14 a15 a16 a17 a18 a19 a20) = X34_73 call run a0 a1 a2 a3 a4 a5 a6 a7 a8 a9 a10 a11 a12 a13 a14 a15 a16 a17 a18 a19 a20 := by
  kernel_rfl
end
noncomputable def X34_74 (call : CallT) (run : RunT) (a0 a1 a2 : UInt8) (a3 : Bool) (a4 a5 a6 a7 : UInt8) (a8 : Bool) (a9 : UInt8) (a10 : List UInt8) (a11 a12 : UInt8) (a13 : Bool) (a14 a15 a16 a17 : UInt8) (a18 : Bool) (a19 : UInt8) (a20 : List UInt8) : Option AV :=
  (call 61 [.ag [.u8 a1, .u8 a2, .b a3, .u8 a4, .u8 a5, .u8 a6, .u8 a7, .b a8, .u8 a9, .s a10], .u8 a0]).bind fun v1 => (AV.asAg 10 (v1)).bind fun v2 => some (.ag [v2.getD 0 .un, v2.getD 1 .un, v2.getD 2 .un, v2.getD 3 .un, v2.getD 4 .un, v2.getD 5 .un, v2.getD 6 .un, v2.getD 7 .un, v2.getD 8 .un, v2.getD 9 .un])
section
variable (call : CallT) (run : RunT) (a0 a1 a2 : UInt8) (a3 : Bool) (a4 a5 a6 a7 : UInt8) (a8 : Bool) (a9 : UInt8) (a10 : List UInt8) (a11 a12 : UInt8) (a13 : Bool) (a14 a15 a16 a17 : UInt8) (a18 : Bool) (a19 : UInt8) (a20 : List UInt8)
theorem text34_74 : step C call 34 Tryd.f34 (unr C call run 34 Tryd.f34 400) K34_74 (S34_74 a0 a1 a2 a3 a4 a5 a6 a7 a8 a9 a10 a11 a12 a13 a14 a15 a16 a17 a18 a19 a20) = X34_74 call run a0 a1 a2 a3 a4 a5 a6 a7 a8 a9 a10 a11 a12 a13 a14 a15 a16 a17 a18 a19 a20 := by
  kernel_rfl
end
section
variable (a0 a1 a2 : UInt8) (a3 : Bool) (a4 a5 a6 a7 : UInt8) (a8 : Bool) (a9 : UInt8) (a10 : List UInt8) (a11 : UInt8) (a12 : AV) (a13 : Bool) (a14 a15 a16 a17 : UInt8) (a18 : Bool) (a19 : UInt8) (a20 : List UInt8)
theorem r34_27 {r : AV} (h : X34_27 (semCall C Tryd.prog) (semRun C Tryd.prog 34 Tryd.f34) a0 a1 a2 a3 a4 a5 a6 a7 a8 a9 a10 a11 a12 a13 a14 a15 a16 a17 a18 a19 a20 = some r) : F34_27 (semRun C Tryd.prog 34 Tryd.f34) a0 a1 a2 a3 a4 a5 a6 a7 a8 a9 a10 a11 a12 a13 a14 a15 a16 a17 a18 a19 a20 = some r :=
  semRun_unr 400 ((text34_27 _ _ a0 a1 a2 a3 a4 a5 a6 a7 a8 a9 a10 a11 a12 a13 a14 a15 a16 a17 a18 a19 a20).trans h)
end
section
variable (a0 a1 a2 : UInt8) (a3 : Bool) (a4 a5 a6 a7 : UInt8) (a8 : Bool) (a9 : UInt8) (a10 : List UInt8) (a11 a12 : UInt8) (a13 : Bool) (a14 a15 a16 a17 : UInt8) (a18 : Bool) (a19 : UInt8) (a20 : List UInt8) (a21 a22 : UInt8) (a23 : Bool) (a24 a25 a26 a27 : UInt8) (a28 : Bool) (a29 : UInt8) (a30 : List UInt8)
theorem r34_57 {r : AV} (h : X34_57 (semCall C Tryd.prog) (semRun C Tryd.prog 34 Tryd.f34) a0 a1 a2 a3 a4 a5 a6 a7 a8 a9 a10 a11 a12 a13 a14 a15 a16 a17 a18 a19 a20 a21 a22 a23 a24 a25 a26 a27 a28 a29 a30 = some r) : F34_57 (semRun C Tryd.prog 34 Tryd.f34) a0 a1 a2 a3 a4 a5 a6 a7 a8 a9 a10 a11 a12 a13 a14 a15 a16 a17 a18 a19 a20 a21 a22 a23 a24 a25 a26 a27 a28 a29 a30 = some r :=
  semRun_unr 400 ((text34_57 _ _ a0 a1 a2 a3 a4 a5 a6 a7 a8 a9 a10 a11 a12 a13 a14 a15 a16 a17 a18 a19 a20 a21 a22 a23 a24 a25 a26 a27 a28 a29 a30).trans h)
end
section
variable (a0 : UInt8) (a1 : Int) (a2 a3 : UInt8) (a4 : Bool) (a5 a6 a7 a8 : UInt8) (a9 : Bool) (a10 : UInt8) (a11 : List UInt8) (a12 a13 : UInt8) (a14 : Bool) (a15 a16 a17 a18 : UInt8) (a19 : Bool) (a20 : UInt8) (a21 : List UInt8) (a22 a23 : UInt8) (a24 : Bool) (a25 a26 a27 a28 : UInt8) (a29 : Bool) (a30 : UInt8) (a31 : List UInt8)
theorem r34_58 {r : AV} (h : X34_58 (semCall C Tryd.prog) (semRun C Tryd.prog 34 Tryd.f34) a0 a1 a2 a3 a4 a5 a6 a7 a8 a9 a10 a11 a12 a13 a14 a15 a16 a17 a18 a19 a20 a21 a22 a23 a24 a25 a26 a27 a28 a29 a30 a31 = some r) : F34_58 (semRun C Tryd.prog 34 Tryd.f34) a0 a1 a2 a3 a4 a5 a6 a7 a8 a9 a10 a11 a12 a13 a14 a15 a16 a17 a18 a19 a20 a21 a22 a23 a24 a25 a26 a27 a28 a29 a30 a31 = some r :=
  semRun_unr 400 ((text34_58 _ _ a0 a1 a2 a3 a4 a5 a6 a7 a8 a9 a10 a11 a12 a13 a14 a15 a16 a17 a18 a19 a20 a21 a22 a23 a24 a25 a26 a27 a28 a29 a30 a31).trans h)
end
section
variable (a0 a1 a2 : UInt8) (a3 : Bool) (a4 a5 a6 a7 : UInt8) (a8 : Bool) (a9 : UInt8) (a10 : List UInt8) (a11 a12 : UInt8) (a13 : Bool) (a14 a15 a16 a17 : UInt8) (a18 : Bool) (a19 : UInt8) (a20 : List UInt8)
theorem r34_73 {r : AV} (h : X34_73 (semCall C Tryd.prog) (semRun C Tryd.prog 34 Tryd.f34) a0 a1 a2 a3 a4 a5 a6 a7 a8 a9 a10 a11 a12 a13 a14 a15 a16 a17 a18 a19 a20 = some r) : F34_73 (semRun C Tryd.prog 34 Tryd.f34) a0 a1 a2 a3 a4 a5 a6 a7 a8 a9 a10 a11 a12 a13 a14 a15 a16 a17 a18 a19 a20 = some r :=
  semRun_unr 400 ((text34_73 _ _ a0 a1 a2 a3 a4 a5 a6 a7 a8 a9 a10 a11 a12 a13 a14 a15 a16 a17 a18 a19 a20).trans h)
end
section
variable (a0 a1 a2 : UInt8) (a3 : Bool) (a4 a5 a6 a7 : UInt8) (a8 : Bool) (a9 : UInt8) (a10 : List UInt8) (a11 a12 : UInt8) (a13 : Bool) (a14 a15 a16 a17 : UInt8) (a18 : Bool) (a19 : UInt8) (a20 : List UInt8)
theorem r34_74 {r : AV} (h : X34_74 (semCall C Tryd.prog) (semRun C Tryd.prog 34 Tryd.f34) a0 a1 a2 a3 a4 a5 a6 a7 a8 a9 a10 a11 a12 a13 a14 a15 a16 a17 a18 a19 a20 = some r) : F34_74 (semRun C Tryd.prog 34 Tryd.f34) a0 a1 a2 a3 a4 a5 a6 a7 a8 a9 a10 a11 a12 a13 a14 a15 a16 a17 a18 a19 a20 = some r :=
  semRun_unr 400 ((text34_74 _ _ a0 a1 a2 a3 a4 a5 a6 a7 a8 a9 a10 a11 a12 a13 a14 a15 a16 a17 a18 a19 a20).trans h)
end
end R4

namespace R4
open Go Go.Proofs Sx
noncomputable def body59 : Code := (Tryd.f59.body).getD .skip
section
variable (run : RunT) (a0 a1 a2 : UInt8) (a3 : Bool) (a4 a5 a6 a7 : UInt8) (a8 : Bool) (a9 : UInt8) (a10 : List UInt8) (a11 a12 : UInt8) (a13 : Bool) (a14 a15 a16 a17 : UInt8) (a18 : Bool) (a19 : UInt8) (a20 : List UInt8)
noncomputable def K59_17 : List Item := (kAt 17 body59 []).getD []
def S59_17 : St := St.ofL [(2, .cell (.val (.u8 a0))), (3, .cell (.ptr 3 0)), (6, .cell (.ptr 6 0))] [(3, some [.val (.u8 a1), .val (.u8 a2), .val (.b a3), .val (.u8 a4), .val (.u8 a5), .val (.u8 a6), .val (.u8 a7), .val (.b a8), .val (.u8 a9), .val (.s a10)]), (6, some [.val (.u8 a11), .val (.u8 a12), .val (.b a13), .val (.u8 a14), .val (.u8 a15), .val (.u8 a16), .val (.u8 a17), .val (.b a18), .val (.u8 a19), .val (.s a20)])]
noncomputable def F59_17 : Option AV := run K59_17 (S59_17 a0 a1 a2 a3 a4 a5 a6 a7 a8 a9 a10 a11 a12 a13 a14 a15 a16 a17 a18 a19 a20)
end
section
variable (run : RunT) (a0 a1 a2 : UInt8) (a3 : Bool) (a4 a5 a6 a7 : UInt8) (a8 : Bool) (a9 : UInt8) (a10 : List UInt8) (a11 a12 : UInt8) (a13 : Bool) (a14 a15 a16 a17 : UInt8) (a18 : Bool) (a19 : UInt8) (a20 : List UInt8)
noncomputable def K59_22 : List Item := (kAt 22 body59 []).getD []
def S59_22 : St := St.ofL [(2, .cell (.val (.u8 a0))), (3, .cell (.ptr 3 0)), (6, .cell (.ptr 6 0))] [(3, some [.val (.u8 a1), .val (.u8 a2), .val (.b a3), .val (.u8 a4), .val (.u8 a5), .val (.u8 a6), .val (.u8 a7), .val (.b a8), .val (.u8 a9), .val (.s a10)]), (6, some [.val (.u8 a11), .val (.u8 a12), .val (.b a13), .val (.u8 a14), .val (.u8 a15), .val (.u8 a16), .val (.u8 a17), .val (.b a18), .val (.u8 a19), .val (.s a20)])]
noncomputable def F59_22 : Option AV := run K59_22 (S59_22 a0 a1 a2 a3 a4 a5 a6 a7 a8 a9 a10 a11 a12 a13 a14 a15 a16 a17 a18 a19 a20)
end
section
variable (run : RunT) (a0 a1 : UInt8) (a2 : Bool) (a3 a4 a5 a6 : UInt8) (a7 : Bool) (a8 : UInt8) (a9 : List UInt8) (a10 a11 : UInt8) (a12 : Bool) (a13 a14 a15 a16 : UInt8) (a17 : Bool) (a18 : UInt8) (a19 : List UInt8)
noncomputable def K59_25 : List Item := (kAt 25 body59 []).getD []
def S59_25 : St := St.ofL [(3, .cell (.ptr 3 0)), (6, .cell (.ptr 6 0))] [(3, some [.val (.u8 a0), .val (.u8 a1), .val (.b a2), .val (.u8 a3), .val (.u8 a4), .val (.u8 a5), .val (.u8 a6), .val (.b a7), .val (.u8 a8), .val (.s a9)]), (6, some [.val (.u8 a10), .val (.u8 a11), .val (.b a12), .val (.u8 a13), .val (.u8 a14), .val (.u8 a15), .val (.u8 a16), .val (.b a17), .val (.u8 a18), .val (.s a19)])]
noncomputable def F59_25 : Option AV := run K59_25 (S59_25 a0 a1 a2 a3 a4 a5 a6 a7 a8 a9 a10 a11 a12 a13 a14 a15 a16 a17 a18 a19)
end
noncomputable def X59 (call : CallT) (run : RunT) (a0 a1 : UInt8) (a2 : Bool) (a3 a4 a5 a6 : UInt8) (a7 : Bool) (a8 : UInt8) (a9 : List UInt8) (a10 a11 : UInt8) (a12 : Bool) (a13 a14 a15 a16 : UInt8) (a17 : Bool) (a18 : UInt8) (a19 : List UInt8) (a20 : UInt8) : Option AV :=
  (selW (.b (ueq a6 0)) false (some (.b (ueq a6 4))) (.b true)).bind fun v1 => (selW (.b (une a4 0)) true (some (.b (ueq a20 a4))) (.b false)).bind fun v2 => condM (v2)
  ((unop .not (v1)).bind fun v3 => condM (v3)
  ((call 32 []).bind fun v4 => (AV.asAg 10 (v4)).bind fun v5 => some (.ag [v5.getD 0 .un, v5.getD 1 .un, v5.getD 2 .un, v5.getD 3 .un, v5.getD 4 .un, v5.getD 5 .un, v5.getD 6 .un, v5.getD 7 .un, v5.getD 8 .un, v5.getD 9 .un]))
  (some (.ag [.u8 9, .u8 a11, .b a12, .u8 a13, .u8 a14, .u8 a15, .u8 a16, .b a17, .u8 a18, .s a19])))
  (condM (.b (ueq a4 0))
  ((call 36 [.u8 a20]).bind fun v6 => (selW (v6) false (some (.b (ueq a20 62))) (.b true)).bind fun v7 => condM (v7)
  ((unop .not (v1)).bind fun v8 => condM (v8)
  ((call 32 []).bind fun v9 => (AV.asAg 10 (v9)).bind fun v10 => some (.ag [v10.getD 0 .un, v10.getD 1 .un, v10.getD 2 .un, v10.getD 3 .un, v10.getD 4 .un, v10.getD 5 .un, v10.getD 6 .un, v10.getD 7 .un, v10.getD 8 .un, v10.getD 9 .un]))
  (condM (.b (ueq a20 62))
  ((call 57 [.ag [.u8 a0, .u8 a1, .b a2, .u8 a3, .u8 a4, .u8 a5, .u8 a6, .b a7, .u8 a8, .s a9]]).bind fun v11 => (AV.asAg 10 (v11)).bind fun v12 => some (.ag [v12.getD 0 .un, v12.getD 1 .un, v12.getD 2 .un, v12.getD 3 .un, v12.getD 4 .un, v12.getD 5 .un, v12.getD 6 .un, v12.getD 7 .un, v12.getD 8 .un, v12.getD 9 .un]))
  (some (.ag [.u8 4, .u8 a11, .b a12, .u8 a13, .u8 a14, .u8 a15, .u8 a16, .b a17, .u8 a18, .s a19]))))
  ((selW (.b (ueq a20 34)) false (some (.b (ueq a20 39))) (.b true)).bind fun v13 => (selW (v13) false (some (.b (ueq a20 60))) (.b true)).bind fun v14 => (selW (v14) false (some (.b (ueq a20 61))) (.b true)).bind fun v15 => (selW (v15) false (some (.b (ueq a20 96))) (.b true)).bind fun v16 => condM (v16)
  ((call 32 []).bind fun v17 => (AV.asAg 10 (v17)).bind fun v18 => some (.ag [v18.getD 0 .un, v18.getD 1 .un, v18.getD 2 .un, v18.getD 3 .un, v18.getD 4 .un, v18.getD 5 .un, v18.getD 6 .un, v18.getD 7 .un, v18.getD 8 .un, v18.getD 9 .un]))
  (F59_17 run a20 a0 a1 a2 a3 a4 a5 a6 a7 a8 a9 0 0 false 0 0 0 0 false 0 [])))
  (F59_17 run a20 a0 a1 a2 a3 a4 a5 a6 a7 a8 a9 0 0 false 0 0 0 0 false 0 []))
section
variable (call : CallT) (run : RunT) (a0 a1 : UInt8) (a2 : Bool) (a3 a4 a5 a6 : UInt8) (a7 : Bool) (a8 : UInt8) (a9 : List UInt8) (a10 a11 : UInt8) (a12 : Bool) (a13 a14 a15 a16 : UInt8) (a17 : Bool) (a18 : UInt8) (a19 : List UInt8) (a20 : UInt8)
theorem text59 : unr C call run 59 Tryd.f59 400 [.code body59] (initF C 59 Tryd.f59.ntmps [.ag [.u8 a0, .u8 a1, .b a2, .u8 a3, .u8 a4, .u8 a5, .u8 a6, .b a7, .u8 a8, .s a9], .ag [.u8 a10, .u8 a11, .b a12, .u8 a13, .u8 a14, .u8 a15, .u8 a16, .b a17, .u8 a18, .s a19], .u8 a20]) = X59 call run a0 a1 a2 a3 a4 a5 a6 a7 a8 a9 a10 a11 a12 a13 a14 a15 a16 a17 a18 a19 a20 := by
  kernel_rfl
theorem c59 {r : AV} (h : X59 (semCall C Tryd.prog) (semRun C Tryd.prog 59 Tryd.f59) a0 a1 a2 a3 a4 a5 a6 a7 a8 a9 a10 a11 a12 a13 a14 a15 a16 a17 a18 a19 a20 = some r) : semCall C Tryd.prog 59 [.ag [.u8 a0, .u8 a1, .b a2, .u8 a3, .u8 a4, .u8 a5, .u8 a6, .b a7, .u8 a8, .s a9], .ag [.u8 a10, .u8 a11, .b a12, .u8 a13, .u8 a14, .u8 a15, .u8 a16, .b a17, .u8 a18, .s a19], .u8 a20] = some r :=
  semCall_unr (fn := Tryd.f59) (c := body59) (by kernel_rfl) (by kernel_rfl) 400 (by kernel_rfl) ((text59 _ _ a0 a1 a2 a3 a4 a5 a6 a7 a8 a9 a10 a11 a12 a13 a14 a15 a16 a17 a18 a19 a20).trans h)
end
noncomputable def X59_17 (call : CallT) (run : RunT) (a0 a1 a2 : UInt8) (a3 : Bool) (a4 a5 a6 a7 : UInt8) (a8 : Bool) (a9 : UInt8) (a10 : List UInt8) (a11 a12 : UInt8) (a13 : Bool) (a14 a15 a16 a17 : UInt8) (a18 : Bool) (a19 : UInt8) (a20 : List UInt8) : Option AV :=
  condM (.b (ueq a4 1))
  ((call 75 [.ag [.u8 a1, .u8 a2, .b a3, .u8 a4, .u8 a5, .u8 a6, .u8 a7, .b a8, .u8 a9, .s a10], .u8 a0]).bind fun v1 => (AV.asAg 10 (v1)).bind fun v2 => some (.ag [v2.getD 0 .un, v2.getD 1 .un, v2.getD 2 .un, v2.getD 3 .un, v2.getD 4 .un, v2.getD 5 .un, v2.getD 6 .un, v2.getD 7 .un, v2.getD 8 .un, v2.getD 9 .un]))
  (condM (.b (ueq a4 2))
  (F59_22 run a0 a1 a2 a3 a4 a5 a6 a7 a8 a9 a10 a11 a12 a13 a14 a15 a16 a17 a18 a19 a20)
  (condM (.b (ueq a4 3))
  (F59_22 run a0 a1 a2 a3 a4 a5 a6 a7 a8 a9 a10 a11 a12 a13 a14 a15 a16 a17 a18 a19 a20)
  (F59_25 run a1 a2 a3 a4 a5 a6 a7 a8 a9 a10 a11 a12 a13 a14 a15 a16 a17 a18 a19 a20)))
section
variable (call : CallT) (run : RunT) (a0 a1 a2 : UInt8) (a3 : Bool) (a4 a5 a6 a7 : UInt8) (a8 : Bool) (a9 : UInt8) (a10 : List UInt8) (a11 a12 : UInt8) (a13 : Bool) (a14 a15 a16 a17 : UInt8) (a18 : Bool) (a19 : UInt8) (a20 : List UInt8)
theorem text59_17 : step C call 59 Tryd.f59 (unr C call run 59 Tryd.f59 400) K59_17 (S59_17 a0 a1 a2 a3 a4 a5 a6 a7 a8 a9 a10 a11 a12 a13 a14 a15 a16 a17 a18 a19 a20) = X59_17 call run a0 a1 a2 a3 a4 a5 a6 a7 a8 a9 a10 a11 a12 a13 a14 a15 a16 a17 a18 a19 a20 := by
  kernel_rfl
end
noncomputable def X59_22 (call : CallT) (run : RunT) (a0 a1 a2 : UInt8) (a3 : Bool) (a4 a5 a6 a7 : UInt8) (a8 : Bool) (a9 : UInt8) (a10 : List UInt8) (a11 a12 : UInt8) (a13 : Bool) (a14 a15 a16 a17 : UInt8) (a18 : Bool) (a19 : UInt8) (a20 : List UInt8) : Option AV :=
  condM (.b (ueq a0 38))
  ((call 32 []).bind fun v1 => (AV.asAg 10 (v1)).bind fun v2 => some (.ag [v2.getD 0 .un, v2.getD 1 .un, v2.getD 2 .un, v2.getD 3 .un, v2.getD 4 .un, v2.getD 5 .un, v2.getD 6 .un, v2.getD 7 .un, v2.getD 8 .un, v2.getD 9 .un]))
  ((call 76 [.ag [.u8 a1, .u8 a2, .b a3, .u8 a4, .u8 a5, .u8 a6, .u8 a7, .b a8, .u8 a9, .s a10], .u8 a0, .b (ueq a4 2)]).bind fun v3 => (AV.asAg 10 (v3)).bind fun v4 => some (.ag [v4.getD 0 .un, v4.getD 1 .un, v4.getD 2 .un, v4.getD 3 .un, v4.getD 4 .un, v4.getD 5 .un, v4.getD 6 .un, v4.getD 7 .un, v4.getD 8 .un, v4.getD 9 .un]))
section
variable (call : CallT) (run : RunT) (a0 a1 a2 : UInt8) (a3 : Bool) (a4 a5 a6 a7 : UInt8) (a8 : Bool) (a9 : UInt8) (a10 : List UInt8) (a11 a12 : UInt8) (a13 : Bool) (a14 a15 a16 a17 : UInt8) (a18 : Bool) (a19 : UInt8) (a20 : List UInt8)
theorem text59_22 : step C call 59 Tryd.f59 (unr C call run 59 Tryd.f59 400) K59_22 (S59_22 a0 a1 a2 a3 a4 a5 a6 a7 a8 a9 a10 a11 a12 a13 a14 a15 a16 a17 a18 a19 a20) = X59_22 call run a0 a1 a2 a3 a4 a5 a6 a7 a8 a9 a10 a11 a12 a13 a14 a15 a16 a17 a18 a19 a20 := by
  kernel_rfl
end
noncomputable def X59_25 (call : CallT) (run : RunT) (a0 a1 : UInt8) (a2 : Bool) (a3 a4 a5 a6 : UInt8) (a7 : Bool) (a8 : UInt8) (a9 : List UInt8) (a10 a11 : UInt8) (a12 : Bool) (a13 a14 a15 a16 : UInt8) (a17 : Bool) (a18 : UInt8) (a19 : List UInt8) : Option AV :=
  some (.ag [.u8 a0, .u8 a1, .b a2, .u8 a3, .u8 a4, .u8 a5, .u8 a6, .b a7, .u8 a8, .s a9])
section
variable (call : CallT) (run : RunT) (a0 a1 : UInt8) (a2 : Bool) (a3 a4 a5 a6 : UInt8) (a7 : Bool) (a8 : UInt8) (a9 : List UInt8) (a10 a11 : UInt8) (a12 : Bool) (a13 a14 a15 a16 : UInt8) (a17 : Bool) (a18 : UInt8) (a19 : List UInt8)
theorem text59_25 : step C call 59 Tryd.f59 (unr C call run 59 Tryd.f59 400) K59_25 (S59_25 a0 a1 a2 a3 a4 a5 a6 a7 a8 a9 a10 a11 a12 a13 a14 a15 a16 a17 a18 a19) = X59_25 call run a0 a1 a2 a3 a4 a5 a6 a7 a8 a9 a10 a11 a12 a13 a14 a15 a16 a17 a18 a19 := by
  kernel_rfl
end
section
variable (a0 a1 a2 : UInt8) (a3 : Bool) (a4 a5 a6 a7 : UInt8) (a8 : Bool) (a9 : UInt8) (a10 : List UInt8) (a11 a12 : UInt8) (a13 : Bool) (a14 a15 a16 a17 : UInt8) (a18 : Bool) (a19 : UInt8) (a20 : List UInt8)
theorem r59_17 {r : AV} (h : X59_17 (semCall C Tryd.prog) (semRun C Tryd.prog 59 Tryd.f59) a0 a1 a2 a3 a4 a5 a6 a7 a8 a9 a10 a11 a12 a13 a14 a15 a16 a17 a18 a19 a20 = some r) : F59_17 (semRun C Tryd.prog 59 Tryd.f59) a0 a1 a2 a3 a4 a5 a6 a7 a8 a9 a10 a11 a12 a13 a14 a15 a16 a17 a18 a19 a20 = some r :=
  semRun_unr 400 ((text59_17 _ _ a0 a1 a2 a3 a4 a5 a6 a7 a8 a9 a10 a11 a12 a13 a14 a15 a16 a17 a18 a19 a20).trans h)
end
section
variable (a0 a1 a2 : UInt8) (a3 : Bool) (a4 a5 a6 a7 : UInt8) (a8 : Bool) (a9 : UInt8) (a10 : List UInt8) (a11 a12 : UInt8) (a13 : Bool) (a14 a15 a16 a17 : UInt8) (a18 : Bool) (a19 : UInt8) (a20 : List UInt8)
theorem r59_22 {r : AV} (h : X59_22 (semCall C Tryd.prog) (semRun C Tryd.prog 59 Tryd.f59) a0 a1 a2 a3 a4 a5 a6 a7 a8 a9 a10 a11 a12 a13 a14 a15 a16 a17 a18 a19 a20 = some r) : F59_22 (semRun C Tryd.prog 59 Tryd.f59) a0 a1 a2 a3 a4 a5 a6 a7 a8 a9 a10 a11 a12 a13 a14 a15 a16 a17 a18 a19 a20 = some r :=
  semRun_unr 400 ((text59_22 _ _ a0 a1 a2 a3 a4 a5 a6 a7 a8 a9 a10 a11 a12 a13 a14 a15 a16 a17 a18 a19 a20).trans h)
end
section
variable (a0 a1 : UInt8) (a2 : Bool) (a3 a4 a5 a6 : UInt8) (a7 : Bool) (a8 : UInt8) (a9 : List UInt8) (a10 a11 : UInt8) (a12 : Bool) (a13 a14 a15 a16 : UInt8) (a17 : Bool) (a18 : UInt8) (a19 : List UInt8)
theorem r59_25 {r : AV} (h : X59_25 (semCall C Tryd.prog) (semRun C Tryd.prog 59 Tryd.f59) a0 a1 a2 a3 a4 a5 a6 a7 a8 a9 a10 a11 a12 a13 a14 a15 a16 a17 a18 a19 = some r) : F59_25 (semRun C Tryd.prog 59 Tryd.f59) a0 a1 a2 a3 a4 a5 a6 a7 a8 a9 a10 a11 a12 a13 a14 a15 a16 a17 a18 a19 = some r :=
  semRun_unr 400 ((text59_25 _ _ a0 a1 a2 a3 a4 a5 a6 a7 a8 a9 a10 a11 a12 a13 a14 a15 a16 a17 a18 a19).trans h)
end
end R4
