/-
  What functions of this seat come to, step by step.
-/
import Derived.Test.YtcmpmpnjidjenaaDoorTab
import Derived.Test.YtcmpmpnjidjenaaDoorProg
set_option linter.unusedVariables false
set_option linter.unusedSimpArgs false
set_option linter.unusedSectionVars false
set_option linter.unnecessarySimpa false
namespace R2
open Go Go.Proofs Sx
noncomputable def body21 : Code := (Tryd.f21.body).getD .skip
section
variable (run : RunT) (a0 a1 : UInt8) (a2 : Bool) (a3 a4 a5 a6 : UInt8) (a7 : Bool) (a8 : UInt8) (a9 : List UInt8) (a10 a11 : UInt8) (a12 : Bool) (a13 a14 a15 a16 : UInt8) (a17 : Bool) (a18 : UInt8) (a19 : List UInt8)
noncomputable def K21_11 : List Item := (kAt 11 body21 []).getD []
def S21_11 : St := St.ofL [(1, .cell (.ptr 1 0)), (4, .cell (.ptr 4 0))] [(1, some [.val (.u8 a0), .val (.u8 a1), .val (.b a2), .val (.u8 a3), .val (.u8 a4), .val (.u8 a5), .val (.u8 a6), .val (.b a7), .val (.u8 a8), .val (.s a9)]), (4, some [.val (.u8 a10), .val (.u8 a11), .val (.b a12), .val (.u8 a13), .val (.u8 a14), .val (.u8 a15), .val (.u8 a16), .val (.b a17), .val (.u8 a18), .val (.s a19)])]
noncomputable def F21_11 : Option AV := run K21_11 (S21_11 a0 a1 a2 a3 a4 a5 a6 a7 a8 a9 a10 a11 a12 a13 a14 a15 a16 a17 a18 a19)
end
section
variable (run : RunT) (a0 a1 a2 : UInt8) (a3 : Bool) (a4 a5 a6 a7 : UInt8) (a8 : Bool) (a9 : UInt8) (a10 : List UInt8) (a11 a12 : UInt8) (a13 : Bool) (a14 a15 a16 a17 : UInt8) (a18 : Bool) (a19 : UInt8) (a20 : List UInt8) (a21 a22 : UInt8) (a23 : Bool) (a24 a25 a26 a27 : UInt8) (a28 : Bool) (a29 : UInt8) (a30 : List UInt8)
noncomputable def K21_12 : List Item := (kAt 12 body21 []).getD []
def S21_12 : St := St.ofL [(1, .cell (.ptr 1 0)), (3, .cell (.ptr 3 0)), (4, .cell (.ptr 4 0)), (48, .cell (.val (.u8 a0)))] [(1, some [.val (.u8 a1), .val (.u8 a2), .val (.b a3), .val (.u8 a4), .val (.u8 a5), .val (.u8 a6), .val (.u8 a7), .val (.b a8), .val (.u8 a9), .val (.s a10)]), (3, some [.val (.u8 a11), .val (.u8 a12), .val (.b a13), .val (.u8 a14), .val (.u8 a15), .val (.u8 a16), .val (.u8 a17), .val (.b a18), .val (.u8 a19), .val (.s a20)]), (4, some [.val (.u8 a21), .val (.u8 a22), .val (.b a23), .val (.u8 a24), .val (.u8 a25), .val (.u8 a26), .val (.u8 a27), .val (.b a28), .val (.u8 a29), .val (.s a30)])]
noncomputable def F21_12 : Option AV := run K21_12 (S21_12 a0 a1 a2 a3 a4 a5 a6 a7 a8 a9 a10 a11 a12 a13 a14 a15 a16 a17 a18 a19 a20 a21 a22 a23 a24 a25 a26 a27 a28 a29 a30)
end
section
variable (run : RunT) (a0 a1 : UInt8) (a2 : Bool) (a3 a4 a5 a6 : UInt8) (a7 : Bool) (a8 : UInt8) (a9 : List UInt8) (a10 a11 : UInt8) (a12 : Bool) (a13 a14 a15 a16 : UInt8) (a17 : Bool) (a18 : UInt8) (a19 : List UInt8)
noncomputable def K21_14 : List Item := (kAt 14 body21 []).getD []
def S21_14 : St := St.ofL [(1, .cell (.ptr 1 0)), (4, .cell (.ptr 4 0))] [(1, some [.val (.u8 a0), .val (.u8 a1), .val (.b a2), .val (.u8 a3), .val (.u8 a4), .val (.u8 a5), .val (.u8 a6), .val (.b a7), .val (.u8 a8), .val (.s a9)]), (4, some [.val (.u8 a10), .val (.u8 a11), .val (.b a12), .val (.u8 a13), .val (.u8 a14), .val (.u8 a15), .val (.u8 a16), .val (.b a17), .val (.u8 a18), .val (.s a19)])]
noncomputable def F21_14 : Option AV := run K21_14 (S21_14 a0 a1 a2 a3 a4 a5 a6 a7 a8 a9 a10 a11 a12 a13 a14 a15 a16 a17 a18 a19)
end
section
variable (run : RunT) (a0 a1 a2 : UInt8) (a3 : Bool) (a4 a5 a6 a7 : UInt8) (a8 : Bool) (a9 : UInt8) (a10 : List UInt8) (a11 a12 : UInt8) (a13 : Bool) (a14 a15 a16 a17 : UInt8) (a18 : Bool) (a19 : UInt8) (a20 : List UInt8) (a21 a22 : UInt8) (a23 : Bool) (a24 a25 a26 a27 : UInt8) (a28 : Bool) (a29 : UInt8) (a30 : List UInt8)
noncomputable def K21_16 : List Item := (kAt 16 body21 []).getD []
def S21_16 : St := St.ofL [(1, .cell (.ptr 1 0)), (3, .cell (.ptr 3 0)), (4, .cell (.ptr 4 0)), (48, .cell (.val (.u8 a0)))] [(1, some [.val (.u8 a1), .val (.u8 a2), .val (.b a3), .val (.u8 a4), .val (.u8 a5), .val (.u8 a6), .val (.u8 a7), .val (.b a8), .val (.u8 a9), .val (.s a10)]), (3, some [.val (.u8 a11), .val (.u8 a12), .val (.b a13), .val (.u8 a14), .val (.u8 a15), .val (.u8 a16), .val (.u8 a17), .val (.b a18), .val (.u8 a19), .val (.s a20)]), (4, some [.val (.u8 a21), .val (.u8 a22), .val (.b a23), .val (.u8 a24), .val (.u8 a25), .val (.u8 a26), .val (.u8 a27), .val (.b a28), .val (.u8 a29), .val (.s a30)])]
noncomputable def F21_16 : Option AV := run K21_16 (S21_16 a0 a1 a2 a3 a4 a5 a6 a7 a8 a9 a10 a11 a12 a13 a14 a15 a16 a17 a18 a19 a20 a21 a22 a23 a24 a25 a26 a27 a28 a29 a30)
end
section
variable (run : RunT) (a0 a1 : UInt8) (a2 : Bool) (a3 a4 a5 a6 : UInt8) (a7 : Bool) (a8 : UInt8) (a9 : List UInt8)
noncomputable def K21_27 : List Item := (kAt 27 body21 []).getD []
def S21_27 : St := St.ofL [(1, .cell (.ptr 1 0))] [(1, some [.val (.u8 a0), .val (.u8 a1), .val (.b a2), .val (.u8 a3), .val (.u8 a4), .val (.u8 a5), .val (.u8 a6), .val (.b a7), .val (.u8 a8), .val (.s a9)])]
noncomputable def F21_27 : Option AV := run K21_27 (S21_27 a0 a1 a2 a3 a4 a5 a6 a7 a8 a9)
end
section
variable (run : RunT) (a0 a1 : UInt8) (a2 : Bool) (a3 a4 a5 a6 : UInt8) (a7 : Bool) (a8 : UInt8) (a9 : List UInt8) (a10 a11 : UInt8) (a12 : Bool) (a13 a14 a15 a16 : UInt8) (a17 : Bool) (a18 : UInt8) (a19 : List UInt8)
noncomputable def K21_28 : List Item := (kAt 28 body21 []).getD []
def S21_28 : St := St.ofL [(1, .cell (.ptr 1 0)), (3, .cell (.ptr 3 0))] [(1, some [.val (.u8 a0), .val (.u8 a1), .val (.b a2), .val (.u8 a3), .val (.u8 a4), .val (.u8 a5), .val (.u8 a6), .val (.b a7), .val (.u8 a8), .val (.s a9)]), (3, some [.val (.u8 a10), .val (.u8 a11), .val (.b a12), .val (.u8 a13), .val (.u8 a14), .val (.u8 a15), .val (.u8 a16), .val (.b a17), .val (.u8 a18), .val (.s a19)])]
noncomputable def F21_28 : Option AV := run K21_28 (S21_28 a0 a1 a2 a3 a4 a5 a6 a7 a8 a9 a10 a11 a12 a13 a14 a15 a16 a17 a18 a19)
end
noncomputable def X21 (call : CallT) (run : RunT) (a0 a1 : UInt8) (a2 : Bool) (a3 a4 a5 a6 : UInt8) (a7 : Bool) (a8 : UInt8) (a9 : List UInt8) : Option AV :=
  (selW (.b (ugt a0 20)) false (some (.b (ugt a1 4))) (.b true)).bind fun v1 => (selW (v1) false (some (.b (ugt a3 4))) (.b true)).bind fun v2 => (selW (v2) false (some (.b (ugt a5 5))) (.b true)).bind fun v3 => (selW (v3) false (some (.b (ugt a6 6))) (.b true)).bind fun v4 => (selW (v4) false ((selW (.b a2) true (some (.b (une a1 0))) (.b false)).bind fun v5 => some (v5)) (.b true)).bind fun v6 => condM (v6)
  (some (.b false))
  (condM (.b (ueq a0 3))
  ((selW (.b ((a0 == a0 && (a1 == 0 && (a2 == a2 && (a3 == 0 && (a4 == 0 && (a5 == 0 && (a6 == 0 && (a7 == false && (a8 == 0 && (a9 == a9 && true)))))))))))) true ((call 43 [.s a9, .int 32]).bind fun v7 => some (v7)) (.b false)).bind fun v8 => some (v8))
  (condM (.b (ueq a0 4))
  (F21_11 run a0 a1 a2 a3 a4 a5 a6 a7 a8 a9 a0 a1 a2 0 0 0 0 false 0 [])
  (condM (.b (ueq a0 9))
  (F21_11 run a0 a1 a2 a3 a4 a5 a6 a7 a8 a9 a0 a1 a2 0 0 0 0 false 0 [])
  (condM (.b (ueq a0 10))
  (F21_11 run a0 a1 a2 a3 a4 a5 a6 a7 a8 a9 a0 a1 a2 0 0 0 0 false 0 [])
  (F21_12 run a0 a0 a1 a2 a3 a4 a5 a6 a7 a8 a9 a0 0 false 0 0 0 0 false 0 [] a0 a1 a2 0 0 0 0 false 0 [])))))
section
variable (call : CallT) (run : RunT) (a0 a1 : UInt8) (a2 : Bool) (a3 a4 a5 a6 : UInt8) (a7 : Bool) (a8 : UInt8) (a9 : List UInt8)
theorem text21 : unr C call run 21 Tryd.f21 400 [.code body21] (initF C 21 Tryd.f21.ntmps [.ag [.u8 a0, .u8 a1, .b a2, .u8 a3, .u8 a4, .u8 a5, .u8 a6, .b a7, .u8 a8, .s a9]]) = X21 call run a0 a1 a2 a3 a4 a5 a6 a7 a8 a9 := by
  kernel_rfl
theorem c21 {r : AV} (h : X21 (semCall C Tryd.prog) (semRun C Tryd.prog 21 Tryd.f21) a0 a1 a2 a3 a4 a5 a6 a7 a8 a9 = some r) : semCall C Tryd.prog 21 [.ag [.u8 a0, .u8 a1, .b a2, .u8 a3, .u8 a4, .u8 a5, .u8 a6, .b a7, .u8 a8, .s a9]] = some r :=
  semCall_unr (fn := Tryd.f21) (c := body21) (by kernel_rfl) (by kernel_rfl) 400 (by kernel_rfl) ((text21 _ _ a0 a1 a2 a3 a4 a5 a6 a7 a8 a9).trans h)
end
noncomputable def X21_11 (call : CallT) (run : RunT) (a0 a1 : UInt8) (a2 : Bool) (a3 a4 a5 a6 : UInt8) (a7 : Bool) (a8 : UInt8) (a9 : List UInt8) (a10 a11 : UInt8) (a12 : Bool) (a13 a14 a15 a16 : UInt8) (a17 : Bool) (a18 : UInt8) (a19 : List UInt8) : Option AV :=
  some (.b ((a0 == a10 && (a1 == a11 && (a2 == a12 && (a3 == a13 && (a4 == a14 && (a5 == a15 && (a6 == a16 && (a7 == a17 && (a8 == a18 && (a9 == a19 && true))))))))))))
section
variable (call : CallT) (run : RunT) (a0 a1 : UInt8) (a2 : Bool) (a3 a4 a5 a6 : UInt8) (a7 : Bool) (a8 : UInt8) (a9 : List UInt8) (a10 a11 : UInt8) (a12 : Bool) (a13 a14 a15 a16 : UInt8) (a17 : Bool) (a18 : UInt8) (a19 : List UInt8)
theorem text21_11 : step C call 21 Tryd.f21 (unr C call run 21 Tryd.f21 400) K21_11 (S21_11 a0 a1 a2 a3 a4 a5 a6 a7 a8 a9 a10 a11 a12 a13 a14 a15 a16 a17 a18 a19) = X21_11 call run a0 a1 a2 a3 a4 a5 a6 a7 a8 a9 a10 a11 a12 a13 a14 a15 a16 a17 a18 a19 := by
  kernel_rfl
end
noncomputable def X21_12 (call : CallT) (run : RunT) (a0 a1 a2 : UInt8) (a3 : Bool) (a4 a5 a6 a7 : UInt8) (a8 : Bool) (a9 : UInt8) (a10 : List UInt8) (a11 a12 : UInt8) (a13 : Bool) (a14 a15 a16 a17 : UInt8) (a18 : Bool) (a19 : UInt8) (a20 : List UInt8) (a21 a22 : UInt8) (a23 : Bool) (a24 a25 a26 a27 : UInt8) (a28 : Bool) (a29 : UInt8) (a30 : List UInt8) : Option AV :=
  condM (.b (ueq a0 5))
  (F21_14 run a1 a2 a3 a4 a5 a6 a7 a8 a9 a10 a21 a22 a23 a24 a25 a26 a27 a28 a29 a30)
  (condM (.b (ueq a0 6))
  (F21_14 run a1 a2 a3 a4 a5 a6 a7 a8 a9 a10 a21 a22 a23 a24 a25 a26 a27 a28 a29 a30)
  (F21_16 run a0 a1 a2 a3 a4 a5 a6 a7 a8 a9 a10 a11 a12 a13 a14 a15 a16 a17 a18 a19 a20 a21 a22 a23 a24 a25 a26 a27 a28 a29 a30))
section
variable (call : CallT) (run : RunT) (a0 a1 a2 : UInt8) (a3 : Bool) (a4 a5 a6 a7 : UInt8) (a8 : Bool) (a9 : UInt8) (a10 : List UInt8) (a11 a12 : UInt8) (a13 : Bool) (a14 a15 a16 a17 : UInt8) (a18 : Bool) (a19 : UInt8) (a20 : List UInt8) (a21 a22 : UInt8) (a23 : Bool) (a24 a25 a26 a27 : UInt8) (a28 : Bool) (a29 : UInt8) (a30 : List UInt8)
theorem text21_12 : step C call 21 Tryd.f21 (unr C call run 21 Tryd.f21 400) K21_12 (S21_12 a0 a1 a2 a3 a4 a5 a6 a7 a8 a9 a10 a11 a12 a13 a14 a15 a16 a17 a18 a19 a20 a21 a22 a23 a24 a25 a26 a27 a28 a29 a30) = X21_12 call run a0 a1 a2 a3 a4 a5 a6 a7 a8 a9 a10 a11 a12 a13 a14 a15 a16 a17 a18 a19 a20 a21 a22 a23 a24 a25 a26 a27 a28 a29 a30 := by
  kernel_rfl
end
noncomputable def X21_14 (call : CallT) (run : RunT) (a0 a1 : UInt8) (a2 : Bool) (a3 a4 a5 a6 : UInt8) (a7 : Bool) (a8 : UInt8) (a9 : List UInt8) (a10 a11 : UInt8) (a12 : Bool) (a13 a14 a15 a16 : UInt8) (a17 : Bool) (a18 : UInt8) (a19 : List UInt8) : Option AV :=
  (selW (.b ((a0 == a10 && (a1 == a11 && (a2 == a12 && (a3 == a13 && (a4 == a14 && (a5 == a15 && (a6 == a16 && (a7 == a17 && (a8 == a18 && (a9 == a9 && true)))))))))))) true ((call 43 [.s a9, .int 32]).bind fun v1 => some (v1)) (.b false)).bind fun v2 => some (v2)
section
variable (call : CallT) (run : RunT) (a0 a1 : UInt8) (a2 : Bool) (a3 a4 a5 a6 : UInt8) (a7 : Bool) (a8 : UInt8) (a9 : List UInt8) (a10 a11 : UInt8) (a12 : Bool) (a13 a14 a15 a16 : UInt8) (a17 : Bool) (a18 : UInt8) (a19 : List UInt8)
theorem text21_14 : step C call 21 Tryd.f21 (unr C call run 21 Tryd.f21 400) K21_14 (S21_14 a0 a1 a2 a3 a4 a5 a6 a7 a8 a9 a10 a11 a12 a13 a14 a15 a16 a17 a18 a19) = X21_14 call run a0 a1 a2 a3 a4 a5 a6 a7 a8 a9 a10 a11 a12 a13 a14 a15 a16 a17 a18 a19 := by
  kernel_rfl
end
noncomputable def X21_16 (call : CallT) (run : RunT) (a0 a1 a2 : UInt8) (a3 : Bool) (a4 a5 a6 a7 : UInt8) (a8 : Bool) (a9 : UInt8) (a10 : List UInt8) (a11 a12 : UInt8) (a13 : Bool) (a14 a15 a16 a17 : UInt8) (a18 : Bool) (a19 : UInt8) (a20 : List UInt8) (a21 a22 : UInt8) (a23 : Bool) (a24 a25 a26 a27 : UInt8) (a28 : Bool) (a29 : UInt8) (a30 : List UInt8) : Option AV :=
  condM (.b (ueq a0 7))
  (some (.b ((a1 == a21 && (a2 == a22 && (a3 == a23 && (a4 == a4 && (a5 == a25 && (a6 == a26 && (a7 == a27 && (a8 == a28 && (a9 == a29 && (a10 == a30 && true)))))))))))))
  (condM (.b (ueq a0 8))
  ((call 44 [.ag [.u8 a1, .u8 a2, .b a3, .u8 a4, .u8 a5, .u8 a6, .u8 a7, .b a8, .u8 a9, .s a10], .ag [.u8 a21, .u8 a22, .b a23, .u8 a24, .u8 a25, .u8 a26, .u8 a27, .b a28, .u8 a29, .s a30]]).bind fun v1 => some (v1))
  (condM (.b (ueq a0 15))
  ((selW (.b ((a1 == a11 && (a2 == a12 && (a3 == a13 && (a4 == a14 && (a5 == a15 && (a6 == a16 && (a7 == a17 && (a8 == a18 && (a9 == a9 && (a10 == a20 && true)))))))))))) true (some (.b (ule a9 2))) (.b false)).bind fun v2 => some (v2))
  (condM (.b (ueq a0 17))
  (F21_27 run a1 a2 a3 a4 a5 a6 a7 a8 a9 a10)
  (condM (.b (ueq a0 18))
  (F21_27 run a1 a2 a3 a4 a5 a6 a7 a8 a9 a10)
  (condM (.b (ueq a0 19))
  (F21_27 run a1 a2 a3 a4 a5 a6 a7 a8 a9 a10)
  (F21_28 run a1 a2 a3 a4 a5 a6 a7 a8 a9 a10 a11 a12 a13 a14 a15 a16 a17 a18 a19 a20))))))
section
variable (call : CallT) (run : RunT) (a0 a1 a2 : UInt8) (a3 : Bool) (a4 a5 a6 a7 : UInt8) (a8 : Bool) (a9 : UInt8) (a10 : List UInt8) (a11 a12 : UInt8) (a13 : Bool) (a14 a15 a16 a17 : UInt8) (a18 : Bool) (a19 : UInt8) (a20 : List UInt8) (a21 a22 : UInt8) (a23 : Bool) (a24 a25 a26 a27 : UInt8) (a28 : Bool) (a29 : UInt8) (a30 : List UInt8)
theorem text21_16 : step C call 21 Tryd.f21 (unr C call run 21 Tryd.f21 400) K21_16 (S21_16 a0 a1 a2 a3 a4 a5 a6 a7 a8 a9 a10 a11 a12 a13 a14 a15 a16 a17 a18 a19 a20 a21 a22 a23 a24 a25 a26 a27 a28 a29 a30) = X21_16 call run a0 a1 a2 a3 a4 a5 a6 a7 a8 a9 a10 a11 a12 a13 a14 a15 a16 a17 a18 a19 a20 a21 a22 a23 a24 a25 a26 a27 a28 a29 a30 := by
  kernel_rfl
end
noncomputable def X21_27 (call : CallT) (run : RunT) (a0 a1 : UInt8) (a2 : Bool) (a3 a4 a5 a6 : UInt8) (a7 : Bool) (a8 : UInt8) (a9 : List UInt8) : Option AV :=
  (call 45 [.ag [.u8 a0, .u8 a1, .b a2, .u8 a3, .u8 a4, .u8 a5, .u8 a6, .b a7, .u8 a8, .s a9]]).bind fun v1 => some (v1)
section
variable (call : CallT) (run : RunT) (a0 a1 : UInt8) (a2 : Bool) (a3 a4 a5 a6 : UInt8) (a7 : Bool) (a8 : UInt8) (a9 : List UInt8)
theorem text21_27 : step C call 21 Tryd.f21 (unr C call run 21 Tryd.f21 400) K21_27 (S21_27 a0 a1 a2 a3 a4 a5 a6 a7 a8 a9) = X21_27 call run a0 a1 a2 a3 a4 a5 a6 a7 a8 a9 := by
  kernel_rfl
end
noncomputable def X21_28 (call : CallT) (run : RunT) (a0 a1 : UInt8) (a2 : Bool) (a3 a4 a5 a6 : UInt8) (a7 : Bool) (a8 : UInt8) (a9 : List UInt8) (a10 a11 : UInt8) (a12 : Bool) (a13 a14 a15 a16 : UInt8) (a17 : Bool) (a18 : UInt8) (a19 : List UInt8) : Option AV :=
  some (.b ((a0 == a10 && (a1 == a11 && (a2 == a12 && (a3 == a13 && (a4 == a14 && (a5 == a15 && (a6 == a16 && (a7 == a17 && (a8 == a18 && (a9 == a19 && true))))))))))))
section
variable (call : CallT) (run : RunT) (a0 a1 : UInt8) (a2 : Bool) (a3 a4 a5 a6 : UInt8) (a7 : Bool) (a8 : UInt8) (a9 : List UInt8) (a10 a11 : UInt8) (a12 : Bool) (a13 a14 a15 a16 : UInt8) (a17 : Bool) (a18 : UInt8) (a19 : List UInt8)
theorem text21_28 : step C call 21 Tryd.f21 (unr C call run 21 Tryd.f21 400) K21_28 (S21_28 a0 a1 a2 a3 a4 a5 a6 a7 a8 a9 a10 a11 a12 a13 a14 a15 a16 a17 a18 a19) = X21_28 call run a0 a1 a2 a3 a4 a5 a6 a7 a8 a9 a10 a11 a12 a13 a14 a15 a16 a17 a18 a19 := by
  kernel_rfl
end
section
variable (a0 a1 : UInt8) (a2 : Bool) (a3 a4 a5 a6 : UInt8) (a7 : Bool) (a8 : UInt8) (a9 : List UInt8) (a10 a11 : UInt8) (a12 : Bool) (a13 a14 a15 a16 : UInt8) (a17 : Bool) (a18 : UInt8) (a19 : List UInt8)
theorem r21_11 {r : AV} (h : X21_11 (semCall C Tryd.prog) (semRun C Tryd.prog 21 Tryd.f21) a0 a1 a2 a3 a4 a5 a6 a7 a8 a9 a10 a11 a12 a13 a14 a15 a16 a17 a18 a19 = some r) : F21_11 (semRun C Tryd.prog 21 Tryd.f21) a0 a1 a2 a3 a4 a5 a6 a7 a8 a9 a10 a11 a12 a13 a14 a15 a16 a17 a18 a19 = some r :=
  semRun_unr 400 ((text21_11 _ _ a0 a1 a2 a3 a4 a5 a6 a7 a8 a9 a10 a11 a12 a13 a14 a15 a16 a17 a18 a19).trans h)
end
section
variable (a0 a1 a2 : UInt8) (a3 : Bool) (a4 a5 a6 a7 : UInt8) (a8 : Bool) (a9 : UInt8) (a10 : List UInt8) (a11 a12 : UInt8) (a13 : Bool) (a14 a15 a16 a17 : UInt8) (a18 : Bool) (a19 : UInt8) (a20 : List UInt8) (a21 a22 : UInt8) (a23 : Bool) (a24 a25 a26 a27 : UInt8) (a28 : Bool) (a29 : UInt8) (a30 : List UInt8)
theorem r21_12 {r : AV} (h : X21_12 (semCall C Tryd.prog) (semRun C Tryd.prog 21 Tryd.f21) a0 a1 a2 a3 a4 a5 a6 a7 a8 a9 a10 a11 a12 a13 a14 a15 a16 a17 a18 a19 a20 a21 a22 a23 a24 a25 a26 a27 a28 a29 a30 = some r) : F21_12 (semRun C Tryd.prog 21 Tryd.f21) a0 a1 a2 a3 a4 a5 a6 a7 a8 a9 a10 a11 a12 a13 a14 a15 a16 a17 a18 a19 a20 a21 a22 a23 a24 a25 a26 a27 a28 a29 a30 = some r :=
  semRun_unr 400 ((text21_12 _ _ a0 a1 a2 a3 a4 a5 a6 a7 a8 a9 a10 a11 a12 a13 a14 a15 a16 a17 a18 a19 a20 a21 a22 a23 a24 a25 a26 a27 a28 a29 a30).trans h)
end
section
variable (a0 a1 : UInt8) (a2 : Bool) (a3 a4 a5 a6 : UInt8) (a7 : Bool) (a8 : UInt8) (a9 : List UInt8) (a10 a11 : UInt8) (a12 : Bool) (a13 a14 a15 a16 : UInt8) (a17 : Bool) (a18 : UInt8) (a19 : List UInt8)
theorem r21_14 {r : AV} (h : X21_14 (semCall C Tryd.prog) (semRun C Tryd.prog 21 Tryd.f21) a0 a1 a2 a3 a4 a5 a6 a7 a8 a9 a10 a11 a12 a13 a14 a15 a16 a17 a18 a19 = some r) : F21_14 (semRun C Tryd.prog 21 Tryd.f21) a0 a1 a2 a3 a4 a5 a6 a7 a8 a9 a10 a11 a12 a13 a14 a15 a16 a17 a18 a19 = some r :=
  semRun_unr 400 ((text21_14 _ _ a0 a1 a2 a3 a4 a5 a6 a7 a8 a9 a10 a11 a12 a13 a14 a15 a16 a17 a18 a19).trans h)
end
section
variable (a0 a1 a2 : UInt8) (a3 : Bool) (a4 a5 a6 a7 : UInt8) (a8 : Bool) (a9 : UInt8) (a10 : List UInt8) (a11 a12 : UInt8) (a13 : Bool) (a14 a15 a16 a17 : UInt8) (a18 : Bool) (a19 : UInt8) (a20 : List UInt8) (a21 a22 : UInt8) (a23 : Bool) (a24 a25 a26 a27 : UInt8) (a28 : Bool) (a29 : UInt8) (a30 : List UInt8)
theorem r21_16 {r : AV} (h : X21_16 (semCall C Tryd.prog) (semRun C Tryd.prog 21 Tryd.f21) a0 a1 a2 a3 a4 a5 a6 a7 a8 a9 a10 a11 a12 a13 a14 a15 a16 a17 a18 a19 a20 a21 a22 a23 a24 a25 a26 a27 a28 a29 a30 = some r) : F21_16 (semRun C Tryd.prog 21 Tryd.f21) a0 a1 a2 a3 a4 a5 a6 a7 a8 a9 a10 a11 a12 a13 a14 a15 a16 a17 a18 a19 a20 a21 a22 a23 a24 a25 a26 a27 a28 a29 a30 = some r :=
  semRun_unr 400 ((text21_16 _ _ a0 a1 a2 a3 a4 a5 a6 a7 a8 a9 a10 a11 a12 a13 a14 a15 a16 a17 a18 a19 a20 a21 a22 a23 a24 a25 a26 a27 a28 a29 a30).trans h)
end
section
variable (a0 a1 : UInt8) (a2 : Bool) (a3 a4 a5 a6 : UInt8) (a7 : Bool) (a8 : UInt8) (a9 : List UInt8)
theorem r21_27 {r : AV} (h : X21_27 (semCall C Tryd.prog) (semRun C Tryd.prog 21 Tryd.f21) a0 a1 a2 a3 a4 a5 a6 a7 a8 a9 = some r) : F21_27 (semRun C Tryd.prog 21 Tryd.f21) a0 a1 a2 a3 a4 a5 a6 a7 a8 a9 = some r :=
  semRun_unr 400 ((text21_27 _ _ a0 a1 a2 a3 a4 a5 a6 a7 a8 a9).trans h)
end
section
variable (a0 a1 : UInt8) (a2 : Bool) (a3 a4 a5 a6 : UInt8) (a7 : Bool) (a8 : UInt8) (a9 : List UInt8) (a10 a11 : UInt8) (a12 : Bool) (a13 a14 a15 a16 : UInt8) (a17 : Bool) (a18 : UInt8) (a19 : List UInt8)
theorem r21_28 {r : AV} (h : X21_28 (semCall C Tryd.prog) (semRun C Tryd.prog 21 Tryd.f21) a0 a1 a2 a3 a4 a5 a6 a7 a8 a9 a10 a11 a12 a13 a14 a15 a16 a17 a18 a19 = some r) : F21_28 (semRun C Tryd.prog 21 Tryd.f21) a0 a1 a2 a3 a4 a5 a6 a7 a8 a9 a10 a11 a12 a13 a14 a15 a16 a17 a18 a19 = some r :=
  semRun_unr 400 ((text21_28 _ _ a0 a1 a2 a3 a4 a5 a6 a7 a8 a9 a10 a11 a12 a13 a14 a15 a16 a17 a18 a19).trans h)
end
end R2

namespace R2
open Go Go.Proofs Sx
noncomputable def body26 : Code := (Tryd.f26.body).getD .skip
noncomputable def X26 (call : CallT) (run : RunT) (a0 : List UInt8) : Option AV :=
  condM (.b (a0 == [116, 101, 120, 116, 97, 114, 101, 97]))
  (some (.u8 1))
  (condM (.b (a0 == [116, 105, 116, 108, 101]))
  (some (.u8 2))
  (condM (.b (a0 == [115, 99, 114, 105, 112, 116]))
  (some (.u8 3))
  (condM (.b (a0 == [115, 116, 121, 108, 101]))
  (some (.u8 4))
  (some (.u8 0)))))
section
variable (call : CallT) (run : RunT) (a0 : List UInt8)
theorem text26 : unr C call run 26 Tryd.f26 400 [.code body26] (initF C 26 Tryd.f26.ntmps [.s a0]) = X26 call run a0 := by
  kernel_rfl
theorem c26 {r : AV} (h : X26 (semCall C Tryd.prog) (semRun C Tryd.prog 26 Tryd.f26) a0 = some r) : semCall C Tryd.prog 26 [.s a0] = some r :=
  semCall_unr (fn := Tryd.f26) (c := body26) (by kernel_rfl) (by kernel_rfl) 400 (by kernel_rfl) ((text26 _ _ a0).trans h)
end
end R2

namespace R2
open Go Go.Proofs Sx
noncomputable def body43 : Code := (Tryd.f43.body).getD .skip
section
variable (run : RunT) (a0 : List UInt8) (a1 a2 a3 : Int)
noncomputable def K43_2 : List Item := (kAt 2 body43 []).getD []
def S43_2 : St := St.ofL [(0, .cell (.val (.s a0))), (1, .cell (.val (.int a1))), (7, .cell (.val (.int a2))), (8, .cell (.val (.int a3)))] []
noncomputable def F43_2 : Option AV := run K43_2 (S43_2 a0 a1 a2 a3)
end
noncomputable def X43 (call : CallT) (run : RunT) (a0 : List UInt8) (a1 : Int) : Option AV :=
  F43_2 run a0 a1 ((a0.length : Int)) 0
section
variable (call : CallT) (run : RunT) (a0 : List UInt8) (a1 : Int)
theorem text43 : unr C call run 43 Tryd.f43 400 [.code body43] (initF C 43 Tryd.f43.ntmps [.s a0, .int a1]) = X43 call run a0 a1 := by
  kernel_rfl
theorem c43 {r : AV} (h : X43 (semCall C Tryd.prog) (semRun C Tryd.prog 43 Tryd.f43) a0 a1 = some r) : semCall C Tryd.prog 43 [.s a0, .int a1] = some r :=
  semCall_unr (fn := Tryd.f43) (c := body43) (by kernel_rfl) (by kernel_rfl) 400 (by kernel_rfl) ((text43 _ _ a0 a1).trans h)
end
noncomputable def X43_2 (call : CallT) (run : RunT) (a0 : List UInt8) (a1 a2 a3 : Int) : Option AV :=
  condM (.b (decide (a3 < a2)))
  ((idxS (.s a0) (.int a3)).bind fun v1 => (binI .geq (v1) (.u8 65)).bind fun v2 => (selW (v2) true ((idxS (.s a0) (.int a3)).bind fun v3 => (binI .leq (v3) (.u8 90)).bind fun v4 => some (v4)) (.b false)).bind fun v5 => condM (v5)
  (some (.b false))
  (F43_2 run a0 a1 a2 (w64 (a3 + 1))))
  ((selW (.b (decide (((a0.length : Int)) ≥ 1))) true (some (.b (decide (((a0.length : Int)) ≤ a1)))) (.b false)).bind fun v6 => some (v6))
section
variable (call : CallT) (run : RunT) (a0 : List UInt8) (a1 a2 a3 : Int)
theorem text43_2 : step C call 43 Tryd.f43 (unr C call run 43 Tryd.f43 400) K43_2 (S43_2 a0 a1 a2 a3) = X43_2 call run a0 a1 a2 a3 := by
  kernel_rfl
end
section
variable (a0 : List UInt8) (a1 a2 a3 : Int)
theorem r43_2 {r : AV} (h : X43_2 (semCall C Tryd.prog) (semRun C Tryd.prog 43 Tryd.f43) a0 a1 a2 a3 = some r) : F43_2 (semRun C Tryd.prog 43 Tryd.f43) a0 a1 a2 a3 = some r :=
  semRun_unr 400 ((text43_2 _ _ a0 a1 a2 a3).trans h)
end
end R2

namespace R2
open Go Go.Proofs Sx
noncomputable def body44 : Code := (Tryd.f44.body).getD .skip
section
variable (run : RunT) (a0 a1 : UInt8) (a2 : Bool) (a3 a4 a5 a6 : UInt8) (a7 : Bool) (a8 : UInt8) (a9 : List UInt8) (a10 a11 : UInt8) (a12 : Bool) (a13 a14 a15 a16 : UInt8) (a17 : Bool) (a18 : UInt8) (a19 : List UInt8)
noncomputable def K44_14 : List Item := (kAt 14 body44 []).getD []
def S44_14 : St := St.ofL [(2, .cell (.ptr 2 0)), (3, .cell (.ptr 3 0))] [(2, some [.val (.u8 a0), .val (.u8 a1), .val (.b a2), .val (.u8 a3), .val (.u8 a4), .val (.u8 a5), .val (.u8 a6), .val (.b a7), .val (.u8 a8), .val (.s a9)]), (3, some [.val (.u8 a10), .val (.u8 a11), .val (.b a12), .val (.u8 a13), .val (.u8 a14), .val (.u8 a15), .val (.u8 a16), .val (.b a17), .val (.u8 a18), .val (.s a19)])]
noncomputable def F44_14 : Option AV := run K44_14 (S44_14 a0 a1 a2 a3 a4 a5 a6 a7 a8 a9 a10 a11 a12 a13 a14 a15 a16 a17 a18 a19)
end
section
variable (run : RunT) (a0 a1 : UInt8) (a2 : Bool) (a3 a4 a5 a6 : UInt8) (a7 : Bool) (a8 : UInt8) (a9 : List UInt8) (a10 a11 : UInt8) (a12 : Bool) (a13 a14 a15 a16 : UInt8) (a17 : Bool) (a18 : UInt8) (a19 : List UInt8)
noncomputable def K44_12 : List Item := (kAt 12 body44 []).getD []
def S44_12 : St := St.ofL [(2, .cell (.ptr 2 0)), (3, .cell (.ptr 3 0))] [(2, some [.val (.u8 a0), .val (.u8 a1), .val (.b a2), .val (.u8 a3), .val (.u8 a4), .val (.u8 a5), .val (.u8 a6), .val (.b a7), .val (.u8 a8), .val (.s a9)]), (3, some [.val (.u8 a10), .val (.u8 a11), .val (.b a12), .val (.u8 a13), .val (.u8 a14), .val (.u8 a15), .val (.u8 a16), .val (.b a17), .val (.u8 a18), .val (.s a19)])]
noncomputable def F44_12 : Option AV := run K44_12 (S44_12 a0 a1 a2 a3 a4 a5 a6 a7 a8 a9 a10 a11 a12 a13 a14 a15 a16 a17 a18 a19)
end
noncomputable def X44 (call : CallT) (run : RunT) (a0 a1 : UInt8) (a2 : Bool) (a3 a4 a5 a6 : UInt8) (a7 : Bool) (a8 : UInt8) (a9 : List UInt8) (a10 a11 : UInt8) (a12 : Bool) (a13 a14 a15 a16 : UInt8) (a17 : Bool) (a18 : UInt8) (a19 : List UInt8) : Option AV :=
  (selW (.b (une a4 0)) true (some (.b (une a4 34))) (.b false)).bind fun v1 => (selW (v1) true (some (.b (une a4 39))) (.b false)).bind fun v2 => condM (v2)
  (some (.b false))
  (condM (.b (ueq a3 1))
  (condM (.b (ueq a5 1))
  ((selW (.b ((a0 == a10 && (a1 == a11 && (a2 == a12 && (a3 == a3 && (a4 == a4 && (a5 == a5 && (a6 == a16 && (a7 == a17 && (a8 == a18 && (a9 == a9 && true)))))))))))) true ((call 43 [.s a9, .int 16]).bind fun v3 => some (v3)) (.b false)).bind fun v4 => some (v4))
  (F44_14 run a0 a1 a2 a3 a4 a5 a6 a7 a8 a9 a10 a11 a12 a3 a4 a5 a16 a17 a18 a19))
  (condM (.b (ueq a3 2))
  (F44_12 run a0 a1 a2 a3 a4 a5 a6 a7 a8 a9 a10 a11 a12 a3 a4 a15 a16 a17 a18 a19)
  (condM (.b (ueq a3 3))
  (F44_12 run a0 a1 a2 a3 a4 a5 a6 a7 a8 a9 a10 a11 a12 a3 a4 a15 a16 a17 a18 a19)
  (F44_14 run a0 a1 a2 a3 a4 a5 a6 a7 a8 a9 a10 a11 a12 a3 a4 a15 a16 a17 a18 a19))))
section
variable (call : CallT) (run : RunT) (a0 a1 : UInt8) (a2 : Bool) (a3 a4 a5 a6 : UInt8) (a7 : Bool) (a8 : UInt8) (a9 : List UInt8) (a10 a11 : UInt8) (a12 : Bool) (a13 a14 a15 a16 : UInt8) (a17 : Bool) (a18 : UInt8) (a19 : List UInt8)
theorem text44 : unr C call run 44 Tryd.f44 400 [.code body44] (initF C 44 Tryd.f44.ntmps [.ag [.u8 a0, .u8 a1, .b a2, .u8 a3, .u8 a4, .u8 a5, .u8 a6, .b a7, .u8 a8, .s a9], .ag [.u8 a10, .u8 a11, .b a12, .u8 a13, .u8 a14, .u8 a15, .u8 a16, .b a17, .u8 a18, .s a19]]) = X44 call run a0 a1 a2 a3 a4 a5 a6 a7 a8 a9 a10 a11 a12 a13 a14 a15 a16 a17 a18 a19 := by
  kernel_rfl
theorem c44 {r : AV} (h : X44 (semCall C Tryd.prog) (semRun C Tryd.prog 44 Tryd.f44) a0 a1 a2 a3 a4 a5 a6 a7 a8 a9 a10 a11 a12 a13 a14 a15 a16 a17 a18 a19 = some r) : semCall C Tryd.prog 44 [.ag [.u8 a0, .u8 a1, .b a2, .u8 a3, .u8 a4, .u8 a5, .u8 a6, .b a7, .u8 a8, .s a9], .ag [.u8 a10, .u8 a11, .b a12, .u8 a13, .u8 a14, .u8 a15, .u8 a16, .b a17, .u8 a18, .s a19]] = some r :=
  semCall_unr (fn := Tryd.f44) (c := body44) (by kernel_rfl) (by kernel_rfl) 400 (by kernel_rfl) ((text44 _ _ a0 a1 a2 a3 a4 a5 a6 a7 a8 a9 a10 a11 a12 a13 a14 a15 a16 a17 a18 a19).trans h)
end
noncomputable def X44_14 (call : CallT) (run : RunT) (a0 a1 : UInt8) (a2 : Bool) (a3 a4 a5 a6 : UInt8) (a7 : Bool) (a8 : UInt8) (a9 : List UInt8) (a10 a11 : UInt8) (a12 : Bool) (a13 a14 a15 a16 : UInt8) (a17 : Bool) (a18 : UInt8) (a19 : List UInt8) : Option AV :=
  some (.b ((a0 == a10 && (a1 == a11 && (a2 == a12 && (a3 == a13 && (a4 == a14 && (a5 == a15 && (a6 == a16 && (a7 == a17 && (a8 == a18 && (a9 == a19 && true))))))))))))
section
variable (call : CallT) (run : RunT) (a0 a1 : UInt8) (a2 : Bool) (a3 a4 a5 a6 : UInt8) (a7 : Bool) (a8 : UInt8) (a9 : List UInt8) (a10 a11 : UInt8) (a12 : Bool) (a13 a14 a15 a16 : UInt8) (a17 : Bool) (a18 : UInt8) (a19 : List UInt8)
theorem text44_14 : step C call 44 Tryd.f44 (unr C call run 44 Tryd.f44 400) K44_14 (S44_14 a0 a1 a2 a3 a4 a5 a6 a7 a8 a9 a10 a11 a12 a13 a14 a15 a16 a17 a18 a19) = X44_14 call run a0 a1 a2 a3 a4 a5 a6 a7 a8 a9 a10 a11 a12 a13 a14 a15 a16 a17 a18 a19 := by
  kernel_rfl
end
noncomputable def X44_12 (call : CallT) (run : RunT) (a0 a1 : UInt8) (a2 : Bool) (a3 a4 a5 a6 : UInt8) (a7 : Bool) (a8 : UInt8) (a9 : List UInt8) (a10 a11 : UInt8) (a12 : Bool) (a13 a14 a15 a16 : UInt8) (a17 : Bool) (a18 : UInt8) (a19 : List UInt8) : Option AV :=
  (selW (.b ((a0 == a10 && (a1 == a11 && (a2 == a12 && (a3 == a13 && (a4 == a14 && (a5 == a15 && (a6 == a6 && (a7 == a7 && (a8 == a18 && (a9 == a19 && true)))))))))))) true ((call 75 [.ag [.u8 a0, .u8 a1, .b a2, .u8 a3, .u8 a4, .u8 a5, .u8 a6, .b a7, .u8 a8, .s a9], .b (ueq a3 2)]).bind fun v1 => some (v1)) (.b false)).bind fun v2 => some (v2)
section
variable (call : CallT) (run : RunT) (a0 a1 : UInt8) (a2 : Bool) (a3 a4 a5 a6 : UInt8) (a7 : Bool) (a8 : UInt8) (a9 : List UInt8) (a10 a11 : UInt8) (a12 : Bool) (a13 a14 a15 a16 : UInt8) (a17 : Bool) (a18 : UInt8) (a19 : List UInt8)
theorem text44_12 : step C call 44 Tryd.f44 (unr C call run 44 Tryd.f44 400) K44_12 (S44_12 a0 a1 a2 a3 a4 a5 a6 a7 a8 a9 a10 a11 a12 a13 a14 a15 a16 a17 a18 a19) = X44_12 call run a0 a1 a2 a3 a4 a5 a6 a7 a8 a9 a10 a11 a12 a13 a14 a15 a16 a17 a18 a19 := by
  kernel_rfl
end
section
variable (a0 a1 : UInt8) (a2 : Bool) (a3 a4 a5 a6 : UInt8) (a7 : Bool) (a8 : UInt8) (a9 : List UInt8) (a10 a11 : UInt8) (a12 : Bool) (a13 a14 a15 a16 : UInt8) (a17 : Bool) (a18 : UInt8) (a19 : List UInt8)
theorem r44_14 {r : AV} (h : X44_14 (semCall C Tryd.prog) (semRun C Tryd.prog 44 Tryd.f44) a0 a1 a2 a3 a4 a5 a6 a7 a8 a9 a10 a11 a12 a13 a14 a15 a16 a17 a18 a19 = some r) : F44_14 (semRun C Tryd.prog 44 Tryd.f44) a0 a1 a2 a3 a4 a5 a6 a7 a8 a9 a10 a11 a12 a13 a14 a15 a16 a17 a18 a19 = some r :=
  semRun_unr 400 ((text44_14 _ _ a0 a1 a2 a3 a4 a5 a6 a7 a8 a9 a10 a11 a12 a13 a14 a15 a16 a17 a18 a19).trans h)
end
section
variable (a0 a1 : UInt8) (a2 : Bool) (a3 a4 a5 a6 : UInt8) (a7 : Bool) (a8 : UInt8) (a9 : List UInt8) (a10 a11 : UInt8) (a12 : Bool) (a13 a14 a15 a16 : UInt8) (a17 : Bool) (a18 : UInt8) (a19 : List UInt8)
theorem r44_12 {r : AV} (h : X44_12 (semCall C Tryd.prog) (semRun C Tryd.prog 44 Tryd.f44) a0 a1 a2 a3 a4 a5 a6 a7 a8 a9 a10 a11 a12 a13 a14 a15 a16 a17 a18 a19 = some r) : F44_12 (semRun C Tryd.prog 44 Tryd.f44) a0 a1 a2 a3 a4 a5 a6 a7 a8 a9 a10 a11 a12 a13 a14 a15 a16 a17 a18 a19 = some r :=
  semRun_unr 400 ((text44_12 _ _ a0 a1 a2 a3 a4 a5 a6 a7 a8 a9 a10 a11 a12 a13 a14 a15 a16 a17 a18 a19).trans h)
end
end R2

namespace R2
open Go Go.Proofs Sx
noncomputable def body45 : Code := (Tryd.f45.body).getD .skip
section
variable (run : RunT) (a0 a1 : UInt8) (a2 : Bool) (a3 a4 a5 a6 : UInt8) (a7 : Bool) (a8 : UInt8) (a9 : List UInt8) (a10 a11 : UInt8) (a12 : Bool) (a13 a14 a15 a16 : UInt8) (a17 : Bool) (a18 : UInt8) (a19 : List UInt8)
noncomputable def K45_4 : List Item := (kAt 4 body45 []).getD []
def S45_4 : St := St.ofL [(1, .cell (.ptr 1 0)), (3, .cell (.ptr 3 0))] [(1, some [.val (.u8 a0), .val (.u8 a1), .val (.b a2), .val (.u8 a3), .val (.u8 a4), .val (.u8 a5), .val (.u8 a6), .val (.b a7), .val (.u8 a8), .val (.s a9)]), (3, some [.val (.u8 a10), .val (.u8 a11), .val (.b a12), .val (.u8 a13), .val (.u8 a14), .val (.u8 a15), .val (.u8 a16), .val (.b a17), .val (.u8 a18), .val (.s a19)])]
noncomputable def F45_4 : Option AV := run K45_4 (S45_4 a0 a1 a2 a3 a4 a5 a6 a7 a8 a9 a10 a11 a12 a13 a14 a15 a16 a17 a18 a19)
end
section
variable (run : RunT) (a0 a1 : UInt8) (a2 : Bool) (a3 a4 a5 a6 : UInt8) (a7 : Bool) (a8 : UInt8) (a9 : List UInt8) (a10 a11 : UInt8) (a12 : Bool) (a13 a14 a15 a16 : UInt8) (a17 : Bool) (a18 : UInt8) (a19 : List UInt8)
noncomputable def K45_6 : List Item := (kAt 6 body45 []).getD []
def S45_6 : St := St.ofL [(1, .cell (.ptr 1 0)), (3, .cell (.ptr 3 0))] [(1, some [.val (.u8 a0), .val (.u8 a1), .val (.b a2), .val (.u8 a3), .val (.u8 a4), .val (.u8 a5), .val (.u8 a6), .val (.b a7), .val (.u8 a8), .val (.s a9)]), (3, some [.val (.u8 a10), .val (.u8 a11), .val (.b a12), .val (.u8 a13), .val (.u8 a14), .val (.u8 a15), .val (.u8 a16), .val (.b a17), .val (.u8 a18), .val (.s a19)])]
noncomputable def F45_6 : Option AV := run K45_6 (S45_6 a0 a1 a2 a3 a4 a5 a6 a7 a8 a9 a10 a11 a12 a13 a14 a15 a16 a17 a18 a19)
end
noncomputable def X45 (call : CallT) (run : RunT) (a0 a1 : UInt8) (a2 : Bool) (a3 a4 a5 a6 : UInt8) (a7 : Bool) (a8 : UInt8) (a9 : List UInt8) : Option AV :=
  condM (.b (ueq a0 19))
  (F45_4 run a0 a1 a2 a3 a4 a5 a6 a7 a8 a9 a0 a1 false 0 0 0 0 false 0 a9)
  (F45_4 run a0 a1 a2 a3 a4 a5 a6 a7 a8 a9 a0 a1 false 0 0 0 0 false 0 [])
section
variable (call : CallT) (run : RunT) (a0 a1 : UInt8) (a2 : Bool) (a3 a4 a5 a6 : UInt8) (a7 : Bool) (a8 : UInt8) (a9 : List UInt8)
theorem text45 : unr C call run 45 Tryd.f45 400 [.code body45] (initF C 45 Tryd.f45.ntmps [.ag [.u8 a0, .u8 a1, .b a2, .u8 a3, .u8 a4, .u8 a5, .u8 a6, .b a7, .u8 a8, .s a9]]) = X45 call run a0 a1 a2 a3 a4 a5 a6 a7 a8 a9 := by
  kernel_rfl
theorem c45 {r : AV} (h : X45 (semCall C Tryd.prog) (semRun C Tryd.prog 45 Tryd.f45) a0 a1 a2 a3 a4 a5 a6 a7 a8 a9 = some r) : semCall C Tryd.prog 45 [.ag [.u8 a0, .u8 a1, .b a2, .u8 a3, .u8 a4, .u8 a5, .u8 a6, .b a7, .u8 a8, .s a9]] = some r :=
  semCall_unr (fn := Tryd.f45) (c := body45) (by kernel_rfl) (by kernel_rfl) 400 (by kernel_rfl) ((text45 _ _ a0 a1 a2 a3 a4 a5 a6 a7 a8 a9).trans h)
end
noncomputable def X45_4 (call : CallT) (run : RunT) (a0 a1 : UInt8) (a2 : Bool) (a3 a4 a5 a6 : UInt8) (a7 : Bool) (a8 : UInt8) (a9 : List UInt8) (a10 a11 : UInt8) (a12 : Bool) (a13 a14 a15 a16 : UInt8) (a17 : Bool) (a18 : UInt8) (a19 : List UInt8) : Option AV :=
  (selW (.b (ueq a1 3)) false (some (.b (ueq a1 4))) (.b true)).bind fun v1 => condM (v1)
  (F45_6 run a0 a1 a2 a3 a4 a5 a6 a7 a8 a9 a10 a11 a12 a13 a14 a15 a6 a7 a18 a19)
  (F45_6 run a0 a1 a2 a3 a4 a5 a6 a7 a8 a9 a10 a11 a12 a13 a14 a15 a16 a17 a18 a19)
section
variable (call : CallT) (run : RunT) (a0 a1 : UInt8) (a2 : Bool) (a3 a4 a5 a6 : UInt8) (a7 : Bool) (a8 : UInt8) (a9 : List UInt8) (a10 a11 : UInt8) (a12 : Bool) (a13 a14 a15 a16 : UInt8) (a17 : Bool) (a18 : UInt8) (a19 : List UInt8)
theorem text45_4 : step C call 45 Tryd.f45 (unr C call run 45 Tryd.f45 400) K45_4 (S45_4 a0 a1 a2 a3 a4 a5 a6 a7 a8 a9 a10 a11 a12 a13 a14 a15 a16 a17 a18 a19) = X45_4 call run a0 a1 a2 a3 a4 a5 a6 a7 a8 a9 a10 a11 a12 a13 a14 a15 a16 a17 a18 a19 := by
  kernel_rfl
end
noncomputable def X45_6 (call : CallT) (run : RunT) (a0 a1 : UInt8) (a2 : Bool) (a3 a4 a5 a6 : UInt8) (a7 : Bool) (a8 : UInt8) (a9 : List UInt8) (a10 a11 : UInt8) (a12 : Bool) (a13 a14 a15 a16 : UInt8) (a17 : Bool) (a18 : UInt8) (a19 : List UInt8) : Option AV :=
  (selW (.b ((a0 == a10 && (a1 == a11 && (a2 == a12 && (a3 == a13 && (a4 == a14 && (a5 == a15 && (a6 == a16 && (a7 == a17 && (a8 == a18 && (a9 == a19 && true)))))))))))) true (some (.b (une a1 0))) (.b false)).bind fun v1 => (selW (v1) true ((call 77 [.u8 a1]).bind fun v2 => (call 76 [v2, .s a9]).bind fun v3 => some (v3)) (.b false)).bind fun v4 => (selW (v4) true ((call 75 [.ag [.u8 a0, .u8 a1, .b a2, .u8 a3, .u8 a4, .u8 a5, .u8 a6, .b a7, .u8 a8, .s a9], .b (ueq a1 3)]).bind fun v5 => some (v5)) (.b false)).bind fun v6 => some (v6)
section
variable (call : CallT) (run : RunT) (a0 a1 : UInt8) (a2 : Bool) (a3 a4 a5 a6 : UInt8) (a7 : Bool) (a8 : UInt8) (a9 : List UInt8) (a10 a11 : UInt8) (a12 : Bool) (a13 a14 a15 a16 : UInt8) (a17 : Bool) (a18 : UInt8) (a19 : List UInt8)
theorem text45_6 : step C call 45 Tryd.f45 (unr C call run 45 Tryd.f45 400) K45_6 (S45_6 a0 a1 a2 a3 a4 a5 a6 a7 a8 a9 a10 a11 a12 a13 a14 a15 a16 a17 a18 a19) = X45_6 call run a0 a1 a2 a3 a4 a5 a6 a7 a8 a9 a10 a11 a12 a13 a14 a15 a16 a17 a18 a19 := by
  kernel_rfl
end
section
variable (a0 a1 : UInt8) (a2 : Bool) (a3 a4 a5 a6 : UInt8) (a7 : Bool) (a8 : UInt8) (a9 : List UInt8) (a10 a11 : UInt8) (a12 : Bool) (a13 a14 a15 a16 : UInt8) (a17 : Bool) (a18 : UInt8) (a19 : List UInt8)
theorem r45_4 {r : AV} (h : X45_4 (semCall C Tryd.prog) (semRun C Tryd.prog 45 Tryd.f45) a0 a1 a2 a3 a4 a5 a6 a7 a8 a9 a10 a11 a12 a13 a14 a15 a16 a17 a18 a19 = some r) : F45_4 (semRun C Tryd.prog 45 Tryd.f45) a0 a1 a2 a3 a4 a5 a6 a7 a8 a9 a10 a11 a12 a13 a14 a15 a16 a17 a18 a19 = some r :=
  semRun_unr 400 ((text45_4 _ _ a0 a1 a2 a3 a4 a5 a6 a7 a8 a9 a10 a11 a12 a13 a14 a15 a16 a17 a18 a19).trans h)
end
section
variable (a0 a1 : UInt8) (a2 : Bool) (a3 a4 a5 a6 : UInt8) (a7 : Bool) (a8 : UInt8) (a9 : List UInt8) (a10 a11 : UInt8) (a12 : Bool) (a13 a14 a15 a16 : UInt8) (a17 : Bool) (a18 : UInt8) (a19 : List UInt8)
theorem r45_6 {r : AV} (h : X45_6 (semCall C Tryd.prog) (semRun C Tryd.prog 45 Tryd.f45) a0 a1 a2 a3 a4 a5 a6 a7 a8 a9 a10 a11 a12 a13 a14 a15 a16 a17 a18 a19 = some r) : F45_6 (semRun C Tryd.prog 45 Tryd.f45) a0 a1 a2 a3 a4 a5 a6 a7 a8 a9 a10 a11 a12 a13 a14 a15 a16 a17 a18 a19 = some r :=
  semRun_unr 400 ((text45_6 _ _ a0 a1 a2 a3 a4 a5 a6 a7 a8 a9 a10 a11 a12 a13 a14 a15 a16 a17 a18 a19).trans h)
end
end R2

namespace R2
open Go Go.Proofs Sx
noncomputable def body58 : Code := (Tryd.f58.body).getD .skip
noncomputable def X58 (call : CallT) (run : RunT) (a0 a1 : UInt8) (a2 : Bool) (a3 a4 a5 a6 : UInt8) (a7 : Bool) (a8 : UInt8) (a9 : List UInt8) : Option AV :=
  (selW (.b (ueq a6 1)) false (some (.b (ueq a6 2))) (.b true)).bind fun v1 => (selW (v1) true (some (.b (!a7))) (.b false)).bind fun v2 => some (v2)
section
variable (call : CallT) (run : RunT) (a0 a1 : UInt8) (a2 : Bool) (a3 a4 a5 a6 : UInt8) (a7 : Bool) (a8 : UInt8) (a9 : List UInt8)
theorem text58 : unr C call run 58 Tryd.f58 400 [.code body58] (initF C 58 Tryd.f58.ntmps [.ag [.u8 a0, .u8 a1, .b a2, .u8 a3, .u8 a4, .u8 a5, .u8 a6, .b a7, .u8 a8, .s a9]]) = X58 call run a0 a1 a2 a3 a4 a5 a6 a7 a8 a9 := by
  kernel_rfl
theorem c58 {r : AV} (h : X58 (semCall C Tryd.prog) (semRun C Tryd.prog 58 Tryd.f58) a0 a1 a2 a3 a4 a5 a6 a7 a8 a9 = some r) : semCall C Tryd.prog 58 [.ag [.u8 a0, .u8 a1, .b a2, .u8 a3, .u8 a4, .u8 a5, .u8 a6, .b a7, .u8 a8, .s a9]] = some r :=
  semCall_unr (fn := Tryd.f58) (c := body58) (by kernel_rfl) (by kernel_rfl) 400 (by kernel_rfl) ((text58 _ _ a0 a1 a2 a3 a4 a5 a6 a7 a8 a9).trans h)
end
end R2

namespace R2
open Go Go.Proofs Sx
noncomputable def body75 : Code := (Tryd.f75.body).getD .skip
noncomputable def X75 (call : CallT) (run : RunT) (a0 a1 : UInt8) (a2 : Bool) (a3 a4 a5 a6 : UInt8) (a7 : Bool) (a8 : UInt8) (a9 : List UInt8) (a10 : Bool) : Option AV :=
  (selW (.b (!a10)) true (some (.b (ueq a6 4))) (.b false)).bind fun v1 => condM (v1)
  (some (.b false))
  ((selW (.b (!a7)) false (some (.b (ueq a6 1))) (.b true)).bind fun v2 => (selW (v2) false (some (.b (ueq a6 2))) (.b true)).bind fun v3 => some (v3))
section
variable (call : CallT) (run : RunT) (a0 a1 : UInt8) (a2 : Bool) (a3 a4 a5 a6 : UInt8) (a7 : Bool) (a8 : UInt8) (a9 : List UInt8) (a10 : Bool)
theorem text75 : unr C call run 75 Tryd.f75 400 [.code body75] (initF C 75 Tryd.f75.ntmps [.ag [.u8 a0, .u8 a1, .b a2, .u8 a3, .u8 a4, .u8 a5, .u8 a6, .b a7, .u8 a8, .s a9], .b a10]) = X75 call run a0 a1 a2 a3 a4 a5 a6 a7 a8 a9 a10 := by
  kernel_rfl
theorem c75 {r : AV} (h : X75 (semCall C Tryd.prog) (semRun C Tryd.prog 75 Tryd.f75) a0 a1 a2 a3 a4 a5 a6 a7 a8 a9 a10 = some r) : semCall C Tryd.prog 75 [.ag [.u8 a0, .u8 a1, .b a2, .u8 a3, .u8 a4, .u8 a5, .u8 a6, .b a7, .u8 a8, .s a9], .b a10] = some r :=
  semCall_unr (fn := Tryd.f75) (c := body75) (by kernel_rfl) (by kernel_rfl) 400 (by kernel_rfl) ((text75 _ _ a0 a1 a2 a3 a4 a5 a6 a7 a8 a9 a10).trans h)
end
end R2

namespace R2
open Go Go.Proofs Sx
noncomputable def body76 : Code := (Tryd.f76.body).getD .skip
noncomputable def X76 (call : CallT) (run : RunT) (a0 a1 : List UInt8) : Option AV :=
  (call 98 [.s a0, .s a1]).bind fun v1 => some (v1)
section
variable (call : CallT) (run : RunT) (a0 a1 : List UInt8)
theorem text76 : unr C call run 76 Tryd.f76 400 [.code body76] (initF C 76 Tryd.f76.ntmps [.s a0, .s a1]) = X76 call run a0 a1 := by
  kernel_rfl
theorem c76 {r : AV} (h : X76 (semCall C Tryd.prog) (semRun C Tryd.prog 76 Tryd.f76) a0 a1 = some r) : semCall C Tryd.prog 76 [.s a0, .s a1] = some r :=
  semCall_unr (fn := Tryd.f76) (c := body76) (by kernel_rfl) (by kernel_rfl) 400 (by kernel_rfl) ((text76 _ _ a0 a1).trans h)
end
end R2

namespace R2
open Go Go.Proofs Sx
noncomputable def body77 : Code := (Tryd.f77.body).getD .skip
noncomputable def X77 (call : CallT) (run : RunT) (a0 : UInt8) : Option AV :=
  condM (.b (ueq a0 1))
  (some (.s [116, 101, 120, 116, 97, 114, 101, 97]))
  (condM (.b (ueq a0 2))
  (some (.s [116, 105, 116, 108, 101]))
  (condM (.b (ueq a0 3))
  (some (.s [115, 99, 114, 105, 112, 116]))
  (condM (.b (ueq a0 4))
  (some (.s [115, 116, 121, 108, 101]))
  (some (.s [])))))
section
variable (call : CallT) (run : RunT) (a0 : UInt8)
theorem text77 : unr C call run 77 Tryd.f77 400 [.code body77] (initF C 77 Tryd.f77.ntmps [.u8 a0]) = X77 call run a0 := by
  kernel_rfl
theorem c77 {r : AV} (h : X77 (semCall C Tryd.prog) (semRun C Tryd.prog 77 Tryd.f77) a0 = some r) : semCall C Tryd.prog 77 [.u8 a0] = some r :=
  semCall_unr (fn := Tryd.f77) (c := body77) (by kernel_rfl) (by kernel_rfl) 400 (by kernel_rfl) ((text77 _ _ a0).trans h)
end
end R2

namespace R2
open Go Go.Proofs Sx
noncomputable def body98 : Code := (Tryd.f98.body).getD .skip
noncomputable def X98 (call : CallT) (run : RunT) (a0 a1 : List UInt8) : Option AV :=
  (selW (.b (decide (((a0.length : Int)) ≥ ((a1.length : Int))))) true ((slS (.s a0) none (some (.int ((a1.length : Int))))).bind fun v1 => (binS .eql (v1) (.s a1)).bind fun v2 => some (v2)) (.b false)).bind fun v3 => some (v3)
section
variable (call : CallT) (run : RunT) (a0 a1 : List UInt8)
theorem text98 : unr C call run 98 Tryd.f98 400 [.code body98] (initF C 98 Tryd.f98.ntmps [.s a0, .s a1]) = X98 call run a0 a1 := by
  kernel_rfl
theorem c98 {r : AV} (h : X98 (semCall C Tryd.prog) (semRun C Tryd.prog 98 Tryd.f98) a0 a1 = some r) : semCall C Tryd.prog 98 [.s a0, .s a1] = some r :=
  semCall_unr (fn := Tryd.f98) (c := body98) (by kernel_rfl) (by kernel_rfl) 400 (by kernel_rfl) ((text98 _ _ a0 a1).trans h)
end
end R2

namespace R2
open Go Go.Proofs Sx
noncomputable def body105 : Code := (Tryd.f105.body).getD .skip
section
variable (run : RunT) 
noncomputable def K105_13 : List Item := (kAt 13 body105 []).getD []
def S105_13 : St := St.ofL [] []
noncomputable def F105_13 : Option AV := run K105_13 (S105_13 )
end
section
variable (run : RunT) (a0 a1 : List UInt8)
noncomputable def K105_14 : List Item := (kAt 14 body105 []).getD []
def S105_14 : St := St.ofL [(0, .cell (.val (.s a0))), (3, .cell (.val (.s a1)))] []
noncomputable def F105_14 : Option AV := run K105_14 (S105_14 a0 a1)
end
section
variable (run : RunT) 
noncomputable def K105_21 : List Item := (kAt 21 body105 []).getD []
def S105_21 : St := St.ofL [] []
noncomputable def F105_21 : Option AV := run K105_21 (S105_21 )
end
section
variable (run : RunT) (a0 : List UInt8)
noncomputable def K105_22 : List Item := (kAt 22 body105 []).getD []
def S105_22 : St := St.ofL [(0, .cell (.val (.s a0)))] []
noncomputable def F105_22 : Option AV := run K105_22 (S105_22 a0)
end
noncomputable def X105 (call : CallT) (run : RunT) (a0 : List UInt8) : Option AV :=
  condM (.b (a0 == [97, 99, 116, 105, 111, 110]))
  (F105_13 run)
  (condM (.b (a0 == [98, 97, 99, 107, 103, 114, 111, 117, 110, 100]))
  (F105_13 run)
  (condM (.b (a0 == [99, 105, 116, 101]))
  (F105_13 run)
  (condM (.b (a0 == [100, 97, 116, 97]))
  (F105_13 run)
  (condM (.b (a0 == [102, 111, 114, 109, 97, 99, 116, 105, 111, 110]))
  (F105_13 run)
  (condM (.b (a0 == [104, 114, 101, 102]))
  (F105_13 run)
  (condM (.b (a0 == [108, 111, 110, 103, 100, 101, 115, 99]))
  (F105_13 run)
  (condM (.b (a0 == [109, 97, 110, 105, 102, 101, 115, 116]))
  (F105_13 run)
  (condM (.b (a0 == [112, 111, 115, 116, 101, 114]))
  (F105_13 run)
  (condM (.b (a0 == [115, 114, 99]))
  (F105_13 run)
  (condM (.b (a0 == [120, 108, 105, 110, 107, 58, 104, 114, 101, 102]))
  (F105_13 run)
  (F105_14 run a0 a0)))))))))))
section
variable (call : CallT) (run : RunT) (a0 : List UInt8)
theorem text105 : unr C call run 105 Tryd.f105 400 [.code body105] (initF C 105 Tryd.f105.ntmps [.s a0]) = X105 call run a0 := by
  kernel_rfl
theorem c105 {r : AV} (h : X105 (semCall C Tryd.prog) (semRun C Tryd.prog 105 Tryd.f105) a0 = some r) : semCall C Tryd.prog 105 [.s a0] = some r :=
  semCall_unr (fn := Tryd.f105) (c := body105) (by kernel_rfl) (by kernel_rfl) 400 (by kernel_rfl) ((text105 _ _ a0).trans h)
end
noncomputable def X105_13 (call : CallT) (run : RunT)  : Option AV :=
  some (.u8 1)
section
variable (call : CallT) (run : RunT) 
theorem text105_13 : step C call 105 Tryd.f105 (unr C call run 105 Tryd.f105 400) K105_13 (S105_13 ) = X105_13 call run  := by
  kernel_rfl
end
noncomputable def X105_14 (call : CallT) (run : RunT) (a0 a1 : List UInt8) : Option AV :=
  condM (.b (a1 == [115, 116, 121, 108, 101]))
  (some (.u8 3))
  (condM (.b (a1 == [115, 114, 99, 100, 111, 99]))
  (F105_21 run)
  (condM (.b (a1 == [115, 114, 99, 115, 101, 116]))
  (F105_21 run)
  (condM (.b (a1 == [105, 109, 97, 103, 101, 115, 114, 99, 115, 101, 116]))
  (F105_21 run)
  (condM (.b (a1 == [99, 111, 110, 116, 101, 110, 116]))
  (F105_21 run)
  (condM (.b (a1 == [104, 116, 116, 112, 45, 101, 113, 117, 105, 118]))
  (F105_21 run)
  (F105_22 run a0))))))
section
variable (call : CallT) (run : RunT) (a0 a1 : List UInt8)
theorem text105_14 : step C call 105 Tryd.f105 (unr C call run 105 Tryd.f105 400) K105_14 (S105_14 a0 a1) = X105_14 call run a0 a1 := by
  kernel_rfl
end
noncomputable def X105_21 (call : CallT) (run : RunT)  : Option AV :=
  some (.u8 4)
section
variable (call : CallT) (run : RunT) 
theorem text105_21 : step C call 105 Tryd.f105 (unr C call run 105 Tryd.f105 400) K105_21 (S105_21 ) = X105_21 call run  := by
  kernel_rfl
end
noncomputable def X105_22 (call : CallT) (run : RunT) (a0 : List UInt8) : Option AV :=
  (selW (.b (decide (((a0.length : Int)) > 2))) true ((call 76 [.s a0, .s [111, 110]]).bind fun v1 => some (v1)) (.b false)).bind fun v2 => condM (v2)
  (some (.u8 2))
  (some (.u8 0))
section
variable (call : CallT) (run : RunT) (a0 : List UInt8)
theorem text105_22 : step C call 105 Tryd.f105 (unr C call run 105 Tryd.f105 400) K105_22 (S105_22 a0) = X105_22 call run a0 := by
  kernel_rfl
end
section
theorem r105_13 {r : AV} (h : X105_13 (semCall C Tryd.prog) (semRun C Tryd.prog 105 Tryd.f105)  = some r) : F105_13 (semRun C Tryd.prog 105 Tryd.f105)  = some r :=
  semRun_unr 400 ((text105_13 _ _ ).trans h)
end
section
variable (a0 a1 : List UInt8)
theorem r105_14 {r : AV} (h : X105_14 (semCall C Tryd.prog) (semRun C Tryd.prog 105 Tryd.f105) a0 a1 = some r) : F105_14 (semRun C Tryd.prog 105 Tryd.f105) a0 a1 = some r :=
  semRun_unr 400 ((text105_14 _ _ a0 a1).trans h)
end
section
theorem r105_21 {r : AV} (h : X105_21 (semCall C Tryd.prog) (semRun C Tryd.prog 105 Tryd.f105)  = some r) : F105_21 (semRun C Tryd.prog 105 Tryd.f105)  = some r :=
  semRun_unr 400 ((text105_21 _ _ ).trans h)
end
section
variable (a0 : List UInt8)
theorem r105_22 {r : AV} (h : X105_22 (semCall C Tryd.prog) (semRun C Tryd.prog 105 Tryd.f105) a0 = some r) : F105_22 (semRun C Tryd.prog 105 Tryd.f105) a0 = some r :=
  semRun_unr 400 ((text105_22 _ _ a0).trans h)
end
end R2

namespace R2
open Go Go.Proofs Sx
noncomputable def body108 : Code := (Tryd.f108.body).getD .skip
section
variable (run : RunT) (a0 a1 : UInt8) (a2 : Bool) (a3 a4 a5 a6 : UInt8) (a7 : Bool) (a8 : UInt8) (a9 : List UInt8)
noncomputable def K108_7 : List Item := (kAt 7 body108 []).getD []
def S108_7 : St := St.ofL [(1, .cell (.ptr 1 0))] [(1, some [.val (.u8 a0), .val (.u8 a1), .val (.b a2), .val (.u8 a3), .val (.u8 a4), .val (.u8 a5), .val (.u8 a6), .val (.b a7), .val (.u8 a8), .val (.s a9)])]
noncomputable def F108_7 : Option AV := run K108_7 (S108_7 a0 a1 a2 a3 a4 a5 a6 a7 a8 a9)
end
section
variable (run : RunT) 
noncomputable def K108_8 : List Item := (kAt 8 body108 []).getD []
def S108_8 : St := St.ofL [] []
noncomputable def F108_8 : Option AV := run K108_8 (S108_8 )
end
noncomputable def X108 (call : CallT) (run : RunT) (a0 a1 : UInt8) (a2 : Bool) (a3 a4 a5 a6 : UInt8) (a7 : Bool) (a8 : UInt8) (a9 : List UInt8) : Option AV :=
  condM (.b (ueq a0 8))
  ((selW (.b (ueq a3 2)) false (some (.b (ueq a3 3))) (.b true)).bind fun v1 => some (v1))
  (condM (.b (ueq a0 17))
  (F108_7 run a0 a1 a2 a3 a4 a5 a6 a7 a8 a9)
  (condM (.b (ueq a0 18))
  (F108_7 run a0 a1 a2 a3 a4 a5 a6 a7 a8 a9)
  (condM (.b (ueq a0 19))
  (F108_7 run a0 a1 a2 a3 a4 a5 a6 a7 a8 a9)
  (F108_8 run))))
section
variable (call : CallT) (run : RunT) (a0 a1 : UInt8) (a2 : Bool) (a3 a4 a5 a6 : UInt8) (a7 : Bool) (a8 : UInt8) (a9 : List UInt8)
theorem text108 : unr C call run 108 Tryd.f108 400 [.code body108] (initF C 108 Tryd.f108.ntmps [.ag [.u8 a0, .u8 a1, .b a2, .u8 a3, .u8 a4, .u8 a5, .u8 a6, .b a7, .u8 a8, .s a9]]) = X108 call run a0 a1 a2 a3 a4 a5 a6 a7 a8 a9 := by
  kernel_rfl
theorem c108 {r : AV} (h : X108 (semCall C Tryd.prog) (semRun C Tryd.prog 108 Tryd.f108) a0 a1 a2 a3 a4 a5 a6 a7 a8 a9 = some r) : semCall C Tryd.prog 108 [.ag [.u8 a0, .u8 a1, .b a2, .u8 a3, .u8 a4, .u8 a5, .u8 a6, .b a7, .u8 a8, .s a9]] = some r :=
  semCall_unr (fn := Tryd.f108) (c := body108) (by kernel_rfl) (by kernel_rfl) 400 (by kernel_rfl) ((text108 _ _ a0 a1 a2 a3 a4 a5 a6 a7 a8 a9).trans h)
end
noncomputable def X108_7 (call : CallT) (run : RunT) (a0 a1 : UInt8) (a2 : Bool) (a3 a4 a5 a6 : UInt8) (a7 : Bool) (a8 : UInt8) (a9 : List UInt8) : Option AV :=
  (selW (.b (ueq a1 3)) false (some (.b (ueq a1 4))) (.b true)).bind fun v1 => some (v1)
section
variable (call : CallT) (run : RunT) (a0 a1 : UInt8) (a2 : Bool) (a3 a4 a5 a6 : UInt8) (a7 : Bool) (a8 : UInt8) (a9 : List UInt8)
theorem text108_7 : step C call 108 Tryd.f108 (unr C call run 108 Tryd.f108 400) K108_7 (S108_7 a0 a1 a2 a3 a4 a5 a6 a7 a8 a9) = X108_7 call run a0 a1 a2 a3 a4 a5 a6 a7 a8 a9 := by
  kernel_rfl
end
noncomputable def X108_8 (call : CallT) (run : RunT)  : Option AV :=
  some (.b false)
section
variable (call : CallT) (run : RunT) 
theorem text108_8 : step C call 108 Tryd.f108 (unr C call run 108 Tryd.f108 400) K108_8 (S108_8 ) = X108_8 call run  := by
  kernel_rfl
end
section
variable (a0 a1 : UInt8) (a2 : Bool) (a3 a4 a5 a6 : UInt8) (a7 : Bool) (a8 : UInt8) (a9 : List UInt8)
theorem r108_7 {r : AV} (h : X108_7 (semCall C Tryd.prog) (semRun C Tryd.prog 108 Tryd.f108) a0 a1 a2 a3 a4 a5 a6 a7 a8 a9 = some r) : F108_7 (semRun C Tryd.prog 108 Tryd.f108) a0 a1 a2 a3 a4 a5 a6 a7 a8 a9 = some r :=
  semRun_unr 400 ((text108_7 _ _ a0 a1 a2 a3 a4 a5 a6 a7 a8 a9).trans h)
end
section
theorem r108_8 {r : AV} (h : X108_8 (semCall C Tryd.prog) (semRun C Tryd.prog 108 Tryd.f108)  = some r) : F108_8 (semRun C Tryd.prog 108 Tryd.f108)  = some r :=
  semRun_unr 400 ((text108_8 _ _ ).trans h)
end
end R2

namespace R2
open Go Go.Proofs Sx
noncomputable def body40 : Code := (Tryd.f40.body).getD .skip
section
variable (run : RunT) (a0 : UInt8) (a1 : Bool) (a2 a3 a4 a5 a6 a7 a8 a9 a10 a11 : AV) (a12 a13 : UInt8) (a14 : Bool) (a15 a16 a17 a18 : UInt8) (a19 : Bool) (a20 : UInt8) (a21 : List UInt8)
noncomputable def K40_3 : List Item := (kAt 3 body40 []).getD []
def S40_3 : St := St.ofL [(1, .cell (.val (.u8 a0))), (2, .cell (.val (.b a1))), (3, .cell (.ptr 3 0)), (6, .cell (.ptr 6 0))] [(3, some [.val (a2), .val (a3), .val (a4), .val (a5), .val (a6), .val (a7), .val (a8), .val (a9), .val (a10), .val (a11)]), (6, some [.val (.u8 a12), .val (.u8 a13), .val (.b a14), .val (.u8 a15), .val (.u8 a16), .val (.u8 a17), .val (.u8 a18), .val (.b a19), .val (.u8 a20), .val (.s a21)])]
noncomputable def F40_3 : Option AV := run K40_3 (S40_3 a0 a1 a2 a3 a4 a5 a6 a7 a8 a9 a10 a11 a12 a13 a14 a15 a16 a17 a18 a19 a20 a21)
end
section
variable (run : RunT) (a0 a1 a2 a3 a4 a5 a6 a7 a8 a9 : AV) (a10 a11 : UInt8) (a12 : Bool) (a13 a14 a15 a16 : UInt8) (a17 : Bool) (a18 : UInt8) (a19 : List UInt8)
noncomputable def K40_32 : List Item := (kAt 32 body40 []).getD []
def S40_32 : St := St.ofL [(3, .cell (.ptr 3 0)), (6, .cell (.ptr 6 0))] [(3, some [.val (a0), .val (a1), .val (a2), .val (a3), .val (a4), .val (a5), .val (a6), .val (a7), .val (a8), .val (a9)]), (6, some [.val (.u8 a10), .val (.u8 a11), .val (.b a12), .val (.u8 a13), .val (.u8 a14), .val (.u8 a15), .val (.u8 a16), .val (.b a17), .val (.u8 a18), .val (.s a19)])]
noncomputable def F40_32 : Option AV := run K40_32 (S40_32 a0 a1 a2 a3 a4 a5 a6 a7 a8 a9 a10 a11 a12 a13 a14 a15 a16 a17 a18 a19)
end
section
variable (run : RunT) (a0 : UInt8) (a1 : Bool) (a2 a3 a4 a5 a6 a7 a8 a9 a10 a11 : AV) (a12 a13 : UInt8) (a14 : Bool) (a15 a16 a17 a18 : UInt8) (a19 : Bool) (a20 : UInt8) (a21 : List UInt8)
noncomputable def K40_22 : List Item := (kAt 22 body40 []).getD []
def S40_22 : St := St.ofL [(1, .cell (.val (.u8 a0))), (2, .cell (.val (.b a1))), (3, .cell (.ptr 3 0)), (6, .cell (.ptr 6 0))] [(3, some [.val (a2), .val (a3), .val (a4), .val (a5), .val (a6), .val (a7), .val (a8), .val (a9), .val (a10), .val (a11)]), (6, some [.val (.u8 a12), .val (.u8 a13), .val (.b a14), .val (.u8 a15), .val (.u8 a16), .val (.u8 a17), .val (.u8 a18), .val (.b a19), .val (.u8 a20), .val (.s a21)])]
noncomputable def F40_22 : Option AV := run K40_22 (S40_22 a0 a1 a2 a3 a4 a5 a6 a7 a8 a9 a10 a11 a12 a13 a14 a15 a16 a17 a18 a19 a20 a21)
end
section
variable (run : RunT) (a0 : UInt8) (a1 : Bool) (a2 a3 a4 a5 a6 a7 a8 a9 a10 a11 a12 : AV) (a13 a14 : UInt8) (a15 : Bool) (a16 a17 a18 a19 : UInt8) (a20 : Bool) (a21 : UInt8) (a22 : List UInt8)
noncomputable def K40_26 : List Item := (kAt 26 body40 []).getD []
def S40_26 : St := St.ofL [(1, .cell (.val (.u8 a0))), (2, .cell (.val (.b a1))), (3, .cell (.ptr 3 0)), (6, .cell (.ptr 6 0)), (16, .cell (.val (a2)))] [(3, some [.val (a3), .val (a4), .val (a5), .val (a6), .val (a7), .val (a8), .val (a9), .val (a10), .val (a11), .val (a12)]), (6, some [.val (.u8 a13), .val (.u8 a14), .val (.b a15), .val (.u8 a16), .val (.u8 a17), .val (.u8 a18), .val (.u8 a19), .val (.b a20), .val (.u8 a21), .val (.s a22)])]
noncomputable def F40_26 : Option AV := run K40_26 (S40_26 a0 a1 a2 a3 a4 a5 a6 a7 a8 a9 a10 a11 a12 a13 a14 a15 a16 a17 a18 a19 a20 a21 a22)
end
section
variable (run : RunT) (a0 : UInt8) (a1 : Bool) (a2 a3 a4 a5 a6 a7 a8 a9 a10 a11 : AV) (a12 a13 : UInt8) (a14 : Bool) (a15 a16 a17 a18 : UInt8) (a19 : Bool) (a20 : UInt8) (a21 : List UInt8)
noncomputable def K40_31 : List Item := (kAt 31 body40 []).getD []
def S40_31 : St := St.ofL [(1, .cell (.val (.u8 a0))), (2, .cell (.val (.b a1))), (3, .cell (.ptr 3 0)), (6, .cell (.ptr 6 0))] [(3, some [.val (a2), .val (a3), .val (a4), .val (a5), .val (a6), .val (a7), .val (a8), .val (a9), .val (a10), .val (a11)]), (6, some [.val (.u8 a12), .val (.u8 a13), .val (.b a14), .val (.u8 a15), .val (.u8 a16), .val (.u8 a17), .val (.u8 a18), .val (.b a19), .val (.u8 a20), .val (.s a21)])]
noncomputable def F40_31 : Option AV := run K40_31 (S40_31 a0 a1 a2 a3 a4 a5 a6 a7 a8 a9 a10 a11 a12 a13 a14 a15 a16 a17 a18 a19 a20 a21)
end
section
variable (run : RunT) (a0 : UInt8) (a1 a2 a3 a4 a5 a6 a7 a8 a9 a10 : AV) (a11 a12 : UInt8) (a13 : Bool) (a14 a15 a16 a17 : UInt8) (a18 : Bool) (a19 : UInt8) (a20 : List UInt8)
noncomputable def K40_4 : List Item := (kAt 4 body40 []).getD []
def S40_4 : St := St.ofL [(1, .cell (.val (.u8 a0))), (3, .cell (.ptr 3 0)), (6, .cell (.ptr 6 0))] [(3, some [.val (a1), .val (a2), .val (a3), .val (a4), .val (a5), .val (a6), .val (a7), .val (a8), .val (a9), .val (a10)]), (6, some [.val (.u8 a11), .val (.u8 a12), .val (.b a13), .val (.u8 a14), .val (.u8 a15), .val (.u8 a16), .val (.u8 a17), .val (.b a18), .val (.u8 a19), .val (.s a20)])]
noncomputable def F40_4 : Option AV := run K40_4 (S40_4 a0 a1 a2 a3 a4 a5 a6 a7 a8 a9 a10 a11 a12 a13 a14 a15 a16 a17 a18 a19 a20)
end
noncomputable def X40 (call : CallT) (run : RunT) (a0 a1 : UInt8) (a2 : Bool) (a3 a4 a5 a6 : UInt8) (a7 : Bool) (a8 : UInt8) (a9 : List UInt8) (a10 : UInt8) (a11 : Bool) : Option AV :=
  (call 21 [.ag [.u8 a0, .u8 a1, .b a2, .u8 a3, .u8 a4, .u8 a5, .u8 a6, .b a7, .u8 a8, .s a9]]).bind fun v1 => (unop .not (v1)).bind fun v2 => condM (v2)
  (some (.ag [.u8 20, .u8 0, .b false, .u8 0, .u8 0, .u8 0, .u8 0, .b false, .u8 0, .s []]))
  (F40_3 run a10 a11 (.u8 a0) (.u8 a1) (.b a2) (.u8 a3) (.u8 a4) (.u8 a5) (.u8 a6) (.b a7) (.u8 a8) (.s a9) 0 0 false 0 0 0 0 false 0 [])
section
variable (call : CallT) (run : RunT) (a0 a1 : UInt8) (a2 : Bool) (a3 a4 a5 a6 : UInt8) (a7 : Bool) (a8 : UInt8) (a9 : List UInt8) (a10 : UInt8) (a11 : Bool)
theorem text40 : unr C call run 40 Tryd.f40 400 [.code body40] (initF C 40 Tryd.f40.ntmps [.ag [.u8 a0, .u8 a1, .b a2, .u8 a3, .u8 a4, .u8 a5, .u8 a6, .b a7, .u8 a8, .s a9], .u8 a10, .b a11]) = X40 call run a0 a1 a2 a3 a4 a5 a6 a7 a8 a9 a10 a11 := by
  kernel_rfl
theorem c40 {r : AV} (h : X40 (semCall C Tryd.prog) (semRun C Tryd.prog 40 Tryd.f40) a0 a1 a2 a3 a4 a5 a6 a7 a8 a9 a10 a11 = some r) : semCall C Tryd.prog 40 [.ag [.u8 a0, .u8 a1, .b a2, .u8 a3, .u8 a4, .u8 a5, .u8 a6, .b a7, .u8 a8, .s a9], .u8 a10, .b a11] = some r :=
  semCall_unr (fn := Tryd.f40) (c := body40) (by kernel_rfl) (by kernel_rfl) 400 (by kernel_rfl) ((text40 _ _ a0 a1 a2 a3 a4 a5 a6 a7 a8 a9 a10 a11).trans h)
end
noncomputable def X40_3 (call : CallT) (run : RunT) (a0 : UInt8) (a1 : Bool) (a2 a3 a4 a5 a6 a7 a8 a9 a10 a11 : AV) (a12 a13 : UInt8) (a14 : Bool) (a15 a16 a17 a18 : UInt8) (a19 : Bool) (a20 : UInt8) (a21 : List UInt8) : Option AV :=
  (binI .eql (a2) (.u8 0)).bind fun v1 => condM (v1)
  (condM (.b (ueq a0 60))
  (F40_32 run (.u8 1) (a3) (a4) (a5) (a6) (a7) (a8) (a9) (a10) (a11) a12 a13 a14 a15 a16 a17 a18 a19 a20 a21)
  (F40_32 run (a2) (a3) (a4) (a5) (a6) (a7) (a8) (a9) (a10) (a11) a12 a13 a14 a15 a16 a17 a18 a19 a20 a21))
  ((binI .eql (a2) (.u8 1)).bind fun v2 => condM (v2)
  ((call 61 [.u8 a0]).bind fun v3 => (tupI (v3) 0).bind fun v4 => (tupI (v3) 1).bind fun v5 => (AV.asAg 10 (v4)).bind fun v6 => condM (v5)
  (some (.ag [v6.getD 0 .un, v6.getD 1 .un, v6.getD 2 .un, v6.getD 3 .un, v6.getD 4 .un, v6.getD 5 .un, v6.getD 6 .un, v6.getD 7 .un, v6.getD 8 .un, v6.getD 9 .un]))
  (F40_3 run a0 a1 (.u8 0) (a3) (a4) (a5) (a6) (a7) (a8) (a9) (a10) (a11) a12 a13 a14 a15 a16 a17 a18 a19 a20 a21))
  ((binI .eql (a2) (.u8 2)).bind fun v7 => condM (v7)
  ((call 62 [.u8 a0]).bind fun v8 => (AV.asAg 10 (v8)).bind fun v9 => some (.ag [v9.getD 0 .un, v9.getD 1 .un, v9.getD 2 .un, v9.getD 3 .un, v9.getD 4 .un, v9.getD 5 .un, v9.getD 6 .un, v9.getD 7 .un, v9.getD 8 .un, v9.getD 9 .un]))
  ((binI .eql (a2) (.u8 3)).bind fun v10 => condM (v10)
  (F40_22 run a0 a1 (a2) (a3) (a4) (a5) (a6) (a7) (a8) (a9) (a10) (a11) a12 a13 a14 a15 a16 a17 a18 a19 a20 a21)
  ((binI .eql (a2) (.u8 4)).bind fun v11 => condM (v11)
  (F40_22 run a0 a1 (a2) (a3) (a4) (a5) (a6) (a7) (a8) (a9) (a10) (a11) a12 a13 a14 a15 a16 a17 a18 a19 a20 a21)
  ((binI .eql (a2) (.u8 5)).bind fun v12 => condM (v12)
  (F40_22 run a0 a1 (a2) (a3) (a4) (a5) (a6) (a7) (a8) (a9) (a10) (a11) a12 a13 a14 a15 a16 a17 a18 a19 a20 a21)
  ((binI .eql (a2) (.u8 6)).bind fun v13 => condM (v13)
  (F40_22 run a0 a1 (a2) (a3) (a4) (a5) (a6) (a7) (a8) (a9) (a10) (a11) a12 a13 a14 a15 a16 a17 a18 a19 a20 a21)
  ((binI .eql (a2) (.u8 7)).bind fun v14 => condM (v14)
  (F40_22 run a0 a1 (a2) (a3) (a4) (a5) (a6) (a7) (a8) (a9) (a10) (a11) a12 a13 a14 a15 a16 a17 a18 a19 a20 a21)
  ((binI .eql (a2) (.u8 9)).bind fun v15 => condM (v15)
  (F40_22 run a0 a1 (a2) (a3) (a4) (a5) (a6) (a7) (a8) (a9) (a10) (a11) a12 a13 a14 a15 a16 a17 a18 a19 a20 a21)
  ((binI .eql (a2) (.u8 10)).bind fun v16 => condM (v16)
  (F40_22 run a0 a1 (a2) (a3) (a4) (a5) (a6) (a7) (a8) (a9) (a10) (a11) a12 a13 a14 a15 a16 a17 a18 a19 a20 a21)
  (F40_26 run a0 a1 (a2) (a2) (a3) (a4) (a5) (a6) (a7) (a8) (a9) (a10) (a11) a12 a13 a14 a15 a16 a17 a18 a19 a20 a21))))))))))
section
variable (call : CallT) (run : RunT) (a0 : UInt8) (a1 : Bool) (a2 a3 a4 a5 a6 a7 a8 a9 a10 a11 : AV) (a12 a13 : UInt8) (a14 : Bool) (a15 a16 a17 a18 : UInt8) (a19 : Bool) (a20 : UInt8) (a21 : List UInt8)
theorem text40_3 : step C call 40 Tryd.f40 (unr C call run 40 Tryd.f40 400) K40_3 (S40_3 a0 a1 a2 a3 a4 a5 a6 a7 a8 a9 a10 a11 a12 a13 a14 a15 a16 a17 a18 a19 a20 a21) = X40_3 call run a0 a1 a2 a3 a4 a5 a6 a7 a8 a9 a10 a11 a12 a13 a14 a15 a16 a17 a18 a19 a20 a21 := by
  kernel_rfl
end
noncomputable def X40_32 (call : CallT) (run : RunT) (a0 a1 a2 a3 a4 a5 a6 a7 a8 a9 : AV) (a10 a11 : UInt8) (a12 : Bool) (a13 a14 a15 a16 : UInt8) (a17 : Bool) (a18 : UInt8) (a19 : List UInt8) : Option AV :=
  some (.ag [a0, a1, a2, a3, a4, a5, a6, a7, a8, a9])
section
variable (call : CallT) (run : RunT) (a0 a1 a2 a3 a4 a5 a6 a7 a8 a9 : AV) (a10 a11 : UInt8) (a12 : Bool) (a13 a14 a15 a16 : UInt8) (a17 : Bool) (a18 : UInt8) (a19 : List UInt8)
theorem text40_32 : step C call 40 Tryd.f40 (unr C call run 40 Tryd.f40 400) K40_32 (S40_32 a0 a1 a2 a3 a4 a5 a6 a7 a8 a9 a10 a11 a12 a13 a14 a15 a16 a17 a18 a19) = X40_32 call run a0 a1 a2 a3 a4 a5 a6 a7 a8 a9 a10 a11 a12 a13 a14 a15 a16 a17 a18 a19 := by
  kernel_rfl
end
noncomputable def X40_22 (call : CallT) (run : RunT) (a0 : UInt8) (a1 : Bool) (a2 a3 a4 a5 a6 a7 a8 a9 a10 a11 : AV) (a12 a13 : UInt8) (a14 : Bool) (a15 a16 a17 a18 : UInt8) (a19 : Bool) (a20 : UInt8) (a21 : List UInt8) : Option AV :=
  (call 63 [.ag [a2, a3, a4, a5, a6, a7, a8, a9, a10, a11], .u8 a0]).bind fun v1 => (tupI (v1) 0).bind fun v2 => (tupI (v1) 1).bind fun v3 => (AV.asAg 10 (v2)).bind fun v4 => condM (v3)
  (F40_3 run a0 a1 (v4.getD 0 .un) (v4.getD 1 .un) (v4.getD 2 .un) (v4.getD 3 .un) (v4.getD 4 .un) (v4.getD 5 .un) (v4.getD 6 .un) (v4.getD 7 .un) (v4.getD 8 .un) (v4.getD 9 .un) a12 a13 a14 a15 a16 a17 a18 a19 a20 a21)
  (some (.ag [v4.getD 0 .un, v4.getD 1 .un, v4.getD 2 .un, v4.getD 3 .un, v4.getD 4 .un, v4.getD 5 .un, v4.getD 6 .un, v4.getD 7 .un, v4.getD 8 .un, v4.getD 9 .un]))
section
variable (call : CallT) (run : RunT) (a0 : UInt8) (a1 : Bool) (a2 a3 a4 a5 a6 a7 a8 a9 a10 a11 : AV) (a12 a13 : UInt8) (a14 : Bool) (a15 a16 a17 a18 : UInt8) (a19 : Bool) (a20 : UInt8) (a21 : List UInt8)
theorem text40_22 : step C call 40 Tryd.f40 (unr C call run 40 Tryd.f40 400) K40_22 (S40_22 a0 a1 a2 a3 a4 a5 a6 a7 a8 a9 a10 a11 a12 a13 a14 a15 a16 a17 a18 a19 a20 a21) = X40_22 call run a0 a1 a2 a3 a4 a5 a6 a7 a8 a9 a10 a11 a12 a13 a14 a15 a16 a17 a18 a19 a20 a21 := by
  kernel_rfl
end
noncomputable def X40_26 (call : CallT) (run : RunT) (a0 : UInt8) (a1 : Bool) (a2 a3 a4 a5 a6 a7 a8 a9 a10 a11 a12 : AV) (a13 a14 : UInt8) (a15 : Bool) (a16 a17 a18 a19 : UInt8) (a20 : Bool) (a21 : UInt8) (a22 : List UInt8) : Option AV :=
  (binI .eql (a2) (.u8 8)).bind fun v1 => condM (v1)
  ((call 64 [.ag [a3, a4, a5, a6, a7, a8, a9, a10, a11, a12], .u8 a0]).bind fun v2 => (AV.asAg 10 (v2)).bind fun v3 => some (.ag [v3.getD 0 .un, v3.getD 1 .un, v3.getD 2 .un, v3.getD 3 .un, v3.getD 4 .un, v3.getD 5 .un, v3.getD 6 .un, v3.getD 7 .un, v3.getD 8 .un, v3.getD 9 .un]))
  ((binI .eql (a2) (.u8 17)).bind fun v4 => condM (v4)
  (F40_31 run a0 a1 (a3) (a4) (a5) (a6) (a7) (a8) (a9) (a10) (a11) (a12) a13 a14 a15 a16 a17 a18 a19 a20 a21 a22)
  ((binI .eql (a2) (.u8 18)).bind fun v5 => condM (v5)
  (F40_31 run a0 a1 (a3) (a4) (a5) (a6) (a7) (a8) (a9) (a10) (a11) (a12) a13 a14 a15 a16 a17 a18 a19 a20 a21 a22)
  ((binI .eql (a2) (.u8 19)).bind fun v6 => condM (v6)
  (F40_31 run a0 a1 (a3) (a4) (a5) (a6) (a7) (a8) (a9) (a10) (a11) (a12) a13 a14 a15 a16 a17 a18 a19 a20 a21 a22)
  (F40_4 run a0 (a3) (a4) (a5) (a6) (a7) (a8) (a9) (a10) (a11) (a12) a13 a14 a15 a16 a17 a18 a19 a20 a21 a22))))
section
variable (call : CallT) (run : RunT) (a0 : UInt8) (a1 : Bool) (a2 a3 a4 a5 a6 a7 a8 a9 a10 a11 a12 : AV) (a13 a14 : UInt8) (a15 : Bool) (a16 a17 a18 a19 : UInt8) (a20 : Bool) (a21 : UInt8) (a22 : List UInt8)
theorem text40_26 : step C call 40 Tryd.f40 (unr C call run 40 Tryd.f40 400) K40_26 (S40_26 a0 a1 a2 a3 a4 a5 a6 a7 a8 a9 a10 a11 a12 a13 a14 a15 a16 a17 a18 a19 a20 a21 a22) = X40_26 call run a0 a1 a2 a3 a4 a5 a6 a7 a8 a9 a10 a11 a12 a13 a14 a15 a16 a17 a18 a19 a20 a21 a22 := by
  kernel_rfl
end
noncomputable def X40_31 (call : CallT) (run : RunT) (a0 : UInt8) (a1 : Bool) (a2 a3 a4 a5 a6 a7 a8 a9 a10 a11 : AV) (a12 a13 : UInt8) (a14 : Bool) (a15 a16 a17 a18 : UInt8) (a19 : Bool) (a20 : UInt8) (a21 : List UInt8) : Option AV :=
  (call 65 [.ag [a2, a3, a4, a5, a6, a7, a8, a9, a10, a11], .u8 a0, .b a1]).bind fun v1 => (AV.asAg 10 (v1)).bind fun v2 => some (.ag [v2.getD 0 .un, v2.getD 1 .un, v2.getD 2 .un, v2.getD 3 .un, v2.getD 4 .un, v2.getD 5 .un, v2.getD 6 .un, v2.getD 7 .un, v2.getD 8 .un, v2.getD 9 .un])
section
variable (call : CallT) (run : RunT) (a0 : UInt8) (a1 : Bool) (a2 a3 a4 a5 a6 a7 a8 a9 a10 a11 : AV) (a12 a13 : UInt8) (a14 : Bool) (a15 a16 a17 a18 : UInt8) (a19 : Bool) (a20 : UInt8) (a21 : List UInt8)
theorem text40_31 : step C call 40 Tryd.f40 (unr C call run 40 Tryd.f40 400) K40_31 (S40_31 a0 a1 a2 a3 a4 a5 a6 a7 a8 a9 a10 a11 a12 a13 a14 a15 a16 a17 a18 a19 a20 a21) = X40_31 call run a0 a1 a2 a3 a4 a5 a6 a7 a8 a9 a10 a11 a12 a13 a14 a15 a16 a17 a18 a19 a20 a21 := by
  kernel_rfl
end
noncomputable def X40_4 (call : CallT) (run : RunT) (a0 : UInt8) (a1 a2 a3 a4 a5 a6 a7 a8 a9 a10 : AV) (a11 a12 : UInt8) (a13 : Bool) (a14 a15 a16 a17 : UInt8) (a18 : Bool) (a19 : UInt8) (a20 : List UInt8) : Option AV :=
  (call 66 [.ag [a1, a2, a3, a4, a5, a6, a7, a8, a9, a10], .u8 a0]).bind fun v1 => (AV.asAg 10 (v1)).bind fun v2 => some (.ag [v2.getD 0 .un, v2.getD 1 .un, v2.getD 2 .un, v2.getD 3 .un, v2.getD 4 .un, v2.getD 5 .un, v2.getD 6 .un, v2.getD 7 .un, v2.getD 8 .un, v2.getD 9 .un])
section
variable (call : CallT) (run : RunT) (a0 : UInt8) (a1 a2 a3 a4 a5 a6 a7 a8 a9 a10 : AV) (a11 a12 : UInt8) (a13 : Bool) (a14 a15 a16 a17 : UInt8) (a18 : Bool) (a19 : UInt8) (a20 : List UInt8)
theorem text40_4 : step C call 40 Tryd.f40 (unr C call run 40 Tryd.f40 400) K40_4 (S40_4 a0 a1 a2 a3 a4 a5 a6 a7 a8 a9 a10 a11 a12 a13 a14 a15 a16 a17 a18 a19 a20) = X40_4 call run a0 a1 a2 a3 a4 a5 a6 a7 a8 a9 a10 a11 a12 a13 a14 a15 a16 a17 a18 a19 a20 := by
  kernel_rfl
end
section
variable (a0 : UInt8) (a1 : Bool) (a2 a3 a4 a5 a6 a7 a8 a9 a10 a11 : AV) (a12 a13 : UInt8) (a14 : Bool) (a15 a16 a17 a18 : UInt8) (a19 : Bool) (a20 : UInt8) (a21 : List UInt8)
theorem r40_3 {r : AV} (h : X40_3 (semCall C Tryd.prog) (semRun C Tryd.prog 40 Tryd.f40) a0 a1 a2 a3 a4 a5 a6 a7 a8 a9 a10 a11 a12 a13 a14 a15 a16 a17 a18 a19 a20 a21 = some r) : F40_3 (semRun C Tryd.prog 40 Tryd.f40) a0 a1 a2 a3 a4 a5 a6 a7 a8 a9 a10 a11 a12 a13 a14 a15 a16 a17 a18 a19 a20 a21 = some r :=
  semRun_unr 400 ((text40_3 _ _ a0 a1 a2 a3 a4 a5 a6 a7 a8 a9 a10 a11 a12 a13 a14 a15 a16 a17 a18 a19 a20 a21).trans h)
end
section
variable (a0 a1 a2 a3 a4 a5 a6 a7 a8 a9 : AV) (a10 a11 : UInt8) (a12 : Bool) (a13 a14 a15 a16 : UInt8) (a17 : Bool) (a18 : UInt8) (a19 : List UInt8)
theorem r40_32 {r : AV} (h : X40_32 (semCall C Tryd.prog) (semRun C Tryd.prog 40 Tryd.f40) a0 a1 a2 a3 a4 a5 a6 a7 a8 a9 a10 a11 a12 a13 a14 a15 a16 a17 a18 a19 = some r) : F40_32 (semRun C Tryd.prog 40 Tryd.f40) a0 a1 a2 a3 a4 a5 a6 a7 a8 a9 a10 a11 a12 a13 a14 a15 a16 a17 a18 a19 = some r :=
  semRun_unr 400 ((text40_32 _ _ a0 a1 a2 a3 a4 a5 a6 a7 a8 a9 a10 a11 a12 a13 a14 a15 a16 a17 a18 a19).trans h)
end
section
variable (a0 : UInt8) (a1 : Bool) (a2 a3 a4 a5 a6 a7 a8 a9 a10 a11 : AV) (a12 a13 : UInt8) (a14 : Bool) (a15 a16 a17 a18 : UInt8) (a19 : Bool) (a20 : UInt8) (a21 : List UInt8)
theorem r40_22 {r : AV} (h : X40_22 (semCall C Tryd.prog) (semRun C Tryd.prog 40 Tryd.f40) a0 a1 a2 a3 a4 a5 a6 a7 a8 a9 a10 a11 a12 a13 a14 a15 a16 a17 a18 a19 a20 a21 = some r) : F40_22 (semRun C Tryd.prog 40 Tryd.f40) a0 a1 a2 a3 a4 a5 a6 a7 a8 a9 a10 a11 a12 a13 a14 a15 a16 a17 a18 a19 a20 a21 = some r :=
  semRun_unr 400 ((text40_22 _ _ a0 a1 a2 a3 a4 a5 a6 a7 a8 a9 a10 a11 a12 a13 a14 a15 a16 a17 a18 a19 a20 a21).trans h)
end
section
variable (a0 : UInt8) (a1 : Bool) (a2 a3 a4 a5 a6 a7 a8 a9 a10 a11 a12 : AV) (a13 a14 : UInt8) (a15 : Bool) (a16 a17 a18 a19 : UInt8) (a20 : Bool) (a21 : UInt8) (a22 : List UInt8)
theorem r40_26 {r : AV} (h : X40_26 (semCall C Tryd.prog) (semRun C Tryd.prog 40 Tryd.f40) a0 a1 a2 a3 a4 a5 a6 a7 a8 a9 a10 a11 a12 a13 a14 a15 a16 a17 a18 a19 a20 a21 a22 = some r) : F40_26 (semRun C Tryd.prog 40 Tryd.f40) a0 a1 a2 a3 a4 a5 a6 a7 a8 a9 a10 a11 a12 a13 a14 a15 a16 a17 a18 a19 a20 a21 a22 = some r :=
  semRun_unr 400 ((text40_26 _ _ a0 a1 a2 a3 a4 a5 a6 a7 a8 a9 a10 a11 a12 a13 a14 a15 a16 a17 a18 a19 a20 a21 a22).trans h)
end
section
variable (a0 : UInt8) (a1 : Bool) (a2 a3 a4 a5 a6 a7 a8 a9 a10 a11 : AV) (a12 a13 : UInt8) (a14 : Bool) (a15 a16 a17 a18 : UInt8) (a19 : Bool) (a20 : UInt8) (a21 : List UInt8)
theorem r40_31 {r : AV} (h : X40_31 (semCall C Tryd.prog) (semRun C Tryd.prog 40 Tryd.f40) a0 a1 a2 a3 a4 a5 a6 a7 a8 a9 a10 a11 a12 a13 a14 a15 a16 a17 a18 a19 a20 a21 = some r) : F40_31 (semRun C Tryd.prog 40 Tryd.f40) a0 a1 a2 a3 a4 a5 a6 a7 a8 a9 a10 a11 a12 a13 a14 a15 a16 a17 a18 a19 a20 a21 = some r :=
  semRun_unr 400 ((text40_31 _ _ a0 a1 a2 a3 a4 a5 a6 a7 a8 a9 a10 a11 a12 a13 a14 a15 a16 a17 a18 a19 a20 a21).trans h)
end
section
variable (a0 : UInt8) (a1 a2 a3 a4 a5 a6 a7 a8 a9 a10 : AV) (a11 a12 : UInt8) (a13 : Bool) (a14 a15 a16 a17 : UInt8) (a18 : Bool) (a19 : UInt8) (a20 : List UInt8)
theorem r40_4 {r : AV} (h : X40_4 (semCall C Tryd.prog) (semRun C Tryd.prog 40 Tryd.f40) a0 a1 a2 a3 a4 a5 a6 a7 a8 a9 a10 a11 a12 a13 a14 a15 a16 a17 a18 a19 a20 = some r) : F40_4 (semRun C Tryd.prog 40 Tryd.f40) a0 a1 a2 a3 a4 a5 a6 a7 a8 a9 a10 a11 a12 a13 a14 a15 a16 a17 a18 a19 a20 = some r :=
  semRun_unr 400 ((text40_4 _ _ a0 a1 a2 a3 a4 a5 a6 a7 a8 a9 a10 a11 a12 a13 a14 a15 a16 a17 a18 a19 a20).trans h)
end
end R2

namespace R2
open Go Go.Proofs Sx
noncomputable def body61 : Code := (Tryd.f61.body).getD .skip
noncomputable def X61 (call : CallT) (run : RunT) (a0 : UInt8) : Option AV :=
  (call 81 [.u8 a0]).bind fun v1 => condM (v1)
  ((call 82 [.u8 a0]).bind fun v2 => (AV.one (v2)).bind fun v3 => (b2s (.ro 1 (([v3] : List AV)))).bind fun v4 => (AV.one (v4)).bind fun v5 => some (.tu [.ag [.u8 3, .u8 0, .b false, .u8 0, .u8 0, .u8 0, .u8 0, .b false, .u8 0, v5], .b true]))
  (condM (.b (ueq a0 47))
  (some (.tu [.ag [.u8 2, .u8 0, .b false, .u8 0, .u8 0, .u8 0, .u8 0, .b false, .u8 0, .s []], .b true]))
  (condM (.b (ueq a0 33))
  (some (.tu [.ag [.u8 11, .u8 0, .b false, .u8 0, .u8 0, .u8 0, .u8 0, .b false, .u8 0, .s []], .b true]))
  (condM (.b (ueq a0 63))
  (some (.tu [.ag [.u8 16, .u8 0, .b false, .u8 0, .u8 0, .u8 0, .u8 0, .b false, .u8 0, .s []], .b true]))
  (some (.tu [.ag [.u8 0, .u8 0, .b false, .u8 0, .u8 0, .u8 0, .u8 0, .b false, .u8 0, .s []], .b false])))))
section
variable (call : CallT) (run : RunT) (a0 : UInt8)
theorem text61 : unr C call run 61 Tryd.f61 400 [.code body61] (initF C 61 Tryd.f61.ntmps [.u8 a0]) = X61 call run a0 := by
  kernel_rfl
theorem c61 {r : AV} (h : X61 (semCall C Tryd.prog) (semRun C Tryd.prog 61 Tryd.f61) a0 = some r) : semCall C Tryd.prog 61 [.u8 a0] = some r :=
  semCall_unr (fn := Tryd.f61) (c := body61) (by kernel_rfl) (by kernel_rfl) 400 (by kernel_rfl) ((text61 _ _ a0).trans h)
end
end R2

namespace R2
open Go Go.Proofs Sx
noncomputable def body62 : Code := (Tryd.f62.body).getD .skip
noncomputable def X62 (call : CallT) (run : RunT) (a0 : UInt8) : Option AV :=
  (call 81 [.u8 a0]).bind fun v1 => condM (v1)
  ((call 82 [.u8 a0]).bind fun v2 => (AV.one (v2)).bind fun v3 => (b2s (.ro 1 (([v3] : List AV)))).bind fun v4 => (AV.one (v4)).bind fun v5 => some (.ag [.u8 3, .u8 0, .b true, .u8 0, .u8 0, .u8 0, .u8 0, .b false, .u8 0, v5]))
  (condM (.b (ueq a0 62))
  (some (.ag [.u8 0, .u8 0, .b false, .u8 0, .u8 0, .u8 0, .u8 0, .b false, .u8 0, .s []]))
  (some (.ag [.u8 16, .u8 0, .b false, .u8 0, .u8 0, .u8 0, .u8 0, .b false, .u8 0, .s []])))
section
variable (call : CallT) (run : RunT) (a0 : UInt8)
theorem text62 : unr C call run 62 Tryd.f62 400 [.code body62] (initF C 62 Tryd.f62.ntmps [.u8 a0]) = X62 call run a0 := by
  kernel_rfl
theorem c62 {r : AV} (h : X62 (semCall C Tryd.prog) (semRun C Tryd.prog 62 Tryd.f62) a0 = some r) : semCall C Tryd.prog 62 [.u8 a0] = some r :=
  semCall_unr (fn := Tryd.f62) (c := body62) (by kernel_rfl) (by kernel_rfl) 400 (by kernel_rfl) ((text62 _ _ a0).trans h)
end
end R2

namespace R2
open Go Go.Proofs Sx
noncomputable def body63 : Code := (Tryd.f63.body).getD .skip
section
variable (run : RunT) (a0 : UInt8) (a1 : AV) (a2 : Bool) (a3 a4 a5 a6 : UInt8) (a7 : Bool) (a8 : UInt8) (a9 : List UInt8) (a10 a11 : UInt8) (a12 : Bool) (a13 a14 a15 a16 : UInt8) (a17 : Bool) (a18 : UInt8) (a19 : List UInt8)
noncomputable def K63_7 : List Item := (kAt 7 body63 []).getD []
def S63_7 : St := St.ofL [(2, .cell (.ptr 2 0)), (4, .cell (.ptr 4 0))] [(2, some [.val (.u8 a0), .val (a1), .val (.b a2), .val (.u8 a3), .val (.u8 a4), .val (.u8 a5), .val (.u8 a6), .val (.b a7), .val (.u8 a8), .val (.s a9)]), (4, some [.val (.u8 a10), .val (.u8 a11), .val (.b a12), .val (.u8 a13), .val (.u8 a14), .val (.u8 a15), .val (.u8 a16), .val (.b a17), .val (.u8 a18), .val (.s a19)])]
noncomputable def F63_7 : Option AV := run K63_7 (S63_7 a0 a1 a2 a3 a4 a5 a6 a7 a8 a9 a10 a11 a12 a13 a14 a15 a16 a17 a18 a19)
end
noncomputable def X63 (call : CallT) (run : RunT) (a0 a1 : UInt8) (a2 : Bool) (a3 a4 a5 a6 : UInt8) (a7 : Bool) (a8 : UInt8) (a9 : List UInt8) (a10 : UInt8) : Option AV :=
  condM (.b (ueq a0 3))
  ((call 83 [.u8 a10]).bind fun v1 => (unop .not (v1)).bind fun v2 => (selW (v2) true (some (.b (une a10 47))) (.b false)).bind fun v3 => (selW (v3) true (some (.b (une a10 62))) (.b false)).bind fun v4 => condM (v4)
  ((call 84 [.ag [.u8 a0, .u8 a1, .b a2, .u8 a3, .u8 a4, .u8 a5, .u8 a6, .b a7, .u8 a8, .s a9], .u8 a10]).bind fun v5 => (AV.asAg 10 (v5)).bind fun v6 => some (.tu [.ag [v6.getD 0 .un, v6.getD 1 .un, v6.getD 2 .un, v6.getD 3 .un, v6.getD 4 .un, v6.getD 5 .un, v6.getD 6 .un, v6.getD 7 .un, v6.getD 8 .un, v6.getD 9 .un], .b false]))
  (condM (.b (!a2))
  ((call 26 [.s a9]).bind fun v7 => (AV.one (v7)).bind fun v8 => F63_7 run a0 (v8) a2 a3 a4 a5 a6 a7 a8 a9 0 0 false 0 0 0 0 false 0 [])
  (F63_7 run a0 (.u8 a1) a2 a3 a4 a5 a6 a7 a8 a9 0 0 false 0 0 0 0 false 0 [])))
  (condM (.b (ueq a0 9))
  ((call 83 [.u8 a10]).bind fun v9 => condM (v9)
  ((call 85 [.ag [.u8 a0, .u8 a1, .b a2, .u8 a3, .u8 a4, .u8 a5, .u8 a6, .b a7, .u8 a8, .s a9], .u8 4]).bind fun v10 => (AV.asAg 10 (v10)).bind fun v11 => some (.tu [.ag [v11.getD 0 .un, v11.getD 1 .un, v11.getD 2 .un, v11.getD 3 .un, v11.getD 4 .un, v11.getD 5 .un, v11.getD 6 .un, v11.getD 7 .un, v11.getD 8 .un, v11.getD 9 .un], .b false]))
  (condM (.b (ueq a10 47))
  ((call 85 [.ag [.u8 a0, .u8 a1, .b a2, .u8 a3, .u8 a4, .u8 a5, .u8 a6, .b a7, .u8 a8, .s a9], .u8 10]).bind fun v12 => (AV.asAg 10 (v12)).bind fun v13 => some (.tu [.ag [v13.getD 0 .un, v13.getD 1 .un, v13.getD 2 .un, v13.getD 3 .un, v13.getD 4 .un, v13.getD 5 .un, v13.getD 6 .un, v13.getD 7 .un, v13.getD 8 .un, v13.getD 9 .un], .b false]))
  (condM (.b (ueq a10 62))
  ((call 86 [.u8 a1]).bind fun v14 => (AV.asAg 10 (v14)).bind fun v15 => some (.tu [.ag [v15.getD 0 .un, v15.getD 1 .un, v15.getD 2 .un, v15.getD 3 .un, v15.getD 4 .un, v15.getD 5 .un, v15.getD 6 .un, v15.getD 7 .un, v15.getD 8 .un, v15.getD 9 .un], .b false]))
  (some (.tu [.ag [.u8 20, .u8 0, .b false, .u8 0, .u8 0, .u8 0, .u8 0, .b false, .u8 0, .s []], .b false])))))
  (condM (.b (ueq a0 10))
  (condM (.b (ueq a10 62))
  ((call 86 [.u8 a1]).bind fun v16 => (AV.asAg 10 (v16)).bind fun v17 => some (.tu [.ag [v17.getD 0 .un, v17.getD 1 .un, v17.getD 2 .un, v17.getD 3 .un, v17.getD 4 .un, v17.getD 5 .un, v17.getD 6 .un, v17.getD 7 .un, v17.getD 8 .un, v17.getD 9 .un], .b false]))
  ((call 85 [.ag [.u8 a0, .u8 a1, .b a2, .u8 a3, .u8 a4, .u8 a5, .u8 a6, .b a7, .u8 a8, .s a9], .u8 4]).bind fun v18 => (AV.asAg 10 (v18)).bind fun v19 => some (.tu [.ag [v19.getD 0 .un, v19.getD 1 .un, v19.getD 2 .un, v19.getD 3 .un, v19.getD 4 .un, v19.getD 5 .un, v19.getD 6 .un, v19.getD 7 .un, v19.getD 8 .un, v19.getD 9 .un], .b true])))
  (condM (.b (ueq a0 4))
  ((call 83 [.u8 a10]).bind fun v20 => condM (v20)
  (some (.tu [.ag [.u8 a0, .u8 a1, .b a2, .u8 a3, .u8 a4, .u8 a5, .u8 a6, .b a7, .u8 a8, .s a9], .b false]))
  ((selW (.b (ueq a10 47)) false (some (.b (ueq a10 62))) (.b true)).bind fun v21 => condM (v21)
  ((call 85 [.ag [.u8 a0, .u8 a1, .b a2, .u8 a3, .u8 a4, .u8 a5, .u8 a6, .b a7, .u8 a8, .s a9], .u8 9]).bind fun v22 => (AV.asAg 10 (v22)).bind fun v23 => some (.tu [.ag [v23.getD 0 .un, v23.getD 1 .un, v23.getD 2 .un, v23.getD 3 .un, v23.getD 4 .un, v23.getD 5 .un, v23.getD 6 .un, v23.getD 7 .un, v23.getD 8 .un, v23.getD 9 .un], .b true]))
  (condM (.b (ueq a10 61))
  (some (.tu [.ag [.u8 20, .u8 0, .b false, .u8 0, .u8 0, .u8 0, .u8 0, .b false, .u8 0, .s []], .b false]))
  (some (.tu [.ag [.u8 5, .u8 a1, .b a2, .u8 a3, .u8 a4, .u8 a5, .u8 a6, .b a7, .u8 a8, .s a9], .b true])))))
  (condM (.b (ueq a0 7))
  ((call 87 [.ag [.u8 a0, .u8 a1, .b a2, .u8 a3, .u8 a4, .u8 a5, .u8 a6, .b a7, .u8 a8, .s a9], .u8 a10]).bind fun v24 => (tupI (v24) 0).bind fun v25 => (tupI (v24) 1).bind fun v26 => (AV.asAg 10 (v25)).bind fun v27 => some (.tu [.ag [v27.getD 0 .un, v27.getD 1 .un, v27.getD 2 .un, v27.getD 3 .un, v27.getD 4 .un, v27.getD 5 .un, v27.getD 6 .un, v27.getD 7 .un, v27.getD 8 .un, v27.getD 9 .un], v26]))
  ((call 88 [.ag [.u8 a0, .u8 a1, .b a2, .u8 a3, .u8 a4, .u8 a5, .u8 a6, .b a7, .u8 a8, .s a9], .u8 a10]).bind fun v28 => (tupI (v28) 0).bind fun v29 => (tupI (v28) 1).bind fun v30 => (AV.asAg 10 (v29)).bind fun v31 => some (.tu [.ag [v31.getD 0 .un, v31.getD 1 .un, v31.getD 2 .un, v31.getD 3 .un, v31.getD 4 .un, v31.getD 5 .un, v31.getD 6 .un, v31.getD 7 .un, v31.getD 8 .un, v31.getD 9 .un], v30]))))))
section
variable (call : CallT) (run : RunT) (a0 a1 : UInt8) (a2 : Bool) (a3 a4 a5 a6 : UInt8) (a7 : Bool) (a8 : UInt8) (a9 : List UInt8) (a10 : UInt8)
theorem text63 : unr C call run 63 Tryd.f63 400 [.code body63] (initF C 63 Tryd.f63.ntmps [.ag [.u8 a0, .u8 a1, .b a2, .u8 a3, .u8 a4, .u8 a5, .u8 a6, .b a7, .u8 a8, .s a9], .u8 a10]) = X63 call run a0 a1 a2 a3 a4 a5 a6 a7 a8 a9 a10 := by
  kernel_rfl
theorem c63 {r : AV} (h : X63 (semCall C Tryd.prog) (semRun C Tryd.prog 63 Tryd.f63) a0 a1 a2 a3 a4 a5 a6 a7 a8 a9 a10 = some r) : semCall C Tryd.prog 63 [.ag [.u8 a0, .u8 a1, .b a2, .u8 a3, .u8 a4, .u8 a5, .u8 a6, .b a7, .u8 a8, .s a9], .u8 a10] = some r :=
  semCall_unr (fn := Tryd.f63) (c := body63) (by kernel_rfl) (by kernel_rfl) 400 (by kernel_rfl) ((text63 _ _ a0 a1 a2 a3 a4 a5 a6 a7 a8 a9 a10).trans h)
end
noncomputable def X63_7 (call : CallT) (run : RunT) (a0 : UInt8) (a1 : AV) (a2 : Bool) (a3 a4 a5 a6 : UInt8) (a7 : Bool) (a8 : UInt8) (a9 : List UInt8) (a10 a11 : UInt8) (a12 : Bool) (a13 a14 a15 a16 : UInt8) (a17 : Bool) (a18 : UInt8) (a19 : List UInt8) : Option AV :=
  (call 85 [.ag [.u8 a0, a1, .b a2, .u8 a3, .u8 a4, .u8 a5, .u8 a6, .b a7, .u8 a8, .s a9], .u8 9]).bind fun v1 => (AV.asAg 10 (v1)).bind fun v2 => some (.tu [.ag [v2.getD 0 .un, v2.getD 1 .un, v2.getD 2 .un, v2.getD 3 .un, v2.getD 4 .un, v2.getD 5 .un, v2.getD 6 .un, v2.getD 7 .un, v2.getD 8 .un, v2.getD 9 .un], .b true])
section
variable (call : CallT) (run : RunT) (a0 : UInt8) (a1 : AV) (a2 : Bool) (a3 a4 a5 a6 : UInt8) (a7 : Bool) (a8 : UInt8) (a9 : List UInt8) (a10 a11 : UInt8) (a12 : Bool) (a13 a14 a15 a16 : UInt8) (a17 : Bool) (a18 : UInt8) (a19 : List UInt8)
theorem text63_7 : step C call 63 Tryd.f63 (unr C call run 63 Tryd.f63 400) K63_7 (S63_7 a0 a1 a2 a3 a4 a5 a6 a7 a8 a9 a10 a11 a12 a13 a14 a15 a16 a17 a18 a19) = X63_7 call run a0 a1 a2 a3 a4 a5 a6 a7 a8 a9 a10 a11 a12 a13 a14 a15 a16 a17 a18 a19 := by
  kernel_rfl
end
section
variable (a0 : UInt8) (a1 : AV) (a2 : Bool) (a3 a4 a5 a6 : UInt8) (a7 : Bool) (a8 : UInt8) (a9 : List UInt8) (a10 a11 : UInt8) (a12 : Bool) (a13 a14 a15 a16 : UInt8) (a17 : Bool) (a18 : UInt8) (a19 : List UInt8)
theorem r63_7 {r : AV} (h : X63_7 (semCall C Tryd.prog) (semRun C Tryd.prog 63 Tryd.f63) a0 a1 a2 a3 a4 a5 a6 a7 a8 a9 a10 a11 a12 a13 a14 a15 a16 a17 a18 a19 = some r) : F63_7 (semRun C Tryd.prog 63 Tryd.f63) a0 a1 a2 a3 a4 a5 a6 a7 a8 a9 a10 a11 a12 a13 a14 a15 a16 a17 a18 a19 = some r :=
  semRun_unr 400 ((text63_7 _ _ a0 a1 a2 a3 a4 a5 a6 a7 a8 a9 a10 a11 a12 a13 a14 a15 a16 a17 a18 a19).trans h)
end
end R2

namespace R2
open Go Go.Proofs Sx
noncomputable def body64 : Code := (Tryd.f64.body).getD .skip
noncomputable def X64 (call : CallT) (run : RunT) (a0 a1 : UInt8) (a2 : Bool) (a3 a4 a5 a6 : UInt8) (a7 : Bool) (a8 : UInt8) (a9 : List UInt8) (a10 : UInt8) : Option AV :=
  (selW (.b (!(ueq a4 0))) true (some (.b (ueq a10 a4))) (.b false)).bind fun v1 => (selW (v1) false ((selW (.b (ueq a4 0)) true ((call 83 [.u8 a10]).bind fun v2 => (selW (v2) false (some (.b (ueq a10 62))) (.b true)).bind fun v3 => some (v3)) (.b false)).bind fun v4 => some (v4)) (.b true)).bind fun v5 => condM (v5)
  ((call 89 [.ag [.u8 a0, .u8 a1, .b a2, .u8 a3, .u8 a4, .u8 a5, .u8 a6, .b a7, .u8 a8, .s a9]]).bind fun v6 => (unop .not (v6)).bind fun v7 => condM (v7)
  (some (.ag [.u8 20, .u8 0, .b false, .u8 0, .u8 0, .u8 0, .u8 0, .b false, .u8 0, .s []]))
  (condM (.b (!(ueq a4 0)))
  ((call 85 [.ag [.u8 a0, .u8 a1, .b a2, .u8 a3, .u8 a4, .u8 a5, .u8 a6, .b a7, .u8 a8, .s a9], .u8 9]).bind fun v8 => (AV.asAg 10 (v8)).bind fun v9 => some (.ag [v9.getD 0 .un, v9.getD 1 .un, v9.getD 2 .un, v9.getD 3 .un, v9.getD 4 .un, v9.getD 5 .un, v9.getD 6 .un, v9.getD 7 .un, v9.getD 8 .un, v9.getD 9 .un]))
  (condM (.b (ueq a10 62))
  ((call 86 [.u8 a1]).bind fun v10 => (AV.asAg 10 (v10)).bind fun v11 => some (.ag [v11.getD 0 .un, v11.getD 1 .un, v11.getD 2 .un, v11.getD 3 .un, v11.getD 4 .un, v11.getD 5 .un, v11.getD 6 .un, v11.getD 7 .un, v11.getD 8 .un, v11.getD 9 .un]))
  ((call 85 [.ag [.u8 a0, .u8 a1, .b a2, .u8 a3, .u8 a4, .u8 a5, .u8 a6, .b a7, .u8 a8, .s a9], .u8 4]).bind fun v12 => (AV.asAg 10 (v12)).bind fun v13 => some (.ag [v13.getD 0 .un, v13.getD 1 .un, v13.getD 2 .un, v13.getD 3 .un, v13.getD 4 .un, v13.getD 5 .un, v13.getD 6 .un, v13.getD 7 .un, v13.getD 8 .un, v13.getD 9 .un])))))
  ((selW (.b (ueq a4 0)) true ((call 90 [.s [34, 39, 60, 61, 96], .u8 a10]).bind fun v14 => (binI .geq (v14) (.int 0)).bind fun v15 => some (v15)) (.b false)).bind fun v16 => condM (v16)
  (some (.ag [.u8 20, .u8 0, .b false, .u8 0, .u8 0, .u8 0, .u8 0, .b false, .u8 0, .s []]))
  (condM (.b (ueq a3 1))
  ((call 91 [.ag [.u8 a0, .u8 a1, .b a2, .u8 a3, .u8 a4, .u8 a5, .u8 a6, .b a7, .u8 a8, .s a9], .u8 a10]).bind fun v17 => (AV.asAg 10 (v17)).bind fun v18 => some (.ag [v18.getD 0 .un, v18.getD 1 .un, v18.getD 2 .un, v18.getD 3 .un, v18.getD 4 .un, v18.getD 5 .un, v18.getD 6 .un, v18.getD 7 .un, v18.getD 8 .un, v18.getD 9 .un]))
  ((selW (.b (ueq a3 2)) false (some (.b (ueq a3 3))) (.b true)).bind fun v19 => condM (v19)
  (condM (.b (ueq a10 38))
  (some (.ag [.u8 20, .u8 0, .b false, .u8 0, .u8 0, .u8 0, .u8 0, .b false, .u8 0, .s []]))
  ((call 92 [.ag [.u8 a0, .u8 a1, .b a2, .u8 a3, .u8 a4, .u8 a5, .u8 a6, .b a7, .u8 a8, .s a9], .u8 a10, .b (ueq a3 2)]).bind fun v20 => (AV.asAg 10 (v20)).bind fun v21 => some (.ag [v21.getD 0 .un, v21.getD 1 .un, v21.getD 2 .un, v21.getD 3 .un, v21.getD 4 .un, v21.getD 5 .un, v21.getD 6 .un, v21.getD 7 .un, v21.getD 8 .un, v21.getD 9 .un])))
  (some (.ag [.u8 a0, .u8 a1, .b a2, .u8 a3, .u8 a4, .u8 a5, .u8 a6, .b a7, .u8 a8, .s a9])))))
section
variable (call : CallT) (run : RunT) (a0 a1 : UInt8) (a2 : Bool) (a3 a4 a5 a6 : UInt8) (a7 : Bool) (a8 : UInt8) (a9 : List UInt8) (a10 : UInt8)
theorem text64 : unr C call run 64 Tryd.f64 400 [.code body64] (initF C 64 Tryd.f64.ntmps [.ag [.u8 a0, .u8 a1, .b a2, .u8 a3, .u8 a4, .u8 a5, .u8 a6, .b a7, .u8 a8, .s a9], .u8 a10]) = X64 call run a0 a1 a2 a3 a4 a5 a6 a7 a8 a9 a10 := by
  kernel_rfl
theorem c64 {r : AV} (h : X64 (semCall C Tryd.prog) (semRun C Tryd.prog 64 Tryd.f64) a0 a1 a2 a3 a4 a5 a6 a7 a8 a9 a10 = some r) : semCall C Tryd.prog 64 [.ag [.u8 a0, .u8 a1, .b a2, .u8 a3, .u8 a4, .u8 a5, .u8 a6, .b a7, .u8 a8, .s a9], .u8 a10] = some r :=
  semCall_unr (fn := Tryd.f64) (c := body64) (by kernel_rfl) (by kernel_rfl) 400 (by kernel_rfl) ((text64 _ _ a0 a1 a2 a3 a4 a5 a6 a7 a8 a9 a10).trans h)
end
end R2

namespace R2
open Go Go.Proofs Sx
noncomputable def body65 : Code := (Tryd.f65.body).getD .skip
section
variable (run : RunT) (a0 : UInt8) (a1 : Bool) (a2 a3 a4 a5 a6 a7 a8 a9 a10 a11 : AV) (a12 a13 : UInt8) (a14 : Bool) (a15 a16 a17 a18 : UInt8) (a19 : Bool) (a20 : UInt8) (a21 : List UInt8)
noncomputable def K65_17 : List Item := (kAt 17 body65 []).getD []
def S65_17 : St := St.ofL [(1, .cell (.val (.u8 a0))), (2, .cell (.val (.b a1))), (3, .cell (.ptr 3 0)), (6, .cell (.ptr 6 0))] [(3, some [.val (a2), .val (a3), .val (a4), .val (a5), .val (a6), .val (a7), .val (a8), .val (a9), .val (a10), .val (a11)]), (6, some [.val (.u8 a12), .val (.u8 a13), .val (.b a14), .val (.u8 a15), .val (.u8 a16), .val (.u8 a17), .val (.u8 a18), .val (.b a19), .val (.u8 a20), .val (.s a21)])]
noncomputable def F65_17 : Option AV := run K65_17 (S65_17 a0 a1 a2 a3 a4 a5 a6 a7 a8 a9 a10 a11 a12 a13 a14 a15 a16 a17 a18 a19 a20 a21)
end
section
variable (run : RunT) (a0 a1 a2 a3 a4 a5 a6 a7 a8 a9 : AV) (a10 a11 : UInt8) (a12 : Bool) (a13 a14 a15 a16 : UInt8) (a17 : Bool) (a18 : UInt8) (a19 : List UInt8)
noncomputable def K65_22 : List Item := (kAt 22 body65 []).getD []
def S65_22 : St := St.ofL [(3, .cell (.ptr 3 0)), (6, .cell (.ptr 6 0))] [(3, some [.val (a0), .val (a1), .val (a2), .val (a3), .val (a4), .val (a5), .val (a6), .val (a7), .val (a8), .val (a9)]), (6, some [.val (.u8 a10), .val (.u8 a11), .val (.b a12), .val (.u8 a13), .val (.u8 a14), .val (.u8 a15), .val (.u8 a16), .val (.b a17), .val (.u8 a18), .val (.s a19)])]
noncomputable def F65_22 : Option AV := run K65_22 (S65_22 a0 a1 a2 a3 a4 a5 a6 a7 a8 a9 a10 a11 a12 a13 a14 a15 a16 a17 a18 a19)
end
noncomputable def X65 (call : CallT) (run : RunT) (a0 a1 : UInt8) (a2 : Bool) (a3 a4 a5 a6 : UInt8) (a7 : Bool) (a8 : UInt8) (a9 : List UInt8) (a10 : UInt8) (a11 : Bool) : Option AV :=
  (call 77 [.u8 a1]).bind fun v1 => (selW (.b (ueq a0 18)) true (some (.b (ueq a10 47))) (.b false)).bind fun v2 => condM (v2)
  (some (.ag [.u8 19, .u8 a1, .b a2, .u8 a3, .u8 a4, .u8 a5, .u8 a6, .b a7, .u8 a8, .s a9]))
  ((selW (.b (ueq a0 18)) true (some (.b (ueq a10 33))) (.b false)).bind fun v3 => (selW (v3) true (some (.b (ueq a1 3))) (.b false)).bind fun v4 => condM (v4)
  (some (.ag [.u8 20, .u8 0, .b false, .u8 0, .u8 0, .u8 0, .u8 0, .b false, .u8 0, .s []]))
  ((selW (.b (ueq a0 19)) true ((binS .eql (.s a9) (v1)).bind fun v5 => some (v5)) (.b false)).bind fun v6 => (selW (v6) true ((call 83 [.u8 a10]).bind fun v7 => (selW (v7) false (some (.b (ueq a10 47))) (.b true)).bind fun v8 => (selW (v8) false (some (.b (ueq a10 62))) (.b true)).bind fun v9 => some (v9)) (.b false)).bind fun v10 => condM (v10)
  ((call 89 [.ag [.u8 a0, .u8 a1, .b a2, .u8 a3, .u8 a4, .u8 a5, .u8 a6, .b a7, .u8 a8, .s a9]]).bind fun v11 => (unop .not (v11)).bind fun v12 => condM (v12)
  (some (.ag [.u8 20, .u8 0, .b false, .u8 0, .u8 0, .u8 0, .u8 0, .b false, .u8 0, .s []]))
  ((call 63 [.ag [.u8 9, .u8 0, .b true, .u8 0, .u8 0, .u8 0, .u8 0, .b false, .u8 0, .s []], .u8 a10]).bind fun v13 => (tupI (v13) 0).bind fun v14 => (tupI (v13) 1).bind fun v15 => (AV.asAg 10 (v14)).bind fun v16 => some (.ag [v16.getD 0 .un, v16.getD 1 .un, v16.getD 2 .un, v16.getD 3 .un, v16.getD 4 .un, v16.getD 5 .un, v16.getD 6 .un, v16.getD 7 .un, v16.getD 8 .un, v16.getD 9 .un])))
  ((selW (.b (ueq a0 19)) true ((call 82 [.u8 a10]).bind fun v17 => (AV.one (v17)).bind fun v18 => (b2s (.ro 1 (([v18] : List AV)))).bind fun v19 => (binS .add (.s a9) (v19)).bind fun v20 => (call 76 [v1, v20]).bind fun v21 => some (v21)) (.b false)).bind fun v22 => condM (v22)
  ((call 82 [.u8 a10]).bind fun v23 => (AV.one (v23)).bind fun v24 => (b2s (.ro 1 (([v24] : List AV)))).bind fun v25 => (binS .add (.s a9) (v25)).bind fun v26 => (AV.one (v26)).bind fun v27 => some (.ag [.u8 a0, .u8 a1, .b a2, .u8 a3, .u8 a4, .u8 a5, .u8 a6, .b a7, .u8 a8, v27]))
  (condM (.b (ueq a0 19))
  ((binS .add (.s [47]) (.s a9)).bind fun v28 => (call 93 [.ag [.u8 a0, .u8 a1, .b a2, .u8 a3, .u8 a4, .u8 a5, .u8 a6, .b a7, .u8 a8, .s a9], v28, .b a11]).bind fun v29 => (AV.asAg 10 (v29)).bind fun v30 => F65_17 run a10 a11 (v30.getD 0 .un) (v30.getD 1 .un) (v30.getD 2 .un) (v30.getD 3 .un) (v30.getD 4 .un) (v30.getD 5 .un) (v30.getD 6 .un) (v30.getD 7 .un) (v30.getD 8 .un) (v30.getD 9 .un) 0 0 false 0 0 0 0 false 0 [])
  (F65_17 run a10 a11 (.u8 a0) (.u8 a1) (.b a2) (.u8 a3) (.u8 a4) (.u8 a5) (.u8 a6) (.b a7) (.u8 a8) (.s a9) 0 0 false 0 0 0 0 false 0 [])))))
section
variable (call : CallT) (run : RunT) (a0 a1 : UInt8) (a2 : Bool) (a3 a4 a5 a6 : UInt8) (a7 : Bool) (a8 : UInt8) (a9 : List UInt8) (a10 : UInt8) (a11 : Bool)
theorem text65 : unr C call run 65 Tryd.f65 400 [.code body65] (initF C 65 Tryd.f65.ntmps [.ag [.u8 a0, .u8 a1, .b a2, .u8 a3, .u8 a4, .u8 a5, .u8 a6, .b a7, .u8 a8, .s a9], .u8 a10, .b a11]) = X65 call run a0 a1 a2 a3 a4 a5 a6 a7 a8 a9 a10 a11 := by
  kernel_rfl
theorem c65 {r : AV} (h : X65 (semCall C Tryd.prog) (semRun C Tryd.prog 65 Tryd.f65) a0 a1 a2 a3 a4 a5 a6 a7 a8 a9 a10 a11 = some r) : semCall C Tryd.prog 65 [.ag [.u8 a0, .u8 a1, .b a2, .u8 a3, .u8 a4, .u8 a5, .u8 a6, .b a7, .u8 a8, .s a9], .u8 a10, .b a11] = some r :=
  semCall_unr (fn := Tryd.f65) (c := body65) (by kernel_rfl) (by kernel_rfl) 400 (by kernel_rfl) ((text65 _ _ a0 a1 a2 a3 a4 a5 a6 a7 a8 a9 a10 a11).trans h)
end
noncomputable def X65_17 (call : CallT) (run : RunT) (a0 : UInt8) (a1 : Bool) (a2 a3 a4 a5 a6 a7 a8 a9 a10 a11 : AV) (a12 a13 : UInt8) (a14 : Bool) (a15 a16 a17 a18 : UInt8) (a19 : Bool) (a20 : UInt8) (a21 : List UInt8) : Option AV :=
  (binI .eql (a2) (.u8 20)).bind fun v1 => condM (v1)
  (some (.ag [.u8 20, .u8 0, .b false, .u8 0, .u8 0, .u8 0, .u8 0, .b false, .u8 0, .s []]))
  ((b2s (.ro 1 (([.u8 a0] : List AV)))).bind fun v2 => (call 93 [.ag [a2, a3, a4, a5, a6, a7, a8, a9, a10, a11], v2, .b a1]).bind fun v3 => (AV.asAg 10 (v3)).bind fun v4 => (binI .eql (v4.getD 0 .un) (.u8 17)).bind fun v5 => (selW (v5) true (some (.b (ueq a0 60))) (.b false)).bind fun v6 => condM (v6)
  (F65_22 run (.u8 18) (v4.getD 1 .un) (v4.getD 2 .un) (v4.getD 3 .un) (v4.getD 4 .un) (v4.getD 5 .un) (v4.getD 6 .un) (v4.getD 7 .un) (v4.getD 8 .un) (v4.getD 9 .un) a12 a13 a14 a15 a16 a17 a18 a19 a20 a21)
  (F65_22 run (v4.getD 0 .un) (v4.getD 1 .un) (v4.getD 2 .un) (v4.getD 3 .un) (v4.getD 4 .un) (v4.getD 5 .un) (v4.getD 6 .un) (v4.getD 7 .un) (v4.getD 8 .un) (v4.getD 9 .un) a12 a13 a14 a15 a16 a17 a18 a19 a20 a21))
section
variable (call : CallT) (run : RunT) (a0 : UInt8) (a1 : Bool) (a2 a3 a4 a5 a6 a7 a8 a9 a10 a11 : AV) (a12 a13 : UInt8) (a14 : Bool) (a15 a16 a17 a18 : UInt8) (a19 : Bool) (a20 : UInt8) (a21 : List UInt8)
theorem text65_17 : step C call 65 Tryd.f65 (unr C call run 65 Tryd.f65 400) K65_17 (S65_17 a0 a1 a2 a3 a4 a5 a6 a7 a8 a9 a10 a11 a12 a13 a14 a15 a16 a17 a18 a19 a20 a21) = X65_17 call run a0 a1 a2 a3 a4 a5 a6 a7 a8 a9 a10 a11 a12 a13 a14 a15 a16 a17 a18 a19 a20 a21 := by
  kernel_rfl
end
noncomputable def X65_22 (call : CallT) (run : RunT) (a0 a1 a2 a3 a4 a5 a6 a7 a8 a9 : AV) (a10 a11 : UInt8) (a12 : Bool) (a13 a14 a15 a16 : UInt8) (a17 : Bool) (a18 : UInt8) (a19 : List UInt8) : Option AV :=
  some (.ag [a0, a1, a2, a3, a4, a5, a6, a7, a8, a9])
section
variable (call : CallT) (run : RunT) (a0 a1 a2 a3 a4 a5 a6 a7 a8 a9 : AV) (a10 a11 : UInt8) (a12 : Bool) (a13 a14 a15 a16 : UInt8) (a17 : Bool) (a18 : UInt8) (a19 : List UInt8)
theorem text65_22 : step C call 65 Tryd.f65 (unr C call run 65 Tryd.f65 400) K65_22 (S65_22 a0 a1 a2 a3 a4 a5 a6 a7 a8 a9 a10 a11 a12 a13 a14 a15 a16 a17 a18 a19) = X65_22 call run a0 a1 a2 a3 a4 a5 a6 a7 a8 a9 a10 a11 a12 a13 a14 a15 a16 a17 a18 a19 := by
  kernel_rfl
end
section
variable (a0 : UInt8) (a1 : Bool) (a2 a3 a4 a5 a6 a7 a8 a9 a10 a11 : AV) (a12 a13 : UInt8) (a14 : Bool) (a15 a16 a17 a18 : UInt8) (a19 : Bool) (a20 : UInt8) (a21 : List UInt8)
theorem r65_17 {r : AV} (h : X65_17 (semCall C Tryd.prog) (semRun C Tryd.prog 65 Tryd.f65) a0 a1 a2 a3 a4 a5 a6 a7 a8 a9 a10 a11 a12 a13 a14 a15 a16 a17 a18 a19 a20 a21 = some r) : F65_17 (semRun C Tryd.prog 65 Tryd.f65) a0 a1 a2 a3 a4 a5 a6 a7 a8 a9 a10 a11 a12 a13 a14 a15 a16 a17 a18 a19 a20 a21 = some r :=
  semRun_unr 400 ((text65_17 _ _ a0 a1 a2 a3 a4 a5 a6 a7 a8 a9 a10 a11 a12 a13 a14 a15 a16 a17 a18 a19 a20 a21).trans h)
end
section
variable (a0 a1 a2 a3 a4 a5 a6 a7 a8 a9 : AV) (a10 a11 : UInt8) (a12 : Bool) (a13 a14 a15 a16 : UInt8) (a17 : Bool) (a18 : UInt8) (a19 : List UInt8)
theorem r65_22 {r : AV} (h : X65_22 (semCall C Tryd.prog) (semRun C Tryd.prog 65 Tryd.f65) a0 a1 a2 a3 a4 a5 a6 a7 a8 a9 a10 a11 a12 a13 a14 a15 a16 a17 a18 a19 = some r) : F65_22 (semRun C Tryd.prog 65 Tryd.f65) a0 a1 a2 a3 a4 a5 a6 a7 a8 a9 a10 a11 a12 a13 a14 a15 a16 a17 a18 a19 = some r :=
  semRun_unr 400 ((text65_22 _ _ a0 a1 a2 a3 a4 a5 a6 a7 a8 a9 a10 a11 a12 a13 a14 a15 a16 a17 a18 a19).trans h)
end
end R2

namespace R2
open Go Go.Proofs Sx
noncomputable def body66 : Code := (Tryd.f66.body).getD .skip
section
variable (run : RunT) (a0 a1 a2 : UInt8) (a3 : Bool) (a4 a5 a6 a7 : UInt8) (a8 : Bool) (a9 : UInt8) (a10 : List UInt8) (a11 a12 : UInt8) (a13 : Bool) (a14 a15 a16 a17 : UInt8) (a18 : Bool) (a19 : UInt8) (a20 : List UInt8)
noncomputable def K66_4 : List Item := (kAt 4 body66 []).getD []
def S66_4 : St := St.ofL [(1, .cell (.val (.u8 a0))), (2, .cell (.ptr 2 0)), (4, .cell (.ptr 4 0))] [(2, some [.val (.u8 a1), .val (.u8 a2), .val (.b a3), .val (.u8 a4), .val (.u8 a5), .val (.u8 a6), .val (.u8 a7), .val (.b a8), .val (.u8 a9), .val (.s a10)]), (4, some [.val (.u8 a11), .val (.u8 a12), .val (.b a13), .val (.u8 a14), .val (.u8 a15), .val (.u8 a16), .val (.u8 a17), .val (.b a18), .val (.u8 a19), .val (.s a20)])]
noncomputable def F66_4 : Option AV := run K66_4 (S66_4 a0 a1 a2 a3 a4 a5 a6 a7 a8 a9 a10 a11 a12 a13 a14 a15 a16 a17 a18 a19 a20)
end
section
variable (run : RunT) (a0 a1 a2 a3 : UInt8) (a4 : Bool) (a5 a6 a7 a8 : UInt8) (a9 : Bool) (a10 : UInt8) (a11 : List UInt8) (a12 a13 : UInt8) (a14 : Bool) (a15 a16 a17 a18 : UInt8) (a19 : Bool) (a20 : UInt8) (a21 : List UInt8)
noncomputable def K66_11 : List Item := (kAt 11 body66 []).getD []
def S66_11 : St := St.ofL [(1, .cell (.val (.u8 a0))), (2, .cell (.ptr 2 0)), (4, .cell (.ptr 4 0)), (6, .cell (.val (.u8 a1)))] [(2, some [.val (.u8 a2), .val (.u8 a3), .val (.b a4), .val (.u8 a5), .val (.u8 a6), .val (.u8 a7), .val (.u8 a8), .val (.b a9), .val (.u8 a10), .val (.s a11)]), (4, some [.val (.u8 a12), .val (.u8 a13), .val (.b a14), .val (.u8 a15), .val (.u8 a16), .val (.u8 a17), .val (.u8 a18), .val (.b a19), .val (.u8 a20), .val (.s a21)])]
noncomputable def F66_11 : Option AV := run K66_11 (S66_11 a0 a1 a2 a3 a4 a5 a6 a7 a8 a9 a10 a11 a12 a13 a14 a15 a16 a17 a18 a19 a20 a21)
end
section
variable (run : RunT) (a0 a1 a2 : UInt8) (a3 : Bool) (a4 a5 a6 a7 : UInt8) (a8 : Bool) (a9 : UInt8) (a10 : List UInt8) (a11 a12 : UInt8) (a13 : Bool) (a14 a15 a16 a17 : UInt8) (a18 : Bool) (a19 : UInt8) (a20 : List UInt8)
noncomputable def K66_13 : List Item := (kAt 13 body66 []).getD []
def S66_13 : St := St.ofL [(1, .cell (.val (.u8 a0))), (2, .cell (.ptr 2 0)), (4, .cell (.ptr 4 0))] [(2, some [.val (.u8 a1), .val (.u8 a2), .val (.b a3), .val (.u8 a4), .val (.u8 a5), .val (.u8 a6), .val (.u8 a7), .val (.b a8), .val (.u8 a9), .val (.s a10)]), (4, some [.val (.u8 a11), .val (.u8 a12), .val (.b a13), .val (.u8 a14), .val (.u8 a15), .val (.u8 a16), .val (.u8 a17), .val (.b a18), .val (.u8 a19), .val (.s a20)])]
noncomputable def F66_13 : Option AV := run K66_13 (S66_13 a0 a1 a2 a3 a4 a5 a6 a7 a8 a9 a10 a11 a12 a13 a14 a15 a16 a17 a18 a19 a20)
end
section
variable (run : RunT) (a0 a1 a2 a3 : UInt8) (a4 : Bool) (a5 a6 a7 a8 : UInt8) (a9 : Bool) (a10 : UInt8) (a11 : List UInt8) (a12 a13 : UInt8) (a14 : Bool) (a15 a16 a17 a18 : UInt8) (a19 : Bool) (a20 : UInt8) (a21 : List UInt8)
noncomputable def K66_20 : List Item := (kAt 20 body66 []).getD []
def S66_20 : St := St.ofL [(1, .cell (.val (.u8 a0))), (2, .cell (.ptr 2 0)), (4, .cell (.ptr 4 0)), (6, .cell (.val (.u8 a1)))] [(2, some [.val (.u8 a2), .val (.u8 a3), .val (.b a4), .val (.u8 a5), .val (.u8 a6), .val (.u8 a7), .val (.u8 a8), .val (.b a9), .val (.u8 a10), .val (.s a11)]), (4, some [.val (.u8 a12), .val (.u8 a13), .val (.b a14), .val (.u8 a15), .val (.u8 a16), .val (.u8 a17), .val (.u8 a18), .val (.b a19), .val (.u8 a20), .val (.s a21)])]
noncomputable def F66_20 : Option AV := run K66_20 (S66_20 a0 a1 a2 a3 a4 a5 a6 a7 a8 a9 a10 a11 a12 a13 a14 a15 a16 a17 a18 a19 a20 a21)
end
section
variable (run : RunT) (a0 a1 : UInt8) (a2 : Bool) (a3 a4 a5 a6 : UInt8) (a7 : Bool) (a8 : UInt8) (a9 : List UInt8) (a10 a11 : UInt8) (a12 : Bool) (a13 a14 a15 a16 : UInt8) (a17 : Bool) (a18 : UInt8) (a19 : List UInt8)
noncomputable def K66_31 : List Item := (kAt 31 body66 []).getD []
def S66_31 : St := St.ofL [(2, .cell (.ptr 2 0)), (4, .cell (.ptr 4 0))] [(2, some [.val (.u8 a0), .val (.u8 a1), .val (.b a2), .val (.u8 a3), .val (.u8 a4), .val (.u8 a5), .val (.u8 a6), .val (.b a7), .val (.u8 a8), .val (.s a9)]), (4, some [.val (.u8 a10), .val (.u8 a11), .val (.b a12), .val (.u8 a13), .val (.u8 a14), .val (.u8 a15), .val (.u8 a16), .val (.b a17), .val (.u8 a18), .val (.s a19)])]
noncomputable def F66_31 : Option AV := run K66_31 (S66_31 a0 a1 a2 a3 a4 a5 a6 a7 a8 a9 a10 a11 a12 a13 a14 a15 a16 a17 a18 a19)
end
noncomputable def X66 (call : CallT) (run : RunT) (a0 a1 : UInt8) (a2 : Bool) (a3 a4 a5 a6 : UInt8) (a7 : Bool) (a8 : UInt8) (a9 : List UInt8) (a10 : UInt8) : Option AV :=
  condM (.b (ueq a0 11))
  (F66_4 run a10 a0 a1 a2 a3 a4 a5 a6 a7 a8 a9 0 0 false 0 0 0 0 false 0 [])
  (condM (.b (ueq a0 12))
  (F66_4 run a10 a0 a1 a2 a3 a4 a5 a6 a7 a8 a9 0 0 false 0 0 0 0 false 0 [])
  (F66_11 run a10 a0 a0 a1 a2 a3 a4 a5 a6 a7 a8 a9 0 0 false 0 0 0 0 false 0 []))
section
variable (call : CallT) (run : RunT) (a0 a1 : UInt8) (a2 : Bool) (a3 a4 a5 a6 : UInt8) (a7 : Bool) (a8 : UInt8) (a9 : List UInt8) (a10 : UInt8)
theorem text66 : unr C call run 66 Tryd.f66 400 [.code body66] (initF C 66 Tryd.f66.ntmps [.ag [.u8 a0, .u8 a1, .b a2, .u8 a3, .u8 a4, .u8 a5, .u8 a6, .b a7, .u8 a8, .s a9], .u8 a10]) = X66 call run a0 a1 a2 a3 a4 a5 a6 a7 a8 a9 a10 := by
  kernel_rfl
theorem c66 {r : AV} (h : X66 (semCall C Tryd.prog) (semRun C Tryd.prog 66 Tryd.f66) a0 a1 a2 a3 a4 a5 a6 a7 a8 a9 a10 = some r) : semCall C Tryd.prog 66 [.ag [.u8 a0, .u8 a1, .b a2, .u8 a3, .u8 a4, .u8 a5, .u8 a6, .b a7, .u8 a8, .s a9], .u8 a10] = some r :=
  semCall_unr (fn := Tryd.f66) (c := body66) (by kernel_rfl) (by kernel_rfl) 400 (by kernel_rfl) ((text66 _ _ a0 a1 a2 a3 a4 a5 a6 a7 a8 a9 a10).trans h)
end
noncomputable def X66_4 (call : CallT) (run : RunT) (a0 a1 a2 : UInt8) (a3 : Bool) (a4 a5 a6 a7 : UInt8) (a8 : Bool) (a9 : UInt8) (a10 : List UInt8) (a11 a12 : UInt8) (a13 : Bool) (a14 a15 a16 a17 : UInt8) (a18 : Bool) (a19 : UInt8) (a20 : List UInt8) : Option AV :=
  condM (.b (ueq a0 62))
  (some (.ag [.u8 0, .u8 0, .b false, .u8 0, .u8 0, .u8 0, .u8 0, .b false, .u8 0, .s []]))
  ((selW (.b (ueq a0 45)) true (some (.b (ueq a1 11))) (.b false)).bind fun v1 => condM (v1)
  (some (.ag [.u8 12, .u8 0, .b false, .u8 0, .u8 0, .u8 0, .u8 0, .b false, .u8 0, .s []]))
  (condM (.b (ueq a0 45))
  (some (.ag [.u8 13, .u8 0, .b false, .u8 0, .u8 0, .u8 0, .u8 0, .b false, .u8 0, .s []]))
  (some (.ag [.u8 16, .u8 0, .b false, .u8 0, .u8 0, .u8 0, .u8 0, .b false, .u8 0, .s []]))))
section
variable (call : CallT) (run : RunT) (a0 a1 a2 : UInt8) (a3 : Bool) (a4 a5 a6 a7 : UInt8) (a8 : Bool) (a9 : UInt8) (a10 : List UInt8) (a11 a12 : UInt8) (a13 : Bool) (a14 a15 a16 a17 : UInt8) (a18 : Bool) (a19 : UInt8) (a20 : List UInt8)
theorem text66_4 : step C call 66 Tryd.f66 (unr C call run 66 Tryd.f66 400) K66_4 (S66_4 a0 a1 a2 a3 a4 a5 a6 a7 a8 a9 a10 a11 a12 a13 a14 a15 a16 a17 a18 a19 a20) = X66_4 call run a0 a1 a2 a3 a4 a5 a6 a7 a8 a9 a10 a11 a12 a13 a14 a15 a16 a17 a18 a19 a20 := by
  kernel_rfl
end
noncomputable def X66_11 (call : CallT) (run : RunT) (a0 a1 a2 a3 : UInt8) (a4 : Bool) (a5 a6 a7 a8 : UInt8) (a9 : Bool) (a10 : UInt8) (a11 : List UInt8) (a12 a13 : UInt8) (a14 : Bool) (a15 a16 a17 a18 : UInt8) (a19 : Bool) (a20 : UInt8) (a21 : List UInt8) : Option AV :=
  condM (.b (ueq a1 13))
  (F66_13 run a0 a2 a3 a4 a5 a6 a7 a8 a9 a10 a11 a12 a13 a14 a15 a16 a17 a18 a19 a20 a21)
  (condM (.b (ueq a1 14))
  (F66_13 run a0 a2 a3 a4 a5 a6 a7 a8 a9 a10 a11 a12 a13 a14 a15 a16 a17 a18 a19 a20 a21)
  (F66_20 run a0 a1 a2 a3 a4 a5 a6 a7 a8 a9 a10 a11 a12 a13 a14 a15 a16 a17 a18 a19 a20 a21))
section
variable (call : CallT) (run : RunT) (a0 a1 a2 a3 : UInt8) (a4 : Bool) (a5 a6 a7 a8 : UInt8) (a9 : Bool) (a10 : UInt8) (a11 : List UInt8) (a12 a13 : UInt8) (a14 : Bool) (a15 a16 a17 a18 : UInt8) (a19 : Bool) (a20 : UInt8) (a21 : List UInt8)
theorem text66_11 : step C call 66 Tryd.f66 (unr C call run 66 Tryd.f66 400) K66_11 (S66_11 a0 a1 a2 a3 a4 a5 a6 a7 a8 a9 a10 a11 a12 a13 a14 a15 a16 a17 a18 a19 a20 a21) = X66_11 call run a0 a1 a2 a3 a4 a5 a6 a7 a8 a9 a10 a11 a12 a13 a14 a15 a16 a17 a18 a19 a20 a21 := by
  kernel_rfl
end
noncomputable def X66_13 (call : CallT) (run : RunT) (a0 a1 a2 : UInt8) (a3 : Bool) (a4 a5 a6 a7 : UInt8) (a8 : Bool) (a9 : UInt8) (a10 : List UInt8) (a11 a12 : UInt8) (a13 : Bool) (a14 a15 a16 a17 : UInt8) (a18 : Bool) (a19 : UInt8) (a20 : List UInt8) : Option AV :=
  condM (.b (ueq a0 62))
  (some (.ag [.u8 20, .u8 0, .b false, .u8 0, .u8 0, .u8 0, .u8 0, .b false, .u8 0, .s []]))
  ((selW (.b (ueq a0 45)) true (some (.b (ueq a1 13))) (.b false)).bind fun v1 => condM (v1)
  (some (.ag [.u8 14, .u8 0, .b false, .u8 0, .u8 0, .u8 0, .u8 0, .b false, .u8 0, .s []]))
  (condM (.b (ueq a0 45))
  (some (.ag [.u8 15, .u8 0, .b false, .u8 0, .u8 0, .u8 0, .u8 0, .b false, .u8 2, .s []]))
  (some (.ag [.u8 15, .u8 0, .b false, .u8 0, .u8 0, .u8 0, .u8 0, .b false, .u8 0, .s []]))))
section
variable (call : CallT) (run : RunT) (a0 a1 a2 : UInt8) (a3 : Bool) (a4 a5 a6 a7 : UInt8) (a8 : Bool) (a9 : UInt8) (a10 : List UInt8) (a11 a12 : UInt8) (a13 : Bool) (a14 a15 a16 a17 : UInt8) (a18 : Bool) (a19 : UInt8) (a20 : List UInt8)
theorem text66_13 : step C call 66 Tryd.f66 (unr C call run 66 Tryd.f66 400) K66_13 (S66_13 a0 a1 a2 a3 a4 a5 a6 a7 a8 a9 a10 a11 a12 a13 a14 a15 a16 a17 a18 a19 a20) = X66_13 call run a0 a1 a2 a3 a4 a5 a6 a7 a8 a9 a10 a11 a12 a13 a14 a15 a16 a17 a18 a19 a20 := by
  kernel_rfl
end
noncomputable def X66_20 (call : CallT) (run : RunT) (a0 a1 a2 a3 : UInt8) (a4 : Bool) (a5 a6 a7 a8 : UInt8) (a9 : Bool) (a10 : UInt8) (a11 : List UInt8) (a12 a13 : UInt8) (a14 : Bool) (a15 a16 a17 a18 : UInt8) (a19 : Bool) (a20 : UInt8) (a21 : List UInt8) : Option AV :=
  condM (.b (ueq a1 15))
  ((selW (.b (ueq a0 62)) true (some (.b (ueq a10 2))) (.b false)).bind fun v1 => condM (v1)
  (some (.ag [.u8 0, .u8 0, .b false, .u8 0, .u8 0, .u8 0, .u8 0, .b false, .u8 0, .s []]))
  ((selW (.b (ueq a0 33)) true (some (.b (ueq a10 2))) (.b false)).bind fun v2 => condM (v2)
  (some (.ag [.u8 20, .u8 0, .b false, .u8 0, .u8 0, .u8 0, .u8 0, .b false, .u8 0, .s []]))
  (condM (.b (ueq a0 45))
  ((binI .add (.u8 a10) (.u8 1)).bind fun v3 => (mm true (v3) (.u8 2)).bind fun v4 => (AV.one (v4)).bind fun v5 => some (.ag [.u8 15, .u8 0, .b false, .u8 0, .u8 0, .u8 0, .u8 0, .b false, v5, .s []]))
  (some (.ag [.u8 15, .u8 0, .b false, .u8 0, .u8 0, .u8 0, .u8 0, .b false, .u8 0, .s []])))))
  (condM (.b (ueq a1 16))
  (condM (.b (ueq a0 62))
  (some (.ag [.u8 0, .u8 0, .b false, .u8 0, .u8 0, .u8 0, .u8 0, .b false, .u8 0, .s []]))
  (F66_31 run a2 a3 a4 a5 a6 a7 a8 a9 a10 a11 a12 a13 a14 a15 a16 a17 a18 a19 a20 a21))
  (F66_31 run a2 a3 a4 a5 a6 a7 a8 a9 a10 a11 a12 a13 a14 a15 a16 a17 a18 a19 a20 a21))
section
variable (call : CallT) (run : RunT) (a0 a1 a2 a3 : UInt8) (a4 : Bool) (a5 a6 a7 a8 : UInt8) (a9 : Bool) (a10 : UInt8) (a11 : List UInt8) (a12 a13 : UInt8) (a14 : Bool) (a15 a16 a17 a18 : UInt8) (a19 : Bool) (a20 : UInt8) (a21 : List UInt8)
theorem text66_20 : step C call 66 Tryd.f66 (unr C call run 66 Tryd.f66 400) K66_20 (S66_20 a0 a1 a2 a3 a4 a5 a6 a7 a8 a9 a10 a11 a12 a13 a14 a15 a16 a17 a18 a19 a20 a21) = X66_20 call run a0 a1 a2 a3 a4 a5 a6 a7 a8 a9 a10 a11 a12 a13 a14 a15 a16 a17 a18 a19 a20 a21 := by
  kernel_rfl
end
noncomputable def X66_31 (call : CallT) (run : RunT) (a0 a1 : UInt8) (a2 : Bool) (a3 a4 a5 a6 : UInt8) (a7 : Bool) (a8 : UInt8) (a9 : List UInt8) (a10 a11 : UInt8) (a12 : Bool) (a13 a14 a15 a16 : UInt8) (a17 : Bool) (a18 : UInt8) (a19 : List UInt8) : Option AV :=
  some (.ag [.u8 a0, .u8 a1, .b a2, .u8 a3, .u8 a4, .u8 a5, .u8 a6, .b a7, .u8 a8, .s a9])
section
variable (call : CallT) (run : RunT) (a0 a1 : UInt8) (a2 : Bool) (a3 a4 a5 a6 : UInt8) (a7 : Bool) (a8 : UInt8) (a9 : List UInt8) (a10 a11 : UInt8) (a12 : Bool) (a13 a14 a15 a16 : UInt8) (a17 : Bool) (a18 : UInt8) (a19 : List UInt8)
theorem text66_31 : step C call 66 Tryd.f66 (unr C call run 66 Tryd.f66 400) K66_31 (S66_31 a0 a1 a2 a3 a4 a5 a6 a7 a8 a9 a10 a11 a12 a13 a14 a15 a16 a17 a18 a19) = X66_31 call run a0 a1 a2 a3 a4 a5 a6 a7 a8 a9 a10 a11 a12 a13 a14 a15 a16 a17 a18 a19 := by
  kernel_rfl
end
section
variable (a0 a1 a2 : UInt8) (a3 : Bool) (a4 a5 a6 a7 : UInt8) (a8 : Bool) (a9 : UInt8) (a10 : List UInt8) (a11 a12 : UInt8) (a13 : Bool) (a14 a15 a16 a17 : UInt8) (a18 : Bool) (a19 : UInt8) (a20 : List UInt8)
theorem r66_4 {r : AV} (h : X66_4 (semCall C Tryd.prog) (semRun C Tryd.prog 66 Tryd.f66) a0 a1 a2 a3 a4 a5 a6 a7 a8 a9 a10 a11 a12 a13 a14 a15 a16 a17 a18 a19 a20 = some r) : F66_4 (semRun C Tryd.prog 66 Tryd.f66) a0 a1 a2 a3 a4 a5 a6 a7 a8 a9 a10 a11 a12 a13 a14 a15 a16 a17 a18 a19 a20 = some r :=
  semRun_unr 400 ((text66_4 _ _ a0 a1 a2 a3 a4 a5 a6 a7 a8 a9 a10 a11 a12 a13 a14 a15 a16 a17 a18 a19 a20).trans h)
end
section
variable (a0 a1 a2 a3 : UInt8) (a4 : Bool) (a5 a6 a7 a8 : UInt8) (a9 : Bool) (a10 : UInt8) (a11 : List UInt8) (a12 a13 : UInt8) (a14 : Bool) (a15 a16 a17 a18 : UInt8) (a19 : Bool) (a20 : UInt8) (a21 : List UInt8)
theorem r66_11 {r : AV} (h : X66_11 (semCall C Tryd.prog) (semRun C Tryd.prog 66 Tryd.f66) a0 a1 a2 a3 a4 a5 a6 a7 a8 a9 a10 a11 a12 a13 a14 a15 a16 a17 a18 a19 a20 a21 = some r) : F66_11 (semRun C Tryd.prog 66 Tryd.f66) a0 a1 a2 a3 a4 a5 a6 a7 a8 a9 a10 a11 a12 a13 a14 a15 a16 a17 a18 a19 a20 a21 = some r :=
  semRun_unr 400 ((text66_11 _ _ a0 a1 a2 a3 a4 a5 a6 a7 a8 a9 a10 a11 a12 a13 a14 a15 a16 a17 a18 a19 a20 a21).trans h)
end
section
variable (a0 a1 a2 : UInt8) (a3 : Bool) (a4 a5 a6 a7 : UInt8) (a8 : Bool) (a9 : UInt8) (a10 : List UInt8) (a11 a12 : UInt8) (a13 : Bool) (a14 a15 a16 a17 : UInt8) (a18 : Bool) (a19 : UInt8) (a20 : List UInt8)
theorem r66_13 {r : AV} (h : X66_13 (semCall C Tryd.prog) (semRun C Tryd.prog 66 Tryd.f66) a0 a1 a2 a3 a4 a5 a6 a7 a8 a9 a10 a11 a12 a13 a14 a15 a16 a17 a18 a19 a20 = some r) : F66_13 (semRun C Tryd.prog 66 Tryd.f66) a0 a1 a2 a3 a4 a5 a6 a7 a8 a9 a10 a11 a12 a13 a14 a15 a16 a17 a18 a19 a20 = some r :=
  semRun_unr 400 ((text66_13 _ _ a0 a1 a2 a3 a4 a5 a6 a7 a8 a9 a10 a11 a12 a13 a14 a15 a16 a17 a18 a19 a20).trans h)
end
section
variable (a0 a1 a2 a3 : UInt8) (a4 : Bool) (a5 a6 a7 a8 : UInt8) (a9 : Bool) (a10 : UInt8) (a11 : List UInt8) (a12 a13 : UInt8) (a14 : Bool) (a15 a16 a17 a18 : UInt8) (a19 : Bool) (a20 : UInt8) (a21 : List UInt8)
theorem r66_20 {r : AV} (h : X66_20 (semCall C Tryd.prog) (semRun C Tryd.prog 66 Tryd.f66) a0 a1 a2 a3 a4 a5 a6 a7 a8 a9 a10 a11 a12 a13 a14 a15 a16 a17 a18 a19 a20 a21 = some r) : F66_20 (semRun C Tryd.prog 66 Tryd.f66) a0 a1 a2 a3 a4 a5 a6 a7 a8 a9 a10 a11 a12 a13 a14 a15 a16 a17 a18 a19 a20 a21 = some r :=
  semRun_unr 400 ((text66_20 _ _ a0 a1 a2 a3 a4 a5 a6 a7 a8 a9 a10 a11 a12 a13 a14 a15 a16 a17 a18 a19 a20 a21).trans h)
end
section
variable (a0 a1 : UInt8) (a2 : Bool) (a3 a4 a5 a6 : UInt8) (a7 : Bool) (a8 : UInt8) (a9 : List UInt8) (a10 a11 : UInt8) (a12 : Bool) (a13 a14 a15 a16 : UInt8) (a17 : Bool) (a18 : UInt8) (a19 : List UInt8)
theorem r66_31 {r : AV} (h : X66_31 (semCall C Tryd.prog) (semRun C Tryd.prog 66 Tryd.f66) a0 a1 a2 a3 a4 a5 a6 a7 a8 a9 a10 a11 a12 a13 a14 a15 a16 a17 a18 a19 = some r) : F66_31 (semRun C Tryd.prog 66 Tryd.f66) a0 a1 a2 a3 a4 a5 a6 a7 a8 a9 a10 a11 a12 a13 a14 a15 a16 a17 a18 a19 = some r :=
  semRun_unr 400 ((text66_31 _ _ a0 a1 a2 a3 a4 a5 a6 a7 a8 a9 a10 a11 a12 a13 a14 a15 a16 a17 a18 a19).trans h)
end
end R2

namespace R2
open Go Go.Proofs Sx
noncomputable def body81 : Code := (Tryd.f81.body).getD .skip
noncomputable def X81 (call : CallT) (run : RunT) (a0 : UInt8) : Option AV :=
  (selW (.b (uge a0 97)) true (some (.b (ule a0 122))) (.b false)).bind fun v1 => (selW (v1) false ((selW (.b (uge a0 65)) true (some (.b (ule a0 90))) (.b false)).bind fun v2 => some (v2)) (.b true)).bind fun v3 => some (v3)
section
variable (call : CallT) (run : RunT) (a0 : UInt8)
theorem text81 : unr C call run 81 Tryd.f81 400 [.code body81] (initF C 81 Tryd.f81.ntmps [.u8 a0]) = X81 call run a0 := by
  kernel_rfl
theorem c81 {r : AV} (h : X81 (semCall C Tryd.prog) (semRun C Tryd.prog 81 Tryd.f81) a0 = some r) : semCall C Tryd.prog 81 [.u8 a0] = some r :=
  semCall_unr (fn := Tryd.f81) (c := body81) (by kernel_rfl) (by kernel_rfl) 400 (by kernel_rfl) ((text81 _ _ a0).trans h)
end
end R2

namespace R2
open Go Go.Proofs Sx
noncomputable def body82 : Code := (Tryd.f82.body).getD .skip
noncomputable def X82 (call : CallT) (run : RunT) (a0 : UInt8) : Option AV :=
  (selW (.b (uge a0 65)) true (some (.b (ule a0 90))) (.b false)).bind fun v1 => condM (v1)
  ((binI .add (.u8 a0) (.u8 97)).bind fun v2 => (binI .sub (v2) (.u8 65)).bind fun v3 => some (v3))
  (some (.u8 a0))
section
variable (call : CallT) (run : RunT) (a0 : UInt8)
theorem text82 : unr C call run 82 Tryd.f82 400 [.code body82] (initF C 82 Tryd.f82.ntmps [.u8 a0]) = X82 call run a0 := by
  kernel_rfl
theorem c82 {r : AV} (h : X82 (semCall C Tryd.prog) (semRun C Tryd.prog 82 Tryd.f82) a0 = some r) : semCall C Tryd.prog 82 [.u8 a0] = some r :=
  semCall_unr (fn := Tryd.f82) (c := body82) (by kernel_rfl) (by kernel_rfl) 400 (by kernel_rfl) ((text82 _ _ a0).trans h)
end
end R2

namespace R2
open Go Go.Proofs Sx
noncomputable def body83 : Code := (Tryd.f83.body).getD .skip
noncomputable def X83 (call : CallT) (run : RunT) (a0 : UInt8) : Option AV :=
  (selW (.b (ueq a0 32)) false (some (.b (ueq a0 9))) (.b true)).bind fun v1 => (selW (v1) false (some (.b (ueq a0 10))) (.b true)).bind fun v2 => (selW (v2) false (some (.b (ueq a0 12))) (.b true)).bind fun v3 => (selW (v3) false (some (.b (ueq a0 13))) (.b true)).bind fun v4 => some (v4)
section
variable (call : CallT) (run : RunT) (a0 : UInt8)
theorem text83 : unr C call run 83 Tryd.f83 400 [.code body83] (initF C 83 Tryd.f83.ntmps [.u8 a0]) = X83 call run a0 := by
  kernel_rfl
theorem c83 {r : AV} (h : X83 (semCall C Tryd.prog) (semRun C Tryd.prog 83 Tryd.f83) a0 = some r) : semCall C Tryd.prog 83 [.u8 a0] = some r :=
  semCall_unr (fn := Tryd.f83) (c := body83) (by kernel_rfl) (by kernel_rfl) 400 (by kernel_rfl) ((text83 _ _ a0).trans h)
end
end R2

namespace R2
open Go Go.Proofs Sx
noncomputable def body84 : Code := (Tryd.f84.body).getD .skip
noncomputable def X84 (call : CallT) (run : RunT) (a0 a1 : UInt8) (a2 : Bool) (a3 a4 a5 a6 : UInt8) (a7 : Bool) (a8 : UInt8) (a9 : List UInt8) (a10 : UInt8) : Option AV :=
  condM (.b (decide (((a9.length : Int)) ≥ 32)))
  (some (.ag [.u8 20, .u8 0, .b false, .u8 0, .u8 0, .u8 0, .u8 0, .b false, .u8 0, .s []]))
  ((call 82 [.u8 a10]).bind fun v1 => (AV.one (v1)).bind fun v2 => (b2s (.ro 1 (([v2] : List AV)))).bind fun v3 => (binS .add (.s a9) (v3)).bind fun v4 => (AV.one (v4)).bind fun v5 => some (.ag [.u8 a0, .u8 a1, .b a2, .u8 a3, .u8 a4, .u8 a5, .u8 a6, .b a7, .u8 a8, v5]))
section
variable (call : CallT) (run : RunT) (a0 a1 : UInt8) (a2 : Bool) (a3 a4 a5 a6 : UInt8) (a7 : Bool) (a8 : UInt8) (a9 : List UInt8) (a10 : UInt8)
theorem text84 : unr C call run 84 Tryd.f84 400 [.code body84] (initF C 84 Tryd.f84.ntmps [.ag [.u8 a0, .u8 a1, .b a2, .u8 a3, .u8 a4, .u8 a5, .u8 a6, .b a7, .u8 a8, .s a9], .u8 a10]) = X84 call run a0 a1 a2 a3 a4 a5 a6 a7 a8 a9 a10 := by
  kernel_rfl
theorem c84 {r : AV} (h : X84 (semCall C Tryd.prog) (semRun C Tryd.prog 84 Tryd.f84) a0 a1 a2 a3 a4 a5 a6 a7 a8 a9 a10 = some r) : semCall C Tryd.prog 84 [.ag [.u8 a0, .u8 a1, .b a2, .u8 a3, .u8 a4, .u8 a5, .u8 a6, .b a7, .u8 a8, .s a9], .u8 a10] = some r :=
  semCall_unr (fn := Tryd.f84) (c := body84) (by kernel_rfl) (by kernel_rfl) 400 (by kernel_rfl) ((text84 _ _ a0 a1 a2 a3 a4 a5 a6 a7 a8 a9 a10).trans h)
end
end R2

namespace R2
open Go Go.Proofs Sx
noncomputable def body85 : Code := (Tryd.f85.body).getD .skip
noncomputable def X85 (call : CallT) (run : RunT) (a0 a1 : UInt8) (a2 : Bool) (a3 a4 a5 a6 : UInt8) (a7 : Bool) (a8 : UInt8) (a9 : List UInt8) (a10 : UInt8) : Option AV :=
  some (.ag [.u8 a10, .u8 a1, .b a2, .u8 0, .u8 0, .u8 0, .u8 0, .b false, .u8 0, .s []])
section
variable (call : CallT) (run : RunT) (a0 a1 : UInt8) (a2 : Bool) (a3 a4 a5 a6 : UInt8) (a7 : Bool) (a8 : UInt8) (a9 : List UInt8) (a10 : UInt8)
theorem text85 : unr C call run 85 Tryd.f85 400 [.code body85] (initF C 85 Tryd.f85.ntmps [.ag [.u8 a0, .u8 a1, .b a2, .u8 a3, .u8 a4, .u8 a5, .u8 a6, .b a7, .u8 a8, .s a9], .u8 a10]) = X85 call run a0 a1 a2 a3 a4 a5 a6 a7 a8 a9 a10 := by
  kernel_rfl
theorem c85 {r : AV} (h : X85 (semCall C Tryd.prog) (semRun C Tryd.prog 85 Tryd.f85) a0 a1 a2 a3 a4 a5 a6 a7 a8 a9 a10 = some r) : semCall C Tryd.prog 85 [.ag [.u8 a0, .u8 a1, .b a2, .u8 a3, .u8 a4, .u8 a5, .u8 a6, .b a7, .u8 a8, .s a9], .u8 a10] = some r :=
  semCall_unr (fn := Tryd.f85) (c := body85) (by kernel_rfl) (by kernel_rfl) 400 (by kernel_rfl) ((text85 _ _ a0 a1 a2 a3 a4 a5 a6 a7 a8 a9 a10).trans h)
end
end R2

namespace R2
open Go Go.Proofs Sx
noncomputable def body86 : Code := (Tryd.f86.body).getD .skip
noncomputable def X86 (call : CallT) (run : RunT) (a0 : UInt8) : Option AV :=
  condM (.b (une a0 0))
  (some (.ag [.u8 17, .u8 a0, .b false, .u8 0, .u8 0, .u8 0, .u8 0, .b false, .u8 0, .s []]))
  (some (.ag [.u8 0, .u8 0, .b false, .u8 0, .u8 0, .u8 0, .u8 0, .b false, .u8 0, .s []]))
section
variable (call : CallT) (run : RunT) (a0 : UInt8)
theorem text86 : unr C call run 86 Tryd.f86 400 [.code body86] (initF C 86 Tryd.f86.ntmps [.u8 a0]) = X86 call run a0 := by
  kernel_rfl
theorem c86 {r : AV} (h : X86 (semCall C Tryd.prog) (semRun C Tryd.prog 86 Tryd.f86) a0 = some r) : semCall C Tryd.prog 86 [.u8 a0] = some r :=
  semCall_unr (fn := Tryd.f86) (c := body86) (by kernel_rfl) (by kernel_rfl) 400 (by kernel_rfl) ((text86 _ _ a0).trans h)
end
end R2

namespace R2
open Go Go.Proofs Sx
noncomputable def body87 : Code := (Tryd.f87.body).getD .skip
noncomputable def X87 (call : CallT) (run : RunT) (a0 a1 : UInt8) (a2 : Bool) (a3 a4 a5 a6 : UInt8) (a7 : Bool) (a8 : UInt8) (a9 : List UInt8) (a10 : UInt8) : Option AV :=
  (call 83 [.u8 a10]).bind fun v1 => condM (v1)
  (some (.tu [.ag [.u8 a0, .u8 a1, .b a2, .u8 a3, .u8 a4, .u8 a5, .u8 a6, .b a7, .u8 a8, .s a9], .b false]))
  (condM (.b (ueq a10 62))
  (some (.tu [.ag [.u8 20, .u8 0, .b false, .u8 0, .u8 0, .u8 0, .u8 0, .b false, .u8 0, .s []], .b false]))
  ((selW (.b (ueq a10 34)) false (some (.b (ueq a10 39))) (.b true)).bind fun v2 => condM (v2)
  (some (.tu [.ag [.u8 8, .u8 a1, .b a2, .u8 a3, .u8 a10, .u8 a5, .u8 a6, .b a7, .u8 a8, .s a9], .b false]))
  (some (.tu [.ag [.u8 8, .u8 a1, .b a2, .u8 a3, .u8 a4, .u8 a5, .u8 a6, .b a7, .u8 a8, .s a9], .b true]))))
section
variable (call : CallT) (run : RunT) (a0 a1 : UInt8) (a2 : Bool) (a3 a4 a5 a6 : UInt8) (a7 : Bool) (a8 : UInt8) (a9 : List UInt8) (a10 : UInt8)
theorem text87 : unr C call run 87 Tryd.f87 400 [.code body87] (initF C 87 Tryd.f87.ntmps [.ag [.u8 a0, .u8 a1, .b a2, .u8 a3, .u8 a4, .u8 a5, .u8 a6, .b a7, .u8 a8, .s a9], .u8 a10]) = X87 call run a0 a1 a2 a3 a4 a5 a6 a7 a8 a9 a10 := by
  kernel_rfl
theorem c87 {r : AV} (h : X87 (semCall C Tryd.prog) (semRun C Tryd.prog 87 Tryd.f87) a0 a1 a2 a3 a4 a5 a6 a7 a8 a9 a10 = some r) : semCall C Tryd.prog 87 [.ag [.u8 a0, .u8 a1, .b a2, .u8 a3, .u8 a4, .u8 a5, .u8 a6, .b a7, .u8 a8, .s a9], .u8 a10] = some r :=
  semCall_unr (fn := Tryd.f87) (c := body87) (by kernel_rfl) (by kernel_rfl) 400 (by kernel_rfl) ((text87 _ _ a0 a1 a2 a3 a4 a5 a6 a7 a8 a9 a10).trans h)
end
end R2

namespace R2
open Go Go.Proofs Sx
noncomputable def body88 : Code := (Tryd.f88.body).getD .skip
noncomputable def X88 (call : CallT) (run : RunT) (a0 a1 : UInt8) (a2 : Bool) (a3 a4 a5 a6 : UInt8) (a7 : Bool) (a8 : UInt8) (a9 : List UInt8) (a10 : UInt8) : Option AV :=
  (selW (.b (ueq a10 61)) true (some (.b (a9 != []))) (.b false)).bind fun v1 => condM (v1)
  ((call 85 [.ag [.u8 a0, .u8 a1, .b a2, .u8 a3, .u8 a4, .u8 a5, .u8 a6, .b a7, .u8 a8, .s a9], .u8 7]).bind fun v2 => (AV.asAg 10 (v2)).bind fun v3 => (call 105 [.s a9]).bind fun v4 => (AV.one (v4)).bind fun v5 => some (.tu [.ag [v3.getD 0 .un, v3.getD 1 .un, v3.getD 2 .un, v5, v3.getD 4 .un, v3.getD 5 .un, v3.getD 6 .un, v3.getD 7 .un, v3.getD 8 .un, v3.getD 9 .un], .b false]))
  ((selW (.b (ueq a10 47)) false (some (.b (ueq a10 62))) (.b true)).bind fun v6 => condM (v6)
  ((call 85 [.ag [.u8 a0, .u8 a1, .b a2, .u8 a3, .u8 a4, .u8 a5, .u8 a6, .b a7, .u8 a8, .s a9], .u8 9]).bind fun v7 => (AV.asAg 10 (v7)).bind fun v8 => some (.tu [.ag [v8.getD 0 .un, v8.getD 1 .un, v8.getD 2 .un, v8.getD 3 .un, v8.getD 4 .un, v8.getD 5 .un, v8.getD 6 .un, v8.getD 7 .un, v8.getD 8 .un, v8.getD 9 .un], .b true]))
  ((call 83 [.u8 a10]).bind fun v9 => condM (v9)
  (some (.tu [.ag [.u8 6, .u8 a1, .b a2, .u8 a3, .u8 a4, .u8 a5, .u8 a6, .b a7, .u8 a8, .s a9], .b false]))
  (condM (.b (ueq a0 6))
  ((call 85 [.ag [.u8 a0, .u8 a1, .b a2, .u8 a3, .u8 a4, .u8 a5, .u8 a6, .b a7, .u8 a8, .s a9], .u8 4]).bind fun v10 => (AV.asAg 10 (v10)).bind fun v11 => some (.tu [.ag [v11.getD 0 .un, v11.getD 1 .un, v11.getD 2 .un, v11.getD 3 .un, v11.getD 4 .un, v11.getD 5 .un, v11.getD 6 .un, v11.getD 7 .un, v11.getD 8 .un, v11.getD 9 .un], .b true]))
  ((selW (.b (ueq a10 34)) false (some (.b (ueq a10 39))) (.b true)).bind fun v12 => (selW (v12) false (some (.b (ueq a10 60))) (.b true)).bind fun v13 => condM (v13)
  (some (.tu [.ag [.u8 20, .u8 0, .b false, .u8 0, .u8 0, .u8 0, .u8 0, .b false, .u8 0, .s []], .b false]))
  ((call 84 [.ag [.u8 a0, .u8 a1, .b a2, .u8 a3, .u8 a4, .u8 a5, .u8 a6, .b a7, .u8 a8, .s a9], .u8 a10]).bind fun v14 => (AV.asAg 10 (v14)).bind fun v15 => some (.tu [.ag [v15.getD 0 .un, v15.getD 1 .un, v15.getD 2 .un, v15.getD 3 .un, v15.getD 4 .un, v15.getD 5 .un, v15.getD 6 .un, v15.getD 7 .un, v15.getD 8 .un, v15.getD 9 .un], .b false]))))))
section
variable (call : CallT) (run : RunT) (a0 a1 : UInt8) (a2 : Bool) (a3 a4 a5 a6 : UInt8) (a7 : Bool) (a8 : UInt8) (a9 : List UInt8) (a10 : UInt8)
theorem text88 : unr C call run 88 Tryd.f88 400 [.code body88] (initF C 88 Tryd.f88.ntmps [.ag [.u8 a0, .u8 a1, .b a2, .u8 a3, .u8 a4, .u8 a5, .u8 a6, .b a7, .u8 a8, .s a9], .u8 a10]) = X88 call run a0 a1 a2 a3 a4 a5 a6 a7 a8 a9 a10 := by
  kernel_rfl
theorem c88 {r : AV} (h : X88 (semCall C Tryd.prog) (semRun C Tryd.prog 88 Tryd.f88) a0 a1 a2 a3 a4 a5 a6 a7 a8 a9 a10 = some r) : semCall C Tryd.prog 88 [.ag [.u8 a0, .u8 a1, .b a2, .u8 a3, .u8 a4, .u8 a5, .u8 a6, .b a7, .u8 a8, .s a9], .u8 a10] = some r :=
  semCall_unr (fn := Tryd.f88) (c := body88) (by kernel_rfl) (by kernel_rfl) 400 (by kernel_rfl) ((text88 _ _ a0 a1 a2 a3 a4 a5 a6 a7 a8 a9 a10).trans h)
end
end R2

namespace R2
open Go Go.Proofs Sx
noncomputable def body89 : Code := (Tryd.f89.body).getD .skip
noncomputable def X89 (call : CallT) (run : RunT) (a0 a1 : UInt8) (a2 : Bool) (a3 a4 a5 a6 : UInt8) (a7 : Bool) (a8 : UInt8) (a9 : List UInt8) : Option AV :=
  (selW (.b (ueq a6 0)) false (some (.b (ueq a6 4))) (.b true)).bind fun v1 => some (v1)
section
variable (call : CallT) (run : RunT) (a0 a1 : UInt8) (a2 : Bool) (a3 a4 a5 a6 : UInt8) (a7 : Bool) (a8 : UInt8) (a9 : List UInt8)
theorem text89 : unr C call run 89 Tryd.f89 400 [.code body89] (initF C 89 Tryd.f89.ntmps [.ag [.u8 a0, .u8 a1, .b a2, .u8 a3, .u8 a4, .u8 a5, .u8 a6, .b a7, .u8 a8, .s a9]]) = X89 call run a0 a1 a2 a3 a4 a5 a6 a7 a8 a9 := by
  kernel_rfl
theorem c89 {r : AV} (h : X89 (semCall C Tryd.prog) (semRun C Tryd.prog 89 Tryd.f89) a0 a1 a2 a3 a4 a5 a6 a7 a8 a9 = some r) : semCall C Tryd.prog 89 [.ag [.u8 a0, .u8 a1, .b a2, .u8 a3, .u8 a4, .u8 a5, .u8 a6, .b a7, .u8 a8, .s a9]] = some r :=
  semCall_unr (fn := Tryd.f89) (c := body89) (by kernel_rfl) (by kernel_rfl) 400 (by kernel_rfl) ((text89 _ _ a0 a1 a2 a3 a4 a5 a6 a7 a8 a9).trans h)
end
end R2

namespace R2
open Go Go.Proofs Sx
noncomputable def body90 : Code := (Tryd.f90.body).getD .skip
noncomputable def X90 (call : CallT) (run : RunT) (a0 : List UInt8) (a1 : UInt8) : Option AV :=
  (call 106 [.s a0, .u8 a1]).bind fun v1 => some (v1)
section
variable (call : CallT) (run : RunT) (a0 : List UInt8) (a1 : UInt8)
theorem text90 : unr C call run 90 Tryd.f90 400 [.code body90] (initF C 90 Tryd.f90.ntmps [.s a0, .u8 a1]) = X90 call run a0 a1 := by
  kernel_rfl
theorem c90 {r : AV} (h : X90 (semCall C Tryd.prog) (semRun C Tryd.prog 90 Tryd.f90) a0 a1 = some r) : semCall C Tryd.prog 90 [.s a0, .u8 a1] = some r :=
  semCall_unr (fn := Tryd.f90) (c := body90) (by kernel_rfl) (by kernel_rfl) 400 (by kernel_rfl) ((text90 _ _ a0 a1).trans h)
end
end R2

namespace R2
open Go Go.Proofs Sx
noncomputable def body91 : Code := (Tryd.f91.body).getD .skip
section
variable (run : RunT) (a0 a1 : UInt8) (a2 : Bool) (a3 a4 a5 a6 : UInt8) (a7 : Bool) (a8 : UInt8) (a9 : AV) (a10 a11 : UInt8) (a12 : Bool) (a13 a14 a15 a16 : UInt8) (a17 : Bool) (a18 : UInt8) (a19 : List UInt8)
noncomputable def K91_24 : List Item := (kAt 24 body91 []).getD []
def S91_24 : St := St.ofL [(2, .cell (.ptr 2 0)), (4, .cell (.ptr 4 0))] [(2, some [.val (.u8 a0), .val (.u8 a1), .val (.b a2), .val (.u8 a3), .val (.u8 a4), .val (.u8 a5), .val (.u8 a6), .val (.b a7), .val (.u8 a8), .val (a9)]), (4, some [.val (.u8 a10), .val (.u8 a11), .val (.b a12), .val (.u8 a13), .val (.u8 a14), .val (.u8 a15), .val (.u8 a16), .val (.b a17), .val (.u8 a18), .val (.s a19)])]
noncomputable def F91_24 : Option AV := run K91_24 (S91_24 a0 a1 a2 a3 a4 a5 a6 a7 a8 a9 a10 a11 a12 a13 a14 a15 a16 a17 a18 a19)
end
noncomputable def X91 (call : CallT) (run : RunT) (a0 a1 : UInt8) (a2 : Bool) (a3 a4 a5 a6 : UInt8) (a7 : Bool) (a8 : UInt8) (a9 : List UInt8) (a10 : UInt8) : Option AV :=
  (selW (.b (ueq a5 4)) false (some (.b (ueq a5 5))) (.b true)).bind fun v1 => condM (v1)
  (some (.ag [.u8 a0, .u8 a1, .b a2, .u8 a3, .u8 a4, .u8 a5, .u8 a6, .b a7, .u8 a8, .s []]))
  (condM (.b (ueq a10 38))
  (some (.ag [.u8 20, .u8 0, .b false, .u8 0, .u8 0, .u8 0, .u8 0, .b false, .u8 0, .s []]))
  ((selW (.b (ueq a10 63)) false (some (.b (ueq a10 35))) (.b true)).bind fun v2 => condM (v2)
  (F91_24 run a0 a1 a2 a3 a4 4 a6 a7 a8 (.s []) 0 0 false 0 0 0 0 false 0 [])
  (condM (.b (ueq a5 3))
  (some (.ag [.u8 a0, .u8 a1, .b a2, .u8 a3, .u8 a4, .u8 a5, .u8 a6, .b a7, .u8 a8, .s []]))
  (condM (.b (ueq a10 47))
  (F91_24 run a0 a1 a2 a3 a4 3 a6 a7 a8 (.s []) 0 0 false 0 0 0 0 false 0 [])
  ((selW (.b (ueq a10 58)) true (some (.b (ueq a5 2))) (.b false)).bind fun v3 => condM (v3)
  (some (.ag [.u8 20, .u8 0, .b false, .u8 0, .u8 0, .u8 0, .u8 0, .b false, .u8 0, .s []]))
  (condM (.b (ueq a10 58))
  ((selW (.b (a9 == [104, 116, 116, 112])) false (some (.b (a9 == [104, 116, 116, 112, 115]))) (.b true)).bind fun v4 => (selW (v4) false (some (.b (a9 == [109, 97, 105, 108, 116, 111]))) (.b true)).bind fun v5 => condM (v5)
  (F91_24 run a0 a1 a2 a3 a4 3 a6 a7 a8 (.s []) 0 0 false 0 0 0 0 false 0 [])
  (F91_24 run a0 a1 a2 a3 a4 5 a6 a7 a8 (.s []) 0 0 false 0 0 0 0 false 0 []))
  (condM (.b (ueq a5 2))
  (some (.ag [.u8 a0, .u8 a1, .b a2, .u8 a3, .u8 a4, .u8 a5, .u8 a6, .b a7, .u8 a8, .s []]))
  (condM (.b (decide (((a9.length : Int)) ≥ 16)))
  (F91_24 run a0 a1 a2 a3 a4 1 a6 a7 a8 (.s a9) 0 0 false 0 0 0 0 false 0 [])
  ((call 82 [.u8 a10]).bind fun v6 => same ((AV.one (v6)).bind fun v7 => (b2s (.ro 1 (([v7] : List AV)))).bind fun v8 => (binS .add (.s a9) (v8)).bind fun v9 => (AV.one (v9)).bind fun v10 => F91_24 run a0 a1 a2 a3 a4 1 a6 a7 a8 (v10) 0 0 false 0 0 0 0 false 0 []))))))))))
section
variable (call : CallT) (run : RunT) (a0 a1 : UInt8) (a2 : Bool) (a3 a4 a5 a6 : UInt8) (a7 : Bool) (a8 : UInt8) (a9 : List UInt8) (a10 : UInt8)
theorem text91 : unr C call run 91 Tryd.f91 400 [.code body91] (initF C 91 Tryd.f91.ntmps [.ag [.u8 a0, .u8 a1, .b a2, .u8 a3, .u8 a4, .u8 a5, .u8 a6, .b a7, .u8 a8, .s a9], .u8 a10]) = X91 call run a0 a1 a2 a3 a4 a5 a6 a7 a8 a9 a10 := by
  kernel_rfl
theorem c91 {r : AV} (h : X91 (semCall C Tryd.prog) (semRun C Tryd.prog 91 Tryd.f91) a0 a1 a2 a3 a4 a5 a6 a7 a8 a9 a10 = some r) : semCall C Tryd.prog 91 [.ag [.u8 a0, .u8 a1, .b a2, .u8 a3, .u8 a4, .u8 a5, .u8 a6, .b a7, .u8 a8, .s a9], .u8 a10] = some r :=
  semCall_unr (fn := Tryd.f91) (c := body91) (by kernel_rfl) (by kernel_rfl) 400 (by kernel_rfl) ((text91 _ _ a0 a1 a2 a3 a4 a5 a6 a7 a8 a9 a10).trans h)
end
noncomputable def X91_24 (call : CallT) (run : RunT) (a0 a1 : UInt8) (a2 : Bool) (a3 a4 a5 a6 : UInt8) (a7 : Bool) (a8 : UInt8) (a9 : AV) (a10 a11 : UInt8) (a12 : Bool) (a13 a14 a15 a16 : UInt8) (a17 : Bool) (a18 : UInt8) (a19 : List UInt8) : Option AV :=
  some (.ag [.u8 a0, .u8 a1, .b a2, .u8 a3, .u8 a4, .u8 a5, .u8 a6, .b a7, .u8 a8, a9])
section
variable (call : CallT) (run : RunT) (a0 a1 : UInt8) (a2 : Bool) (a3 a4 a5 a6 : UInt8) (a7 : Bool) (a8 : UInt8) (a9 : AV) (a10 a11 : UInt8) (a12 : Bool) (a13 a14 a15 a16 : UInt8) (a17 : Bool) (a18 : UInt8) (a19 : List UInt8)
theorem text91_24 : step C call 91 Tryd.f91 (unr C call run 91 Tryd.f91 400) K91_24 (S91_24 a0 a1 a2 a3 a4 a5 a6 a7 a8 a9 a10 a11 a12 a13 a14 a15 a16 a17 a18 a19) = X91_24 call run a0 a1 a2 a3 a4 a5 a6 a7 a8 a9 a10 a11 a12 a13 a14 a15 a16 a17 a18 a19 := by
  kernel_rfl
end
section
variable (a0 a1 : UInt8) (a2 : Bool) (a3 a4 a5 a6 : UInt8) (a7 : Bool) (a8 : UInt8) (a9 : AV) (a10 a11 : UInt8) (a12 : Bool) (a13 a14 a15 a16 : UInt8) (a17 : Bool) (a18 : UInt8) (a19 : List UInt8)
theorem r91_24 {r : AV} (h : X91_24 (semCall C Tryd.prog) (semRun C Tryd.prog 91 Tryd.f91) a0 a1 a2 a3 a4 a5 a6 a7 a8 a9 a10 a11 a12 a13 a14 a15 a16 a17 a18 a19 = some r) : F91_24 (semRun C Tryd.prog 91 Tryd.f91) a0 a1 a2 a3 a4 a5 a6 a7 a8 a9 a10 a11 a12 a13 a14 a15 a16 a17 a18 a19 = some r :=
  semRun_unr 400 ((text91_24 _ _ a0 a1 a2 a3 a4 a5 a6 a7 a8 a9 a10 a11 a12 a13 a14 a15 a16 a17 a18 a19).trans h)
end
end R2

namespace R2
open Go Go.Proofs Sx
noncomputable def body92 : Code := (Tryd.f92.body).getD .skip
section
variable (run : RunT) (a0 a1 : UInt8) (a2 : Bool) (a3 a4 a5 a6 : UInt8) (a7 : Bool) (a8 : UInt8) (a9 : List UInt8) (a10 a11 : UInt8) (a12 : Bool) (a13 a14 a15 a16 : UInt8) (a17 : Bool) (a18 : UInt8) (a19 : List UInt8)
noncomputable def K92_36 : List Item := (kAt 36 body92 []).getD []
def S92_36 : St := St.ofL [(3, .cell (.ptr 3 0)), (6, .cell (.ptr 6 0))] [(3, some [.val (.u8 a0), .val (.u8 a1), .val (.b a2), .val (.u8 a3), .val (.u8 a4), .val (.u8 a5), .val (.u8 a6), .val (.b a7), .val (.u8 a8), .val (.s a9)]), (6, some [.val (.u8 a10), .val (.u8 a11), .val (.b a12), .val (.u8 a13), .val (.u8 a14), .val (.u8 a15), .val (.u8 a16), .val (.b a17), .val (.u8 a18), .val (.s a19)])]
noncomputable def F92_36 : Option AV := run K92_36 (S92_36 a0 a1 a2 a3 a4 a5 a6 a7 a8 a9 a10 a11 a12 a13 a14 a15 a16 a17 a18 a19)
end
section
variable (run : RunT) (a0 a1 : UInt8) (a2 : Bool) (a3 a4 a5 a6 : UInt8) (a7 : Bool) (a8 : UInt8) (a9 : List UInt8)
noncomputable def K92_11 : List Item := (kAt 11 body92 []).getD []
def S92_11 : St := St.ofL [(6, .cell (.ptr 6 0))] [(6, some [.val (.u8 a0), .val (.u8 a1), .val (.b a2), .val (.u8 a3), .val (.u8 a4), .val (.u8 a5), .val (.u8 a6), .val (.b a7), .val (.u8 a8), .val (.s a9)])]
noncomputable def F92_11 : Option AV := run K92_11 (S92_11 a0 a1 a2 a3 a4 a5 a6 a7 a8 a9)
end
section
variable (run : RunT) (a0 a1 a2 : UInt8) (a3 : Bool) (a4 a5 a6 a7 : UInt8) (a8 : Bool) (a9 : UInt8) (a10 : List UInt8) (a11 a12 : UInt8) (a13 : Bool) (a14 a15 a16 a17 : UInt8) (a18 : Bool) (a19 : UInt8) (a20 : List UInt8)
noncomputable def K92_23 : List Item := (kAt 23 body92 []).getD []
def S92_23 : St := St.ofL [(1, .cell (.val (.u8 a0))), (3, .cell (.ptr 3 0)), (6, .cell (.ptr 6 0))] [(3, some [.val (.u8 a1), .val (.u8 a2), .val (.b a3), .val (.u8 a4), .val (.u8 a5), .val (.u8 a6), .val (.u8 a7), .val (.b a8), .val (.u8 a9), .val (.s a10)]), (6, some [.val (.u8 a11), .val (.u8 a12), .val (.b a13), .val (.u8 a14), .val (.u8 a15), .val (.u8 a16), .val (.u8 a17), .val (.b a18), .val (.u8 a19), .val (.s a20)])]
noncomputable def F92_23 : Option AV := run K92_23 (S92_23 a0 a1 a2 a3 a4 a5 a6 a7 a8 a9 a10 a11 a12 a13 a14 a15 a16 a17 a18 a19 a20)
end
section
variable (run : RunT) (a0 a1 a2 a3 : UInt8) (a4 : Bool) (a5 a6 a7 a8 : UInt8) (a9 : Bool) (a10 : UInt8) (a11 : List UInt8) (a12 a13 : UInt8) (a14 : Bool) (a15 a16 a17 a18 : UInt8) (a19 : Bool) (a20 : UInt8) (a21 : List UInt8)
noncomputable def K92_24 : List Item := (kAt 24 body92 []).getD []
def S92_24 : St := St.ofL [(1, .cell (.val (.u8 a0))), (3, .cell (.ptr 3 0)), (6, .cell (.ptr 6 0)), (8, .cell (.val (.u8 a1)))] [(3, some [.val (.u8 a2), .val (.u8 a3), .val (.b a4), .val (.u8 a5), .val (.u8 a6), .val (.u8 a7), .val (.u8 a8), .val (.b a9), .val (.u8 a10), .val (.s a11)]), (6, some [.val (.u8 a12), .val (.u8 a13), .val (.b a14), .val (.u8 a15), .val (.u8 a16), .val (.u8 a17), .val (.u8 a18), .val (.b a19), .val (.u8 a20), .val (.s a21)])]
noncomputable def F92_24 : Option AV := run K92_24 (S92_24 a0 a1 a2 a3 a4 a5 a6 a7 a8 a9 a10 a11 a12 a13 a14 a15 a16 a17 a18 a19 a20 a21)
end
noncomputable def X92 (call : CallT) (run : RunT) (a0 a1 : UInt8) (a2 : Bool) (a3 a4 a5 a6 : UInt8) (a7 : Bool) (a8 : UInt8) (a9 : List UInt8) (a10 : UInt8) (a11 : Bool) : Option AV :=
  condM (.b (ueq a6 0))
  (condM (.b (ueq a10 34))
  (F92_36 run a0 a1 a2 a3 a4 a5 1 a7 a8 a9 0 0 false 0 0 0 0 false 0 [])
  (condM (.b (ueq a10 39))
  (F92_36 run a0 a1 a2 a3 a4 a5 2 a7 a8 a9 0 0 false 0 0 0 0 false 0 [])
  (condM (.b (ueq a10 47))
  (F92_36 run a0 a1 a2 a3 a4 a5 3 a7 a8 a9 0 0 false 0 0 0 0 false 0 [])
  ((selW (.b a11) true (some (.b (ueq a10 96))) (.b false)).bind fun v1 => condM (v1)
  (F92_11 run 0 0 false 0 0 0 0 false 0 [])
  ((selW (.b (!a11)) true ((selW (.b (ueq a10 40)) false (some (.b (ueq a10 92))) (.b true)).bind fun v2 => some (v2)) (.b false)).bind fun v3 => condM (v3)
  (F92_11 run 0 0 false 0 0 0 0 false 0 [])
  (F92_36 run a0 a1 a2 a3 a4 a5 a6 a7 a8 a9 0 0 false 0 0 0 0 false 0 []))))))
  (condM (.b (ueq a6 3))
  (condM (.b (ueq a10 42))
  (F92_36 run a0 a1 a2 a3 a4 a5 5 a7 a8 a9 0 0 false 0 0 0 0 false 0 [])
  ((selW (.b a11) true (some (.b (ueq a10 47))) (.b false)).bind fun v4 => condM (v4)
  (F92_36 run a0 a1 a2 a3 a4 a5 4 a7 a8 a9 0 0 false 0 0 0 0 false 0 [])
  (condM (.b a11)
  (some (.ag [.u8 20, .u8 0, .b false, .u8 0, .u8 0, .u8 0, .u8 0, .b false, .u8 0, .s []]))
  ((call 92 [.ag [.u8 a0, .u8 a1, .b a2, .u8 a3, .u8 a4, .u8 a5, .u8 0, .b a7, .u8 a8, .s a9], .u8 a10, .b a11]).bind fun v5 => (AV.asAg 10 (v5)).bind fun v6 => some (.ag [v6.getD 0 .un, v6.getD 1 .un, v6.getD 2 .un, v6.getD 3 .un, v6.getD 4 .un, v6.getD 5 .un, v6.getD 6 .un, v6.getD 7 .un, v6.getD 8 .un, v6.getD 9 .un])))))
  (condM (.b (ueq a6 1))
  (F92_23 run a10 a0 a1 a2 a3 a4 a5 a6 a7 a8 a9 0 0 false 0 0 0 0 false 0 [])
  (condM (.b (ueq a6 2))
  (F92_23 run a10 a0 a1 a2 a3 a4 a5 a6 a7 a8 a9 0 0 false 0 0 0 0 false 0 [])
  (F92_24 run a10 a6 a0 a1 a2 a3 a4 a5 a6 a7 a8 a9 0 0 false 0 0 0 0 false 0 []))))
section
variable (call : CallT) (run : RunT) (a0 a1 : UInt8) (a2 : Bool) (a3 a4 a5 a6 : UInt8) (a7 : Bool) (a8 : UInt8) (a9 : List UInt8) (a10 : UInt8) (a11 : Bool)
theorem text92 : unr C call run 92 Tryd.f92 400 [.code body92] (initF C 92 Tryd.f92.ntmps [.ag [.u8 a0, .u8 a1, .b a2, .u8 a3, .u8 a4, .u8 a5, .u8 a6, .b a7, .u8 a8, .s a9], .u8 a10, .b a11]) = X92 call run a0 a1 a2 a3 a4 a5 a6 a7 a8 a9 a10 a11 := by
  kernel_rfl
theorem c92 {r : AV} (h : X92 (semCall C Tryd.prog) (semRun C Tryd.prog 92 Tryd.f92) a0 a1 a2 a3 a4 a5 a6 a7 a8 a9 a10 a11 = some r) : semCall C Tryd.prog 92 [.ag [.u8 a0, .u8 a1, .b a2, .u8 a3, .u8 a4, .u8 a5, .u8 a6, .b a7, .u8 a8, .s a9], .u8 a10, .b a11] = some r :=
  semCall_unr (fn := Tryd.f92) (c := body92) (by kernel_rfl) (by kernel_rfl) 400 (by kernel_rfl) ((text92 _ _ a0 a1 a2 a3 a4 a5 a6 a7 a8 a9 a10 a11).trans h)
end
noncomputable def X92_36 (call : CallT) (run : RunT) (a0 a1 : UInt8) (a2 : Bool) (a3 a4 a5 a6 : UInt8) (a7 : Bool) (a8 : UInt8) (a9 : List UInt8) (a10 a11 : UInt8) (a12 : Bool) (a13 a14 a15 a16 : UInt8) (a17 : Bool) (a18 : UInt8) (a19 : List UInt8) : Option AV :=
  some (.ag [.u8 a0, .u8 a1, .b a2, .u8 a3, .u8 a4, .u8 a5, .u8 a6, .b a7, .u8 a8, .s a9])
section
variable (call : CallT) (run : RunT) (a0 a1 : UInt8) (a2 : Bool) (a3 a4 a5 a6 : UInt8) (a7 : Bool) (a8 : UInt8) (a9 : List UInt8) (a10 a11 : UInt8) (a12 : Bool) (a13 a14 a15 a16 : UInt8) (a17 : Bool) (a18 : UInt8) (a19 : List UInt8)
theorem text92_36 : step C call 92 Tryd.f92 (unr C call run 92 Tryd.f92 400) K92_36 (S92_36 a0 a1 a2 a3 a4 a5 a6 a7 a8 a9 a10 a11 a12 a13 a14 a15 a16 a17 a18 a19) = X92_36 call run a0 a1 a2 a3 a4 a5 a6 a7 a8 a9 a10 a11 a12 a13 a14 a15 a16 a17 a18 a19 := by
  kernel_rfl
end
noncomputable def X92_11 (call : CallT) (run : RunT) (a0 a1 : UInt8) (a2 : Bool) (a3 a4 a5 a6 : UInt8) (a7 : Bool) (a8 : UInt8) (a9 : List UInt8) : Option AV :=
  some (.ag [.u8 20, .u8 0, .b false, .u8 0, .u8 0, .u8 0, .u8 0, .b false, .u8 0, .s []])
section
variable (call : CallT) (run : RunT) (a0 a1 : UInt8) (a2 : Bool) (a3 a4 a5 a6 : UInt8) (a7 : Bool) (a8 : UInt8) (a9 : List UInt8)
theorem text92_11 : step C call 92 Tryd.f92 (unr C call run 92 Tryd.f92 400) K92_11 (S92_11 a0 a1 a2 a3 a4 a5 a6 a7 a8 a9) = X92_11 call run a0 a1 a2 a3 a4 a5 a6 a7 a8 a9 := by
  kernel_rfl
end
noncomputable def X92_23 (call : CallT) (run : RunT) (a0 a1 a2 : UInt8) (a3 : Bool) (a4 a5 a6 a7 : UInt8) (a8 : Bool) (a9 : UInt8) (a10 : List UInt8) (a11 a12 : UInt8) (a13 : Bool) (a14 a15 a16 a17 : UInt8) (a18 : Bool) (a19 : UInt8) (a20 : List UInt8) : Option AV :=
  (call 107 [.ag [.u8 a1, .u8 a2, .b a3, .u8 a4, .u8 a5, .u8 a6, .u8 a7, .b a8, .u8 a9, .s a10], .u8 a0]).bind fun v1 => (AV.asAg 10 (v1)).bind fun v2 => some (.ag [v2.getD 0 .un, v2.getD 1 .un, v2.getD 2 .un, v2.getD 3 .un, v2.getD 4 .un, v2.getD 5 .un, v2.getD 6 .un, v2.getD 7 .un, v2.getD 8 .un, v2.getD 9 .un])
section
variable (call : CallT) (run : RunT) (a0 a1 a2 : UInt8) (a3 : Bool) (a4 a5 a6 a7 : UInt8) (a8 : Bool) (a9 : UInt8) (a10 : List UInt8) (a11 a12 : UInt8) (a13 : Bool) (a14 a15 a16 a17 : UInt8) (a18 : Bool) (a19 : UInt8) (a20 : List UInt8)
theorem text92_23 : step C call 92 Tryd.f92 (unr C call run 92 Tryd.f92 400) K92_23 (S92_23 a0 a1 a2 a3 a4 a5 a6 a7 a8 a9 a10 a11 a12 a13 a14 a15 a16 a17 a18 a19 a20) = X92_23 call run a0 a1 a2 a3 a4 a5 a6 a7 a8 a9 a10 a11 a12 a13 a14 a15 a16 a17 a18 a19 a20 := by
  kernel_rfl
end
noncomputable def X92_24 (call : CallT) (run : RunT) (a0 a1 a2 a3 : UInt8) (a4 : Bool) (a5 a6 a7 a8 : UInt8) (a9 : Bool) (a10 : UInt8) (a11 : List UInt8) (a12 a13 : UInt8) (a14 : Bool) (a15 a16 a17 a18 : UInt8) (a19 : Bool) (a20 : UInt8) (a21 : List UInt8) : Option AV :=
  condM (.b (ueq a1 4))
  ((selW (.b (ueq a0 10)) false (some (.b (ueq a0 13))) (.b true)).bind fun v1 => condM (v1)
  (F92_36 run a2 a3 a4 a5 a6 a7 0 a9 a10 a11 a12 a13 a14 a15 a16 a17 a18 a19 a20 a21)
  (F92_36 run a2 a3 a4 a5 a6 a7 a8 a9 a10 a11 a12 a13 a14 a15 a16 a17 a18 a19 a20 a21))
  (condM (.b (ueq a1 5))
  (condM (.b (ueq a0 42))
  (F92_36 run a2 a3 a4 a5 a6 a7 6 a9 a10 a11 a12 a13 a14 a15 a16 a17 a18 a19 a20 a21)
  (F92_36 run a2 a3 a4 a5 a6 a7 a8 a9 a10 a11 a12 a13 a14 a15 a16 a17 a18 a19 a20 a21))
  (condM (.b (ueq a1 6))
  (condM (.b (ueq a0 47))
  (F92_36 run a2 a3 a4 a5 a6 a7 0 a9 a10 a11 a12 a13 a14 a15 a16 a17 a18 a19 a20 a21)
  (condM (.b (ueq a0 42))
  (F92_36 run a2 a3 a4 a5 a6 a7 a8 a9 a10 a11 a12 a13 a14 a15 a16 a17 a18 a19 a20 a21)
  (F92_36 run a2 a3 a4 a5 a6 a7 5 a9 a10 a11 a12 a13 a14 a15 a16 a17 a18 a19 a20 a21)))
  (F92_36 run a2 a3 a4 a5 a6 a7 a8 a9 a10 a11 a12 a13 a14 a15 a16 a17 a18 a19 a20 a21)))
section
variable (call : CallT) (run : RunT) (a0 a1 a2 a3 : UInt8) (a4 : Bool) (a5 a6 a7 a8 : UInt8) (a9 : Bool) (a10 : UInt8) (a11 : List UInt8) (a12 a13 : UInt8) (a14 : Bool) (a15 a16 a17 a18 : UInt8) (a19 : Bool) (a20 : UInt8) (a21 : List UInt8)
theorem text92_24 : step C call 92 Tryd.f92 (unr C call run 92 Tryd.f92 400) K92_24 (S92_24 a0 a1 a2 a3 a4 a5 a6 a7 a8 a9 a10 a11 a12 a13 a14 a15 a16 a17 a18 a19 a20 a21) = X92_24 call run a0 a1 a2 a3 a4 a5 a6 a7 a8 a9 a10 a11 a12 a13 a14 a15 a16 a17 a18 a19 a20 a21 := by
  kernel_rfl
end
section
variable (a0 a1 : UInt8) (a2 : Bool) (a3 a4 a5 a6 : UInt8) (a7 : Bool) (a8 : UInt8) (a9 : List UInt8) (a10 a11 : UInt8) (a12 : Bool) (a13 a14 a15 a16 : UInt8) (a17 : Bool) (a18 : UInt8) (a19 : List UInt8)
theorem r92_36 {r : AV} (h : X92_36 (semCall C Tryd.prog) (semRun C Tryd.prog 92 Tryd.f92) a0 a1 a2 a3 a4 a5 a6 a7 a8 a9 a10 a11 a12 a13 a14 a15 a16 a17 a18 a19 = some r) : F92_36 (semRun C Tryd.prog 92 Tryd.f92) a0 a1 a2 a3 a4 a5 a6 a7 a8 a9 a10 a11 a12 a13 a14 a15 a16 a17 a18 a19 = some r :=
  semRun_unr 400 ((text92_36 _ _ a0 a1 a2 a3 a4 a5 a6 a7 a8 a9 a10 a11 a12 a13 a14 a15 a16 a17 a18 a19).trans h)
end
section
variable (a0 a1 : UInt8) (a2 : Bool) (a3 a4 a5 a6 : UInt8) (a7 : Bool) (a8 : UInt8) (a9 : List UInt8)
theorem r92_11 {r : AV} (h : X92_11 (semCall C Tryd.prog) (semRun C Tryd.prog 92 Tryd.f92) a0 a1 a2 a3 a4 a5 a6 a7 a8 a9 = some r) : F92_11 (semRun C Tryd.prog 92 Tryd.f92) a0 a1 a2 a3 a4 a5 a6 a7 a8 a9 = some r :=
  semRun_unr 400 ((text92_11 _ _ a0 a1 a2 a3 a4 a5 a6 a7 a8 a9).trans h)
end
section
variable (a0 a1 a2 : UInt8) (a3 : Bool) (a4 a5 a6 a7 : UInt8) (a8 : Bool) (a9 : UInt8) (a10 : List UInt8) (a11 a12 : UInt8) (a13 : Bool) (a14 a15 a16 a17 : UInt8) (a18 : Bool) (a19 : UInt8) (a20 : List UInt8)
theorem r92_23 {r : AV} (h : X92_23 (semCall C Tryd.prog) (semRun C Tryd.prog 92 Tryd.f92) a0 a1 a2 a3 a4 a5 a6 a7 a8 a9 a10 a11 a12 a13 a14 a15 a16 a17 a18 a19 a20 = some r) : F92_23 (semRun C Tryd.prog 92 Tryd.f92) a0 a1 a2 a3 a4 a5 a6 a7 a8 a9 a10 a11 a12 a13 a14 a15 a16 a17 a18 a19 a20 = some r :=
  semRun_unr 400 ((text92_23 _ _ a0 a1 a2 a3 a4 a5 a6 a7 a8 a9 a10 a11 a12 a13 a14 a15 a16 a17 a18 a19 a20).trans h)
end
section
variable (a0 a1 a2 a3 : UInt8) (a4 : Bool) (a5 a6 a7 a8 : UInt8) (a9 : Bool) (a10 : UInt8) (a11 : List UInt8) (a12 a13 : UInt8) (a14 : Bool) (a15 a16 a17 a18 : UInt8) (a19 : Bool) (a20 : UInt8) (a21 : List UInt8)
theorem r92_24 {r : AV} (h : X92_24 (semCall C Tryd.prog) (semRun C Tryd.prog 92 Tryd.f92) a0 a1 a2 a3 a4 a5 a6 a7 a8 a9 a10 a11 a12 a13 a14 a15 a16 a17 a18 a19 a20 a21 = some r) : F92_24 (semRun C Tryd.prog 92 Tryd.f92) a0 a1 a2 a3 a4 a5 a6 a7 a8 a9 a10 a11 a12 a13 a14 a15 a16 a17 a18 a19 a20 a21 = some r :=
  semRun_unr 400 ((text92_24 _ _ a0 a1 a2 a3 a4 a5 a6 a7 a8 a9 a10 a11 a12 a13 a14 a15 a16 a17 a18 a19 a20 a21).trans h)
end
end R2

namespace R2
open Go Go.Proofs Sx
noncomputable def body93 : Code := (Tryd.f93.body).getD .skip
section
variable (run : RunT) (a0 : List UInt8) (a1 a2 : Int) (a3 a4 a5 a6 a7 a8 a9 a10 a11 a12 : AV) (a13 a14 : UInt8) (a15 : Bool) (a16 a17 a18 a19 : UInt8) (a20 : Bool) (a21 : UInt8) (a22 : List UInt8)
noncomputable def K93_5 : List Item := (kAt 5 body93 []).getD []
def S93_5 : St := St.ofL [(1, .cell (.val (.s a0))), (3, .cell (.ptr 3 0)), (6, .cell (.ptr 6 0)), (19, .cell (.val (.int a1))), (20, .cell (.val (.int a2)))] [(3, some [.val (a3), .val (a4), .val (a5), .val (a6), .val (a7), .val (a8), .val (a9), .val (a10), .val (a11), .val (a12)]), (6, some [.val (.u8 a13), .val (.u8 a14), .val (.b a15), .val (.u8 a16), .val (.u8 a17), .val (.u8 a18), .val (.u8 a19), .val (.b a20), .val (.u8 a21), .val (.s a22)])]
noncomputable def F93_5 : Option AV := run K93_5 (S93_5 a0 a1 a2 a3 a4 a5 a6 a7 a8 a9 a10 a11 a12 a13 a14 a15 a16 a17 a18 a19 a20 a21 a22)
end
noncomputable def X93 (call : CallT) (run : RunT) (a0 a1 : UInt8) (a2 : Bool) (a3 a4 a5 a6 : UInt8) (a7 : Bool) (a8 : UInt8) (a9 a10 : List UInt8) (a11 : Bool) : Option AV :=
  (selW (.b (!a11)) false ((call 108 [.ag [.u8 17, .u8 a1, .b a2, .u8 a3, .u8 a4, .u8 a5, .u8 a6, .b a7, .u8 a8, .s []]]).bind fun v1 => (unop .not (v1)).bind fun v2 => some (v2)) (.b true)).bind fun v3 => condM (v3)
  (some (.ag [.u8 17, .u8 a1, .b a2, .u8 a3, .u8 a4, .u8 a5, .u8 a6, .b a7, .u8 a8, .s []]))
  (F93_5 run a10 ((a10.length : Int)) 0 (.u8 17) (.u8 a1) (.b a2) (.u8 a3) (.u8 a4) (.u8 a5) (.u8 a6) (.b a7) (.u8 a8) (.s []) 0 0 false 0 0 0 0 false 0 [])
section
variable (call : CallT) (run : RunT) (a0 a1 : UInt8) (a2 : Bool) (a3 a4 a5 a6 : UInt8) (a7 : Bool) (a8 : UInt8) (a9 a10 : List UInt8) (a11 : Bool)
theorem text93 : unr C call run 93 Tryd.f93 400 [.code body93] (initF C 93 Tryd.f93.ntmps [.ag [.u8 a0, .u8 a1, .b a2, .u8 a3, .u8 a4, .u8 a5, .u8 a6, .b a7, .u8 a8, .s a9], .s a10, .b a11]) = X93 call run a0 a1 a2 a3 a4 a5 a6 a7 a8 a9 a10 a11 := by
  kernel_rfl
theorem c93 {r : AV} (h : X93 (semCall C Tryd.prog) (semRun C Tryd.prog 93 Tryd.f93) a0 a1 a2 a3 a4 a5 a6 a7 a8 a9 a10 a11 = some r) : semCall C Tryd.prog 93 [.ag [.u8 a0, .u8 a1, .b a2, .u8 a3, .u8 a4, .u8 a5, .u8 a6, .b a7, .u8 a8, .s a9], .s a10, .b a11] = some r :=
  semCall_unr (fn := Tryd.f93) (c := body93) (by kernel_rfl) (by kernel_rfl) 400 (by kernel_rfl) ((text93 _ _ a0 a1 a2 a3 a4 a5 a6 a7 a8 a9 a10 a11).trans h)
end
noncomputable def X93_5 (call : CallT) (run : RunT) (a0 : List UInt8) (a1 a2 : Int) (a3 a4 a5 a6 a7 a8 a9 a10 a11 a12 : AV) (a13 a14 : UInt8) (a15 : Bool) (a16 a17 a18 a19 : UInt8) (a20 : Bool) (a21 : UInt8) (a22 : List UInt8) : Option AV :=
  condM (.b (decide (a2 < a1)))
  ((idxS (.s a0) (.int a2)).bind fun v1 => (binI .eql (a4) (.u8 3)).bind fun v2 => (call 92 [.ag [a3, a4, a5, a6, a7, a8, a9, a10, a11, a12], v1, v2]).bind fun v3 => (AV.asAg 10 (v3)).bind fun v4 => (binI .eql (v4.getD 0 .un) (.u8 20)).bind fun v5 => condM (v5)
  (some (.ag [.u8 20, .u8 0, .b false, .u8 0, .u8 0, .u8 0, .u8 0, .b false, .u8 0, .s []]))
  (F93_5 run a0 a1 (w64 (a2 + 1)) (v4.getD 0 .un) (v4.getD 1 .un) (v4.getD 2 .un) (v4.getD 3 .un) (v4.getD 4 .un) (v4.getD 5 .un) (v4.getD 6 .un) (v4.getD 7 .un) (v4.getD 8 .un) (v4.getD 9 .un) a13 a14 a15 a16 a17 a18 a19 a20 a21 a22))
  (some (.ag [a3, a4, a5, a6, a7, a8, a9, a10, a11, a12]))
section
variable (call : CallT) (run : RunT) (a0 : List UInt8) (a1 a2 : Int) (a3 a4 a5 a6 a7 a8 a9 a10 a11 a12 : AV) (a13 a14 : UInt8) (a15 : Bool) (a16 a17 a18 a19 : UInt8) (a20 : Bool) (a21 : UInt8) (a22 : List UInt8)
theorem text93_5 : step C call 93 Tryd.f93 (unr C call run 93 Tryd.f93 400) K93_5 (S93_5 a0 a1 a2 a3 a4 a5 a6 a7 a8 a9 a10 a11 a12 a13 a14 a15 a16 a17 a18 a19 a20 a21 a22) = X93_5 call run a0 a1 a2 a3 a4 a5 a6 a7 a8 a9 a10 a11 a12 a13 a14 a15 a16 a17 a18 a19 a20 a21 a22 := by
  kernel_rfl
end
section
variable (a0 : List UInt8) (a1 a2 : Int) (a3 a4 a5 a6 a7 a8 a9 a10 a11 a12 : AV) (a13 a14 : UInt8) (a15 : Bool) (a16 a17 a18 a19 : UInt8) (a20 : Bool) (a21 : UInt8) (a22 : List UInt8)
theorem r93_5 {r : AV} (h : X93_5 (semCall C Tryd.prog) (semRun C Tryd.prog 93 Tryd.f93) a0 a1 a2 a3 a4 a5 a6 a7 a8 a9 a10 a11 a12 a13 a14 a15 a16 a17 a18 a19 a20 a21 a22 = some r) : F93_5 (semRun C Tryd.prog 93 Tryd.f93) a0 a1 a2 a3 a4 a5 a6 a7 a8 a9 a10 a11 a12 a13 a14 a15 a16 a17 a18 a19 a20 a21 a22 = some r :=
  semRun_unr 400 ((text93_5 _ _ a0 a1 a2 a3 a4 a5 a6 a7 a8 a9 a10 a11 a12 a13 a14 a15 a16 a17 a18 a19 a20 a21 a22).trans h)
end
end R2

namespace R2
open Go Go.Proofs Sx
noncomputable def body106 : Code := (Tryd.f106.body).getD .skip
noncomputable def X106 (call : CallT) (run : RunT) (a0 : List UInt8) (a1 : UInt8) : Option AV :=
  (call 112 [.s a0, .u8 a1]).bind fun v1 => some (v1)
section
variable (call : CallT) (run : RunT) (a0 : List UInt8) (a1 : UInt8)
theorem text106 : unr C call run 106 Tryd.f106 400 [.code body106] (initF C 106 Tryd.f106.ntmps [.s a0, .u8 a1]) = X106 call run a0 a1 := by
  kernel_rfl
theorem c106 {r : AV} (h : X106 (semCall C Tryd.prog) (semRun C Tryd.prog 106 Tryd.f106) a0 a1 = some r) : semCall C Tryd.prog 106 [.s a0, .u8 a1] = some r :=
  semCall_unr (fn := Tryd.f106) (c := body106) (by kernel_rfl) (by kernel_rfl) 400 (by kernel_rfl) ((text106 _ _ a0 a1).trans h)
end
end R2

namespace R2
open Go Go.Proofs Sx
noncomputable def body107 : Code := (Tryd.f107.body).getD .skip
section
variable (run : RunT) (a0 a1 : UInt8) (a2 : Bool) (a3 a4 a5 a6 : UInt8) (a7 : Bool) (a8 : UInt8) (a9 : List UInt8) (a10 a11 : UInt8) (a12 : Bool) (a13 a14 a15 a16 : UInt8) (a17 : Bool) (a18 : UInt8) (a19 : List UInt8)
noncomputable def K107_9 : List Item := (kAt 9 body107 []).getD []
def S107_9 : St := St.ofL [(2, .cell (.ptr 2 0)), (4, .cell (.ptr 4 0))] [(2, some [.val (.u8 a0), .val (.u8 a1), .val (.b a2), .val (.u8 a3), .val (.u8 a4), .val (.u8 a5), .val (.u8 a6), .val (.b a7), .val (.u8 a8), .val (.s a9)]), (4, some [.val (.u8 a10), .val (.u8 a11), .val (.b a12), .val (.u8 a13), .val (.u8 a14), .val (.u8 a15), .val (.u8 a16), .val (.b a17), .val (.u8 a18), .val (.s a19)])]
noncomputable def F107_9 : Option AV := run K107_9 (S107_9 a0 a1 a2 a3 a4 a5 a6 a7 a8 a9 a10 a11 a12 a13 a14 a15 a16 a17 a18 a19)
end
noncomputable def X107 (call : CallT) (run : RunT) (a0 a1 : UInt8) (a2 : Bool) (a3 a4 a5 a6 : UInt8) (a7 : Bool) (a8 : UInt8) (a9 : List UInt8) (a10 : UInt8) : Option AV :=
  condM (.b a7)
  (F107_9 run a0 a1 a2 a3 a4 a5 a6 false a8 a9 0 0 false 0 0 0 0 false 0 [])
  (condM (.b (ueq a10 92))
  (F107_9 run a0 a1 a2 a3 a4 a5 a6 true a8 a9 0 0 false 0 0 0 0 false 0 [])
  ((selW (.b (ueq a10 10)) false (some (.b (ueq a10 13))) (.b true)).bind fun v1 => condM (v1)
  (some (.ag [.u8 20, .u8 0, .b false, .u8 0, .u8 0, .u8 0, .u8 0, .b false, .u8 0, .s []]))
  ((selW (.b (ueq a10 34)) true (some (.b (ueq a6 1))) (.b false)).bind fun v2 => (selW (v2) false ((selW (.b (ueq a10 39)) true (some (.b (ueq a6 2))) (.b false)).bind fun v3 => some (v3)) (.b true)).bind fun v4 => condM (v4)
  (F107_9 run a0 a1 a2 a3 a4 a5 0 a7 a8 a9 0 0 false 0 0 0 0 false 0 [])
  (F107_9 run a0 a1 a2 a3 a4 a5 a6 a7 a8 a9 0 0 false 0 0 0 0 false 0 []))))
section
variable (call : CallT) (run : RunT) (a0 a1 : UInt8) (a2 : Bool) (a3 a4 a5 a6 : UInt8) (a7 : Bool) (a8 : UInt8) (a9 : List UInt8) (a10 : UInt8)
theorem text107 : unr C call run 107 Tryd.f107 400 [.code body107] (initF C 107 Tryd.f107.ntmps [.ag [.u8 a0, .u8 a1, .b a2, .u8 a3, .u8 a4, .u8 a5, .u8 a6, .b a7, .u8 a8, .s a9], .u8 a10]) = X107 call run a0 a1 a2 a3 a4 a5 a6 a7 a8 a9 a10 := by
  kernel_rfl
theorem c107 {r : AV} (h : X107 (semCall C Tryd.prog) (semRun C Tryd.prog 107 Tryd.f107) a0 a1 a2 a3 a4 a5 a6 a7 a8 a9 a10 = some r) : semCall C Tryd.prog 107 [.ag [.u8 a0, .u8 a1, .b a2, .u8 a3, .u8 a4, .u8 a5, .u8 a6, .b a7, .u8 a8, .s a9], .u8 a10] = some r :=
  semCall_unr (fn := Tryd.f107) (c := body107) (by kernel_rfl) (by kernel_rfl) 400 (by kernel_rfl) ((text107 _ _ a0 a1 a2 a3 a4 a5 a6 a7 a8 a9 a10).trans h)
end
noncomputable def X107_9 (call : CallT) (run : RunT) (a0 a1 : UInt8) (a2 : Bool) (a3 a4 a5 a6 : UInt8) (a7 : Bool) (a8 : UInt8) (a9 : List UInt8) (a10 a11 : UInt8) (a12 : Bool) (a13 a14 a15 a16 : UInt8) (a17 : Bool) (a18 : UInt8) (a19 : List UInt8) : Option AV :=
  some (.ag [.u8 a0, .u8 a1, .b a2, .u8 a3, .u8 a4, .u8 a5, .u8 a6, .b a7, .u8 a8, .s a9])
section
variable (call : CallT) (run : RunT) (a0 a1 : UInt8) (a2 : Bool) (a3 a4 a5 a6 : UInt8) (a7 : Bool) (a8 : UInt8) (a9 : List UInt8) (a10 a11 : UInt8) (a12 : Bool) (a13 a14 a15 a16 : UInt8) (a17 : Bool) (a18 : UInt8) (a19 : List UInt8)
theorem text107_9 : step C call 107 Tryd.f107 (unr C call run 107 Tryd.f107 400) K107_9 (S107_9 a0 a1 a2 a3 a4 a5 a6 a7 a8 a9 a10 a11 a12 a13 a14 a15 a16 a17 a18 a19) = X107_9 call run a0 a1 a2 a3 a4 a5 a6 a7 a8 a9 a10 a11 a12 a13 a14 a15 a16 a17 a18 a19 := by
  kernel_rfl
end
section
variable (a0 a1 : UInt8) (a2 : Bool) (a3 a4 a5 a6 : UInt8) (a7 : Bool) (a8 : UInt8) (a9 : List UInt8) (a10 a11 : UInt8) (a12 : Bool) (a13 a14 a15 a16 : UInt8) (a17 : Bool) (a18 : UInt8) (a19 : List UInt8)
theorem r107_9 {r : AV} (h : X107_9 (semCall C Tryd.prog) (semRun C Tryd.prog 107 Tryd.f107) a0 a1 a2 a3 a4 a5 a6 a7 a8 a9 a10 a11 a12 a13 a14 a15 a16 a17 a18 a19 = some r) : F107_9 (semRun C Tryd.prog 107 Tryd.f107) a0 a1 a2 a3 a4 a5 a6 a7 a8 a9 a10 a11 a12 a13 a14 a15 a16 a17 a18 a19 = some r :=
  semRun_unr 400 ((text107_9 _ _ a0 a1 a2 a3 a4 a5 a6 a7 a8 a9 a10 a11 a12 a13 a14 a15 a16 a17 a18 a19).trans h)
end
end R2

namespace R2
open Go Go.Proofs Sx
noncomputable def body19 : Code := (Tryd.f19.body).getD .skip
noncomputable def X19 (call : CallT) (run : RunT) (a0 a1 : UInt8) (a2 : Bool) (a3 a4 a5 a6 : UInt8) (a7 : Bool) (a8 : UInt8) (a9 : List UInt8) (a10 : UInt8) : Option AV :=
  (call 40 [.ag [.u8 a0, .u8 a1, .b a2, .u8 a3, .u8 a4, .u8 a5, .u8 a6, .b a7, .u8 a8, .s a9], .u8 a10, .b true]).bind fun v1 => (AV.asAg 10 (v1)).bind fun v2 => some (.ag [v2.getD 0 .un, v2.getD 1 .un, v2.getD 2 .un, v2.getD 3 .un, v2.getD 4 .un, v2.getD 5 .un, v2.getD 6 .un, v2.getD 7 .un, v2.getD 8 .un, v2.getD 9 .un])
section
variable (call : CallT) (run : RunT) (a0 a1 : UInt8) (a2 : Bool) (a3 a4 a5 a6 : UInt8) (a7 : Bool) (a8 : UInt8) (a9 : List UInt8) (a10 : UInt8)
theorem text19 : unr C call run 19 Tryd.f19 400 [.code body19] (initF C 19 Tryd.f19.ntmps [.ag [.u8 a0, .u8 a1, .b a2, .u8 a3, .u8 a4, .u8 a5, .u8 a6, .b a7, .u8 a8, .s a9], .u8 a10]) = X19 call run a0 a1 a2 a3 a4 a5 a6 a7 a8 a9 a10 := by
  kernel_rfl
theorem c19 {r : AV} (h : X19 (semCall C Tryd.prog) (semRun C Tryd.prog 19 Tryd.f19) a0 a1 a2 a3 a4 a5 a6 a7 a8 a9 a10 = some r) : semCall C Tryd.prog 19 [.ag [.u8 a0, .u8 a1, .b a2, .u8 a3, .u8 a4, .u8 a5, .u8 a6, .b a7, .u8 a8, .s a9], .u8 a10] = some r :=
  semCall_unr (fn := Tryd.f19) (c := body19) (by kernel_rfl) (by kernel_rfl) 400 (by kernel_rfl) ((text19 _ _ a0 a1 a2 a3 a4 a5 a6 a7 a8 a9 a10).trans h)
end
end R2

namespace R2
open Go Go.Proofs Sx
noncomputable def body23 : Code := (Tryd.f23.body).getD .skip
noncomputable def X23 (call : CallT) (run : RunT) (a0 a1 : UInt8) (a2 : Bool) (a3 a4 a5 a6 : UInt8) (a7 : Bool) (a8 : UInt8) (a9 : List UInt8) (a10 : AV) : Option AV :=
  (call 49 [.ag [.u8 a0, .u8 a1, .b a2, .u8 a3, .u8 a4, .u8 a5, .u8 a6, .b a7, .u8 a8, .s a9], a10, .fn 19]).bind fun v1 => (tupI (v1) 0).bind fun v2 => (tupI (v1) 1).bind fun v3 => (AV.asAg 10 (v2)).bind fun v4 => some (.tu [.ag [v4.getD 0 .un, v4.getD 1 .un, v4.getD 2 .un, v4.getD 3 .un, v4.getD 4 .un, v4.getD 5 .un, v4.getD 6 .un, v4.getD 7 .un, v4.getD 8 .un, v4.getD 9 .un], v3])
section
variable (call : CallT) (run : RunT) (a0 a1 : UInt8) (a2 : Bool) (a3 a4 a5 a6 : UInt8) (a7 : Bool) (a8 : UInt8) (a9 : List UInt8) (a10 : AV)
theorem text23 : unr C call run 23 Tryd.f23 400 [.code body23] (initF C 23 Tryd.f23.ntmps [.ag [.u8 a0, .u8 a1, .b a2, .u8 a3, .u8 a4, .u8 a5, .u8 a6, .b a7, .u8 a8, .s a9], a10]) = X23 call run a0 a1 a2 a3 a4 a5 a6 a7 a8 a9 a10 := by
  kernel_rfl
theorem c23 {r : AV} (h : X23 (semCall C Tryd.prog) (semRun C Tryd.prog 23 Tryd.f23) a0 a1 a2 a3 a4 a5 a6 a7 a8 a9 a10 = some r) : semCall C Tryd.prog 23 [.ag [.u8 a0, .u8 a1, .b a2, .u8 a3, .u8 a4, .u8 a5, .u8 a6, .b a7, .u8 a8, .s a9], a10] = some r :=
  semCall_unr (fn := Tryd.f23) (c := body23) (by kernel_rfl) (by kernel_rfl) 400 (by kernel_rfl) ((text23 _ _ a0 a1 a2 a3 a4 a5 a6 a7 a8 a9 a10).trans h)
end
end R2

namespace R2
open Go Go.Proofs Sx
noncomputable def body49 : Code := (Tryd.f49.body).getD .skip
section
variable (run : RunT) (a0 : AV) (a1 : Nat) (a2 a3 : UInt8) (a4 : Bool) (a5 a6 a7 a8 : UInt8) (a9 : Bool) (a10 : UInt8) (a11 : List UInt8) (a12 a13 : UInt8) (a14 : Bool) (a15 a16 a17 a18 : UInt8) (a19 : Bool) (a20 : UInt8) (a21 : List UInt8)
noncomputable def K49_3 : List Item := (kAt 3 body49 []).getD []
def S49_3 : St := St.ofL [(1, .cell (.val (a0))), (2, .cell (.val (.fn a1))), (3, .cell (.ptr 3 0)), (6, .cell (.ptr 6 0))] [(3, some [.val (.u8 a2), .val (.u8 a3), .val (.b a4), .val (.u8 a5), .val (.u8 a6), .val (.u8 a7), .val (.u8 a8), .val (.b a9), .val (.u8 a10), .val (.s a11)]), (6, some [.val (.u8 a12), .val (.u8 a13), .val (.b a14), .val (.u8 a15), .val (.u8 a16), .val (.u8 a17), .val (.u8 a18), .val (.b a19), .val (.u8 a20), .val (.s a21)])]
noncomputable def F49_3 : Option AV := run K49_3 (S49_3 a0 a1 a2 a3 a4 a5 a6 a7 a8 a9 a10 a11 a12 a13 a14 a15 a16 a17 a18 a19 a20 a21)
end
section
variable (run : RunT) (a0 : Nat) (a1 a2 : AV) (a3 : Int) (a4 a5 a6 a7 a8 a9 a10 a11 a12 a13 : AV) (a14 a15 : UInt8) (a16 : Bool) (a17 a18 a19 a20 : UInt8) (a21 : Bool) (a22 : UInt8) (a23 : List UInt8)
noncomputable def K49_4 : List Item := (kAt 4 body49 []).getD []
def S49_4 : St := St.ofL [(2, .cell (.val (.fn a0))), (3, .cell (.ptr 3 0)), (6, .cell (.ptr 6 0)), (14, .cell (.val (a1))), (15, .cell (.val (a2))), (16, .cell (.val (.int a3)))] [(3, some [.val (a4), .val (a5), .val (a6), .val (a7), .val (a8), .val (a9), .val (a10), .val (a11), .val (a12), .val (a13)]), (6, some [.val (.u8 a14), .val (.u8 a15), .val (.b a16), .val (.u8 a17), .val (.u8 a18), .val (.u8 a19), .val (.u8 a20), .val (.b a21), .val (.u8 a22), .val (.s a23)])]
noncomputable def F49_4 : Option AV := run K49_4 (S49_4 a0 a1 a2 a3 a4 a5 a6 a7 a8 a9 a10 a11 a12 a13 a14 a15 a16 a17 a18 a19 a20 a21 a22 a23)
end
noncomputable def X49 (call : CallT) (run : RunT) (a0 a1 : UInt8) (a2 : Bool) (a3 a4 a5 a6 : UInt8) (a7 : Bool) (a8 : UInt8) (a9 : List UInt8) (a10 : AV) (a11 : Nat) : Option AV :=
  (call 21 [.ag [.u8 a0, .u8 a1, .b a2, .u8 a3, .u8 a4, .u8 a5, .u8 a6, .b a7, .u8 a8, .s a9]]).bind fun v1 => (unop .not (v1)).bind fun v2 => condM (v2)
  (F49_3 run (a10) a11 20 0 false 0 0 0 0 false 0 [] 0 0 false 0 0 0 0 false 0 [])
  (F49_3 run (a10) a11 a0 a1 a2 a3 a4 a5 a6 a7 a8 a9 0 0 false 0 0 0 0 false 0 [])
section
variable (call : CallT) (run : RunT) (a0 a1 : UInt8) (a2 : Bool) (a3 a4 a5 a6 : UInt8) (a7 : Bool) (a8 : UInt8) (a9 : List UInt8) (a10 : AV) (a11 : Nat)
theorem text49 : unr C call run 49 Tryd.f49 400 [.code body49] (initF C 49 Tryd.f49.ntmps [.ag [.u8 a0, .u8 a1, .b a2, .u8 a3, .u8 a4, .u8 a5, .u8 a6, .b a7, .u8 a8, .s a9], a10, .fn a11]) = X49 call run a0 a1 a2 a3 a4 a5 a6 a7 a8 a9 a10 a11 := by
  kernel_rfl
theorem c49 {r : AV} (h : X49 (semCall C Tryd.prog) (semRun C Tryd.prog 49 Tryd.f49) a0 a1 a2 a3 a4 a5 a6 a7 a8 a9 a10 a11 = some r) : semCall C Tryd.prog 49 [.ag [.u8 a0, .u8 a1, .b a2, .u8 a3, .u8 a4, .u8 a5, .u8 a6, .b a7, .u8 a8, .s a9], a10, .fn a11] = some r :=
  semCall_unr (fn := Tryd.f49) (c := body49) (by kernel_rfl) (by kernel_rfl) 400 (by kernel_rfl) ((text49 _ _ a0 a1 a2 a3 a4 a5 a6 a7 a8 a9 a10 a11).trans h)
end
noncomputable def X49_3 (call : CallT) (run : RunT) (a0 : AV) (a1 : Nat) (a2 a3 : UInt8) (a4 : Bool) (a5 a6 a7 a8 : UInt8) (a9 : Bool) (a10 : UInt8) (a11 : List UInt8) (a12 a13 : UInt8) (a14 : Bool) (a15 a16 a17 a18 : UInt8) (a19 : Bool) (a20 : UInt8) (a21 : List UInt8) : Option AV :=
  (lenR (a0)).bind fun v1 => F49_4 run a1 (a0) (v1) 0 (.u8 a2) (.u8 a3) (.b a4) (.u8 a5) (.u8 a6) (.u8 a7) (.u8 a8) (.b a9) (.u8 a10) (.s a11) a12 a13 a14 a15 a16 a17 a18 a19 a20 a21
section
variable (call : CallT) (run : RunT) (a0 : AV) (a1 : Nat) (a2 a3 : UInt8) (a4 : Bool) (a5 a6 a7 a8 : UInt8) (a9 : Bool) (a10 : UInt8) (a11 : List UInt8) (a12 a13 : UInt8) (a14 : Bool) (a15 a16 a17 a18 : UInt8) (a19 : Bool) (a20 : UInt8) (a21 : List UInt8)
theorem text49_3 : step C call 49 Tryd.f49 (unr C call run 49 Tryd.f49 400) K49_3 (S49_3 a0 a1 a2 a3 a4 a5 a6 a7 a8 a9 a10 a11 a12 a13 a14 a15 a16 a17 a18 a19 a20 a21) = X49_3 call run a0 a1 a2 a3 a4 a5 a6 a7 a8 a9 a10 a11 a12 a13 a14 a15 a16 a17 a18 a19 a20 a21 := by
  kernel_rfl
end
noncomputable def X49_4 (call : CallT) (run : RunT) (a0 : Nat) (a1 a2 : AV) (a3 : Int) (a4 a5 a6 a7 a8 a9 a10 a11 a12 a13 : AV) (a14 a15 : UInt8) (a16 : Bool) (a17 a18 a19 a20 : UInt8) (a21 : Bool) (a22 : UInt8) (a23 : List UInt8) : Option AV :=
  (binI .lss (.int a3) (a2)).bind fun v1 => condM (v1)
  ((idx 1 (a1) (.int a3)).bind fun v2 => (callV C call a0 [.ag [a4, a5, a6, a7, a8, a9, a10, a11, a12, a13], AV.cell (v2) 0]).bind fun v4 => (AV.asAg 10 (v4)).bind fun v5 => (binI .eql (v5.getD 0 .un) (.u8 20)).bind fun v6 => condM (v6)
  (some (.tu [.ag [v5.getD 0 .un, v5.getD 1 .un, v5.getD 2 .un, v5.getD 3 .un, v5.getD 4 .un, v5.getD 5 .un, v5.getD 6 .un, v5.getD 7 .un, v5.getD 8 .un, v5.getD 9 .un], .int a3]))
  (F49_4 run a0 (a1) (a2) (w64 (a3 + 1)) (v5.getD 0 .un) (v5.getD 1 .un) (v5.getD 2 .un) (v5.getD 3 .un) (v5.getD 4 .un) (v5.getD 5 .un) (v5.getD 6 .un) (v5.getD 7 .un) (v5.getD 8 .un) (v5.getD 9 .un) a14 a15 a16 a17 a18 a19 a20 a21 a22 a23))
  (some (.tu [.ag [a4, a5, a6, a7, a8, a9, a10, a11, a12, a13], .int ((-1))]))
section
variable (call : CallT) (run : RunT) (a0 : Nat) (a1 a2 : AV) (a3 : Int) (a4 a5 a6 a7 a8 a9 a10 a11 a12 a13 : AV) (a14 a15 : UInt8) (a16 : Bool) (a17 a18 a19 a20 : UInt8) (a21 : Bool) (a22 : UInt8) (a23 : List UInt8)
theorem text49_4 : step C call 49 Tryd.f49 (unr C call run 49 Tryd.f49 400) K49_4 (S49_4 a0 a1 a2 a3 a4 a5 a6 a7 a8 a9 a10 a11 a12 a13 a14 a15 a16 a17 a18 a19 a20 a21 a22 a23) = X49_4 call run a0 a1 a2 a3 a4 a5 a6 a7 a8 a9 a10 a11 a12 a13 a14 a15 a16 a17 a18 a19 a20 a21 a22 a23 := by
  kernel_rfl
end
section
variable (a0 : AV) (a1 : Nat) (a2 a3 : UInt8) (a4 : Bool) (a5 a6 a7 a8 : UInt8) (a9 : Bool) (a10 : UInt8) (a11 : List UInt8) (a12 a13 : UInt8) (a14 : Bool) (a15 a16 a17 a18 : UInt8) (a19 : Bool) (a20 : UInt8) (a21 : List UInt8)
theorem r49_3 {r : AV} (h : X49_3 (semCall C Tryd.prog) (semRun C Tryd.prog 49 Tryd.f49) a0 a1 a2 a3 a4 a5 a6 a7 a8 a9 a10 a11 a12 a13 a14 a15 a16 a17 a18 a19 a20 a21 = some r) : F49_3 (semRun C Tryd.prog 49 Tryd.f49) a0 a1 a2 a3 a4 a5 a6 a7 a8 a9 a10 a11 a12 a13 a14 a15 a16 a17 a18 a19 a20 a21 = some r :=
  semRun_unr 400 ((text49_3 _ _ a0 a1 a2 a3 a4 a5 a6 a7 a8 a9 a10 a11 a12 a13 a14 a15 a16 a17 a18 a19 a20 a21).trans h)
end
section
variable (a0 : Nat) (a1 a2 : AV) (a3 : Int) (a4 a5 a6 a7 a8 a9 a10 a11 a12 a13 : AV) (a14 a15 : UInt8) (a16 : Bool) (a17 a18 a19 a20 : UInt8) (a21 : Bool) (a22 : UInt8) (a23 : List UInt8)
theorem r49_4 {r : AV} (h : X49_4 (semCall C Tryd.prog) (semRun C Tryd.prog 49 Tryd.f49) a0 a1 a2 a3 a4 a5 a6 a7 a8 a9 a10 a11 a12 a13 a14 a15 a16 a17 a18 a19 a20 a21 a22 a23 = some r) : F49_4 (semRun C Tryd.prog 49 Tryd.f49) a0 a1 a2 a3 a4 a5 a6 a7 a8 a9 a10 a11 a12 a13 a14 a15 a16 a17 a18 a19 a20 a21 a22 a23 = some r :=
  semRun_unr 400 ((text49_4 _ _ a0 a1 a2 a3 a4 a5 a6 a7 a8 a9 a10 a11 a12 a13 a14 a15 a16 a17 a18 a19 a20 a21 a22 a23).trans h)
end
end R2

namespace R2
open Go Go.Proofs Sx
noncomputable def body27 : Code := (Tryd.f27.body).getD .skip
noncomputable def X27 (call : CallT) (run : RunT) (a0 a1 : UInt8) (a2 : Bool) (a3 a4 a5 a6 : UInt8) (a7 : Bool) (a8 : UInt8) (a9 : List UInt8) (a10 : UInt8) : Option AV :=
  (call 21 [.ag [.u8 a0, .u8 a1, .b a2, .u8 a3, .u8 a4, .u8 a5, .u8 a6, .b a7, .u8 a8, .s a9]]).bind fun v1 => (unop .not (v1)).bind fun v2 => condM (v2)
  (some (.ag [.u8 20, .u8 0, .b false, .u8 0, .u8 0, .u8 0, .u8 0, .b false, .u8 0, .s []]))
  ((call 28 [.ag [.u8 a0, .u8 a1, .b a2, .u8 a3, .u8 a4, .u8 a5, .u8 a6, .b a7, .u8 a8, .s a9]]).bind fun v3 => (call 40 [v3, .u8 a10, .b false]).bind fun v4 => (call 28 [v4]).bind fun v5 => (AV.asAg 10 (v5)).bind fun v6 => some (.ag [v6.getD 0 .un, v6.getD 1 .un, v6.getD 2 .un, v6.getD 3 .un, v6.getD 4 .un, v6.getD 5 .un, v6.getD 6 .un, v6.getD 7 .un, v6.getD 8 .un, v6.getD 9 .un]))
section
variable (call : CallT) (run : RunT) (a0 a1 : UInt8) (a2 : Bool) (a3 a4 a5 a6 : UInt8) (a7 : Bool) (a8 : UInt8) (a9 : List UInt8) (a10 : UInt8)
theorem text27 : unr C call run 27 Tryd.f27 400 [.code body27] (initF C 27 Tryd.f27.ntmps [.ag [.u8 a0, .u8 a1, .b a2, .u8 a3, .u8 a4, .u8 a5, .u8 a6, .b a7, .u8 a8, .s a9], .u8 a10]) = X27 call run a0 a1 a2 a3 a4 a5 a6 a7 a8 a9 a10 := by
  kernel_rfl
theorem c27 {r : AV} (h : X27 (semCall C Tryd.prog) (semRun C Tryd.prog 27 Tryd.f27) a0 a1 a2 a3 a4 a5 a6 a7 a8 a9 a10 = some r) : semCall C Tryd.prog 27 [.ag [.u8 a0, .u8 a1, .b a2, .u8 a3, .u8 a4, .u8 a5, .u8 a6, .b a7, .u8 a8, .s a9], .u8 a10] = some r :=
  semCall_unr (fn := Tryd.f27) (c := body27) (by kernel_rfl) (by kernel_rfl) 400 (by kernel_rfl) ((text27 _ _ a0 a1 a2 a3 a4 a5 a6 a7 a8 a9 a10).trans h)
end
end R2

namespace R2
open Go Go.Proofs Sx
noncomputable def body28 : Code := (Tryd.f28.body).getD .skip
section
variable (run : RunT) (a0 a1 : UInt8) (a2 : Bool) (a3 a4 a5 a6 : UInt8) (a7 : Bool) (a8 : UInt8) (a9 : List UInt8) (a10 a11 : UInt8) (a12 : Bool) (a13 a14 a15 a16 : UInt8) (a17 : Bool) (a18 : UInt8) (a19 : List UInt8)
noncomputable def K28_3 : List Item := (kAt 3 body28 []).getD []
def S28_3 : St := St.ofL [(1, .cell (.ptr 1 0)), (2, .cell (.ptr 2 0))] [(1, some [.val (.u8 a0), .val (.u8 a1), .val (.b a2), .val (.u8 a3), .val (.u8 a4), .val (.u8 a5), .val (.u8 a6), .val (.b a7), .val (.u8 a8), .val (.s a9)]), (2, some [.val (.u8 a10), .val (.u8 a11), .val (.b a12), .val (.u8 a13), .val (.u8 a14), .val (.u8 a15), .val (.u8 a16), .val (.b a17), .val (.u8 a18), .val (.s a19)])]
noncomputable def F28_3 : Option AV := run K28_3 (S28_3 a0 a1 a2 a3 a4 a5 a6 a7 a8 a9 a10 a11 a12 a13 a14 a15 a16 a17 a18 a19)
end
noncomputable def X28 (call : CallT) (run : RunT) (a0 a1 : UInt8) (a2 : Bool) (a3 a4 a5 a6 : UInt8) (a7 : Bool) (a8 : UInt8) (a9 : List UInt8) : Option AV :=
  condM (.b (ueq a0 8))
  (F28_3 run a0 a1 a2 a3 a4 a5 a6 a7 a8 [] 0 0 false 0 0 0 0 false 0 [])
  (F28_3 run a0 a1 a2 a3 a4 a5 a6 a7 a8 a9 0 0 false 0 0 0 0 false 0 [])
section
variable (call : CallT) (run : RunT) (a0 a1 : UInt8) (a2 : Bool) (a3 a4 a5 a6 : UInt8) (a7 : Bool) (a8 : UInt8) (a9 : List UInt8)
theorem text28 : unr C call run 28 Tryd.f28 400 [.code body28] (initF C 28 Tryd.f28.ntmps [.ag [.u8 a0, .u8 a1, .b a2, .u8 a3, .u8 a4, .u8 a5, .u8 a6, .b a7, .u8 a8, .s a9]]) = X28 call run a0 a1 a2 a3 a4 a5 a6 a7 a8 a9 := by
  kernel_rfl
theorem c28 {r : AV} (h : X28 (semCall C Tryd.prog) (semRun C Tryd.prog 28 Tryd.f28) a0 a1 a2 a3 a4 a5 a6 a7 a8 a9 = some r) : semCall C Tryd.prog 28 [.ag [.u8 a0, .u8 a1, .b a2, .u8 a3, .u8 a4, .u8 a5, .u8 a6, .b a7, .u8 a8, .s a9]] = some r :=
  semCall_unr (fn := Tryd.f28) (c := body28) (by kernel_rfl) (by kernel_rfl) 400 (by kernel_rfl) ((text28 _ _ a0 a1 a2 a3 a4 a5 a6 a7 a8 a9).trans h)
end
noncomputable def X28_3 (call : CallT) (run : RunT) (a0 a1 : UInt8) (a2 : Bool) (a3 a4 a5 a6 : UInt8) (a7 : Bool) (a8 : UInt8) (a9 : List UInt8) (a10 a11 : UInt8) (a12 : Bool) (a13 a14 a15 a16 : UInt8) (a17 : Bool) (a18 : UInt8) (a19 : List UInt8) : Option AV :=
  some (.ag [.u8 a0, .u8 a1, .b a2, .u8 0, .u8 a4, .u8 0, .u8 0, .b false, .u8 a8, .s a9])
section
variable (call : CallT) (run : RunT) (a0 a1 : UInt8) (a2 : Bool) (a3 a4 a5 a6 : UInt8) (a7 : Bool) (a8 : UInt8) (a9 : List UInt8) (a10 a11 : UInt8) (a12 : Bool) (a13 a14 a15 a16 : UInt8) (a17 : Bool) (a18 : UInt8) (a19 : List UInt8)
theorem text28_3 : step C call 28 Tryd.f28 (unr C call run 28 Tryd.f28 400) K28_3 (S28_3 a0 a1 a2 a3 a4 a5 a6 a7 a8 a9 a10 a11 a12 a13 a14 a15 a16 a17 a18 a19) = X28_3 call run a0 a1 a2 a3 a4 a5 a6 a7 a8 a9 a10 a11 a12 a13 a14 a15 a16 a17 a18 a19 := by
  kernel_rfl
end
section
variable (a0 a1 : UInt8) (a2 : Bool) (a3 a4 a5 a6 : UInt8) (a7 : Bool) (a8 : UInt8) (a9 : List UInt8) (a10 a11 : UInt8) (a12 : Bool) (a13 a14 a15 a16 : UInt8) (a17 : Bool) (a18 : UInt8) (a19 : List UInt8)
theorem r28_3 {r : AV} (h : X28_3 (semCall C Tryd.prog) (semRun C Tryd.prog 28 Tryd.f28) a0 a1 a2 a3 a4 a5 a6 a7 a8 a9 a10 a11 a12 a13 a14 a15 a16 a17 a18 a19 = some r) : F28_3 (semRun C Tryd.prog 28 Tryd.f28) a0 a1 a2 a3 a4 a5 a6 a7 a8 a9 a10 a11 a12 a13 a14 a15 a16 a17 a18 a19 = some r :=
  semRun_unr 400 ((text28_3 _ _ a0 a1 a2 a3 a4 a5 a6 a7 a8 a9 a10 a11 a12 a13 a14 a15 a16 a17 a18 a19).trans h)
end
end R2

namespace R2
open Go Go.Proofs Sx
noncomputable def body29 : Code := (Tryd.f29.body).getD .skip
noncomputable def X29 (call : CallT) (run : RunT) (a0 a1 : UInt8) (a2 : Bool) (a3 a4 a5 a6 : UInt8) (a7 : Bool) (a8 : UInt8) (a9 : List UInt8) (a10 : AV) : Option AV :=
  (call 49 [.ag [.u8 a0, .u8 a1, .b a2, .u8 a3, .u8 a4, .u8 a5, .u8 a6, .b a7, .u8 a8, .s a9], a10, .fn 27]).bind fun v1 => (tupI (v1) 0).bind fun v2 => (tupI (v1) 1).bind fun v3 => (AV.asAg 10 (v2)).bind fun v4 => some (.tu [.ag [v4.getD 0 .un, v4.getD 1 .un, v4.getD 2 .un, v4.getD 3 .un, v4.getD 4 .un, v4.getD 5 .un, v4.getD 6 .un, v4.getD 7 .un, v4.getD 8 .un, v4.getD 9 .un], v3])
section
variable (call : CallT) (run : RunT) (a0 a1 : UInt8) (a2 : Bool) (a3 a4 a5 a6 : UInt8) (a7 : Bool) (a8 : UInt8) (a9 : List UInt8) (a10 : AV)
theorem text29 : unr C call run 29 Tryd.f29 400 [.code body29] (initF C 29 Tryd.f29.ntmps [.ag [.u8 a0, .u8 a1, .b a2, .u8 a3, .u8 a4, .u8 a5, .u8 a6, .b a7, .u8 a8, .s a9], a10]) = X29 call run a0 a1 a2 a3 a4 a5 a6 a7 a8 a9 a10 := by
  kernel_rfl
theorem c29 {r : AV} (h : X29 (semCall C Tryd.prog) (semRun C Tryd.prog 29 Tryd.f29) a0 a1 a2 a3 a4 a5 a6 a7 a8 a9 a10 = some r) : semCall C Tryd.prog 29 [.ag [.u8 a0, .u8 a1, .b a2, .u8 a3, .u8 a4, .u8 a5, .u8 a6, .b a7, .u8 a8, .s a9], a10] = some r :=
  semCall_unr (fn := Tryd.f29) (c := body29) (by kernel_rfl) (by kernel_rfl) 400 (by kernel_rfl) ((text29 _ _ a0 a1 a2 a3 a4 a5 a6 a7 a8 a9 a10).trans h)
end
end R2

namespace R2
open Go Go.Proofs Sx
noncomputable def body33 : Code := (Tryd.f33.body).getD .skip
noncomputable def X33 (call : CallT) (run : RunT)  : Option AV :=
  (call 34 [.ag [.u8 15, .u8 0, .b false, .u8 0, .u8 0, .u8 0, .u8 0, .b false, .u8 0, .s []]]).bind fun v1 => (tupI (v1) 0).bind fun v2 => (tupI (v1) 1).bind fun v3 => (binI .eql (v3) (.int 0)).bind fun v4 => (selW (v4) true ((binS .eql (v2) (.s [45, 45, 62])).bind fun v5 => some (v5)) (.b false)).bind fun v6 => some (v6)
section
variable (call : CallT) (run : RunT) 
theorem text33 : unr C call run 33 Tryd.f33 400 [.code body33] (initF C 33 Tryd.f33.ntmps []) = X33 call run  := by
  kernel_rfl
theorem c33 {r : AV} (h : X33 (semCall C Tryd.prog) (semRun C Tryd.prog 33 Tryd.f33)  = some r) : semCall C Tryd.prog 33 [] = some r :=
  semCall_unr (fn := Tryd.f33) (c := body33) (by kernel_rfl) (by kernel_rfl) 400 (by kernel_rfl) ((text33 _ _ ).trans h)
end
end R2

namespace R2
open Go Go.Proofs Sx
noncomputable def body34 : Code := (Tryd.f34.body).getD .skip
section
variable (run : RunT) 
noncomputable def K34_16 : List Item := (kAt 16 body34 []).getD []
def S34_16 : St := St.ofL [] []
noncomputable def F34_16 : Option AV := run K34_16 (S34_16 )
end
section
variable (run : RunT) (a0 a1 a2 : UInt8) (a3 : Bool) (a4 a5 a6 a7 : UInt8) (a8 : Bool) (a9 : UInt8) (a10 : List UInt8)
noncomputable def K34_17 : List Item := (kAt 17 body34 []).getD []
def S34_17 : St := St.ofL [(1, .cell (.ptr 1 0)), (9, .cell (.val (.u8 a0)))] [(1, some [.val (.u8 a1), .val (.u8 a2), .val (.b a3), .val (.u8 a4), .val (.u8 a5), .val (.u8 a6), .val (.u8 a7), .val (.b a8), .val (.u8 a9), .val (.s a10)])]
noncomputable def F34_17 : Option AV := run K34_17 (S34_17 a0 a1 a2 a3 a4 a5 a6 a7 a8 a9 a10)
end
section
variable (run : RunT) 
noncomputable def K34_20 : List Item := (kAt 20 body34 []).getD []
def S34_20 : St := St.ofL [] []
noncomputable def F34_20 : Option AV := run K34_20 (S34_20 )
end
section
variable (run : RunT) (a0 a1 a2 : UInt8) (a3 : Bool) (a4 a5 a6 a7 : UInt8) (a8 : Bool) (a9 : UInt8) (a10 : List UInt8)
noncomputable def K34_21 : List Item := (kAt 21 body34 []).getD []
def S34_21 : St := St.ofL [(1, .cell (.ptr 1 0)), (9, .cell (.val (.u8 a0)))] [(1, some [.val (.u8 a1), .val (.u8 a2), .val (.b a3), .val (.u8 a4), .val (.u8 a5), .val (.u8 a6), .val (.u8 a7), .val (.b a8), .val (.u8 a9), .val (.s a10)])]
noncomputable def F34_21 : Option AV := run K34_21 (S34_21 a0 a1 a2 a3 a4 a5 a6 a7 a8 a9 a10)
end
section
variable (run : RunT) (a0 a1 : UInt8) (a2 : Bool) (a3 a4 a5 a6 : UInt8) (a7 : Bool) (a8 : UInt8) (a9 : List UInt8)
noncomputable def K34_26 : List Item := (kAt 26 body34 []).getD []
def S34_26 : St := St.ofL [(1, .cell (.ptr 1 0))] [(1, some [.val (.u8 a0), .val (.u8 a1), .val (.b a2), .val (.u8 a3), .val (.u8 a4), .val (.u8 a5), .val (.u8 a6), .val (.b a7), .val (.u8 a8), .val (.s a9)])]
noncomputable def F34_26 : Option AV := run K34_26 (S34_26 a0 a1 a2 a3 a4 a5 a6 a7 a8 a9)
end
section
variable (run : RunT) (a0 a1 a2 : UInt8) (a3 : Bool) (a4 a5 a6 a7 : UInt8) (a8 : Bool) (a9 : UInt8) (a10 : List UInt8)
noncomputable def K34_27 : List Item := (kAt 27 body34 []).getD []
def S34_27 : St := St.ofL [(1, .cell (.ptr 1 0)), (9, .cell (.val (.u8 a0)))] [(1, some [.val (.u8 a1), .val (.u8 a2), .val (.b a3), .val (.u8 a4), .val (.u8 a5), .val (.u8 a6), .val (.u8 a7), .val (.b a8), .val (.u8 a9), .val (.s a10)])]
noncomputable def F34_27 : Option AV := run K34_27 (S34_27 a0 a1 a2 a3 a4 a5 a6 a7 a8 a9 a10)
end
section
variable (run : RunT) (a0 : AV) (a1 a2 : UInt8) (a3 : Bool) (a4 a5 a6 a7 : UInt8) (a8 : Bool) (a9 : UInt8) (a10 : List UInt8)
noncomputable def K34_33 : List Item := (kAt 33 body34 []).getD []
def S34_33 : St := St.ofL [(1, .cell (.ptr 1 0)), (4, .cell (.val (a0)))] [(1, some [.val (.u8 a1), .val (.u8 a2), .val (.b a3), .val (.u8 a4), .val (.u8 a5), .val (.u8 a6), .val (.u8 a7), .val (.b a8), .val (.u8 a9), .val (.s a10)])]
noncomputable def F34_33 : Option AV := run K34_33 (S34_33 a0 a1 a2 a3 a4 a5 a6 a7 a8 a9 a10)
end
section
variable (run : RunT) (a0 a1 : UInt8) (a2 : Bool) (a3 a4 a5 a6 : UInt8) (a7 : Bool) (a8 : UInt8) (a9 : List UInt8)
noncomputable def K34_37 : List Item := (kAt 37 body34 []).getD []
def S34_37 : St := St.ofL [(1, .cell (.ptr 1 0))] [(1, some [.val (.u8 a0), .val (.u8 a1), .val (.b a2), .val (.u8 a3), .val (.u8 a4), .val (.u8 a5), .val (.u8 a6), .val (.b a7), .val (.u8 a8), .val (.s a9)])]
noncomputable def F34_37 : Option AV := run K34_37 (S34_37 a0 a1 a2 a3 a4 a5 a6 a7 a8 a9)
end
section
variable (run : RunT) 
noncomputable def K34_38 : List Item := (kAt 38 body34 []).getD []
def S34_38 : St := St.ofL [] []
noncomputable def F34_38 : Option AV := run K34_38 (S34_38 )
end
noncomputable def X34 (call : CallT) (run : RunT) (a0 a1 : UInt8) (a2 : Bool) (a3 a4 a5 a6 : UInt8) (a7 : Bool) (a8 : UInt8) (a9 : List UInt8) : Option AV :=
  (call 21 [.ag [.u8 a0, .u8 a1, .b a2, .u8 a3, .u8 a4, .u8 a5, .u8 a6, .b a7, .u8 a8, .s a9]]).bind fun v1 => (unop .not (v1)).bind fun v2 => condM (v2)
  (some (.tu [.s [], .int 1]))
  (condM (.b (ueq a0 20))
  (some (.tu [.s [], .int 5]))
  (condM (.b (ueq a0 1))
  (some (.tu [.s [32], .int 0]))
  (condM (.b (ueq a0 3))
  (condM (.b a2)
  (some (.tu [.s [62], .int 0]))
  ((call 26 [.s a9]).bind fun v3 => (call 52 [v3]).bind fun v4 => (binS .add (.s [62]) (v4)).bind fun v5 => some (.tu [v5, .int 0])))
  (condM (.b (ueq a0 2))
  (F34_16 run)
  (condM (.b (ueq a0 11))
  (F34_16 run)
  (condM (.b (ueq a0 12))
  (F34_16 run)
  (condM (.b (ueq a0 16))
  (F34_16 run)
  (F34_17 run a0 a0 a1 a2 a3 a4 a5 a6 a7 a8 a9))))))))
section
variable (call : CallT) (run : RunT) (a0 a1 : UInt8) (a2 : Bool) (a3 a4 a5 a6 : UInt8) (a7 : Bool) (a8 : UInt8) (a9 : List UInt8)
theorem text34 : unr C call run 34 Tryd.f34 400 [.code body34] (initF C 34 Tryd.f34.ntmps [.ag [.u8 a0, .u8 a1, .b a2, .u8 a3, .u8 a4, .u8 a5, .u8 a6, .b a7, .u8 a8, .s a9]]) = X34 call run a0 a1 a2 a3 a4 a5 a6 a7 a8 a9 := by
  kernel_rfl
theorem c34 {r : AV} (h : X34 (semCall C Tryd.prog) (semRun C Tryd.prog 34 Tryd.f34) a0 a1 a2 a3 a4 a5 a6 a7 a8 a9 = some r) : semCall C Tryd.prog 34 [.ag [.u8 a0, .u8 a1, .b a2, .u8 a3, .u8 a4, .u8 a5, .u8 a6, .b a7, .u8 a8, .s a9]] = some r :=
  semCall_unr (fn := Tryd.f34) (c := body34) (by kernel_rfl) (by kernel_rfl) 400 (by kernel_rfl) ((text34 _ _ a0 a1 a2 a3 a4 a5 a6 a7 a8 a9).trans h)
end
noncomputable def X34_16 (call : CallT) (run : RunT)  : Option AV :=
  some (.tu [.s [62], .int 0])
section
variable (call : CallT) (run : RunT) 
theorem text34_16 : step C call 34 Tryd.f34 (unr C call run 34 Tryd.f34 400) K34_16 (S34_16 ) = X34_16 call run  := by
  kernel_rfl
end
noncomputable def X34_17 (call : CallT) (run : RunT) (a0 a1 a2 : UInt8) (a3 : Bool) (a4 a5 a6 a7 : UInt8) (a8 : Bool) (a9 : UInt8) (a10 : List UInt8) : Option AV :=
  condM (.b (ueq a0 13))
  (F34_20 run)
  (condM (.b (ueq a0 14))
  (F34_20 run)
  (condM (.b (ueq a0 15))
  (F34_20 run)
  (F34_21 run a0 a1 a2 a3 a4 a5 a6 a7 a8 a9 a10)))
section
variable (call : CallT) (run : RunT) (a0 a1 a2 : UInt8) (a3 : Bool) (a4 a5 a6 a7 : UInt8) (a8 : Bool) (a9 : UInt8) (a10 : List UInt8)
theorem text34_17 : step C call 34 Tryd.f34 (unr C call run 34 Tryd.f34 400) K34_17 (S34_17 a0 a1 a2 a3 a4 a5 a6 a7 a8 a9 a10) = X34_17 call run a0 a1 a2 a3 a4 a5 a6 a7 a8 a9 a10 := by
  kernel_rfl
end
noncomputable def X34_20 (call : CallT) (run : RunT)  : Option AV :=
  some (.tu [.s [45, 45, 62], .int 0])
section
variable (call : CallT) (run : RunT) 
theorem text34_20 : step C call 34 Tryd.f34 (unr C call run 34 Tryd.f34 400) K34_20 (S34_20 ) = X34_20 call run  := by
  kernel_rfl
end
noncomputable def X34_21 (call : CallT) (run : RunT) (a0 a1 a2 : UInt8) (a3 : Bool) (a4 a5 a6 a7 : UInt8) (a8 : Bool) (a9 : UInt8) (a10 : List UInt8) : Option AV :=
  condM (.b (ueq a0 4))
  (F34_26 run a1 a2 a3 a4 a5 a6 a7 a8 a9 a10)
  (condM (.b (ueq a0 5))
  (F34_26 run a1 a2 a3 a4 a5 a6 a7 a8 a9 a10)
  (condM (.b (ueq a0 6))
  (F34_26 run a1 a2 a3 a4 a5 a6 a7 a8 a9 a10)
  (condM (.b (ueq a0 9))
  (F34_26 run a1 a2 a3 a4 a5 a6 a7 a8 a9 a10)
  (condM (.b (ueq a0 10))
  (F34_26 run a1 a2 a3 a4 a5 a6 a7 a8 a9 a10)
  (F34_27 run a0 a1 a2 a3 a4 a5 a6 a7 a8 a9 a10)))))
section
variable (call : CallT) (run : RunT) (a0 a1 a2 : UInt8) (a3 : Bool) (a4 a5 a6 a7 : UInt8) (a8 : Bool) (a9 : UInt8) (a10 : List UInt8)
theorem text34_21 : step C call 34 Tryd.f34 (unr C call run 34 Tryd.f34 400) K34_21 (S34_21 a0 a1 a2 a3 a4 a5 a6 a7 a8 a9 a10) = X34_21 call run a0 a1 a2 a3 a4 a5 a6 a7 a8 a9 a10 := by
  kernel_rfl
end
noncomputable def X34_26 (call : CallT) (run : RunT) (a0 a1 : UInt8) (a2 : Bool) (a3 a4 a5 a6 : UInt8) (a7 : Bool) (a8 : UInt8) (a9 : List UInt8) : Option AV :=
  (call 52 [.u8 a1]).bind fun v1 => (binS .add (.s [62]) (v1)).bind fun v2 => some (.tu [v2, .int 0])
section
variable (call : CallT) (run : RunT) (a0 a1 : UInt8) (a2 : Bool) (a3 a4 a5 a6 : UInt8) (a7 : Bool) (a8 : UInt8) (a9 : List UInt8)
theorem text34_26 : step C call 34 Tryd.f34 (unr C call run 34 Tryd.f34 400) K34_26 (S34_26 a0 a1 a2 a3 a4 a5 a6 a7 a8 a9) = X34_26 call run a0 a1 a2 a3 a4 a5 a6 a7 a8 a9 := by
  kernel_rfl
end
noncomputable def X34_27 (call : CallT) (run : RunT) (a0 a1 a2 : UInt8) (a3 : Bool) (a4 a5 a6 a7 : UInt8) (a8 : Bool) (a9 : UInt8) (a10 : List UInt8) : Option AV :=
  condM (.b (ueq a0 7))
  ((call 52 [.u8 a2]).bind fun v1 => (binS .add (.s [34, 34, 62]) (v1)).bind fun v2 => some (.tu [v2, .int 0]))
  (condM (.b (ueq a0 8))
  (condM (.b (une a5 0))
  ((b2s (.ro 1 (([.u8 a5] : List AV)))).bind fun v3 => F34_33 run (v3) a1 a2 a3 a4 a5 a6 a7 a8 a9 a10)
  (F34_33 run (.s []) a1 a2 a3 a4 a5 a6 a7 a8 a9 a10))
  (condM (.b (ueq a0 17))
  (F34_37 run a1 a2 a3 a4 a5 a6 a7 a8 a9 a10)
  (condM (.b (ueq a0 18))
  (F34_37 run a1 a2 a3 a4 a5 a6 a7 a8 a9 a10)
  (condM (.b (ueq a0 19))
  (F34_37 run a1 a2 a3 a4 a5 a6 a7 a8 a9 a10)
  (F34_38 run)))))
section
variable (call : CallT) (run : RunT) (a0 a1 a2 : UInt8) (a3 : Bool) (a4 a5 a6 a7 : UInt8) (a8 : Bool) (a9 : UInt8) (a10 : List UInt8)
theorem text34_27 : step C call 34 Tryd.f34 (unr C call run 34 Tryd.f34 400) K34_27 (S34_27 a0 a1 a2 a3 a4 a5 a6 a7 a8 a9 a10) = X34_27 call run a0 a1 a2 a3 a4 a5 a6 a7 a8 a9 a10 := by
  kernel_rfl
end
noncomputable def X34_33 (call : CallT) (run : RunT) (a0 : AV) (a1 a2 : UInt8) (a3 : Bool) (a4 a5 a6 a7 : UInt8) (a8 : Bool) (a9 : UInt8) (a10 : List UInt8) : Option AV :=
  (call 53 [.ag [.u8 a1, .u8 a2, .b a3, .u8 a4, .u8 a5, .u8 a6, .u8 a7, .b a8, .u8 a9, .s a10]]).bind fun v1 => (binS .add (v1) (a0)).bind fun v2 => (binS .add (v2) (.s [62])).bind fun v3 => (call 52 [.u8 a2]).bind fun v4 => (binS .add (v3) (v4)).bind fun v5 => some (.tu [v5, .int 0])
section
variable (call : CallT) (run : RunT) (a0 : AV) (a1 a2 : UInt8) (a3 : Bool) (a4 a5 a6 a7 : UInt8) (a8 : Bool) (a9 : UInt8) (a10 : List UInt8)
theorem text34_33 : step C call 34 Tryd.f34 (unr C call run 34 Tryd.f34 400) K34_33 (S34_33 a0 a1 a2 a3 a4 a5 a6 a7 a8 a9 a10) = X34_33 call run a0 a1 a2 a3 a4 a5 a6 a7 a8 a9 a10 := by
  kernel_rfl
end
noncomputable def X34_37 (call : CallT) (run : RunT) (a0 a1 : UInt8) (a2 : Bool) (a3 a4 a5 a6 : UInt8) (a7 : Bool) (a8 : UInt8) (a9 : List UInt8) : Option AV :=
  (call 54 [.ag [.u8 a0, .u8 a1, .b a2, .u8 a3, .u8 a4, .u8 a5, .u8 a6, .b a7, .u8 a8, .s a9]]).bind fun v1 => some (.tu [v1, .int 0])
section
variable (call : CallT) (run : RunT) (a0 a1 : UInt8) (a2 : Bool) (a3 a4 a5 a6 : UInt8) (a7 : Bool) (a8 : UInt8) (a9 : List UInt8)
theorem text34_37 : step C call 34 Tryd.f34 (unr C call run 34 Tryd.f34 400) K34_37 (S34_37 a0 a1 a2 a3 a4 a5 a6 a7 a8 a9) = X34_37 call run a0 a1 a2 a3 a4 a5 a6 a7 a8 a9 := by
  kernel_rfl
end
noncomputable def X34_38 (call : CallT) (run : RunT)  : Option AV :=
  some (.tu [.s [], .int 0])
section
variable (call : CallT) (run : RunT) 
theorem text34_38 : step C call 34 Tryd.f34 (unr C call run 34 Tryd.f34 400) K34_38 (S34_38 ) = X34_38 call run  := by
  kernel_rfl
end
section
theorem r34_16 {r : AV} (h : X34_16 (semCall C Tryd.prog) (semRun C Tryd.prog 34 Tryd.f34)  = some r) : F34_16 (semRun C Tryd.prog 34 Tryd.f34)  = some r :=
  semRun_unr 400 ((text34_16 _ _ ).trans h)
end
section
variable (a0 a1 a2 : UInt8) (a3 : Bool) (a4 a5 a6 a7 : UInt8) (a8 : Bool) (a9 : UInt8) (a10 : List UInt8)
theorem r34_17 {r : AV} (h : X34_17 (semCall C Tryd.prog) (semRun C Tryd.prog 34 Tryd.f34) a0 a1 a2 a3 a4 a5 a6 a7 a8 a9 a10 = some r) : F34_17 (semRun C Tryd.prog 34 Tryd.f34) a0 a1 a2 a3 a4 a5 a6 a7 a8 a9 a10 = some r :=
  semRun_unr 400 ((text34_17 _ _ a0 a1 a2 a3 a4 a5 a6 a7 a8 a9 a10).trans h)
end
section
theorem r34_20 {r : AV} (h : X34_20 (semCall C Tryd.prog) (semRun C Tryd.prog 34 Tryd.f34)  = some r) : F34_20 (semRun C Tryd.prog 34 Tryd.f34)  = some r :=
  semRun_unr 400 ((text34_20 _ _ ).trans h)
end
section
variable (a0 a1 a2 : UInt8) (a3 : Bool) (a4 a5 a6 a7 : UInt8) (a8 : Bool) (a9 : UInt8) (a10 : List UInt8)
theorem r34_21 {r : AV} (h : X34_21 (semCall C Tryd.prog) (semRun C Tryd.prog 34 Tryd.f34) a0 a1 a2 a3 a4 a5 a6 a7 a8 a9 a10 = some r) : F34_21 (semRun C Tryd.prog 34 Tryd.f34) a0 a1 a2 a3 a4 a5 a6 a7 a8 a9 a10 = some r :=
  semRun_unr 400 ((text34_21 _ _ a0 a1 a2 a3 a4 a5 a6 a7 a8 a9 a10).trans h)
end
section
variable (a0 a1 : UInt8) (a2 : Bool) (a3 a4 a5 a6 : UInt8) (a7 : Bool) (a8 : UInt8) (a9 : List UInt8)
theorem r34_26 {r : AV} (h : X34_26 (semCall C Tryd.prog) (semRun C Tryd.prog 34 Tryd.f34) a0 a1 a2 a3 a4 a5 a6 a7 a8 a9 = some r) : F34_26 (semRun C Tryd.prog 34 Tryd.f34) a0 a1 a2 a3 a4 a5 a6 a7 a8 a9 = some r :=
  semRun_unr 400 ((text34_26 _ _ a0 a1 a2 a3 a4 a5 a6 a7 a8 a9).trans h)
end
section
variable (a0 a1 a2 : UInt8) (a3 : Bool) (a4 a5 a6 a7 : UInt8) (a8 : Bool) (a9 : UInt8) (a10 : List UInt8)
theorem r34_27 {r : AV} (h : X34_27 (semCall C Tryd.prog) (semRun C Tryd.prog 34 Tryd.f34) a0 a1 a2 a3 a4 a5 a6 a7 a8 a9 a10 = some r) : F34_27 (semRun C Tryd.prog 34 Tryd.f34) a0 a1 a2 a3 a4 a5 a6 a7 a8 a9 a10 = some r :=
  semRun_unr 400 ((text34_27 _ _ a0 a1 a2 a3 a4 a5 a6 a7 a8 a9 a10).trans h)
end
section
variable (a0 : AV) (a1 a2 : UInt8) (a3 : Bool) (a4 a5 a6 a7 : UInt8) (a8 : Bool) (a9 : UInt8) (a10 : List UInt8)
theorem r34_33 {r : AV} (h : X34_33 (semCall C Tryd.prog) (semRun C Tryd.prog 34 Tryd.f34) a0 a1 a2 a3 a4 a5 a6 a7 a8 a9 a10 = some r) : F34_33 (semRun C Tryd.prog 34 Tryd.f34) a0 a1 a2 a3 a4 a5 a6 a7 a8 a9 a10 = some r :=
  semRun_unr 400 ((text34_33 _ _ a0 a1 a2 a3 a4 a5 a6 a7 a8 a9 a10).trans h)
end
section
variable (a0 a1 : UInt8) (a2 : Bool) (a3 a4 a5 a6 : UInt8) (a7 : Bool) (a8 : UInt8) (a9 : List UInt8)
theorem r34_37 {r : AV} (h : X34_37 (semCall C Tryd.prog) (semRun C Tryd.prog 34 Tryd.f34) a0 a1 a2 a3 a4 a5 a6 a7 a8 a9 = some r) : F34_37 (semRun C Tryd.prog 34 Tryd.f34) a0 a1 a2 a3 a4 a5 a6 a7 a8 a9 = some r :=
  semRun_unr 400 ((text34_37 _ _ a0 a1 a2 a3 a4 a5 a6 a7 a8 a9).trans h)
end
section
theorem r34_38 {r : AV} (h : X34_38 (semCall C Tryd.prog) (semRun C Tryd.prog 34 Tryd.f34)  = some r) : F34_38 (semRun C Tryd.prog 34 Tryd.f34)  = some r :=
  semRun_unr 400 ((text34_38 _ _ ).trans h)
end
end R2

namespace R2
open Go Go.Proofs Sx
noncomputable def body52 : Code := (Tryd.f52.body).getD .skip
noncomputable def X52 (call : CallT) (run : RunT) (a0 : UInt8) : Option AV :=
  condM (.b (ueq a0 0))
  (some (.s []))
  ((call 77 [.u8 a0]).bind fun v1 => (binS .add (.s [60, 47]) (v1)).bind fun v2 => (binS .add (v2) (.s [62])).bind fun v3 => some (v3))
section
variable (call : CallT) (run : RunT) (a0 : UInt8)
theorem text52 : unr C call run 52 Tryd.f52 400 [.code body52] (initF C 52 Tryd.f52.ntmps [.u8 a0]) = X52 call run a0 := by
  kernel_rfl
theorem c52 {r : AV} (h : X52 (semCall C Tryd.prog) (semRun C Tryd.prog 52 Tryd.f52) a0 = some r) : semCall C Tryd.prog 52 [.u8 a0] = some r :=
  semCall_unr (fn := Tryd.f52) (c := body52) (by kernel_rfl) (by kernel_rfl) 400 (by kernel_rfl) ((text52 _ _ a0).trans h)
end
end R2

namespace R2
open Go Go.Proofs Sx
noncomputable def body53 : Code := (Tryd.f53.body).getD .skip
section
variable (run : RunT) (a0 : List UInt8) (a1 a2 : UInt8) (a3 : Bool) (a4 a5 a6 a7 : UInt8) (a8 : Bool) (a9 : UInt8) (a10 : List UInt8)
noncomputable def K53_4 : List Item := (kAt 4 body53 []).getD []
def S53_4 : St := St.ofL [(1, .cell (.ptr 1 0)), (3, .cell (.val (.s a0)))] [(1, some [.val (.u8 a1), .val (.u8 a2), .val (.b a3), .val (.u8 a4), .val (.u8 a5), .val (.u8 a6), .val (.u8 a7), .val (.b a8), .val (.u8 a9), .val (.s a10)])]
noncomputable def F53_4 : Option AV := run K53_4 (S53_4 a0 a1 a2 a3 a4 a5 a6 a7 a8 a9 a10)
end
section
variable (run : RunT) (a0 : List UInt8) (a1 : Bool) (a2 a3 : UInt8) (a4 : Bool) (a5 a6 a7 a8 : UInt8) (a9 : Bool) (a10 : UInt8) (a11 : List UInt8)
noncomputable def K53_7 : List Item := (kAt 7 body53 []).getD []
def S53_7 : St := St.ofL [(1, .cell (.ptr 1 0)), (3, .cell (.val (.s a0))), (4, .cell (.val (.b a1)))] [(1, some [.val (.u8 a2), .val (.u8 a3), .val (.b a4), .val (.u8 a5), .val (.u8 a6), .val (.u8 a7), .val (.u8 a8), .val (.b a9), .val (.u8 a10), .val (.s a11)])]
noncomputable def F53_7 : Option AV := run K53_7 (S53_7 a0 a1 a2 a3 a4 a5 a6 a7 a8 a9 a10 a11)
end
noncomputable def X53 (call : CallT) (run : RunT) (a0 a1 : UInt8) (a2 : Bool) (a3 a4 a5 a6 : UInt8) (a7 : Bool) (a8 : UInt8) (a9 : List UInt8) : Option AV :=
  condM (.b a7)
  (F53_4 run [110] a0 a1 a2 a3 a4 a5 a6 a7 a8 a9)
  (F53_4 run [] a0 a1 a2 a3 a4 a5 a6 a7 a8 a9)
section
variable (call : CallT) (run : RunT) (a0 a1 : UInt8) (a2 : Bool) (a3 a4 a5 a6 : UInt8) (a7 : Bool) (a8 : UInt8) (a9 : List UInt8)
theorem text53 : unr C call run 53 Tryd.f53 400 [.code body53] (initF C 53 Tryd.f53.ntmps [.ag [.u8 a0, .u8 a1, .b a2, .u8 a3, .u8 a4, .u8 a5, .u8 a6, .b a7, .u8 a8, .s a9]]) = X53 call run a0 a1 a2 a3 a4 a5 a6 a7 a8 a9 := by
  kernel_rfl
theorem c53 {r : AV} (h : X53 (semCall C Tryd.prog) (semRun C Tryd.prog 53 Tryd.f53) a0 a1 a2 a3 a4 a5 a6 a7 a8 a9 = some r) : semCall C Tryd.prog 53 [.ag [.u8 a0, .u8 a1, .b a2, .u8 a3, .u8 a4, .u8 a5, .u8 a6, .b a7, .u8 a8, .s a9]] = some r :=
  semCall_unr (fn := Tryd.f53) (c := body53) (by kernel_rfl) (by kernel_rfl) 400 (by kernel_rfl) ((text53 _ _ a0 a1 a2 a3 a4 a5 a6 a7 a8 a9).trans h)
end
noncomputable def X53_4 (call : CallT) (run : RunT) (a0 : List UInt8) (a1 a2 : UInt8) (a3 : Bool) (a4 a5 a6 a7 : UInt8) (a8 : Bool) (a9 : UInt8) (a10 : List UInt8) : Option AV :=
  condM (.b (ueq a1 8))
  (F53_7 run a0 (ueq a4 2) a1 a2 a3 a4 a5 a6 a7 a8 a9 a10)
  (F53_7 run a0 (ueq a2 3) a1 a2 a3 a4 a5 a6 a7 a8 a9 a10)
section
variable (call : CallT) (run : RunT) (a0 : List UInt8) (a1 a2 : UInt8) (a3 : Bool) (a4 a5 a6 a7 : UInt8) (a8 : Bool) (a9 : UInt8) (a10 : List UInt8)
theorem text53_4 : step C call 53 Tryd.f53 (unr C call run 53 Tryd.f53 400) K53_4 (S53_4 a0 a1 a2 a3 a4 a5 a6 a7 a8 a9 a10) = X53_4 call run a0 a1 a2 a3 a4 a5 a6 a7 a8 a9 a10 := by
  kernel_rfl
end
noncomputable def X53_7 (call : CallT) (run : RunT) (a0 : List UInt8) (a1 : Bool) (a2 a3 : UInt8) (a4 : Bool) (a5 a6 a7 a8 : UInt8) (a9 : Bool) (a10 : UInt8) (a11 : List UInt8) : Option AV :=
  condM (.b (ueq a8 1))
  ((binS .add (.s a0) (.s [34])).bind fun v1 => some (v1))
  (condM (.b (ueq a8 2))
  ((binS .add (.s a0) (.s [39])).bind fun v2 => some (v2))
  (condM (.b (ueq a8 3))
  (condM (.b a1)
  (some (.s [47]))
  (some (.s [120])))
  (condM (.b (ueq a8 5))
  (some (.s [42, 47]))
  (condM (.b (ueq a8 6))
  (some (.s [47]))
  (some (.s []))))))
section
variable (call : CallT) (run : RunT) (a0 : List UInt8) (a1 : Bool) (a2 a3 : UInt8) (a4 : Bool) (a5 a6 a7 a8 : UInt8) (a9 : Bool) (a10 : UInt8) (a11 : List UInt8)
theorem text53_7 : step C call 53 Tryd.f53 (unr C call run 53 Tryd.f53 400) K53_7 (S53_7 a0 a1 a2 a3 a4 a5 a6 a7 a8 a9 a10 a11) = X53_7 call run a0 a1 a2 a3 a4 a5 a6 a7 a8 a9 a10 a11 := by
  kernel_rfl
end
section
variable (a0 : List UInt8) (a1 a2 : UInt8) (a3 : Bool) (a4 a5 a6 a7 : UInt8) (a8 : Bool) (a9 : UInt8) (a10 : List UInt8)
theorem r53_4 {r : AV} (h : X53_4 (semCall C Tryd.prog) (semRun C Tryd.prog 53 Tryd.f53) a0 a1 a2 a3 a4 a5 a6 a7 a8 a9 a10 = some r) : F53_4 (semRun C Tryd.prog 53 Tryd.f53) a0 a1 a2 a3 a4 a5 a6 a7 a8 a9 a10 = some r :=
  semRun_unr 400 ((text53_4 _ _ a0 a1 a2 a3 a4 a5 a6 a7 a8 a9 a10).trans h)
end
section
variable (a0 : List UInt8) (a1 : Bool) (a2 a3 : UInt8) (a4 : Bool) (a5 a6 a7 a8 : UInt8) (a9 : Bool) (a10 : UInt8) (a11 : List UInt8)
theorem r53_7 {r : AV} (h : X53_7 (semCall C Tryd.prog) (semRun C Tryd.prog 53 Tryd.f53) a0 a1 a2 a3 a4 a5 a6 a7 a8 a9 a10 a11 = some r) : F53_7 (semRun C Tryd.prog 53 Tryd.f53) a0 a1 a2 a3 a4 a5 a6 a7 a8 a9 a10 a11 = some r :=
  semRun_unr 400 ((text53_7 _ _ a0 a1 a2 a3 a4 a5 a6 a7 a8 a9 a10 a11).trans h)
end
end R2

namespace R2
open Go Go.Proofs Sx
noncomputable def body54 : Code := (Tryd.f54.body).getD .skip
noncomputable def X54 (call : CallT) (run : RunT) (a0 a1 : UInt8) (a2 : Bool) (a3 a4 a5 a6 : UInt8) (a7 : Bool) (a8 : UInt8) (a9 : List UInt8) : Option AV :=
  condM (.b (une a0 19))
  ((call 53 [.ag [.u8 a0, .u8 a1, .b a2, .u8 a3, .u8 a4, .u8 a5, .u8 a6, .b a7, .u8 a8, .s a9]]).bind fun v1 => (call 52 [.u8 a1]).bind fun v2 => (binS .add (v1) (v2)).bind fun v3 => some (v3))
  ((selW (.b (ueq a6 0)) false (some (.b (ueq a6 4))) (.b true)).bind fun v4 => condM (v4)
  ((call 77 [.u8 a1]).bind fun v5 => (call 78 [v5, .s a9]).bind fun v6 => (binS .add (v6) (.s [62])).bind fun v7 => some (v7))
  ((binS .add (.s [47]) (.s a9)).bind fun v8 => (s2b (v8)).bind fun v9 => (call 23 [.ag [.u8 17, .u8 a1, .b false, .u8 0, .u8 0, .u8 0, .u8 a6, .b a7, .u8 0, .s []], v9]).bind fun v10 => (tupI (v10) 0).bind fun v11 => (tupI (v10) 1).bind fun v12 => (AV.asAg 10 (v11)).bind fun v13 => (call 53 [.ag [v13.getD 0 .un, v13.getD 1 .un, v13.getD 2 .un, v13.getD 3 .un, v13.getD 4 .un, v13.getD 5 .un, v13.getD 6 .un, v13.getD 7 .un, v13.getD 8 .un, v13.getD 9 .un]]).bind fun v14 => (call 52 [.u8 a1]).bind fun v15 => (binS .add (v14) (v15)).bind fun v16 => some (v16)))
section
variable (call : CallT) (run : RunT) (a0 a1 : UInt8) (a2 : Bool) (a3 a4 a5 a6 : UInt8) (a7 : Bool) (a8 : UInt8) (a9 : List UInt8)
theorem text54 : unr C call run 54 Tryd.f54 400 [.code body54] (initF C 54 Tryd.f54.ntmps [.ag [.u8 a0, .u8 a1, .b a2, .u8 a3, .u8 a4, .u8 a5, .u8 a6, .b a7, .u8 a8, .s a9]]) = X54 call run a0 a1 a2 a3 a4 a5 a6 a7 a8 a9 := by
  kernel_rfl
theorem c54 {r : AV} (h : X54 (semCall C Tryd.prog) (semRun C Tryd.prog 54 Tryd.f54) a0 a1 a2 a3 a4 a5 a6 a7 a8 a9 = some r) : semCall C Tryd.prog 54 [.ag [.u8 a0, .u8 a1, .b a2, .u8 a3, .u8 a4, .u8 a5, .u8 a6, .b a7, .u8 a8, .s a9]] = some r :=
  semCall_unr (fn := Tryd.f54) (c := body54) (by kernel_rfl) (by kernel_rfl) 400 (by kernel_rfl) ((text54 _ _ a0 a1 a2 a3 a4 a5 a6 a7 a8 a9).trans h)
end
end R2

namespace R2
open Go Go.Proofs Sx
noncomputable def body78 : Code := (Tryd.f78.body).getD .skip
noncomputable def X78 (call : CallT) (run : RunT) (a0 a1 : List UInt8) : Option AV :=
  (call 99 [.s a0, .s a1]).bind fun v1 => some (v1)
section
variable (call : CallT) (run : RunT) (a0 a1 : List UInt8)
theorem text78 : unr C call run 78 Tryd.f78 400 [.code body78] (initF C 78 Tryd.f78.ntmps [.s a0, .s a1]) = X78 call run a0 a1 := by
  kernel_rfl
theorem c78 {r : AV} (h : X78 (semCall C Tryd.prog) (semRun C Tryd.prog 78 Tryd.f78) a0 a1 = some r) : semCall C Tryd.prog 78 [.s a0, .s a1] = some r :=
  semCall_unr (fn := Tryd.f78) (c := body78) (by kernel_rfl) (by kernel_rfl) 400 (by kernel_rfl) ((text78 _ _ a0 a1).trans h)
end
end R2

namespace R2
open Go Go.Proofs Sx
noncomputable def body99 : Code := (Tryd.f99.body).getD .skip
noncomputable def X99 (call : CallT) (run : RunT) (a0 a1 : List UInt8) : Option AV :=
  (call 98 [.s a0, .s a1]).bind fun v1 => condM (v1)
  ((slS (.s a0) (some (.int ((a1.length : Int)))) none).bind fun v2 => some (v2))
  (some (.s a0))
section
variable (call : CallT) (run : RunT) (a0 a1 : List UInt8)
theorem text99 : unr C call run 99 Tryd.f99 400 [.code body99] (initF C 99 Tryd.f99.ntmps [.s a0, .s a1]) = X99 call run a0 a1 := by
  kernel_rfl
theorem c99 {r : AV} (h : X99 (semCall C Tryd.prog) (semRun C Tryd.prog 99 Tryd.f99) a0 a1 = some r) : semCall C Tryd.prog 99 [.s a0, .s a1] = some r :=
  semCall_unr (fn := Tryd.f99) (c := body99) (by kernel_rfl) (by kernel_rfl) 400 (by kernel_rfl) ((text99 _ _ a0 a1).trans h)
end
end R2

namespace R2
open Go Go.Proofs Sx
noncomputable def body59 : Code := (Tryd.f59.body).getD .skip
noncomputable def X59 (call : CallT) (run : RunT) (a0 : UInt8) (a1 : List UInt8) (a2 : AV) (a3 : List UInt8) (a4 : List AV) : Option AV :=
  (app 64 4 a4 (.ro 4 (([.ag [.u8 a0, .s a1, a2, .s a3]] : List AV)))).bind fun v1 => some (.tu [.b true, .ag [.ro 4 v1]])
section
variable (call : CallT) (run : RunT) (a0 : UInt8) (a1 : List UInt8) (a2 : AV) (a3 : List UInt8) (a4 : List AV)
theorem text59 : unr C call run 59 Tryd.f59 400 [.code body59] (initF C 59 Tryd.f59.ntmps [.ag [.u8 a0, .s a1, a2, .s a3], .un, .ag [.ro 4 a4]]) = X59 call run a0 a1 a2 a3 a4 := by
  kernel_rfl
theorem c59 {r : AV} (h : X59 (semCall C Tryd.prog) (semRun C Tryd.prog 59 Tryd.f59) a0 a1 a2 a3 a4 = some r) : semCall C Tryd.prog 59 [.ag [.u8 a0, .s a1, a2, .s a3], .un, .ag [.ro 4 a4]] = some r :=
  semCall_unr (fn := Tryd.f59) (c := body59) (by kernel_rfl) (by kernel_rfl) 400 (by kernel_rfl) ((text59 _ _ a0 a1 a2 a3 a4).trans h)
end
end R2

namespace R2
open Go Go.Proofs Sx
noncomputable def body80 : Code := (Tryd.f80.body).getD .skip
section
variable (run : RunT) (a0 a1 a2 a3 a4 a5 a6 a7 a8 a9 : AV) (a10 a11 : List AV) (a12 a13 a14 a15 a16 a17 : AV) (a18 : List AV)
noncomputable def K80_2 : List Item := (kAt 2 body80 []).getD []
def S80_2 : St := St.ofL [(0, .cell (.ptr 22 0))] [(22, some [.val (a0), .val (a1), .val (a2), .val (a3), .val (a4), .val (a5), .val (a6), .val (a7), .val (a8), .val (a9), .own 622010 5 1 a10, .own 622011 5 1 a11, .val (a12), .val (a13), .val (a14), .val (a15), .val (a16), .clo 59 [23], .val (a17)]), (23, some [.own 623000 74 4 a18])]
noncomputable def F80_2 : Option AV := run K80_2 (S80_2 a0 a1 a2 a3 a4 a5 a6 a7 a8 a9 a10 a11 a12 a13 a14 a15 a16 a17 a18)
end
noncomputable def X80 (call : CallT) (run : RunT) (a0 a1 : UInt8) (a2 : Bool) (a3 a4 a5 a6 : UInt8) (a7 : Bool) (a8 : UInt8) (a9 : List UInt8) (a10 a11 : List AV) (a12 : Bool) (a13 : UInt8) (a14 : List UInt8) (a15 : AV) (a16 : List UInt8) (a17 : Bool) (a18 : List AV) : Option AV :=
  condM (.b (decide (((a10.length : Int)) > 0)))
  ((b2s (.ro 1 a10)).bind fun v1 => (AV.one (v1)).bind fun v2 => (call 104 [.un, .ag [.u8 0, .s [], .nils, v2], .ag [.u8 a0, .u8 a1, .b a2, .u8 a3, .u8 a4, .u8 a5, .u8 a6, .b a7, .u8 a8, .s a9, .ro 1 a10, .ro 1 a11, .b a12, .u8 a13, .s a14, a15, .s a16, .un, .b a17], .ag [.ro 4 a18]]).bind fun v3 => (tupI v3 0).bind fun v4 => (tupI v3 1).bind fun v5 => (AV.asAg 19 v5).bind fun v6 => (tupI v3 2).bind fun v7 => (AV.asAg 1 v7).bind fun v8 => F80_2 run (v6.getD 0 .un) (v6.getD 1 .un) (v6.getD 2 .un) (v6.getD 3 .un) (v6.getD 4 .un) (v6.getD 5 .un) (v6.getD 6 .un) (v6.getD 7 .un) (v6.getD 8 .un) (v6.getD 9 .un) (AV.elems (v6.getD 10 .un)) (AV.elems (v6.getD 11 .un)) (v6.getD 12 .un) (v6.getD 13 .un) (v6.getD 14 .un) (v6.getD 15 .un) (v6.getD 16 .un) (v6.getD 18 .un) (AV.elems (v8.getD 0 .un)))
  (F80_2 run (.u8 a0) (.u8 a1) (.b a2) (.u8 a3) (.u8 a4) (.u8 a5) (.u8 a6) (.b a7) (.u8 a8) (.s a9) a10 a11 (.b a12) (.u8 a13) (.s a14) (a15) (.s a16) (.b a17) a18)
section
variable (call : CallT) (run : RunT) (a0 a1 : UInt8) (a2 : Bool) (a3 a4 a5 a6 : UInt8) (a7 : Bool) (a8 : UInt8) (a9 : List UInt8) (a10 a11 : List AV) (a12 : Bool) (a13 : UInt8) (a14 : List UInt8) (a15 : AV) (a16 : List UInt8) (a17 : Bool) (a18 : List AV)
theorem text80 : unr C call run 80 Tryd.f80 400 [.code body80] (initF C 80 Tryd.f80.ntmps [.un, .ag [.u8 a0, .u8 a1, .b a2, .u8 a3, .u8 a4, .u8 a5, .u8 a6, .b a7, .u8 a8, .s a9, .ro 1 a10, .ro 1 a11, .b a12, .u8 a13, .s a14, a15, .s a16, .un, .b a17], .ag [.ro 4 a18]]) = X80 call run a0 a1 a2 a3 a4 a5 a6 a7 a8 a9 a10 a11 a12 a13 a14 a15 a16 a17 a18 := by
  kernel_rfl
theorem c80 {r : AV} (h : X80 (semCall C Tryd.prog) (semRun C Tryd.prog 80 Tryd.f80) a0 a1 a2 a3 a4 a5 a6 a7 a8 a9 a10 a11 a12 a13 a14 a15 a16 a17 a18 = some r) : semCall C Tryd.prog 80 [.un, .ag [.u8 a0, .u8 a1, .b a2, .u8 a3, .u8 a4, .u8 a5, .u8 a6, .b a7, .u8 a8, .s a9, .ro 1 a10, .ro 1 a11, .b a12, .u8 a13, .s a14, a15, .s a16, .un, .b a17], .ag [.ro 4 a18]] = some r :=
  semCall_unr (fn := Tryd.f80) (c := body80) (by kernel_rfl) (by kernel_rfl) 400 (by kernel_rfl) ((text80 _ _ a0 a1 a2 a3 a4 a5 a6 a7 a8 a9 a10 a11 a12 a13 a14 a15 a16 a17 a18).trans h)
end
noncomputable def X80_2 (call : CallT) (run : RunT) (a0 a1 a2 a3 a4 a5 a6 a7 a8 a9 : AV) (a10 a11 : List AV) (a12 a13 a14 a15 a16 a17 : AV) (a18 : List AV) : Option AV :=
  some (.tu [.tu [], .ag [a0, a1, a2, a3, a4, a5, a6, a7, a8, a9, .ro 1 [], .ro 1 [], a12, a13, a14, a15, a16, .un, a17], .ag [.ro 4 a18]])
section
variable (call : CallT) (run : RunT) (a0 a1 a2 a3 a4 a5 a6 a7 a8 a9 : AV) (a10 a11 : List AV) (a12 a13 a14 a15 a16 a17 : AV) (a18 : List AV)
theorem text80_2 : step C call 80 Tryd.f80 (unr C call run 80 Tryd.f80 400) K80_2 (S80_2 a0 a1 a2 a3 a4 a5 a6 a7 a8 a9 a10 a11 a12 a13 a14 a15 a16 a17 a18) = X80_2 call run a0 a1 a2 a3 a4 a5 a6 a7 a8 a9 a10 a11 a12 a13 a14 a15 a16 a17 a18 := by
  kernel_rfl
end
section
variable (a0 a1 a2 a3 a4 a5 a6 a7 a8 a9 : AV) (a10 a11 : List AV) (a12 a13 a14 a15 a16 a17 : AV) (a18 : List AV)
theorem r80_2 {r : AV} (h : X80_2 (semCall C Tryd.prog) (semRun C Tryd.prog 80 Tryd.f80) a0 a1 a2 a3 a4 a5 a6 a7 a8 a9 a10 a11 a12 a13 a14 a15 a16 a17 a18 = some r) : F80_2 (semRun C Tryd.prog 80 Tryd.f80) a0 a1 a2 a3 a4 a5 a6 a7 a8 a9 a10 a11 a12 a13 a14 a15 a16 a17 a18 = some r :=
  semRun_unr 400 ((text80_2 _ _ a0 a1 a2 a3 a4 a5 a6 a7 a8 a9 a10 a11 a12 a13 a14 a15 a16 a17 a18).trans h)
end
end R2

namespace R2
open Go Go.Proofs Sx
noncomputable def body104 : Code := (Tryd.f104.body).getD .skip
noncomputable def X104 (call : CallT) (run : RunT) (a0 : UInt8) (a1 : List UInt8) (a2 : AV) (a3 : List UInt8) (a4 a5 : UInt8) (a6 : Bool) (a7 a8 a9 a10 : UInt8) (a11 : Bool) (a12 : UInt8) (a13 : List UInt8) (a14 a15 : List AV) (a16 : Bool) (a17 : UInt8) (a18 : List UInt8) (a19 : AV) (a20 : List UInt8) (a21 : Bool) (a22 : List AV) : Option AV :=
  condM (.b (!a21))
  ((call 59 [.ag [.u8 a0, .s a1, a2, .s a3], .un, .ag [.ro 4 a22]]).bind fun v1 => (tupI v1 0).bind fun v2 => (tupI v1 1).bind fun v3 => (AV.asAg 1 v3).bind fun v4 => (unop .not (v2)).bind fun v5 => condM (v5)
  (some (.tu [.tu [], .ag [.u8 a4, .u8 a5, .b a6, .u8 a7, .u8 a8, .u8 a9, .u8 a10, .b a11, .u8 a12, .s a13, .ro 1 a14, .ro 1 a15, .b a16, .u8 a17, .s a18, a19, .s a20, .un, .b true], .ag [.ro 4 (AV.elems (v4.getD 0 .un))]]))
  (some (.tu [.tu [], .ag [.u8 a4, .u8 a5, .b a6, .u8 a7, .u8 a8, .u8 a9, .u8 a10, .b a11, .u8 a12, .s a13, .ro 1 a14, .ro 1 a15, .b a16, .u8 a17, .s a18, a19, .s a20, .un, .b a21], .ag [.ro 4 (AV.elems (v4.getD 0 .un))]])))
  (some (.tu [.tu [], .ag [.u8 a4, .u8 a5, .b a6, .u8 a7, .u8 a8, .u8 a9, .u8 a10, .b a11, .u8 a12, .s a13, .ro 1 a14, .ro 1 a15, .b a16, .u8 a17, .s a18, a19, .s a20, .un, .b a21], .ag [.ro 4 a22]]))
section
variable (call : CallT) (run : RunT) (a0 : UInt8) (a1 : List UInt8) (a2 : AV) (a3 : List UInt8) (a4 a5 : UInt8) (a6 : Bool) (a7 a8 a9 a10 : UInt8) (a11 : Bool) (a12 : UInt8) (a13 : List UInt8) (a14 a15 : List AV) (a16 : Bool) (a17 : UInt8) (a18 : List UInt8) (a19 : AV) (a20 : List UInt8) (a21 : Bool) (a22 : List AV)
theorem text104 : unr C call run 104 Tryd.f104 400 [.code body104] (initF C 104 Tryd.f104.ntmps [.un, .ag [.u8 a0, .s a1, a2, .s a3], .ag [.u8 a4, .u8 a5, .b a6, .u8 a7, .u8 a8, .u8 a9, .u8 a10, .b a11, .u8 a12, .s a13, .ro 1 a14, .ro 1 a15, .b a16, .u8 a17, .s a18, a19, .s a20, .un, .b a21], .ag [.ro 4 a22]]) = X104 call run a0 a1 a2 a3 a4 a5 a6 a7 a8 a9 a10 a11 a12 a13 a14 a15 a16 a17 a18 a19 a20 a21 a22 := by
  kernel_rfl
theorem c104 {r : AV} (h : X104 (semCall C Tryd.prog) (semRun C Tryd.prog 104 Tryd.f104) a0 a1 a2 a3 a4 a5 a6 a7 a8 a9 a10 a11 a12 a13 a14 a15 a16 a17 a18 a19 a20 a21 a22 = some r) : semCall C Tryd.prog 104 [.un, .ag [.u8 a0, .s a1, a2, .s a3], .ag [.u8 a4, .u8 a5, .b a6, .u8 a7, .u8 a8, .u8 a9, .u8 a10, .b a11, .u8 a12, .s a13, .ro 1 a14, .ro 1 a15, .b a16, .u8 a17, .s a18, a19, .s a20, .un, .b a21], .ag [.ro 4 a22]] = some r :=
  semCall_unr (fn := Tryd.f104) (c := body104) (by kernel_rfl) (by kernel_rfl) 400 (by kernel_rfl) ((text104 _ _ a0 a1 a2 a3 a4 a5 a6 a7 a8 a9 a10 a11 a12 a13 a14 a15 a16 a17 a18 a19 a20 a21 a22).trans h)
end
end R2

namespace R2
open Go Go.Proofs Sx
noncomputable def body109 : Code := (Tryd.f109.body).getD .skip
noncomputable def X109 (call : CallT) (run : RunT) (a0 : AV) (a1 a2 : UInt8) (a3 : Bool) (a4 a5 a6 a7 : UInt8) (a8 : Bool) (a9 : UInt8) (a10 : List UInt8) (a11 a12 : List AV) (a13 : Bool) (a14 : UInt8) (a15 : List UInt8) (a16 : List AV) (a17 : List UInt8) (a18 : Bool) (a19 : List AV) : Option AV :=
  (app 1 1 a11 (.ro 1 a12)).bind fun v1 => (app 1 1 v1 (a0)).bind fun v2 => some (.tu [.tu [], .ag [.u8 a1, .u8 a2, .b a3, .u8 a4, .u8 a5, .u8 a6, .u8 a7, .b a8, .u8 a9, .s a10, .ro 1 v2, .ro 1 [], .b a13, .u8 a14, .s a15, .ro 2 a16, .s a17, .un, .b a18], .ag [.ro 4 a19]])
section
variable (call : CallT) (run : RunT) (a0 : AV) (a1 a2 : UInt8) (a3 : Bool) (a4 a5 a6 a7 : UInt8) (a8 : Bool) (a9 : UInt8) (a10 : List UInt8) (a11 a12 : List AV) (a13 : Bool) (a14 : UInt8) (a15 : List UInt8) (a16 : List AV) (a17 : List UInt8) (a18 : Bool) (a19 : List AV)
theorem text109 : unr C call run 109 Tryd.f109 400 [.code body109] (initF C 109 Tryd.f109.ntmps [.un, a0, .ag [.u8 a1, .u8 a2, .b a3, .u8 a4, .u8 a5, .u8 a6, .u8 a7, .b a8, .u8 a9, .s a10, .ro 1 a11, .ro 1 a12, .b a13, .u8 a14, .s a15, .ro 2 a16, .s a17, .un, .b a18], .ag [.ro 4 a19]]) = X109 call run a0 a1 a2 a3 a4 a5 a6 a7 a8 a9 a10 a11 a12 a13 a14 a15 a16 a17 a18 a19 := by
  kernel_rfl
theorem c109 {r : AV} (h : X109 (semCall C Tryd.prog) (semRun C Tryd.prog 109 Tryd.f109) a0 a1 a2 a3 a4 a5 a6 a7 a8 a9 a10 a11 a12 a13 a14 a15 a16 a17 a18 a19 = some r) : semCall C Tryd.prog 109 [.un, a0, .ag [.u8 a1, .u8 a2, .b a3, .u8 a4, .u8 a5, .u8 a6, .u8 a7, .b a8, .u8 a9, .s a10, .ro 1 a11, .ro 1 a12, .b a13, .u8 a14, .s a15, .ro 2 a16, .s a17, .un, .b a18], .ag [.ro 4 a19]] = some r :=
  semCall_unr (fn := Tryd.f109) (c := body109) (by kernel_rfl) (by kernel_rfl) 400 (by kernel_rfl) ((text109 _ _ a0 a1 a2 a3 a4 a5 a6 a7 a8 a9 a10 a11 a12 a13 a14 a15 a16 a17 a18 a19).trans h)
end
end R2

namespace R2
open Go Go.Proofs Sx
noncomputable def body110 : Code := (Tryd.f110.body).getD .skip
noncomputable def X110 (call : CallT) (run : RunT) (a0 : UInt8) (a1 a2 : List UInt8) (a3 a4 : UInt8) (a5 : Bool) (a6 a7 a8 a9 : UInt8) (a10 : Bool) (a11 : UInt8) (a12 : List UInt8) (a13 a14 : List AV) (a15 : Bool) (a16 : UInt8) (a17 : List UInt8) (a18 : List AV) (a19 : List UInt8) (a20 : Bool) (a21 : List AV) : Option AV :=
  (call 80 [.un, .ag [.u8 a3, .u8 a4, .b a5, .u8 a6, .u8 a7, .u8 a8, .u8 a9, .b a10, .u8 a11, .s a12, .ro 1 a13, .ro 1 a14, .b a15, .u8 a16, .s a17, .ro 2 a18, .s a19, .un, .b a20], .ag [.ro 4 a21]]).bind fun v1 => (tupI v1 0).bind fun v2 => (tupI v1 1).bind fun v3 => (AV.asAg 19 v3).bind fun v4 => (tupI v1 2).bind fun v5 => (AV.asAg 1 v5).bind fun v6 => some (.tu [.tu [], .ag [v4.getD 0 .un, v4.getD 1 .un, v4.getD 2 .un, v4.getD 3 .un, v4.getD 4 .un, v4.getD 5 .un, v4.getD 6 .un, v4.getD 7 .un, v4.getD 8 .un, v4.getD 9 .un, .ro 1 (AV.elems (v4.getD 10 .un)), .ro 1 (AV.elems (v4.getD 11 .un)), .b true, .u8 a0, .s a1, .ro 2 [], .s a2, .un, v4.getD 18 .un], .ag [.ro 4 (AV.elems (v6.getD 0 .un))]])
section
variable (call : CallT) (run : RunT) (a0 : UInt8) (a1 a2 : List UInt8) (a3 a4 : UInt8) (a5 : Bool) (a6 a7 a8 a9 : UInt8) (a10 : Bool) (a11 : UInt8) (a12 : List UInt8) (a13 a14 : List AV) (a15 : Bool) (a16 : UInt8) (a17 : List UInt8) (a18 : List AV) (a19 : List UInt8) (a20 : Bool) (a21 : List AV)
theorem text110 : unr C call run 110 Tryd.f110 400 [.code body110] (initF C 110 Tryd.f110.ntmps [.un, .u8 a0, .s a1, .s a2, .ag [.u8 a3, .u8 a4, .b a5, .u8 a6, .u8 a7, .u8 a8, .u8 a9, .b a10, .u8 a11, .s a12, .ro 1 a13, .ro 1 a14, .b a15, .u8 a16, .s a17, .ro 2 a18, .s a19, .un, .b a20], .ag [.ro 4 a21]]) = X110 call run a0 a1 a2 a3 a4 a5 a6 a7 a8 a9 a10 a11 a12 a13 a14 a15 a16 a17 a18 a19 a20 a21 := by
  kernel_rfl
theorem c110 {r : AV} (h : X110 (semCall C Tryd.prog) (semRun C Tryd.prog 110 Tryd.f110) a0 a1 a2 a3 a4 a5 a6 a7 a8 a9 a10 a11 a12 a13 a14 a15 a16 a17 a18 a19 a20 a21 = some r) : semCall C Tryd.prog 110 [.un, .u8 a0, .s a1, .s a2, .ag [.u8 a3, .u8 a4, .b a5, .u8 a6, .u8 a7, .u8 a8, .u8 a9, .b a10, .u8 a11, .s a12, .ro 1 a13, .ro 1 a14, .b a15, .u8 a16, .s a17, .ro 2 a18, .s a19, .un, .b a20], .ag [.ro 4 a21]] = some r :=
  semCall_unr (fn := Tryd.f110) (c := body110) (by kernel_rfl) (by kernel_rfl) 400 (by kernel_rfl) ((text110 _ _ a0 a1 a2 a3 a4 a5 a6 a7 a8 a9 a10 a11 a12 a13 a14 a15 a16 a17 a18 a19 a20 a21).trans h)
end
end R2

namespace R2
open Go Go.Proofs Sx
noncomputable def body111 : Code := (Tryd.f111.body).getD .skip
section
variable (run : RunT) (a0 a1 a2 a3 a4 a5 a6 a7 a8 a9 : AV) (a10 a11 : List AV) (a12 a13 a14 a15 a16 a17 : AV) (a18 : List AV)
noncomputable def K111_2 : List Item := (kAt 2 body111 []).getD []
def S111_2 : St := St.ofL [(0, .cell (.ptr 19 0))] [(19, some [.val (a0), .val (a1), .val (a2), .val (a3), .val (a4), .val (a5), .val (a6), .val (a7), .val (a8), .val (a9), .own 619010 5 1 a10, .own 619011 5 1 a11, .val (a12), .val (a13), .val (a14), .val (a15), .val (a16), .clo 59 [20], .val (a17)]), (20, some [.own 620000 74 4 a18])]
noncomputable def F111_2 : Option AV := run K111_2 (S111_2 a0 a1 a2 a3 a4 a5 a6 a7 a8 a9 a10 a11 a12 a13 a14 a15 a16 a17 a18)
end
noncomputable def X111 (call : CallT) (run : RunT) (a0 a1 : UInt8) (a2 : Bool) (a3 a4 a5 a6 : UInt8) (a7 : Bool) (a8 : UInt8) (a9 : List UInt8) (a10 a11 : List AV) (a12 : Bool) (a13 : UInt8) (a14 : List UInt8) (a15 : List AV) (a16 : List UInt8) (a17 : Bool) (a18 : List AV) : Option AV :=
  condM (.b a12)
  ((call 104 [.un, .ag [.u8 a13, .s a14, .ro 2 a15, .s a16], .ag [.u8 a0, .u8 a1, .b a2, .u8 a3, .u8 a4, .u8 a5, .u8 a6, .b a7, .u8 a8, .s a9, .ro 1 a10, .ro 1 a11, .b a12, .u8 a13, .s a14, .ro 2 a15, .s a16, .un, .b a17], .ag [.ro 4 a18]]).bind fun v1 => (tupI v1 0).bind fun v2 => (tupI v1 1).bind fun v3 => (AV.asAg 19 v3).bind fun v4 => (tupI v1 2).bind fun v5 => (AV.asAg 1 v5).bind fun v6 => F111_2 run (v4.getD 0 .un) (v4.getD 1 .un) (v4.getD 2 .un) (v4.getD 3 .un) (v4.getD 4 .un) (v4.getD 5 .un) (v4.getD 6 .un) (v4.getD 7 .un) (v4.getD 8 .un) (v4.getD 9 .un) (AV.elems (v4.getD 10 .un)) (AV.elems (v4.getD 11 .un)) (v4.getD 12 .un) (v4.getD 13 .un) (v4.getD 14 .un) (v4.getD 15 .un) (v4.getD 16 .un) (v4.getD 18 .un) (AV.elems (v6.getD 0 .un)))
  (F111_2 run (.u8 a0) (.u8 a1) (.b a2) (.u8 a3) (.u8 a4) (.u8 a5) (.u8 a6) (.b a7) (.u8 a8) (.s a9) a10 a11 (.b a12) (.u8 a13) (.s a14) (.ro 2 a15) (.s a16) (.b a17) a18)
section
variable (call : CallT) (run : RunT) (a0 a1 : UInt8) (a2 : Bool) (a3 a4 a5 a6 : UInt8) (a7 : Bool) (a8 : UInt8) (a9 : List UInt8) (a10 a11 : List AV) (a12 : Bool) (a13 : UInt8) (a14 : List UInt8) (a15 : List AV) (a16 : List UInt8) (a17 : Bool) (a18 : List AV)
theorem text111 : unr C call run 111 Tryd.f111 400 [.code body111] (initF C 111 Tryd.f111.ntmps [.un, .ag [.u8 a0, .u8 a1, .b a2, .u8 a3, .u8 a4, .u8 a5, .u8 a6, .b a7, .u8 a8, .s a9, .ro 1 a10, .ro 1 a11, .b a12, .u8 a13, .s a14, .ro 2 a15, .s a16, .un, .b a17], .ag [.ro 4 a18]]) = X111 call run a0 a1 a2 a3 a4 a5 a6 a7 a8 a9 a10 a11 a12 a13 a14 a15 a16 a17 a18 := by
  kernel_rfl
theorem c111 {r : AV} (h : X111 (semCall C Tryd.prog) (semRun C Tryd.prog 111 Tryd.f111) a0 a1 a2 a3 a4 a5 a6 a7 a8 a9 a10 a11 a12 a13 a14 a15 a16 a17 a18 = some r) : semCall C Tryd.prog 111 [.un, .ag [.u8 a0, .u8 a1, .b a2, .u8 a3, .u8 a4, .u8 a5, .u8 a6, .b a7, .u8 a8, .s a9, .ro 1 a10, .ro 1 a11, .b a12, .u8 a13, .s a14, .ro 2 a15, .s a16, .un, .b a17], .ag [.ro 4 a18]] = some r :=
  semCall_unr (fn := Tryd.f111) (c := body111) (by kernel_rfl) (by kernel_rfl) 400 (by kernel_rfl) ((text111 _ _ a0 a1 a2 a3 a4 a5 a6 a7 a8 a9 a10 a11 a12 a13 a14 a15 a16 a17 a18).trans h)
end
noncomputable def X111_2 (call : CallT) (run : RunT) (a0 a1 a2 a3 a4 a5 a6 a7 a8 a9 : AV) (a10 a11 : List AV) (a12 a13 a14 a15 a16 a17 : AV) (a18 : List AV) : Option AV :=
  some (.tu [.tu [], .ag [a0, a1, a2, a3, a4, a5, a6, a7, a8, a9, .ro 1 a10, .ro 1 a11, .b false, .u8 0, .s [], .ro 2 [], .s [], .un, a17], .ag [.ro 4 a18]])
section
variable (call : CallT) (run : RunT) (a0 a1 a2 a3 a4 a5 a6 a7 a8 a9 : AV) (a10 a11 : List AV) (a12 a13 a14 a15 a16 a17 : AV) (a18 : List AV)
theorem text111_2 : step C call 111 Tryd.f111 (unr C call run 111 Tryd.f111 400) K111_2 (S111_2 a0 a1 a2 a3 a4 a5 a6 a7 a8 a9 a10 a11 a12 a13 a14 a15 a16 a17 a18) = X111_2 call run a0 a1 a2 a3 a4 a5 a6 a7 a8 a9 a10 a11 a12 a13 a14 a15 a16 a17 a18 := by
  kernel_rfl
end
section
variable (a0 a1 a2 a3 a4 a5 a6 a7 a8 a9 : AV) (a10 a11 : List AV) (a12 a13 a14 a15 a16 a17 : AV) (a18 : List AV)
theorem r111_2 {r : AV} (h : X111_2 (semCall C Tryd.prog) (semRun C Tryd.prog 111 Tryd.f111) a0 a1 a2 a3 a4 a5 a6 a7 a8 a9 a10 a11 a12 a13 a14 a15 a16 a17 a18 = some r) : F111_2 (semRun C Tryd.prog 111 Tryd.f111) a0 a1 a2 a3 a4 a5 a6 a7 a8 a9 a10 a11 a12 a13 a14 a15 a16 a17 a18 = some r :=
  semRun_unr 400 ((text111_2 _ _ a0 a1 a2 a3 a4 a5 a6 a7 a8 a9 a10 a11 a12 a13 a14 a15 a16 a17 a18).trans h)
end
end R2

namespace R2
open Go Go.Proofs Sx
noncomputable def body100 : Code := (Tryd.f100.body).getD .skip
section
variable (run : RunT) (a0 : UInt8) (a1 a2 a3 a4 a5 a6 a7 a8 a9 a10 : AV) (a11 a12 : List AV) (a13 a14 a15 : AV) (a16 : List AV) (a17 a18 : AV) (a19 : List AV)
noncomputable def K100_5 : List Item := (kAt 5 body100 []).getD []
def S100_5 : St := St.ofL [(0, .cell (.ptr 74 0)), (2, .cell (.val (.u8 a0)))] [(74, some [.val (a1), .val (a2), .val (a3), .val (a4), .val (a5), .val (a6), .val (a7), .val (a8), .val (a9), .val (a10), .own 674010 5 1 a11, .own 674011 5 1 a12, .val (a13), .val (a14), .val (a15), .own 674015 101 2 a16, .val (a17), .clo 59 [75], .val (a18)]), (75, some [.own 675000 74 4 a19])]
noncomputable def F100_5 : Option AV := run K100_5 (S100_5 a0 a1 a2 a3 a4 a5 a6 a7 a8 a9 a10 a11 a12 a13 a14 a15 a16 a17 a18 a19)
end
section
variable (run : RunT) (a0 a1 a2 : UInt8) (a3 : Bool) (a4 a5 a6 a7 : UInt8) (a8 : Bool) (a9 : UInt8) (a10 : List UInt8) (a11 a12 : List AV) (a13 : Bool) (a14 : UInt8) (a15 : List UInt8) (a16 : List AV) (a17 : List UInt8) (a18 : Bool) (a19 : List AV)
noncomputable def K100_12 : List Item := (kAt 12 body100 []).getD []
def S100_12 : St := St.ofL [(0, .cell (.ptr 74 0)), (6, .cell (.val (.u8 a0)))] [(74, some [.val (.u8 a1), .val (.u8 a2), .val (.b a3), .val (.u8 a4), .val (.u8 a5), .val (.u8 a6), .val (.u8 a7), .val (.b a8), .val (.u8 a9), .val (.s a10), .own 674010 5 1 a11, .own 674011 5 1 a12, .val (.b a13), .val (.u8 a14), .val (.s a15), .own 674015 101 2 a16, .val (.s a17), .clo 59 [75], .val (.b a18)]), (75, some [.own 675000 74 4 a19])]
noncomputable def F100_12 : Option AV := run K100_12 (S100_12 a0 a1 a2 a3 a4 a5 a6 a7 a8 a9 a10 a11 a12 a13 a14 a15 a16 a17 a18 a19)
end
noncomputable def X100 (call : CallT) (run : RunT) (a0 a1 : UInt8) (a2 : Bool) (a3 a4 a5 a6 : UInt8) (a7 : Bool) (a8 : UInt8) (a9 : List UInt8) (a10 a11 a12 : UInt8) (a13 : Bool) (a14 a15 a16 a17 : UInt8) (a18 : Bool) (a19 : UInt8) (a20 : List UInt8) (a21 a22 : List AV) (a23 : Bool) (a24 : UInt8) (a25 : List UInt8) (a26 : List AV) (a27 : List UInt8) (a28 : Bool) (a29 : List AV) : Option AV :=
  condM (.b (ueq a11 1))
  (condM (.b (ueq a0 1))
  ((call 109 [.un, .nils, .ag [.u8 a11, .u8 a12, .b a13, .u8 a14, .u8 a15, .u8 a16, .u8 a17, .b a18, .u8 a19, .s a20, .ro 1 a21, .ro 1 a22, .b a23, .u8 a24, .s a25, .ro 2 a26, .s a27, .un, .b a28], .ag [.ro 4 a29]]).bind fun v1 => (tupI v1 0).bind fun v2 => (tupI v1 1).bind fun v3 => (AV.asAg 19 v3).bind fun v4 => (tupI v1 2).bind fun v5 => (AV.asAg 1 v5).bind fun v6 => F100_5 run a10 (v4.getD 0 .un) (v4.getD 1 .un) (v4.getD 2 .un) (v4.getD 3 .un) (v4.getD 4 .un) (v4.getD 5 .un) (v4.getD 6 .un) (v4.getD 7 .un) (v4.getD 8 .un) (v4.getD 9 .un) (AV.elems (v4.getD 10 .un)) (AV.elems (v4.getD 11 .un)) (v4.getD 12 .un) (v4.getD 13 .un) (v4.getD 14 .un) (AV.elems (v4.getD 15 .un)) (v4.getD 16 .un) (v4.getD 18 .un) (AV.elems (v6.getD 0 .un)))
  (F100_5 run a10 (.u8 a11) (.u8 a12) (.b a13) (.u8 a14) (.u8 a15) (.u8 a16) (.u8 a17) (.b a18) (.u8 a19) (.s a20) a21 a22 (.b a23) (.u8 a24) (.s a25) a26 (.s a27) (.b a28) a29))
  (condM (.b (ueq a11 2))
  ((app 1 1 a22 (.ro 1 (([.u8 a10] : List AV)))).bind fun v7 => some (.tu [.tu [], .ag [.u8 a11, .u8 a12, .b a13, .u8 a14, .u8 a15, .u8 a16, .u8 a17, .b a18, .u8 a19, .s a20, .ro 1 a21, .ro 1 v7, .b a23, .u8 a24, .s a25, .ro 2 a26, .s a27, .un, .b a28], .ag [.ro 4 a29]]))
  (condM (.b (ueq a11 3))
  (condM (.b a13)
  (F100_12 run 2 a11 a12 a13 a14 a15 a16 a17 a18 a19 a20 a21 a22 a23 a24 a25 a26 a27 a28 a29)
  (F100_12 run 1 a11 a12 a13 a14 a15 a16 a17 a18 a19 a20 a21 a22 a23 a24 a25 a26 a27 a28 a29))
  (condM (.b (ueq a11 11))
  ((call 110 [.un, .u8 4, .s [], .s [], .ag [.u8 a11, .u8 a12, .b a13, .u8 a14, .u8 a15, .u8 a16, .u8 a17, .b a18, .u8 a19, .s a20, .ro 1 a21, .ro 1 a22, .b a23, .u8 a24, .s a25, .ro 2 a26, .s a27, .un, .b a28], .ag [.ro 4 a29]]).bind fun v8 => (tupI v8 0).bind fun v9 => (tupI v8 1).bind fun v10 => (AV.asAg 19 v10).bind fun v11 => (tupI v8 2).bind fun v12 => (AV.asAg 1 v12).bind fun v13 => some (.tu [.tu [], .ag [v11.getD 0 .un, v11.getD 1 .un, v11.getD 2 .un, v11.getD 3 .un, v11.getD 4 .un, v11.getD 5 .un, v11.getD 6 .un, v11.getD 7 .un, v11.getD 8 .un, v11.getD 9 .un, .ro 1 (AV.elems (v11.getD 10 .un)), .ro 1 (AV.elems (v11.getD 11 .un)), v11.getD 12 .un, v11.getD 13 .un, v11.getD 14 .un, .ro 2 (AV.elems (v11.getD 15 .un)), v11.getD 16 .un, .un, v11.getD 18 .un], .ag [.ro 4 (AV.elems (v13.getD 0 .un))]]))
  (condM (.b (ueq a11 16))
  ((b2s (.ro 1 (([.u8 a10] : List AV)))).bind fun v14 => (call 110 [.un, .u8 4, .s [], v14, .ag [.u8 a11, .u8 a12, .b a13, .u8 a14, .u8 a15, .u8 a16, .u8 a17, .b a18, .u8 a19, .s a20, .ro 1 a21, .ro 1 a22, .b a23, .u8 a24, .s a25, .ro 2 a26, .s a27, .un, .b a28], .ag [.ro 4 a29]]).bind fun v15 => (tupI v15 0).bind fun v16 => (tupI v15 1).bind fun v17 => (AV.asAg 19 v17).bind fun v18 => (tupI v15 2).bind fun v19 => (AV.asAg 1 v19).bind fun v20 => some (.tu [.tu [], .ag [v18.getD 0 .un, v18.getD 1 .un, v18.getD 2 .un, v18.getD 3 .un, v18.getD 4 .un, v18.getD 5 .un, v18.getD 6 .un, v18.getD 7 .un, v18.getD 8 .un, v18.getD 9 .un, .ro 1 (AV.elems (v18.getD 10 .un)), .ro 1 (AV.elems (v18.getD 11 .un)), v18.getD 12 .un, v18.getD 13 .un, v18.getD 14 .un, .ro 2 (AV.elems (v18.getD 15 .un)), v18.getD 16 .un, .un, v18.getD 18 .un], .ag [.ro 4 (AV.elems (v20.getD 0 .un))]]))
  (condM (.b (ueq a11 0))
  (condM (.b (ueq a0 2))
  (some (.tu [.tu [], .ag [.u8 a11, .u8 a12, .b a13, .u8 a14, .u8 a15, .u8 a16, .u8 a17, .b a18, .u8 a19, .s a20, .ro 1 a21, .ro 1 [], .b a23, .u8 a24, .s a25, .ro 2 a26, .s a27, .un, .b a28], .ag [.ro 4 a29]]))
  ((call 109 [.un, .ro 1 (([.u8 a10] : List AV)), .ag [.u8 a11, .u8 a12, .b a13, .u8 a14, .u8 a15, .u8 a16, .u8 a17, .b a18, .u8 a19, .s a20, .ro 1 a21, .ro 1 a22, .b a23, .u8 a24, .s a25, .ro 2 a26, .s a27, .un, .b a28], .ag [.ro 4 a29]]).bind fun v21 => (tupI v21 0).bind fun v22 => (tupI v21 1).bind fun v23 => (AV.asAg 19 v23).bind fun v24 => (tupI v21 2).bind fun v25 => (AV.asAg 1 v25).bind fun v26 => some (.tu [.tu [], .ag [v24.getD 0 .un, v24.getD 1 .un, v24.getD 2 .un, v24.getD 3 .un, v24.getD 4 .un, v24.getD 5 .un, v24.getD 6 .un, v24.getD 7 .un, v24.getD 8 .un, v24.getD 9 .un, .ro 1 (AV.elems (v24.getD 10 .un)), .ro 1 (AV.elems (v24.getD 11 .un)), v24.getD 12 .un, v24.getD 13 .un, v24.getD 14 .un, .ro 2 (AV.elems (v24.getD 15 .un)), v24.getD 16 .un, .un, v24.getD 18 .un], .ag [.ro 4 (AV.elems (v26.getD 0 .un))]])))
  (some (.tu [.tu [], .ag [.u8 a11, .u8 a12, .b a13, .u8 a14, .u8 a15, .u8 a16, .u8 a17, .b a18, .u8 a19, .s a20, .ro 1 a21, .ro 1 a22, .b a23, .u8 a24, .s a25, .ro 2 a26, .s a27, .un, .b a28], .ag [.ro 4 a29]])))))))
section
variable (call : CallT) (run : RunT) (a0 a1 : UInt8) (a2 : Bool) (a3 a4 a5 a6 : UInt8) (a7 : Bool) (a8 : UInt8) (a9 : List UInt8) (a10 a11 a12 : UInt8) (a13 : Bool) (a14 a15 a16 a17 : UInt8) (a18 : Bool) (a19 : UInt8) (a20 : List UInt8) (a21 a22 : List AV) (a23 : Bool) (a24 : UInt8) (a25 : List UInt8) (a26 : List AV) (a27 : List UInt8) (a28 : Bool) (a29 : List AV)
theorem text100 : unr C call run 100 Tryd.f100 400 [.code body100] (initF C 100 Tryd.f100.ntmps [.un, .ag [.u8 a0, .u8 a1, .b a2, .u8 a3, .u8 a4, .u8 a5, .u8 a6, .b a7, .u8 a8, .s a9], .u8 a10, .ag [.u8 a11, .u8 a12, .b a13, .u8 a14, .u8 a15, .u8 a16, .u8 a17, .b a18, .u8 a19, .s a20, .ro 1 a21, .ro 1 a22, .b a23, .u8 a24, .s a25, .ro 2 a26, .s a27, .un, .b a28], .ag [.ro 4 a29]]) = X100 call run a0 a1 a2 a3 a4 a5 a6 a7 a8 a9 a10 a11 a12 a13 a14 a15 a16 a17 a18 a19 a20 a21 a22 a23 a24 a25 a26 a27 a28 a29 := by
  kernel_rfl
theorem c100 {r : AV} (h : X100 (semCall C Tryd.prog) (semRun C Tryd.prog 100 Tryd.f100) a0 a1 a2 a3 a4 a5 a6 a7 a8 a9 a10 a11 a12 a13 a14 a15 a16 a17 a18 a19 a20 a21 a22 a23 a24 a25 a26 a27 a28 a29 = some r) : semCall C Tryd.prog 100 [.un, .ag [.u8 a0, .u8 a1, .b a2, .u8 a3, .u8 a4, .u8 a5, .u8 a6, .b a7, .u8 a8, .s a9], .u8 a10, .ag [.u8 a11, .u8 a12, .b a13, .u8 a14, .u8 a15, .u8 a16, .u8 a17, .b a18, .u8 a19, .s a20, .ro 1 a21, .ro 1 a22, .b a23, .u8 a24, .s a25, .ro 2 a26, .s a27, .un, .b a28], .ag [.ro 4 a29]] = some r :=
  semCall_unr (fn := Tryd.f100) (c := body100) (by kernel_rfl) (by kernel_rfl) 400 (by kernel_rfl) ((text100 _ _ a0 a1 a2 a3 a4 a5 a6 a7 a8 a9 a10 a11 a12 a13 a14 a15 a16 a17 a18 a19 a20 a21 a22 a23 a24 a25 a26 a27 a28 a29).trans h)
end
noncomputable def X100_5 (call : CallT) (run : RunT) (a0 : UInt8) (a1 a2 a3 a4 a5 a6 a7 a8 a9 a10 : AV) (a11 a12 : List AV) (a13 a14 a15 : AV) (a16 : List AV) (a17 a18 : AV) (a19 : List AV) : Option AV :=
  some (.tu [.tu [], .ag [a1, a2, a3, a4, a5, a6, a7, a8, a9, a10, .ro 1 a11, .ro 1 (([.u8 a0] : List AV)), a13, a14, a15, .ro 2 a16, a17, .un, a18], .ag [.ro 4 a19]])
section
variable (call : CallT) (run : RunT) (a0 : UInt8) (a1 a2 a3 a4 a5 a6 a7 a8 a9 a10 : AV) (a11 a12 : List AV) (a13 a14 a15 : AV) (a16 : List AV) (a17 a18 : AV) (a19 : List AV)
theorem text100_5 : step C call 100 Tryd.f100 (unr C call run 100 Tryd.f100 400) K100_5 (S100_5 a0 a1 a2 a3 a4 a5 a6 a7 a8 a9 a10 a11 a12 a13 a14 a15 a16 a17 a18 a19) = X100_5 call run a0 a1 a2 a3 a4 a5 a6 a7 a8 a9 a10 a11 a12 a13 a14 a15 a16 a17 a18 a19 := by
  kernel_rfl
end
noncomputable def X100_12 (call : CallT) (run : RunT) (a0 a1 a2 : UInt8) (a3 : Bool) (a4 a5 a6 a7 : UInt8) (a8 : Bool) (a9 : UInt8) (a10 : List UInt8) (a11 a12 : List AV) (a13 : Bool) (a14 : UInt8) (a15 : List UInt8) (a16 : List AV) (a17 : List UInt8) (a18 : Bool) (a19 : List AV) : Option AV :=
  (call 110 [.un, .u8 a0, .s a10, .s [], .ag [.u8 a1, .u8 a2, .b a3, .u8 a4, .u8 a5, .u8 a6, .u8 a7, .b a8, .u8 a9, .s a10, .ro 1 a11, .ro 1 a12, .b a13, .u8 a14, .s a15, .ro 2 a16, .s a17, .un, .b a18], .ag [.ro 4 a19]]).bind fun v1 => (tupI v1 0).bind fun v2 => (tupI v1 1).bind fun v3 => (AV.asAg 19 v3).bind fun v4 => (tupI v1 2).bind fun v5 => (AV.asAg 1 v5).bind fun v6 => some (.tu [.tu [], .ag [v4.getD 0 .un, v4.getD 1 .un, v4.getD 2 .un, v4.getD 3 .un, v4.getD 4 .un, v4.getD 5 .un, v4.getD 6 .un, v4.getD 7 .un, v4.getD 8 .un, v4.getD 9 .un, .ro 1 (AV.elems (v4.getD 10 .un)), .ro 1 (AV.elems (v4.getD 11 .un)), v4.getD 12 .un, v4.getD 13 .un, v4.getD 14 .un, .ro 2 (AV.elems (v4.getD 15 .un)), v4.getD 16 .un, .un, v4.getD 18 .un], .ag [.ro 4 (AV.elems (v6.getD 0 .un))]])
section
variable (call : CallT) (run : RunT) (a0 a1 a2 : UInt8) (a3 : Bool) (a4 a5 a6 a7 : UInt8) (a8 : Bool) (a9 : UInt8) (a10 : List UInt8) (a11 a12 : List AV) (a13 : Bool) (a14 : UInt8) (a15 : List UInt8) (a16 : List AV) (a17 : List UInt8) (a18 : Bool) (a19 : List AV)
theorem text100_12 : step C call 100 Tryd.f100 (unr C call run 100 Tryd.f100 400) K100_12 (S100_12 a0 a1 a2 a3 a4 a5 a6 a7 a8 a9 a10 a11 a12 a13 a14 a15 a16 a17 a18 a19) = X100_12 call run a0 a1 a2 a3 a4 a5 a6 a7 a8 a9 a10 a11 a12 a13 a14 a15 a16 a17 a18 a19 := by
  kernel_rfl
end
section
variable (a0 : UInt8) (a1 a2 a3 a4 a5 a6 a7 a8 a9 a10 : AV) (a11 a12 : List AV) (a13 a14 a15 : AV) (a16 : List AV) (a17 a18 : AV) (a19 : List AV)
theorem r100_5 {r : AV} (h : X100_5 (semCall C Tryd.prog) (semRun C Tryd.prog 100 Tryd.f100) a0 a1 a2 a3 a4 a5 a6 a7 a8 a9 a10 a11 a12 a13 a14 a15 a16 a17 a18 a19 = some r) : F100_5 (semRun C Tryd.prog 100 Tryd.f100) a0 a1 a2 a3 a4 a5 a6 a7 a8 a9 a10 a11 a12 a13 a14 a15 a16 a17 a18 a19 = some r :=
  semRun_unr 400 ((text100_5 _ _ a0 a1 a2 a3 a4 a5 a6 a7 a8 a9 a10 a11 a12 a13 a14 a15 a16 a17 a18 a19).trans h)
end
section
variable (a0 a1 a2 : UInt8) (a3 : Bool) (a4 a5 a6 a7 : UInt8) (a8 : Bool) (a9 : UInt8) (a10 : List UInt8) (a11 a12 : List AV) (a13 : Bool) (a14 : UInt8) (a15 : List UInt8) (a16 : List AV) (a17 : List UInt8) (a18 : Bool) (a19 : List AV)
theorem r100_12 {r : AV} (h : X100_12 (semCall C Tryd.prog) (semRun C Tryd.prog 100 Tryd.f100) a0 a1 a2 a3 a4 a5 a6 a7 a8 a9 a10 a11 a12 a13 a14 a15 a16 a17 a18 a19 = some r) : F100_12 (semRun C Tryd.prog 100 Tryd.f100) a0 a1 a2 a3 a4 a5 a6 a7 a8 a9 a10 a11 a12 a13 a14 a15 a16 a17 a18 a19 = some r :=
  semRun_unr 400 ((text100_12 _ _ a0 a1 a2 a3 a4 a5 a6 a7 a8 a9 a10 a11 a12 a13 a14 a15 a16 a17 a18 a19).trans h)
end
end R2

namespace R2
open Go Go.Proofs Sx
noncomputable def body101 : Code := (Tryd.f101.body).getD .skip
section
variable (run : RunT) (a0 a1 : UInt8) (a2 : Bool) (a3 a4 a5 a6 : UInt8) (a7 : Bool) (a8 : UInt8) (a9 : List UInt8) (a10 a11 : UInt8) (a12 : Bool) (a13 a14 a15 a16 : UInt8) (a17 : Bool) (a18 : UInt8) (a19 : List UInt8) (a20 a21 : List AV) (a22 : Bool) (a23 : UInt8) (a24 : List UInt8) (a25 : List AV) (a26 : List UInt8) (a27 : Bool) (a28 : List AV)
noncomputable def K101_12 : List Item := (kAt 12 body101 []).getD []
def S101_12 : St := St.ofL [(0, .cell (.ptr 54 0)), (4, .cell (.ptr 4 0))] [(4, some [.val (.u8 a0), .val (.u8 a1), .val (.b a2), .val (.u8 a3), .val (.u8 a4), .val (.u8 a5), .val (.u8 a6), .val (.b a7), .val (.u8 a8), .val (.s a9)]), (54, some [.val (.u8 a10), .val (.u8 a11), .val (.b a12), .val (.u8 a13), .val (.u8 a14), .val (.u8 a15), .val (.u8 a16), .val (.b a17), .val (.u8 a18), .val (.s a19), .own 654010 5 1 a20, .own 654011 5 1 a21, .val (.b a22), .val (.u8 a23), .val (.s a24), .own 654015 101 2 a25, .val (.s a26), .clo 59 [55], .val (.b a27)]), (55, some [.own 655000 74 4 a28])]
noncomputable def F101_12 : Option AV := run K101_12 (S101_12 a0 a1 a2 a3 a4 a5 a6 a7 a8 a9 a10 a11 a12 a13 a14 a15 a16 a17 a18 a19 a20 a21 a22 a23 a24 a25 a26 a27 a28)
end
noncomputable def X101 (call : CallT) (run : RunT) (a0 a1 : UInt8) (a2 : Bool) (a3 a4 a5 a6 : UInt8) (a7 : Bool) (a8 : UInt8) (a9 : List UInt8) (a10 a11 a12 : UInt8) (a13 : Bool) (a14 a15 a16 a17 : UInt8) (a18 : Bool) (a19 : UInt8) (a20 : List UInt8) (a21 a22 : List AV) (a23 : Bool) (a24 : UInt8) (a25 : List UInt8) (a26 : List AV) (a27 : List UInt8) (a28 : Bool) (a29 : List AV) : Option AV :=
  condM (.b (ueq a11 17))
  ((call 109 [.un, .ro 1 (([.u8 a10] : List AV)), .ag [.u8 a11, .u8 a12, .b a13, .u8 a14, .u8 a15, .u8 a16, .u8 a17, .b a18, .u8 a19, .s a20, .ro 1 a21, .ro 1 a22, .b a23, .u8 a24, .s a25, .ro 2 a26, .s a27, .un, .b a28], .ag [.ro 4 a29]]).bind fun v1 => (tupI v1 0).bind fun v2 => (tupI v1 1).bind fun v3 => (AV.asAg 19 v3).bind fun v4 => (tupI v1 2).bind fun v5 => (AV.asAg 1 v5).bind fun v6 => some (.tu [.tu [], .ag [v4.getD 0 .un, v4.getD 1 .un, v4.getD 2 .un, v4.getD 3 .un, v4.getD 4 .un, v4.getD 5 .un, v4.getD 6 .un, v4.getD 7 .un, v4.getD 8 .un, v4.getD 9 .un, .ro 1 (AV.elems (v4.getD 10 .un)), .ro 1 (AV.elems (v4.getD 11 .un)), v4.getD 12 .un, v4.getD 13 .un, v4.getD 14 .un, .ro 2 (AV.elems (v4.getD 15 .un)), v4.getD 16 .un, .un, v4.getD 18 .un], .ag [.ro 4 (AV.elems (v6.getD 0 .un))]]))
  (condM (.b (ueq a11 18))
  ((call 109 [.un, .nils, .ag [.u8 a11, .u8 a12, .b a13, .u8 a14, .u8 a15, .u8 a16, .u8 a17, .b a18, .u8 a19, .s a20, .ro 1 a21, .ro 1 a22, .b a23, .u8 a24, .s a25, .ro 2 a26, .s a27, .un, .b a28], .ag [.ro 4 a29]]).bind fun v7 => (tupI v7 0).bind fun v8 => (tupI v7 1).bind fun v9 => (AV.asAg 19 v9).bind fun v10 => (tupI v7 2).bind fun v11 => (AV.asAg 1 v11).bind fun v12 => some (.tu [.tu [], .ag [v10.getD 0 .un, v10.getD 1 .un, v10.getD 2 .un, v10.getD 3 .un, v10.getD 4 .un, v10.getD 5 .un, v10.getD 6 .un, v10.getD 7 .un, v10.getD 8 .un, v10.getD 9 .un, .ro 1 (AV.elems (v10.getD 10 .un)), .ro 1 (([.u8 a10] : List AV)), v10.getD 12 .un, v10.getD 13 .un, v10.getD 14 .un, .ro 2 (AV.elems (v10.getD 15 .un)), v10.getD 16 .un, .un, v10.getD 18 .un], .ag [.ro 4 (AV.elems (v12.getD 0 .un))]]))
  (condM (.b (ueq a11 19))
  ((app 1 1 a22 (.ro 1 (([.u8 a10] : List AV)))).bind fun v13 => some (.tu [.tu [], .ag [.u8 a11, .u8 a12, .b a13, .u8 a14, .u8 a15, .u8 a16, .u8 a17, .b a18, .u8 a19, .s a20, .ro 1 a21, .ro 1 v13, .b a23, .u8 a24, .s a25, .ro 2 a26, .s a27, .un, .b a28], .ag [.ro 4 a29]]))
  (condM (.b (ueq a11 4))
  (F101_12 run a0 a1 a2 a3 a4 a5 a6 a7 a8 a9 a11 a12 a13 a14 a15 a16 a17 a18 a19 a20 a21 a22 a23 a24 a25 a26 a27 a28 a29)
  (condM (.b (ueq a11 10))
  (F101_12 run a0 a1 a2 a3 a4 a5 a6 a7 a8 a9 a11 a12 a13 a14 a15 a16 a17 a18 a19 a20 a21 a22 a23 a24 a25 a26 a27 a28 a29)
  (condM (.b (ueq a11 0))
  (F101_12 run a0 a1 a2 a3 a4 a5 a6 a7 a8 a9 a11 a12 a13 a14 a15 a16 a17 a18 a19 a20 a21 a22 a23 a24 a25 a26 a27 a28 a29)
  (some (.tu [.tu [], .ag [.u8 a11, .u8 a12, .b a13, .u8 a14, .u8 a15, .u8 a16, .u8 a17, .b a18, .u8 a19, .s a20, .ro 1 a21, .ro 1 a22, .b a23, .u8 a24, .s a25, .ro 2 a26, .s a27, .un, .b a28], .ag [.ro 4 a29]])))))))
section
variable (call : CallT) (run : RunT) (a0 a1 : UInt8) (a2 : Bool) (a3 a4 a5 a6 : UInt8) (a7 : Bool) (a8 : UInt8) (a9 : List UInt8) (a10 a11 a12 : UInt8) (a13 : Bool) (a14 a15 a16 a17 : UInt8) (a18 : Bool) (a19 : UInt8) (a20 : List UInt8) (a21 a22 : List AV) (a23 : Bool) (a24 : UInt8) (a25 : List UInt8) (a26 : List AV) (a27 : List UInt8) (a28 : Bool) (a29 : List AV)
theorem text101 : unr C call run 101 Tryd.f101 400 [.code body101] (initF C 101 Tryd.f101.ntmps [.un, .ag [.u8 a0, .u8 a1, .b a2, .u8 a3, .u8 a4, .u8 a5, .u8 a6, .b a7, .u8 a8, .s a9], .u8 a10, .ag [.u8 a11, .u8 a12, .b a13, .u8 a14, .u8 a15, .u8 a16, .u8 a17, .b a18, .u8 a19, .s a20, .ro 1 a21, .ro 1 a22, .b a23, .u8 a24, .s a25, .ro 2 a26, .s a27, .un, .b a28], .ag [.ro 4 a29]]) = X101 call run a0 a1 a2 a3 a4 a5 a6 a7 a8 a9 a10 a11 a12 a13 a14 a15 a16 a17 a18 a19 a20 a21 a22 a23 a24 a25 a26 a27 a28 a29 := by
  kernel_rfl
theorem c101 {r : AV} (h : X101 (semCall C Tryd.prog) (semRun C Tryd.prog 101 Tryd.f101) a0 a1 a2 a3 a4 a5 a6 a7 a8 a9 a10 a11 a12 a13 a14 a15 a16 a17 a18 a19 a20 a21 a22 a23 a24 a25 a26 a27 a28 a29 = some r) : semCall C Tryd.prog 101 [.un, .ag [.u8 a0, .u8 a1, .b a2, .u8 a3, .u8 a4, .u8 a5, .u8 a6, .b a7, .u8 a8, .s a9], .u8 a10, .ag [.u8 a11, .u8 a12, .b a13, .u8 a14, .u8 a15, .u8 a16, .u8 a17, .b a18, .u8 a19, .s a20, .ro 1 a21, .ro 1 a22, .b a23, .u8 a24, .s a25, .ro 2 a26, .s a27, .un, .b a28], .ag [.ro 4 a29]] = some r :=
  semCall_unr (fn := Tryd.f101) (c := body101) (by kernel_rfl) (by kernel_rfl) 400 (by kernel_rfl) ((text101 _ _ a0 a1 a2 a3 a4 a5 a6 a7 a8 a9 a10 a11 a12 a13 a14 a15 a16 a17 a18 a19 a20 a21 a22 a23 a24 a25 a26 a27 a28 a29).trans h)
end
noncomputable def X101_12 (call : CallT) (run : RunT) (a0 a1 : UInt8) (a2 : Bool) (a3 a4 a5 a6 : UInt8) (a7 : Bool) (a8 : UInt8) (a9 : List UInt8) (a10 a11 : UInt8) (a12 : Bool) (a13 a14 a15 a16 : UInt8) (a17 : Bool) (a18 : UInt8) (a19 : List UInt8) (a20 a21 : List AV) (a22 : Bool) (a23 : UInt8) (a24 : List UInt8) (a25 : List AV) (a26 : List UInt8) (a27 : Bool) (a28 : List AV) : Option AV :=
  (call 110 [.un, .u8 2, .s a9, .s [], .ag [.u8 a10, .u8 a11, .b a12, .u8 a13, .u8 a14, .u8 a15, .u8 a16, .b a17, .u8 a18, .s a19, .ro 1 a20, .ro 1 a21, .b a22, .u8 a23, .s a24, .ro 2 a25, .s a26, .un, .b a27], .ag [.ro 4 a28]]).bind fun v1 => (tupI v1 0).bind fun v2 => (tupI v1 1).bind fun v3 => (AV.asAg 19 v3).bind fun v4 => (tupI v1 2).bind fun v5 => (AV.asAg 1 v5).bind fun v6 => (binI .eql (v4.getD 0 .un) (.u8 0)).bind fun v7 => condM (v7)
  ((call 111 [.un, .ag [v4.getD 0 .un, v4.getD 1 .un, v4.getD 2 .un, v4.getD 3 .un, v4.getD 4 .un, v4.getD 5 .un, v4.getD 6 .un, v4.getD 7 .un, v4.getD 8 .un, v4.getD 9 .un, .ro 1 (AV.elems (v4.getD 10 .un)), .ro 1 (AV.elems (v4.getD 11 .un)), v4.getD 12 .un, v4.getD 13 .un, v4.getD 14 .un, .ro 2 (AV.elems (v4.getD 15 .un)), v4.getD 16 .un, .un, v4.getD 18 .un], .ag [.ro 4 (AV.elems (v6.getD 0 .un))]]).bind fun v8 => (tupI v8 0).bind fun v9 => (tupI v8 1).bind fun v10 => (AV.asAg 19 v10).bind fun v11 => (tupI v8 2).bind fun v12 => (AV.asAg 1 v12).bind fun v13 => some (.tu [.tu [], .ag [v11.getD 0 .un, v11.getD 1 .un, v11.getD 2 .un, v11.getD 3 .un, v11.getD 4 .un, v11.getD 5 .un, v11.getD 6 .un, v11.getD 7 .un, v11.getD 8 .un, v11.getD 9 .un, .ro 1 (AV.elems (v11.getD 10 .un)), .ro 1 (AV.elems (v11.getD 11 .un)), v11.getD 12 .un, v11.getD 13 .un, v11.getD 14 .un, .ro 2 (AV.elems (v11.getD 15 .un)), v11.getD 16 .un, .un, v11.getD 18 .un], .ag [.ro 4 (AV.elems (v13.getD 0 .un))]]))
  (some (.tu [.tu [], .ag [v4.getD 0 .un, v4.getD 1 .un, v4.getD 2 .un, v4.getD 3 .un, v4.getD 4 .un, v4.getD 5 .un, v4.getD 6 .un, v4.getD 7 .un, v4.getD 8 .un, v4.getD 9 .un, .ro 1 (AV.elems (v4.getD 10 .un)), .ro 1 (AV.elems (v4.getD 11 .un)), v4.getD 12 .un, v4.getD 13 .un, v4.getD 14 .un, .ro 2 (AV.elems (v4.getD 15 .un)), v4.getD 16 .un, .un, v4.getD 18 .un], .ag [.ro 4 (AV.elems (v6.getD 0 .un))]]))
section
variable (call : CallT) (run : RunT) (a0 a1 : UInt8) (a2 : Bool) (a3 a4 a5 a6 : UInt8) (a7 : Bool) (a8 : UInt8) (a9 : List UInt8) (a10 a11 : UInt8) (a12 : Bool) (a13 a14 a15 a16 : UInt8) (a17 : Bool) (a18 : UInt8) (a19 : List UInt8) (a20 a21 : List AV) (a22 : Bool) (a23 : UInt8) (a24 : List UInt8) (a25 : List AV) (a26 : List UInt8) (a27 : Bool) (a28 : List AV)
theorem text101_12 : step C call 101 Tryd.f101 (unr C call run 101 Tryd.f101 400) K101_12 (S101_12 a0 a1 a2 a3 a4 a5 a6 a7 a8 a9 a10 a11 a12 a13 a14 a15 a16 a17 a18 a19 a20 a21 a22 a23 a24 a25 a26 a27 a28) = X101_12 call run a0 a1 a2 a3 a4 a5 a6 a7 a8 a9 a10 a11 a12 a13 a14 a15 a16 a17 a18 a19 a20 a21 a22 a23 a24 a25 a26 a27 a28 := by
  kernel_rfl
end
section
variable (a0 a1 : UInt8) (a2 : Bool) (a3 a4 a5 a6 : UInt8) (a7 : Bool) (a8 : UInt8) (a9 : List UInt8) (a10 a11 : UInt8) (a12 : Bool) (a13 a14 a15 a16 : UInt8) (a17 : Bool) (a18 : UInt8) (a19 : List UInt8) (a20 a21 : List AV) (a22 : Bool) (a23 : UInt8) (a24 : List UInt8) (a25 : List AV) (a26 : List UInt8) (a27 : Bool) (a28 : List AV)
theorem r101_12 {r : AV} (h : X101_12 (semCall C Tryd.prog) (semRun C Tryd.prog 101 Tryd.f101) a0 a1 a2 a3 a4 a5 a6 a7 a8 a9 a10 a11 a12 a13 a14 a15 a16 a17 a18 a19 a20 a21 a22 a23 a24 a25 a26 a27 a28 = some r) : F101_12 (semRun C Tryd.prog 101 Tryd.f101) a0 a1 a2 a3 a4 a5 a6 a7 a8 a9 a10 a11 a12 a13 a14 a15 a16 a17 a18 a19 a20 a21 a22 a23 a24 a25 a26 a27 a28 = some r :=
  semRun_unr 400 ((text101_12 _ _ a0 a1 a2 a3 a4 a5 a6 a7 a8 a9 a10 a11 a12 a13 a14 a15 a16 a17 a18 a19 a20 a21 a22 a23 a24 a25 a26 a27 a28).trans h)
end
end R2

namespace R2
open Go Go.Proofs Sx
noncomputable def body102 : Code := (Tryd.f102.body).getD .skip
section
variable (run : RunT) (a0 a1 : UInt8) (a2 : Bool) (a3 a4 a5 a6 : UInt8) (a7 : Bool) (a8 : UInt8) (a9 : List UInt8) (a10 a11 : List AV) (a12 : Bool) (a13 : UInt8) (a14 : List UInt8) (a15 : List AV) (a16 : AV) (a17 : Bool) (a18 : List AV)
noncomputable def K102_3 : List Item := (kAt 3 body102 []).getD []
def S102_3 : St := St.ofL [(0, .cell (.ptr 58 0))] [(58, some [.val (.u8 a0), .val (.u8 a1), .val (.b a2), .val (.u8 a3), .val (.u8 a4), .val (.u8 a5), .val (.u8 a6), .val (.b a7), .val (.u8 a8), .val (.s a9), .own 658010 5 1 a10, .own 658011 5 1 a11, .val (.b a12), .val (.u8 a13), .val (.s a14), .own 658015 101 2 a15, .val (a16), .clo 59 [59], .val (.b a17)]), (59, some [.own 659000 74 4 a18])]
noncomputable def F102_3 : Option AV := run K102_3 (S102_3 a0 a1 a2 a3 a4 a5 a6 a7 a8 a9 a10 a11 a12 a13 a14 a15 a16 a17 a18)
end
noncomputable def X102 (call : CallT) (run : RunT) (a0 a1 : UInt8) (a2 : Bool) (a3 a4 a5 a6 : UInt8) (a7 : Bool) (a8 : UInt8) (a9 : List UInt8) (a10 a11 a12 : UInt8) (a13 : Bool) (a14 a15 a16 a17 : UInt8) (a18 : Bool) (a19 : UInt8) (a20 : List UInt8) (a21 a22 : List AV) (a23 : Bool) (a24 : UInt8) (a25 : List UInt8) (a26 : List AV) (a27 : List UInt8) (a28 : Bool) (a29 : List AV) : Option AV :=
  condM (.b (ueq a11 13))
  (some (.tu [.tu [], .ag [.u8 a11, .u8 a12, .b a13, .u8 a14, .u8 a15, .u8 a16, .u8 a17, .b a18, .u8 a19, .s a20, .ro 1 a21, .ro 1 a22, .b a23, .u8 3, .s [], .ro 2 [], .s [], .un, .b a28], .ag [.ro 4 a29]]))
  (condM (.b (une a11 0))
  ((b2s (.ro 1 (([.u8 a10] : List AV)))).bind fun v1 => (binS .add (.s a27) (v1)).bind fun v2 => (AV.one (v2)).bind fun v3 => some (.tu [.tu [], .ag [.u8 a11, .u8 a12, .b a13, .u8 a14, .u8 a15, .u8 a16, .u8 a17, .b a18, .u8 a19, .s a20, .ro 1 a21, .ro 1 a22, .b a23, .u8 a24, .s a25, .ro 2 a26, v3, .un, .b a28], .ag [.ro 4 a29]]))
  (condM (.b (ueq a0 15))
  ((slS (.s a27) none (some (.int (w64 (((a27.length : Int)) - 2))))).bind fun v4 => (AV.one (v4)).bind fun v5 => F102_3 run a11 a12 a13 a14 a15 a16 a17 a18 a19 a20 a21 a22 a23 a24 a25 a26 (v5) a28 a29)
  (F102_3 run a11 a12 a13 a14 a15 a16 a17 a18 a19 a20 a21 a22 a23 a24 a25 a26 (.s a27) a28 a29)))
section
variable (call : CallT) (run : RunT) (a0 a1 : UInt8) (a2 : Bool) (a3 a4 a5 a6 : UInt8) (a7 : Bool) (a8 : UInt8) (a9 : List UInt8) (a10 a11 a12 : UInt8) (a13 : Bool) (a14 a15 a16 a17 : UInt8) (a18 : Bool) (a19 : UInt8) (a20 : List UInt8) (a21 a22 : List AV) (a23 : Bool) (a24 : UInt8) (a25 : List UInt8) (a26 : List AV) (a27 : List UInt8) (a28 : Bool) (a29 : List AV)
theorem text102 : unr C call run 102 Tryd.f102 400 [.code body102] (initF C 102 Tryd.f102.ntmps [.un, .ag [.u8 a0, .u8 a1, .b a2, .u8 a3, .u8 a4, .u8 a5, .u8 a6, .b a7, .u8 a8, .s a9], .u8 a10, .ag [.u8 a11, .u8 a12, .b a13, .u8 a14, .u8 a15, .u8 a16, .u8 a17, .b a18, .u8 a19, .s a20, .ro 1 a21, .ro 1 a22, .b a23, .u8 a24, .s a25, .ro 2 a26, .s a27, .un, .b a28], .ag [.ro 4 a29]]) = X102 call run a0 a1 a2 a3 a4 a5 a6 a7 a8 a9 a10 a11 a12 a13 a14 a15 a16 a17 a18 a19 a20 a21 a22 a23 a24 a25 a26 a27 a28 a29 := by
  kernel_rfl
theorem c102 {r : AV} (h : X102 (semCall C Tryd.prog) (semRun C Tryd.prog 102 Tryd.f102) a0 a1 a2 a3 a4 a5 a6 a7 a8 a9 a10 a11 a12 a13 a14 a15 a16 a17 a18 a19 a20 a21 a22 a23 a24 a25 a26 a27 a28 a29 = some r) : semCall C Tryd.prog 102 [.un, .ag [.u8 a0, .u8 a1, .b a2, .u8 a3, .u8 a4, .u8 a5, .u8 a6, .b a7, .u8 a8, .s a9], .u8 a10, .ag [.u8 a11, .u8 a12, .b a13, .u8 a14, .u8 a15, .u8 a16, .u8 a17, .b a18, .u8 a19, .s a20, .ro 1 a21, .ro 1 a22, .b a23, .u8 a24, .s a25, .ro 2 a26, .s a27, .un, .b a28], .ag [.ro 4 a29]] = some r :=
  semCall_unr (fn := Tryd.f102) (c := body102) (by kernel_rfl) (by kernel_rfl) 400 (by kernel_rfl) ((text102 _ _ a0 a1 a2 a3 a4 a5 a6 a7 a8 a9 a10 a11 a12 a13 a14 a15 a16 a17 a18 a19 a20 a21 a22 a23 a24 a25 a26 a27 a28 a29).trans h)
end
noncomputable def X102_3 (call : CallT) (run : RunT) (a0 a1 : UInt8) (a2 : Bool) (a3 a4 a5 a6 : UInt8) (a7 : Bool) (a8 : UInt8) (a9 : List UInt8) (a10 a11 : List AV) (a12 : Bool) (a13 : UInt8) (a14 : List UInt8) (a15 : List AV) (a16 : AV) (a17 : Bool) (a18 : List AV) : Option AV :=
  (call 111 [.un, .ag [.u8 a0, .u8 a1, .b a2, .u8 a3, .u8 a4, .u8 a5, .u8 a6, .b a7, .u8 a8, .s a9, .ro 1 a10, .ro 1 a11, .b a12, .u8 a13, .s a14, .ro 2 a15, a16, .un, .b a17], .ag [.ro 4 a18]]).bind fun v1 => (tupI v1 0).bind fun v2 => (tupI v1 1).bind fun v3 => (AV.asAg 19 v3).bind fun v4 => (tupI v1 2).bind fun v5 => (AV.asAg 1 v5).bind fun v6 => some (.tu [.tu [], .ag [v4.getD 0 .un, v4.getD 1 .un, v4.getD 2 .un, v4.getD 3 .un, v4.getD 4 .un, v4.getD 5 .un, v4.getD 6 .un, v4.getD 7 .un, v4.getD 8 .un, v4.getD 9 .un, .ro 1 (AV.elems (v4.getD 10 .un)), .ro 1 (AV.elems (v4.getD 11 .un)), v4.getD 12 .un, v4.getD 13 .un, v4.getD 14 .un, .ro 2 (AV.elems (v4.getD 15 .un)), v4.getD 16 .un, .un, v4.getD 18 .un], .ag [.ro 4 (AV.elems (v6.getD 0 .un))]])
section
variable (call : CallT) (run : RunT) (a0 a1 : UInt8) (a2 : Bool) (a3 a4 a5 a6 : UInt8) (a7 : Bool) (a8 : UInt8) (a9 : List UInt8) (a10 a11 : List AV) (a12 : Bool) (a13 : UInt8) (a14 : List UInt8) (a15 : List AV) (a16 : AV) (a17 : Bool) (a18 : List AV)
theorem text102_3 : step C call 102 Tryd.f102 (unr C call run 102 Tryd.f102 400) K102_3 (S102_3 a0 a1 a2 a3 a4 a5 a6 a7 a8 a9 a10 a11 a12 a13 a14 a15 a16 a17 a18) = X102_3 call run a0 a1 a2 a3 a4 a5 a6 a7 a8 a9 a10 a11 a12 a13 a14 a15 a16 a17 a18 := by
  kernel_rfl
end
section
variable (a0 a1 : UInt8) (a2 : Bool) (a3 a4 a5 a6 : UInt8) (a7 : Bool) (a8 : UInt8) (a9 : List UInt8) (a10 a11 : List AV) (a12 : Bool) (a13 : UInt8) (a14 : List UInt8) (a15 : List AV) (a16 : AV) (a17 : Bool) (a18 : List AV)
theorem r102_3 {r : AV} (h : X102_3 (semCall C Tryd.prog) (semRun C Tryd.prog 102 Tryd.f102) a0 a1 a2 a3 a4 a5 a6 a7 a8 a9 a10 a11 a12 a13 a14 a15 a16 a17 a18 = some r) : F102_3 (semRun C Tryd.prog 102 Tryd.f102) a0 a1 a2 a3 a4 a5 a6 a7 a8 a9 a10 a11 a12 a13 a14 a15 a16 a17 a18 = some r :=
  semRun_unr 400 ((text102_3 _ _ a0 a1 a2 a3 a4 a5 a6 a7 a8 a9 a10 a11 a12 a13 a14 a15 a16 a17 a18).trans h)
end
end R2

namespace R2
open Go Go.Proofs Sx
noncomputable def body103 : Code := (Tryd.f103.body).getD .skip
section
variable (run : RunT) (a0 : Int) (a1 a2 : UInt8) (a3 : Bool) (a4 a5 a6 a7 : UInt8) (a8 : Bool) (a9 : UInt8) (a10 : List UInt8) (a11 a12 : List AV) (a13 : Bool) (a14 : UInt8) (a15 : List UInt8) (a16 : List AV) (a17 : List UInt8) (a18 : Bool) (a19 : List AV)
noncomputable def K103_9 : List Item := (kAt 9 body103 []).getD []
def S103_9 : St := St.ofL [(0, .cell (.ptr 96 0)), (6, .cell (.val (.int a0)))] [(96, some [.val (.u8 a1), .val (.u8 a2), .val (.b a3), .val (.u8 a4), .val (.u8 a5), .val (.u8 a6), .val (.u8 a7), .val (.b a8), .val (.u8 a9), .val (.s a10), .own 696010 5 1 a11, .own 696011 5 1 a12, .val (.b a13), .val (.u8 a14), .val (.s a15), .own 696015 101 2 a16, .val (.s a17), .clo 59 [97], .val (.b a18)]), (97, some [.own 697000 74 4 a19])]
noncomputable def F103_9 : Option AV := run K103_9 (S103_9 a0 a1 a2 a3 a4 a5 a6 a7 a8 a9 a10 a11 a12 a13 a14 a15 a16 a17 a18 a19)
end
section
variable (run : RunT) (a0 a1 : UInt8) (a2 : Bool) (a3 a4 a5 a6 : UInt8) (a7 : Bool) (a8 : UInt8) (a9 : List UInt8) (a10 a11 : List AV) (a12 : Bool) (a13 : UInt8) (a14 : List UInt8) (a15 : List AV) (a16 : List UInt8) (a17 : Bool) (a18 : List AV)
noncomputable def K103_15 : List Item := (kAt 15 body103 []).getD []
def S103_15 : St := St.ofL [(0, .cell (.ptr 96 0))] [(96, some [.val (.u8 a0), .val (.u8 a1), .val (.b a2), .val (.u8 a3), .val (.u8 a4), .val (.u8 a5), .val (.u8 a6), .val (.b a7), .val (.u8 a8), .val (.s a9), .own 696010 5 1 a10, .own 696011 5 1 a11, .val (.b a12), .val (.u8 a13), .val (.s a14), .own 696015 101 2 a15, .val (.s a16), .clo 59 [97], .val (.b a17)]), (97, some [.own 697000 74 4 a18])]
noncomputable def F103_15 : Option AV := run K103_15 (S103_15 a0 a1 a2 a3 a4 a5 a6 a7 a8 a9 a10 a11 a12 a13 a14 a15 a16 a17 a18)
end
noncomputable def X103 (call : CallT) (run : RunT) (a0 a1 : UInt8) (a2 : Bool) (a3 a4 a5 a6 : UInt8) (a7 : Bool) (a8 : UInt8) (a9 : List UInt8) (a10 a11 a12 : UInt8) (a13 : Bool) (a14 a15 a16 a17 : UInt8) (a18 : Bool) (a19 : UInt8) (a20 : List UInt8) (a21 a22 : List AV) (a23 : Bool) (a24 : UInt8) (a25 : List UInt8) (a26 : List AV) (a27 : List UInt8) (a28 : Bool) (a29 : List AV) : Option AV :=
  condM (.b (ueq a11 3))
  (some (.tu [.tu [], .ag [.u8 a11, .u8 a12, .b a13, .u8 a14, .u8 a15, .u8 a16, .u8 a17, .b a18, .u8 a19, .s a20, .ro 1 a21, .ro 1 a22, .b a23, .u8 a24, .s a20, .ro 2 a26, .s a27, .un, .b a28], .ag [.ro 4 a29]]))
  (condM (.b (ueq a11 5))
  (condM (.b (une a0 5))
  ((app 32 2 a26 (.ro 2 (([.ag [.s [], .s []]] : List AV)))).bind fun v1 => F103_9 run (w64 (((a26.length : Int)) + 1)) a11 a12 a13 a14 a15 a16 a17 a18 a19 a20 a21 a22 a23 a24 a25 v1 a27 a28 a29)
  (F103_9 run ((a26.length : Int)) a11 a12 a13 a14 a15 a16 a17 a18 a19 a20 a21 a22 a23 a24 a25 a26 a27 a28 a29))
  (condM (.b (ueq a11 8))
  ((selW (.b (ueq a0 8)) false (some (.b (ueq a15 0))) (.b true)).bind fun v2 => condM (v2)
  ((inN a26.length (.int (w64 (((a26.length : Int)) - 1)))).bind fun v3 => (b2s (.ro 1 (([.u8 a10] : List AV)))).bind fun v4 => (binS .add (AV.cell (a26.getD v3 .un) 1) (v4)).bind fun v5 => (inN a26.length (.int (w64 (((a26.length : Int)) - 1)))).bind fun v6 => (AV.one (v5)).bind fun v7 => some (.tu [.tu [], .ag [.u8 a11, .u8 a12, .b a13, .u8 a14, .u8 a15, .u8 a16, .u8 a17, .b a18, .u8 a19, .s a20, .ro 1 a21, .ro 1 a22, .b a23, .u8 a24, .s a25, .ro 2 (a26.set v6 (.ag [AV.cell (a26.getD v6 .un) 0, v7])), .s a27, .un, .b a28], .ag [.ro 4 a29]]))
  (some (.tu [.tu [], .ag [.u8 a11, .u8 a12, .b a13, .u8 a14, .u8 a15, .u8 a16, .u8 a17, .b a18, .u8 a19, .s a20, .ro 1 a21, .ro 1 a22, .b a23, .u8 a24, .s a25, .ro 2 a26, .s a27, .un, .b a28], .ag [.ro 4 a29]])))
  (condM (.b (ueq a11 0))
  (F103_15 run a11 a12 a13 a14 a15 a16 a17 a18 a19 a20 a21 a22 a23 a24 a25 a26 a27 a28 a29)
  (condM (.b (ueq a11 17))
  (F103_15 run a11 a12 a13 a14 a15 a16 a17 a18 a19 a20 a21 a22 a23 a24 a25 a26 a27 a28 a29)
  (some (.tu [.tu [], .ag [.u8 a11, .u8 a12, .b a13, .u8 a14, .u8 a15, .u8 a16, .u8 a17, .b a18, .u8 a19, .s a20, .ro 1 a21, .ro 1 a22, .b a23, .u8 a24, .s a25, .ro 2 a26, .s a27, .un, .b a28], .ag [.ro 4 a29]]))))))
section
variable (call : CallT) (run : RunT) (a0 a1 : UInt8) (a2 : Bool) (a3 a4 a5 a6 : UInt8) (a7 : Bool) (a8 : UInt8) (a9 : List UInt8) (a10 a11 a12 : UInt8) (a13 : Bool) (a14 a15 a16 a17 : UInt8) (a18 : Bool) (a19 : UInt8) (a20 : List UInt8) (a21 a22 : List AV) (a23 : Bool) (a24 : UInt8) (a25 : List UInt8) (a26 : List AV) (a27 : List UInt8) (a28 : Bool) (a29 : List AV)
theorem text103 : unr C call run 103 Tryd.f103 400 [.code body103] (initF C 103 Tryd.f103.ntmps [.un, .ag [.u8 a0, .u8 a1, .b a2, .u8 a3, .u8 a4, .u8 a5, .u8 a6, .b a7, .u8 a8, .s a9], .u8 a10, .ag [.u8 a11, .u8 a12, .b a13, .u8 a14, .u8 a15, .u8 a16, .u8 a17, .b a18, .u8 a19, .s a20, .ro 1 a21, .ro 1 a22, .b a23, .u8 a24, .s a25, .ro 2 a26, .s a27, .un, .b a28], .ag [.ro 4 a29]]) = X103 call run a0 a1 a2 a3 a4 a5 a6 a7 a8 a9 a10 a11 a12 a13 a14 a15 a16 a17 a18 a19 a20 a21 a22 a23 a24 a25 a26 a27 a28 a29 := by
  kernel_rfl
theorem c103 {r : AV} (h : X103 (semCall C Tryd.prog) (semRun C Tryd.prog 103 Tryd.f103) a0 a1 a2 a3 a4 a5 a6 a7 a8 a9 a10 a11 a12 a13 a14 a15 a16 a17 a18 a19 a20 a21 a22 a23 a24 a25 a26 a27 a28 a29 = some r) : semCall C Tryd.prog 103 [.un, .ag [.u8 a0, .u8 a1, .b a2, .u8 a3, .u8 a4, .u8 a5, .u8 a6, .b a7, .u8 a8, .s a9], .u8 a10, .ag [.u8 a11, .u8 a12, .b a13, .u8 a14, .u8 a15, .u8 a16, .u8 a17, .b a18, .u8 a19, .s a20, .ro 1 a21, .ro 1 a22, .b a23, .u8 a24, .s a25, .ro 2 a26, .s a27, .un, .b a28], .ag [.ro 4 a29]] = some r :=
  semCall_unr (fn := Tryd.f103) (c := body103) (by kernel_rfl) (by kernel_rfl) 400 (by kernel_rfl) ((text103 _ _ a0 a1 a2 a3 a4 a5 a6 a7 a8 a9 a10 a11 a12 a13 a14 a15 a16 a17 a18 a19 a20 a21 a22 a23 a24 a25 a26 a27 a28 a29).trans h)
end
noncomputable def X103_9 (call : CallT) (run : RunT) (a0 : Int) (a1 a2 : UInt8) (a3 : Bool) (a4 a5 a6 a7 : UInt8) (a8 : Bool) (a9 : UInt8) (a10 : List UInt8) (a11 a12 : List AV) (a13 : Bool) (a14 : UInt8) (a15 : List UInt8) (a16 : List AV) (a17 : List UInt8) (a18 : Bool) (a19 : List AV) : Option AV :=
  (inN a16.length (.int (w64 (a0 - 1)))).bind fun v1 => some (.tu [.tu [], .ag [.u8 a1, .u8 a2, .b a3, .u8 a4, .u8 a5, .u8 a6, .u8 a7, .b a8, .u8 a9, .s a10, .ro 1 a11, .ro 1 a12, .b a13, .u8 a14, .s a15, .ro 2 (a16.set v1 (.ag [.s a10, AV.cell (a16.getD v1 .un) 1])), .s a17, .un, .b a18], .ag [.ro 4 a19]])
section
variable (call : CallT) (run : RunT) (a0 : Int) (a1 a2 : UInt8) (a3 : Bool) (a4 a5 a6 a7 : UInt8) (a8 : Bool) (a9 : UInt8) (a10 : List UInt8) (a11 a12 : List AV) (a13 : Bool) (a14 : UInt8) (a15 : List UInt8) (a16 : List AV) (a17 : List UInt8) (a18 : Bool) (a19 : List AV)
theorem text103_9 : step C call 103 Tryd.f103 (unr C call run 103 Tryd.f103 400) K103_9 (S103_9 a0 a1 a2 a3 a4 a5 a6 a7 a8 a9 a10 a11 a12 a13 a14 a15 a16 a17 a18 a19) = X103_9 call run a0 a1 a2 a3 a4 a5 a6 a7 a8 a9 a10 a11 a12 a13 a14 a15 a16 a17 a18 a19 := by
  kernel_rfl
end
noncomputable def X103_15 (call : CallT) (run : RunT) (a0 a1 : UInt8) (a2 : Bool) (a3 a4 a5 a6 : UInt8) (a7 : Bool) (a8 : UInt8) (a9 : List UInt8) (a10 a11 : List AV) (a12 : Bool) (a13 : UInt8) (a14 : List UInt8) (a15 : List AV) (a16 : List UInt8) (a17 : Bool) (a18 : List AV) : Option AV :=
  (call 111 [.un, .ag [.u8 a0, .u8 a1, .b a2, .u8 a3, .u8 a4, .u8 a5, .u8 a6, .b a7, .u8 a8, .s a9, .ro 1 a10, .ro 1 a11, .b a12, .u8 a13, .s a14, .ro 2 a15, .s a16, .un, .b a17], .ag [.ro 4 a18]]).bind fun v1 => (tupI v1 0).bind fun v2 => (tupI v1 1).bind fun v3 => (AV.asAg 19 v3).bind fun v4 => (tupI v1 2).bind fun v5 => (AV.asAg 1 v5).bind fun v6 => some (.tu [.tu [], .ag [v4.getD 0 .un, v4.getD 1 .un, v4.getD 2 .un, v4.getD 3 .un, v4.getD 4 .un, v4.getD 5 .un, v4.getD 6 .un, v4.getD 7 .un, v4.getD 8 .un, v4.getD 9 .un, .ro 1 (AV.elems (v4.getD 10 .un)), .ro 1 (AV.elems (v4.getD 11 .un)), v4.getD 12 .un, v4.getD 13 .un, v4.getD 14 .un, .ro 2 (AV.elems (v4.getD 15 .un)), v4.getD 16 .un, .un, v4.getD 18 .un], .ag [.ro 4 (AV.elems (v6.getD 0 .un))]])
section
variable (call : CallT) (run : RunT) (a0 a1 : UInt8) (a2 : Bool) (a3 a4 a5 a6 : UInt8) (a7 : Bool) (a8 : UInt8) (a9 : List UInt8) (a10 a11 : List AV) (a12 : Bool) (a13 : UInt8) (a14 : List UInt8) (a15 : List AV) (a16 : List UInt8) (a17 : Bool) (a18 : List AV)
theorem text103_15 : step C call 103 Tryd.f103 (unr C call run 103 Tryd.f103 400) K103_15 (S103_15 a0 a1 a2 a3 a4 a5 a6 a7 a8 a9 a10 a11 a12 a13 a14 a15 a16 a17 a18) = X103_15 call run a0 a1 a2 a3 a4 a5 a6 a7 a8 a9 a10 a11 a12 a13 a14 a15 a16 a17 a18 := by
  kernel_rfl
end
section
variable (a0 : Int) (a1 a2 : UInt8) (a3 : Bool) (a4 a5 a6 a7 : UInt8) (a8 : Bool) (a9 : UInt8) (a10 : List UInt8) (a11 a12 : List AV) (a13 : Bool) (a14 : UInt8) (a15 : List UInt8) (a16 : List AV) (a17 : List UInt8) (a18 : Bool) (a19 : List AV)
theorem r103_9 {r : AV} (h : X103_9 (semCall C Tryd.prog) (semRun C Tryd.prog 103 Tryd.f103) a0 a1 a2 a3 a4 a5 a6 a7 a8 a9 a10 a11 a12 a13 a14 a15 a16 a17 a18 a19 = some r) : F103_9 (semRun C Tryd.prog 103 Tryd.f103) a0 a1 a2 a3 a4 a5 a6 a7 a8 a9 a10 a11 a12 a13 a14 a15 a16 a17 a18 a19 = some r :=
  semRun_unr 400 ((text103_9 _ _ a0 a1 a2 a3 a4 a5 a6 a7 a8 a9 a10 a11 a12 a13 a14 a15 a16 a17 a18 a19).trans h)
end
section
variable (a0 a1 : UInt8) (a2 : Bool) (a3 a4 a5 a6 : UInt8) (a7 : Bool) (a8 : UInt8) (a9 : List UInt8) (a10 a11 : List AV) (a12 : Bool) (a13 : UInt8) (a14 : List UInt8) (a15 : List AV) (a16 : List UInt8) (a17 : Bool) (a18 : List AV)
theorem r103_15 {r : AV} (h : X103_15 (semCall C Tryd.prog) (semRun C Tryd.prog 103 Tryd.f103) a0 a1 a2 a3 a4 a5 a6 a7 a8 a9 a10 a11 a12 a13 a14 a15 a16 a17 a18 = some r) : F103_15 (semRun C Tryd.prog 103 Tryd.f103) a0 a1 a2 a3 a4 a5 a6 a7 a8 a9 a10 a11 a12 a13 a14 a15 a16 a17 a18 = some r :=
  semRun_unr 400 ((text103_15 _ _ a0 a1 a2 a3 a4 a5 a6 a7 a8 a9 a10 a11 a12 a13 a14 a15 a16 a17 a18).trans h)
end
end R2
