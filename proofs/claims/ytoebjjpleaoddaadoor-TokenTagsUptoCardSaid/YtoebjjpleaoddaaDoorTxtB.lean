/-
  What functions of this seat come to, step by step.
-/
import Derived.Test.YtoebjjpleaoddaaDoorTab
import Derived.Test.YtoebjjpleaoddaaDoorProg
set_option linter.unusedVariables false
set_option linter.unusedSimpArgs false
set_option linter.unusedSectionVars false
set_option linter.unnecessarySimpa false
namespace R4
open Go Go.Proofs Sx
noncomputable def body61 : Code := (Tryd.f61.body).getD .skip
section
variable (run : RunT) (a0 a1 a2 : UInt8) (a3 : Bool) (a4 a5 a6 a7 : UInt8) (a8 : Bool) (a9 : UInt8) (a10 : List UInt8) (a11 a12 : UInt8) (a13 : Bool) (a14 a15 a16 a17 : UInt8) (a18 : Bool) (a19 : UInt8) (a20 : List UInt8)
noncomputable def K61_4 : List Item := (kAt 4 body61 []).getD []
def S61_4 : St := St.ofL [(1, .cell (.val (.u8 a0))), (2, .cell (.ptr 2 0)), (4, .cell (.ptr 4 0))] [(2, some [.val (.u8 a1), .val (.u8 a2), .val (.b a3), .val (.u8 a4), .val (.u8 a5), .val (.u8 a6), .val (.u8 a7), .val (.b a8), .val (.u8 a9), .val (.s a10)]), (4, some [.val (.u8 a11), .val (.u8 a12), .val (.b a13), .val (.u8 a14), .val (.u8 a15), .val (.u8 a16), .val (.u8 a17), .val (.b a18), .val (.u8 a19), .val (.s a20)])]
noncomputable def F61_4 : Option AV := run K61_4 (S61_4 a0 a1 a2 a3 a4 a5 a6 a7 a8 a9 a10 a11 a12 a13 a14 a15 a16 a17 a18 a19 a20)
end
section
variable (run : RunT) (a0 : UInt8) (a1 : Int) (a2 a3 : UInt8) (a4 : Bool) (a5 a6 a7 a8 : UInt8) (a9 : Bool) (a10 : UInt8) (a11 : List UInt8) (a12 a13 : UInt8) (a14 : Bool) (a15 a16 a17 a18 : UInt8) (a19 : Bool) (a20 : UInt8) (a21 : List UInt8)
noncomputable def K61_11 : List Item := (kAt 11 body61 []).getD []
def S61_11 : St := St.ofL [(1, .cell (.val (.u8 a0))), (2, .cell (.ptr 2 0)), (4, .cell (.ptr 4 0)), (7, .cell (.val (.int a1)))] [(2, some [.val (.u8 a2), .val (.u8 a3), .val (.b a4), .val (.u8 a5), .val (.u8 a6), .val (.u8 a7), .val (.u8 a8), .val (.b a9), .val (.u8 a10), .val (.s a11)]), (4, some [.val (.u8 a12), .val (.u8 a13), .val (.b a14), .val (.u8 a15), .val (.u8 a16), .val (.u8 a17), .val (.u8 a18), .val (.b a19), .val (.u8 a20), .val (.s a21)])]
noncomputable def F61_11 : Option AV := run K61_11 (S61_11 a0 a1 a2 a3 a4 a5 a6 a7 a8 a9 a10 a11 a12 a13 a14 a15 a16 a17 a18 a19 a20 a21)
end
section
variable (run : RunT) (a0 a1 a2 : UInt8) (a3 : Bool) (a4 a5 a6 a7 : UInt8) (a8 : Bool) (a9 : UInt8) (a10 : List UInt8) (a11 a12 : UInt8) (a13 : Bool) (a14 a15 a16 a17 : UInt8) (a18 : Bool) (a19 : UInt8) (a20 : List UInt8)
noncomputable def K61_13 : List Item := (kAt 13 body61 []).getD []
def S61_13 : St := St.ofL [(1, .cell (.val (.u8 a0))), (2, .cell (.ptr 2 0)), (4, .cell (.ptr 4 0))] [(2, some [.val (.u8 a1), .val (.u8 a2), .val (.b a3), .val (.u8 a4), .val (.u8 a5), .val (.u8 a6), .val (.u8 a7), .val (.b a8), .val (.u8 a9), .val (.s a10)]), (4, some [.val (.u8 a11), .val (.u8 a12), .val (.b a13), .val (.u8 a14), .val (.u8 a15), .val (.u8 a16), .val (.u8 a17), .val (.b a18), .val (.u8 a19), .val (.s a20)])]
noncomputable def F61_13 : Option AV := run K61_13 (S61_13 a0 a1 a2 a3 a4 a5 a6 a7 a8 a9 a10 a11 a12 a13 a14 a15 a16 a17 a18 a19 a20)
end
section
variable (run : RunT) (a0 : UInt8) (a1 : Int) (a2 a3 : UInt8) (a4 : Bool) (a5 a6 a7 a8 : UInt8) (a9 : Bool) (a10 : UInt8) (a11 : List UInt8) (a12 a13 : UInt8) (a14 : Bool) (a15 a16 a17 a18 : UInt8) (a19 : Bool) (a20 : UInt8) (a21 : List UInt8)
noncomputable def K61_20 : List Item := (kAt 20 body61 []).getD []
def S61_20 : St := St.ofL [(1, .cell (.val (.u8 a0))), (2, .cell (.ptr 2 0)), (4, .cell (.ptr 4 0)), (7, .cell (.val (.int a1)))] [(2, some [.val (.u8 a2), .val (.u8 a3), .val (.b a4), .val (.u8 a5), .val (.u8 a6), .val (.u8 a7), .val (.u8 a8), .val (.b a9), .val (.u8 a10), .val (.s a11)]), (4, some [.val (.u8 a12), .val (.u8 a13), .val (.b a14), .val (.u8 a15), .val (.u8 a16), .val (.u8 a17), .val (.u8 a18), .val (.b a19), .val (.u8 a20), .val (.s a21)])]
noncomputable def F61_20 : Option AV := run K61_20 (S61_20 a0 a1 a2 a3 a4 a5 a6 a7 a8 a9 a10 a11 a12 a13 a14 a15 a16 a17 a18 a19 a20 a21)
end
section
variable (run : RunT) (a0 a1 : UInt8) (a2 : Bool) (a3 a4 a5 a6 : UInt8) (a7 : Bool) (a8 : AV) (a9 : List UInt8) (a10 a11 : UInt8) (a12 : Bool) (a13 a14 a15 a16 : UInt8) (a17 : Bool) (a18 : UInt8) (a19 : List UInt8)
noncomputable def K61_24 : List Item := (kAt 24 body61 []).getD []
def S61_24 : St := St.ofL [(2, .cell (.ptr 2 0)), (4, .cell (.ptr 4 0))] [(2, some [.val (.u8 a0), .val (.u8 a1), .val (.b a2), .val (.u8 a3), .val (.u8 a4), .val (.u8 a5), .val (.u8 a6), .val (.b a7), .val (a8), .val (.s a9)]), (4, some [.val (.u8 a10), .val (.u8 a11), .val (.b a12), .val (.u8 a13), .val (.u8 a14), .val (.u8 a15), .val (.u8 a16), .val (.b a17), .val (.u8 a18), .val (.s a19)])]
noncomputable def F61_24 : Option AV := run K61_24 (S61_24 a0 a1 a2 a3 a4 a5 a6 a7 a8 a9 a10 a11 a12 a13 a14 a15 a16 a17 a18 a19)
end
section
variable (run : RunT) (a0 a1 : UInt8) (a2 : Bool) (a3 a4 a5 a6 : UInt8) (a7 : Bool) (a8 : UInt8) (a9 : List UInt8) (a10 a11 : UInt8) (a12 : Bool) (a13 a14 a15 a16 : UInt8) (a17 : Bool) (a18 : UInt8) (a19 : List UInt8)
noncomputable def K61_33 : List Item := (kAt 33 body61 []).getD []
def S61_33 : St := St.ofL [(2, .cell (.ptr 2 0)), (4, .cell (.ptr 4 0))] [(2, some [.val (.u8 a0), .val (.u8 a1), .val (.b a2), .val (.u8 a3), .val (.u8 a4), .val (.u8 a5), .val (.u8 a6), .val (.b a7), .val (.u8 a8), .val (.s a9)]), (4, some [.val (.u8 a10), .val (.u8 a11), .val (.b a12), .val (.u8 a13), .val (.u8 a14), .val (.u8 a15), .val (.u8 a16), .val (.b a17), .val (.u8 a18), .val (.s a19)])]
noncomputable def F61_33 : Option AV := run K61_33 (S61_33 a0 a1 a2 a3 a4 a5 a6 a7 a8 a9 a10 a11 a12 a13 a14 a15 a16 a17 a18 a19)
end
noncomputable def X61 (call : CallT) (run : RunT) (a0 a1 : UInt8) (a2 : Bool) (a3 a4 a5 a6 : UInt8) (a7 : Bool) (a8 : UInt8) (a9 : List UInt8) (a10 : UInt8) : Option AV :=
  condM (.b ((w64 (a0.toNat : Int)) == 11))
  (F61_4 run a10 a0 a1 a2 a3 a4 a5 a6 a7 a8 a9 0 0 false 0 0 0 0 false 0 [])
  (condM (.b ((w64 (a0.toNat : Int)) == 12))
  (F61_4 run a10 a0 a1 a2 a3 a4 a5 a6 a7 a8 a9 0 0 false 0 0 0 0 false 0 [])
  (F61_11 run a10 (w64 (a0.toNat : Int)) a0 a1 a2 a3 a4 a5 a6 a7 a8 a9 0 0 false 0 0 0 0 false 0 []))
section
variable (call : CallT) (run : RunT) (a0 a1 : UInt8) (a2 : Bool) (a3 a4 a5 a6 : UInt8) (a7 : Bool) (a8 : UInt8) (a9 : List UInt8) (a10 : UInt8)
theorem text61 : unr C call run 61 Tryd.f61 400 [.code body61] (initF C 61 Tryd.f61.ntmps [.ag [.u8 a0, .u8 a1, .b a2, .u8 a3, .u8 a4, .u8 a5, .u8 a6, .b a7, .u8 a8, .s a9], .u8 a10]) = X61 call run a0 a1 a2 a3 a4 a5 a6 a7 a8 a9 a10 := by
  kernel_rfl
theorem c61 {r : AV} (h : X61 (semCall C Tryd.prog) (semRun C Tryd.prog 61 Tryd.f61) a0 a1 a2 a3 a4 a5 a6 a7 a8 a9 a10 = some r) : semCall C Tryd.prog 61 [.ag [.u8 a0, .u8 a1, .b a2, .u8 a3, .u8 a4, .u8 a5, .u8 a6, .b a7, .u8 a8, .s a9], .u8 a10] = some r :=
  semCall_unr (fn := Tryd.f61) (c := body61) (by kernel_rfl) (by kernel_rfl) 400 (by kernel_rfl) ((text61 _ _ a0 a1 a2 a3 a4 a5 a6 a7 a8 a9 a10).trans h)
end
noncomputable def X61_4 (call : CallT) (run : RunT) (a0 a1 a2 : UInt8) (a3 : Bool) (a4 a5 a6 a7 : UInt8) (a8 : Bool) (a9 : UInt8) (a10 : List UInt8) (a11 a12 : UInt8) (a13 : Bool) (a14 a15 a16 a17 : UInt8) (a18 : Bool) (a19 : UInt8) (a20 : List UInt8) : Option AV :=
  condM (.b (ueq a0 62))
  ((call 53 [.int 0]).bind fun v1 => (AV.asAg 10 (v1)).bind fun v2 => some (.ag [v2.getD 0 .un, v2.getD 1 .un, v2.getD 2 .un, v2.getD 3 .un, v2.getD 4 .un, v2.getD 5 .un, v2.getD 6 .un, v2.getD 7 .un, v2.getD 8 .un, v2.getD 9 .un]))
  (condM (.b (ueq a0 45))
  (condM (.b ((w64 (a1.toNat : Int)) == 11))
  ((call 53 [.int 12]).bind fun v3 => (AV.asAg 10 (v3)).bind fun v4 => some (.ag [v4.getD 0 .un, v4.getD 1 .un, v4.getD 2 .un, v4.getD 3 .un, v4.getD 4 .un, v4.getD 5 .un, v4.getD 6 .un, v4.getD 7 .un, v4.getD 8 .un, v4.getD 9 .un]))
  ((call 53 [.int 13]).bind fun v5 => (AV.asAg 10 (v5)).bind fun v6 => some (.ag [v6.getD 0 .un, v6.getD 1 .un, v6.getD 2 .un, v6.getD 3 .un, v6.getD 4 .un, v6.getD 5 .un, v6.getD 6 .un, v6.getD 7 .un, v6.getD 8 .un, v6.getD 9 .un])))
  ((call 53 [.int 16]).bind fun v7 => (AV.asAg 10 (v7)).bind fun v8 => some (.ag [v8.getD 0 .un, v8.getD 1 .un, v8.getD 2 .un, v8.getD 3 .un, v8.getD 4 .un, v8.getD 5 .un, v8.getD 6 .un, v8.getD 7 .un, v8.getD 8 .un, v8.getD 9 .un])))
section
variable (call : CallT) (run : RunT) (a0 a1 a2 : UInt8) (a3 : Bool) (a4 a5 a6 a7 : UInt8) (a8 : Bool) (a9 : UInt8) (a10 : List UInt8) (a11 a12 : UInt8) (a13 : Bool) (a14 a15 a16 a17 : UInt8) (a18 : Bool) (a19 : UInt8) (a20 : List UInt8)
theorem text61_4 : step C call 61 Tryd.f61 (unr C call run 61 Tryd.f61 400) K61_4 (S61_4 a0 a1 a2 a3 a4 a5 a6 a7 a8 a9 a10 a11 a12 a13 a14 a15 a16 a17 a18 a19 a20) = X61_4 call run a0 a1 a2 a3 a4 a5 a6 a7 a8 a9 a10 a11 a12 a13 a14 a15 a16 a17 a18 a19 a20 := by
  kernel_rfl
end
noncomputable def X61_11 (call : CallT) (run : RunT) (a0 : UInt8) (a1 : Int) (a2 a3 : UInt8) (a4 : Bool) (a5 a6 a7 a8 : UInt8) (a9 : Bool) (a10 : UInt8) (a11 : List UInt8) (a12 a13 : UInt8) (a14 : Bool) (a15 a16 a17 a18 : UInt8) (a19 : Bool) (a20 : UInt8) (a21 : List UInt8) : Option AV :=
  condM (.b (a1 == 13))
  (F61_13 run a0 a2 a3 a4 a5 a6 a7 a8 a9 a10 a11 a12 a13 a14 a15 a16 a17 a18 a19 a20 a21)
  (condM (.b (a1 == 14))
  (F61_13 run a0 a2 a3 a4 a5 a6 a7 a8 a9 a10 a11 a12 a13 a14 a15 a16 a17 a18 a19 a20 a21)
  (F61_20 run a0 a1 a2 a3 a4 a5 a6 a7 a8 a9 a10 a11 a12 a13 a14 a15 a16 a17 a18 a19 a20 a21))
section
variable (call : CallT) (run : RunT) (a0 : UInt8) (a1 : Int) (a2 a3 : UInt8) (a4 : Bool) (a5 a6 a7 a8 : UInt8) (a9 : Bool) (a10 : UInt8) (a11 : List UInt8) (a12 a13 : UInt8) (a14 : Bool) (a15 a16 a17 a18 : UInt8) (a19 : Bool) (a20 : UInt8) (a21 : List UInt8)
theorem text61_11 : step C call 61 Tryd.f61 (unr C call run 61 Tryd.f61 400) K61_11 (S61_11 a0 a1 a2 a3 a4 a5 a6 a7 a8 a9 a10 a11 a12 a13 a14 a15 a16 a17 a18 a19 a20 a21) = X61_11 call run a0 a1 a2 a3 a4 a5 a6 a7 a8 a9 a10 a11 a12 a13 a14 a15 a16 a17 a18 a19 a20 a21 := by
  kernel_rfl
end
noncomputable def X61_13 (call : CallT) (run : RunT) (a0 a1 a2 : UInt8) (a3 : Bool) (a4 a5 a6 a7 : UInt8) (a8 : Bool) (a9 : UInt8) (a10 : List UInt8) (a11 a12 : UInt8) (a13 : Bool) (a14 a15 a16 a17 : UInt8) (a18 : Bool) (a19 : UInt8) (a20 : List UInt8) : Option AV :=
  condM (.b (ueq a0 62))
  ((call 32 []).bind fun v1 => (AV.asAg 10 (v1)).bind fun v2 => some (.ag [v2.getD 0 .un, v2.getD 1 .un, v2.getD 2 .un, v2.getD 3 .un, v2.getD 4 .un, v2.getD 5 .un, v2.getD 6 .un, v2.getD 7 .un, v2.getD 8 .un, v2.getD 9 .un]))
  (condM (.b (une a0 45))
  ((call 53 [.int 15]).bind fun v3 => (AV.asAg 10 (v3)).bind fun v4 => some (.ag [v4.getD 0 .un, v4.getD 1 .un, v4.getD 2 .un, v4.getD 3 .un, v4.getD 4 .un, v4.getD 5 .un, v4.getD 6 .un, v4.getD 7 .un, v4.getD 8 .un, v4.getD 9 .un]))
  (condM (.b ((w64 (a1.toNat : Int)) == 13))
  ((call 53 [.int 14]).bind fun v5 => (AV.asAg 10 (v5)).bind fun v6 => some (.ag [v6.getD 0 .un, v6.getD 1 .un, v6.getD 2 .un, v6.getD 3 .un, v6.getD 4 .un, v6.getD 5 .un, v6.getD 6 .un, v6.getD 7 .un, v6.getD 8 .un, v6.getD 9 .un]))
  (some (.ag [.u8 15, .u8 0, .b false, .u8 0, .u8 0, .u8 0, .u8 0, .b false, .u8 2, .s []]))))
section
variable (call : CallT) (run : RunT) (a0 a1 a2 : UInt8) (a3 : Bool) (a4 a5 a6 a7 : UInt8) (a8 : Bool) (a9 : UInt8) (a10 : List UInt8) (a11 a12 : UInt8) (a13 : Bool) (a14 a15 a16 a17 : UInt8) (a18 : Bool) (a19 : UInt8) (a20 : List UInt8)
theorem text61_13 : step C call 61 Tryd.f61 (unr C call run 61 Tryd.f61 400) K61_13 (S61_13 a0 a1 a2 a3 a4 a5 a6 a7 a8 a9 a10 a11 a12 a13 a14 a15 a16 a17 a18 a19 a20) = X61_13 call run a0 a1 a2 a3 a4 a5 a6 a7 a8 a9 a10 a11 a12 a13 a14 a15 a16 a17 a18 a19 a20 := by
  kernel_rfl
end
noncomputable def X61_20 (call : CallT) (run : RunT) (a0 : UInt8) (a1 : Int) (a2 a3 : UInt8) (a4 : Bool) (a5 a6 a7 a8 : UInt8) (a9 : Bool) (a10 : UInt8) (a11 : List UInt8) (a12 a13 : UInt8) (a14 : Bool) (a15 a16 a17 a18 : UInt8) (a19 : Bool) (a20 : UInt8) (a21 : List UInt8) : Option AV :=
  condM (.b (a1 == 15))
  (condM (.b (ueq a0 45))
  (condM (.b (ult a10 2))
  ((binI .add (.u8 a10) (.u8 1)).bind fun v1 => (AV.one (v1)).bind fun v2 => F61_24 run a2 a3 a4 a5 a6 a7 a8 a9 (v2) a11 a12 a13 a14 a15 a16 a17 a18 a19 a20 a21)
  (F61_24 run a2 a3 a4 a5 a6 a7 a8 a9 (.u8 a10) a11 a12 a13 a14 a15 a16 a17 a18 a19 a20 a21))
  ((selW (.b (ueq a10 2)) true (some (.b (ueq a0 62))) (.b false)).bind fun v3 => condM (v3)
  ((call 53 [.int 0]).bind fun v4 => (AV.asAg 10 (v4)).bind fun v5 => some (.ag [v5.getD 0 .un, v5.getD 1 .un, v5.getD 2 .un, v5.getD 3 .un, v5.getD 4 .un, v5.getD 5 .un, v5.getD 6 .un, v5.getD 7 .un, v5.getD 8 .un, v5.getD 9 .un]))
  ((selW (.b (ueq a10 2)) true (some (.b (ueq a0 33))) (.b false)).bind fun v6 => condM (v6)
  ((call 32 []).bind fun v7 => (AV.asAg 10 (v7)).bind fun v8 => some (.ag [v8.getD 0 .un, v8.getD 1 .un, v8.getD 2 .un, v8.getD 3 .un, v8.getD 4 .un, v8.getD 5 .un, v8.getD 6 .un, v8.getD 7 .un, v8.getD 8 .un, v8.getD 9 .un]))
  ((call 53 [.int 15]).bind fun v9 => (AV.asAg 10 (v9)).bind fun v10 => some (.ag [v10.getD 0 .un, v10.getD 1 .un, v10.getD 2 .un, v10.getD 3 .un, v10.getD 4 .un, v10.getD 5 .un, v10.getD 6 .un, v10.getD 7 .un, v10.getD 8 .un, v10.getD 9 .un])))))
  (condM (.b (a1 == 16))
  (condM (.b (ueq a0 62))
  ((call 53 [.int 0]).bind fun v11 => (AV.asAg 10 (v11)).bind fun v12 => some (.ag [v12.getD 0 .un, v12.getD 1 .un, v12.getD 2 .un, v12.getD 3 .un, v12.getD 4 .un, v12.getD 5 .un, v12.getD 6 .un, v12.getD 7 .un, v12.getD 8 .un, v12.getD 9 .un]))
  (F61_33 run a2 a3 a4 a5 a6 a7 a8 a9 a10 a11 a12 a13 a14 a15 a16 a17 a18 a19 a20 a21))
  (F61_33 run a2 a3 a4 a5 a6 a7 a8 a9 a10 a11 a12 a13 a14 a15 a16 a17 a18 a19 a20 a21))
section
variable (call : CallT) (run : RunT) (a0 : UInt8) (a1 : Int) (a2 a3 : UInt8) (a4 : Bool) (a5 a6 a7 a8 : UInt8) (a9 : Bool) (a10 : UInt8) (a11 : List UInt8) (a12 a13 : UInt8) (a14 : Bool) (a15 a16 a17 a18 : UInt8) (a19 : Bool) (a20 : UInt8) (a21 : List UInt8)
theorem text61_20 : step C call 61 Tryd.f61 (unr C call run 61 Tryd.f61 400) K61_20 (S61_20 a0 a1 a2 a3 a4 a5 a6 a7 a8 a9 a10 a11 a12 a13 a14 a15 a16 a17 a18 a19 a20 a21) = X61_20 call run a0 a1 a2 a3 a4 a5 a6 a7 a8 a9 a10 a11 a12 a13 a14 a15 a16 a17 a18 a19 a20 a21 := by
  kernel_rfl
end
noncomputable def X61_24 (call : CallT) (run : RunT) (a0 a1 : UInt8) (a2 : Bool) (a3 a4 a5 a6 : UInt8) (a7 : Bool) (a8 : AV) (a9 : List UInt8) (a10 a11 : UInt8) (a12 : Bool) (a13 a14 a15 a16 : UInt8) (a17 : Bool) (a18 : UInt8) (a19 : List UInt8) : Option AV :=
  some (.ag [.u8 a0, .u8 a1, .b a2, .u8 a3, .u8 a4, .u8 a5, .u8 a6, .b a7, a8, .s a9])
section
variable (call : CallT) (run : RunT) (a0 a1 : UInt8) (a2 : Bool) (a3 a4 a5 a6 : UInt8) (a7 : Bool) (a8 : AV) (a9 : List UInt8) (a10 a11 : UInt8) (a12 : Bool) (a13 a14 a15 a16 : UInt8) (a17 : Bool) (a18 : UInt8) (a19 : List UInt8)
theorem text61_24 : step C call 61 Tryd.f61 (unr C call run 61 Tryd.f61 400) K61_24 (S61_24 a0 a1 a2 a3 a4 a5 a6 a7 a8 a9 a10 a11 a12 a13 a14 a15 a16 a17 a18 a19) = X61_24 call run a0 a1 a2 a3 a4 a5 a6 a7 a8 a9 a10 a11 a12 a13 a14 a15 a16 a17 a18 a19 := by
  kernel_rfl
end
noncomputable def X61_33 (call : CallT) (run : RunT) (a0 a1 : UInt8) (a2 : Bool) (a3 a4 a5 a6 : UInt8) (a7 : Bool) (a8 : UInt8) (a9 : List UInt8) (a10 a11 : UInt8) (a12 : Bool) (a13 a14 a15 a16 : UInt8) (a17 : Bool) (a18 : UInt8) (a19 : List UInt8) : Option AV :=
  some (.ag [.u8 a0, .u8 a1, .b a2, .u8 a3, .u8 a4, .u8 a5, .u8 a6, .b a7, .u8 a8, .s a9])
section
variable (call : CallT) (run : RunT) (a0 a1 : UInt8) (a2 : Bool) (a3 a4 a5 a6 : UInt8) (a7 : Bool) (a8 : UInt8) (a9 : List UInt8) (a10 a11 : UInt8) (a12 : Bool) (a13 a14 a15 a16 : UInt8) (a17 : Bool) (a18 : UInt8) (a19 : List UInt8)
theorem text61_33 : step C call 61 Tryd.f61 (unr C call run 61 Tryd.f61 400) K61_33 (S61_33 a0 a1 a2 a3 a4 a5 a6 a7 a8 a9 a10 a11 a12 a13 a14 a15 a16 a17 a18 a19) = X61_33 call run a0 a1 a2 a3 a4 a5 a6 a7 a8 a9 a10 a11 a12 a13 a14 a15 a16 a17 a18 a19 := by
  kernel_rfl
end
section
variable (a0 a1 a2 : UInt8) (a3 : Bool) (a4 a5 a6 a7 : UInt8) (a8 : Bool) (a9 : UInt8) (a10 : List UInt8) (a11 a12 : UInt8) (a13 : Bool) (a14 a15 a16 a17 : UInt8) (a18 : Bool) (a19 : UInt8) (a20 : List UInt8)
theorem r61_4 {r : AV} (h : X61_4 (semCall C Tryd.prog) (semRun C Tryd.prog 61 Tryd.f61) a0 a1 a2 a3 a4 a5 a6 a7 a8 a9 a10 a11 a12 a13 a14 a15 a16 a17 a18 a19 a20 = some r) : F61_4 (semRun C Tryd.prog 61 Tryd.f61) a0 a1 a2 a3 a4 a5 a6 a7 a8 a9 a10 a11 a12 a13 a14 a15 a16 a17 a18 a19 a20 = some r :=
  semRun_unr 400 ((text61_4 _ _ a0 a1 a2 a3 a4 a5 a6 a7 a8 a9 a10 a11 a12 a13 a14 a15 a16 a17 a18 a19 a20).trans h)
end
section
variable (a0 : UInt8) (a1 : Int) (a2 a3 : UInt8) (a4 : Bool) (a5 a6 a7 a8 : UInt8) (a9 : Bool) (a10 : UInt8) (a11 : List UInt8) (a12 a13 : UInt8) (a14 : Bool) (a15 a16 a17 a18 : UInt8) (a19 : Bool) (a20 : UInt8) (a21 : List UInt8)
theorem r61_11 {r : AV} (h : X61_11 (semCall C Tryd.prog) (semRun C Tryd.prog 61 Tryd.f61) a0 a1 a2 a3 a4 a5 a6 a7 a8 a9 a10 a11 a12 a13 a14 a15 a16 a17 a18 a19 a20 a21 = some r) : F61_11 (semRun C Tryd.prog 61 Tryd.f61) a0 a1 a2 a3 a4 a5 a6 a7 a8 a9 a10 a11 a12 a13 a14 a15 a16 a17 a18 a19 a20 a21 = some r :=
  semRun_unr 400 ((text61_11 _ _ a0 a1 a2 a3 a4 a5 a6 a7 a8 a9 a10 a11 a12 a13 a14 a15 a16 a17 a18 a19 a20 a21).trans h)
end
section
variable (a0 a1 a2 : UInt8) (a3 : Bool) (a4 a5 a6 a7 : UInt8) (a8 : Bool) (a9 : UInt8) (a10 : List UInt8) (a11 a12 : UInt8) (a13 : Bool) (a14 a15 a16 a17 : UInt8) (a18 : Bool) (a19 : UInt8) (a20 : List UInt8)
theorem r61_13 {r : AV} (h : X61_13 (semCall C Tryd.prog) (semRun C Tryd.prog 61 Tryd.f61) a0 a1 a2 a3 a4 a5 a6 a7 a8 a9 a10 a11 a12 a13 a14 a15 a16 a17 a18 a19 a20 = some r) : F61_13 (semRun C Tryd.prog 61 Tryd.f61) a0 a1 a2 a3 a4 a5 a6 a7 a8 a9 a10 a11 a12 a13 a14 a15 a16 a17 a18 a19 a20 = some r :=
  semRun_unr 400 ((text61_13 _ _ a0 a1 a2 a3 a4 a5 a6 a7 a8 a9 a10 a11 a12 a13 a14 a15 a16 a17 a18 a19 a20).trans h)
end
section
variable (a0 : UInt8) (a1 : Int) (a2 a3 : UInt8) (a4 : Bool) (a5 a6 a7 a8 : UInt8) (a9 : Bool) (a10 : UInt8) (a11 : List UInt8) (a12 a13 : UInt8) (a14 : Bool) (a15 a16 a17 a18 : UInt8) (a19 : Bool) (a20 : UInt8) (a21 : List UInt8)
theorem r61_20 {r : AV} (h : X61_20 (semCall C Tryd.prog) (semRun C Tryd.prog 61 Tryd.f61) a0 a1 a2 a3 a4 a5 a6 a7 a8 a9 a10 a11 a12 a13 a14 a15 a16 a17 a18 a19 a20 a21 = some r) : F61_20 (semRun C Tryd.prog 61 Tryd.f61) a0 a1 a2 a3 a4 a5 a6 a7 a8 a9 a10 a11 a12 a13 a14 a15 a16 a17 a18 a19 a20 a21 = some r :=
  semRun_unr 400 ((text61_20 _ _ a0 a1 a2 a3 a4 a5 a6 a7 a8 a9 a10 a11 a12 a13 a14 a15 a16 a17 a18 a19 a20 a21).trans h)
end
section
variable (a0 a1 : UInt8) (a2 : Bool) (a3 a4 a5 a6 : UInt8) (a7 : Bool) (a8 : AV) (a9 : List UInt8) (a10 a11 : UInt8) (a12 : Bool) (a13 a14 a15 a16 : UInt8) (a17 : Bool) (a18 : UInt8) (a19 : List UInt8)
theorem r61_24 {r : AV} (h : X61_24 (semCall C Tryd.prog) (semRun C Tryd.prog 61 Tryd.f61) a0 a1 a2 a3 a4 a5 a6 a7 a8 a9 a10 a11 a12 a13 a14 a15 a16 a17 a18 a19 = some r) : F61_24 (semRun C Tryd.prog 61 Tryd.f61) a0 a1 a2 a3 a4 a5 a6 a7 a8 a9 a10 a11 a12 a13 a14 a15 a16 a17 a18 a19 = some r :=
  semRun_unr 400 ((text61_24 _ _ a0 a1 a2 a3 a4 a5 a6 a7 a8 a9 a10 a11 a12 a13 a14 a15 a16 a17 a18 a19).trans h)
end
section
variable (a0 a1 : UInt8) (a2 : Bool) (a3 a4 a5 a6 : UInt8) (a7 : Bool) (a8 : UInt8) (a9 : List UInt8) (a10 a11 : UInt8) (a12 : Bool) (a13 a14 a15 a16 : UInt8) (a17 : Bool) (a18 : UInt8) (a19 : List UInt8)
theorem r61_33 {r : AV} (h : X61_33 (semCall C Tryd.prog) (semRun C Tryd.prog 61 Tryd.f61) a0 a1 a2 a3 a4 a5 a6 a7 a8 a9 a10 a11 a12 a13 a14 a15 a16 a17 a18 a19 = some r) : F61_33 (semRun C Tryd.prog 61 Tryd.f61) a0 a1 a2 a3 a4 a5 a6 a7 a8 a9 a10 a11 a12 a13 a14 a15 a16 a17 a18 a19 = some r :=
  semRun_unr 400 ((text61_33 _ _ a0 a1 a2 a3 a4 a5 a6 a7 a8 a9 a10 a11 a12 a13 a14 a15 a16 a17 a18 a19).trans h)
end
end R4

namespace R4
open Go Go.Proofs Sx
noncomputable def body77 : Code := (Tryd.f77.body).getD .skip
section
variable (run : RunT) (a0 : List UInt8) (a1 : Int) (a2 a3 a4 a5 a6 a7 a8 a9 a10 a11 : AV) (a12 a13 : UInt8) (a14 : Bool) (a15 a16 a17 a18 : UInt8) (a19 : Bool) (a20 : UInt8) (a21 : List UInt8)
noncomputable def K77_4 : List Item := (kAt 4 body77 []).getD []
def S77_4 : St := St.ofL [(1, .cell (.val (.s a0))), (2, .cell (.ptr 2 0)), (4, .cell (.ptr 4 0)), (5, .cell (.val (.int a1)))] [(2, some [.val (a2), .val (a3), .val (a4), .val (a5), .val (a6), .val (a7), .val (a8), .val (a9), .val (a10), .val (a11)]), (4, some [.val (.u8 a12), .val (.u8 a13), .val (.b a14), .val (.u8 a15), .val (.u8 a16), .val (.u8 a17), .val (.u8 a18), .val (.b a19), .val (.u8 a20), .val (.s a21)])]
noncomputable def F77_4 : Option AV := run K77_4 (S77_4 a0 a1 a2 a3 a4 a5 a6 a7 a8 a9 a10 a11 a12 a13 a14 a15 a16 a17 a18 a19 a20 a21)
end
noncomputable def X77 (call : CallT) (run : RunT) (a0 a1 : UInt8) (a2 : Bool) (a3 a4 a5 a6 : UInt8) (a7 : Bool) (a8 : UInt8) (a9 a10 : List UInt8) : Option AV :=
  F77_4 run a10 0 (.u8 17) (.u8 a1) (.b a2) (.u8 a3) (.u8 a4) (.u8 a5) (.u8 a6) (.b a7) (.u8 a8) (.s []) 0 0 false 0 0 0 0 false 0 []
section
variable (call : CallT) (run : RunT) (a0 a1 : UInt8) (a2 : Bool) (a3 a4 a5 a6 : UInt8) (a7 : Bool) (a8 : UInt8) (a9 a10 : List UInt8)
theorem text77 : unr C call run 77 Tryd.f77 400 [.code body77] (initF C 77 Tryd.f77.ntmps [.ag [.u8 a0, .u8 a1, .b a2, .u8 a3, .u8 a4, .u8 a5, .u8 a6, .b a7, .u8 a8, .s a9], .s a10]) = X77 call run a0 a1 a2 a3 a4 a5 a6 a7 a8 a9 a10 := by
  kernel_rfl
theorem c77 {r : AV} (h : X77 (semCall C Tryd.prog) (semRun C Tryd.prog 77 Tryd.f77) a0 a1 a2 a3 a4 a5 a6 a7 a8 a9 a10 = some r) : semCall C Tryd.prog 77 [.ag [.u8 a0, .u8 a1, .b a2, .u8 a3, .u8 a4, .u8 a5, .u8 a6, .b a7, .u8 a8, .s a9], .s a10] = some r :=
  semCall_unr (fn := Tryd.f77) (c := body77) (by kernel_rfl) (by kernel_rfl) 400 (by kernel_rfl) ((text77 _ _ a0 a1 a2 a3 a4 a5 a6 a7 a8 a9 a10).trans h)
end
noncomputable def X77_4 (call : CallT) (run : RunT) (a0 : List UInt8) (a1 : Int) (a2 a3 a4 a5 a6 a7 a8 a9 a10 a11 : AV) (a12 a13 : UInt8) (a14 : Bool) (a15 a16 a17 a18 : UInt8) (a19 : Bool) (a20 : UInt8) (a21 : List UInt8) : Option AV :=
  (selW (.b (decide (a1 < ((a0.length : Int))))) true ((binI .eql (a3) (.u8 3)).bind fun v1 => (selW (v1) false ((binI .eql (a3) (.u8 4)).bind fun v2 => some (v2)) (.b true)).bind fun v3 => some (v3)) (.b false)).bind fun v4 => (selW (v4) true ((conv .i64 (a2)).bind fun v5 => (binI .eql (v5) (.int 17)).bind fun v6 => some (v6)) (.b false)).bind fun v7 => condM (v7)
  ((idxS (.s a0) (.int a1)).bind fun v8 => (binI .eql (a3) (.u8 3)).bind fun v9 => (call 76 [.ag [a2, a3, a4, a5, a6, a7, a8, a9, a10, a11], v8, v9]).bind fun v10 => (AV.asAg 10 (v10)).bind fun v11 => F77_4 run a0 (w64 (a1 + 1)) (v11.getD 0 .un) (v11.getD 1 .un) (v11.getD 2 .un) (v11.getD 3 .un) (v11.getD 4 .un) (v11.getD 5 .un) (v11.getD 6 .un) (v11.getD 7 .un) (v11.getD 8 .un) (v11.getD 9 .un) a12 a13 a14 a15 a16 a17 a18 a19 a20 a21)
  (some (.ag [a2, a3, a4, a5, a6, a7, a8, a9, a10, a11]))
section
variable (call : CallT) (run : RunT) (a0 : List UInt8) (a1 : Int) (a2 a3 a4 a5 a6 a7 a8 a9 a10 a11 : AV) (a12 a13 : UInt8) (a14 : Bool) (a15 a16 a17 a18 : UInt8) (a19 : Bool) (a20 : UInt8) (a21 : List UInt8)
theorem text77_4 : step C call 77 Tryd.f77 (unr C call run 77 Tryd.f77 400) K77_4 (S77_4 a0 a1 a2 a3 a4 a5 a6 a7 a8 a9 a10 a11 a12 a13 a14 a15 a16 a17 a18 a19 a20 a21) = X77_4 call run a0 a1 a2 a3 a4 a5 a6 a7 a8 a9 a10 a11 a12 a13 a14 a15 a16 a17 a18 a19 a20 a21 := by
  kernel_rfl
end
section
variable (a0 : List UInt8) (a1 : Int) (a2 a3 a4 a5 a6 a7 a8 a9 a10 a11 : AV) (a12 a13 : UInt8) (a14 : Bool) (a15 a16 a17 a18 : UInt8) (a19 : Bool) (a20 : UInt8) (a21 : List UInt8)
theorem r77_4 {r : AV} (h : X77_4 (semCall C Tryd.prog) (semRun C Tryd.prog 77 Tryd.f77) a0 a1 a2 a3 a4 a5 a6 a7 a8 a9 a10 a11 a12 a13 a14 a15 a16 a17 a18 a19 a20 a21 = some r) : F77_4 (semRun C Tryd.prog 77 Tryd.f77) a0 a1 a2 a3 a4 a5 a6 a7 a8 a9 a10 a11 a12 a13 a14 a15 a16 a17 a18 a19 a20 a21 = some r :=
  semRun_unr 400 ((text77_4 _ _ a0 a1 a2 a3 a4 a5 a6 a7 a8 a9 a10 a11 a12 a13 a14 a15 a16 a17 a18 a19 a20 a21).trans h)
end
end R4

namespace R4
open Go Go.Proofs Sx
noncomputable def body60 : Code := (Tryd.f60.body).getD .skip
section
variable (run : RunT) (a0 : UInt8) (a1 : AV) (a2 a3 : UInt8) (a4 : Bool) (a5 a6 a7 a8 : UInt8) (a9 : Bool) (a10 : UInt8) (a11 : List UInt8) (a12 a13 : UInt8) (a14 : Bool) (a15 a16 a17 a18 : UInt8) (a19 : Bool) (a20 : UInt8) (a21 : List UInt8)
noncomputable def K60_8 : List Item := (kAt 8 body60 []).getD []
def S60_8 : St := St.ofL [(1, .cell (.val (.u8 a0))), (2, .cell (.ptr 2 0)), (4, .cell (.ptr 4 0)), (5, .cell (.val (a1)))] [(2, some [.val (.u8 a2), .val (.u8 a3), .val (.b a4), .val (.u8 a5), .val (.u8 a6), .val (.u8 a7), .val (.u8 a8), .val (.b a9), .val (.u8 a10), .val (.s a11)]), (4, some [.val (.u8 a12), .val (.u8 a13), .val (.b a14), .val (.u8 a15), .val (.u8 a16), .val (.u8 a17), .val (.u8 a18), .val (.b a19), .val (.u8 a20), .val (.s a21)])]
noncomputable def F60_8 : Option AV := run K60_8 (S60_8 a0 a1 a2 a3 a4 a5 a6 a7 a8 a9 a10 a11 a12 a13 a14 a15 a16 a17 a18 a19 a20 a21)
end
section
variable (run : RunT) (a0 : UInt8) (a1 a2 a3 a4 a5 a6 a7 a8 a9 a10 : AV) (a11 a12 : UInt8) (a13 : Bool) (a14 a15 a16 a17 : UInt8) (a18 : Bool) (a19 : UInt8) (a20 : List UInt8)
noncomputable def K60_20 : List Item := (kAt 20 body60 []).getD []
def S60_20 : St := St.ofL [(1, .cell (.val (.u8 a0))), (2, .cell (.ptr 2 0)), (4, .cell (.ptr 4 0))] [(2, some [.val (a1), .val (a2), .val (a3), .val (a4), .val (a5), .val (a6), .val (a7), .val (a8), .val (a9), .val (a10)]), (4, some [.val (.u8 a11), .val (.u8 a12), .val (.b a13), .val (.u8 a14), .val (.u8 a15), .val (.u8 a16), .val (.u8 a17), .val (.b a18), .val (.u8 a19), .val (.s a20)])]
noncomputable def F60_20 : Option AV := run K60_20 (S60_20 a0 a1 a2 a3 a4 a5 a6 a7 a8 a9 a10 a11 a12 a13 a14 a15 a16 a17 a18 a19 a20)
end
section
variable (run : RunT) (a0 a1 a2 a3 a4 a5 a6 a7 a8 a9 : AV) (a10 a11 : UInt8) (a12 : Bool) (a13 a14 a15 a16 : UInt8) (a17 : Bool) (a18 : UInt8) (a19 : List UInt8)
noncomputable def K60_23 : List Item := (kAt 23 body60 []).getD []
def S60_23 : St := St.ofL [(2, .cell (.ptr 2 0)), (4, .cell (.ptr 4 0))] [(2, some [.val (a0), .val (a1), .val (a2), .val (a3), .val (a4), .val (a5), .val (a6), .val (a7), .val (a8), .val (a9)]), (4, some [.val (.u8 a10), .val (.u8 a11), .val (.b a12), .val (.u8 a13), .val (.u8 a14), .val (.u8 a15), .val (.u8 a16), .val (.b a17), .val (.u8 a18), .val (.s a19)])]
noncomputable def F60_23 : Option AV := run K60_23 (S60_23 a0 a1 a2 a3 a4 a5 a6 a7 a8 a9 a10 a11 a12 a13 a14 a15 a16 a17 a18 a19)
end
noncomputable def X60 (call : CallT) (run : RunT) (a0 a1 : UInt8) (a2 : Bool) (a3 a4 a5 a6 : UInt8) (a7 : Bool) (a8 : UInt8) (a9 : List UInt8) (a10 : UInt8) : Option AV :=
  (call 35 [.int (w64 (a1.toNat : Int))]).bind fun v1 => condM (.b ((w64 (a0.toNat : Int)) == 18))
  (condM (.b (ueq a10 47))
  (some (.ag [.u8 19, .u8 a1, .b a2, .u8 a3, .u8 a4, .u8 a5, .u8 a6, .b a7, .u8 a8, .s a9]))
  ((selW (.b (ueq a10 33)) true (some (.b (ueq a1 3))) (.b false)).bind fun v2 => condM (v2)
  ((call 32 []).bind fun v3 => (AV.asAg 10 (v3)).bind fun v4 => some (.ag [v4.getD 0 .un, v4.getD 1 .un, v4.getD 2 .un, v4.getD 3 .un, v4.getD 4 .un, v4.getD 5 .un, v4.getD 6 .un, v4.getD 7 .un, v4.getD 8 .un, v4.getD 9 .un]))
  (F60_8 run a10 (v1) a0 a1 a2 a3 a4 a5 a6 a7 a8 a9 0 0 false 0 0 0 0 false 0 [])))
  (F60_8 run a10 (v1) a0 a1 a2 a3 a4 a5 a6 a7 a8 a9 0 0 false 0 0 0 0 false 0 [])
section
variable (call : CallT) (run : RunT) (a0 a1 : UInt8) (a2 : Bool) (a3 a4 a5 a6 : UInt8) (a7 : Bool) (a8 : UInt8) (a9 : List UInt8) (a10 : UInt8)
theorem text60 : unr C call run 60 Tryd.f60 400 [.code body60] (initF C 60 Tryd.f60.ntmps [.ag [.u8 a0, .u8 a1, .b a2, .u8 a3, .u8 a4, .u8 a5, .u8 a6, .b a7, .u8 a8, .s a9], .u8 a10]) = X60 call run a0 a1 a2 a3 a4 a5 a6 a7 a8 a9 a10 := by
  kernel_rfl
theorem c60 {r : AV} (h : X60 (semCall C Tryd.prog) (semRun C Tryd.prog 60 Tryd.f60) a0 a1 a2 a3 a4 a5 a6 a7 a8 a9 a10 = some r) : semCall C Tryd.prog 60 [.ag [.u8 a0, .u8 a1, .b a2, .u8 a3, .u8 a4, .u8 a5, .u8 a6, .b a7, .u8 a8, .s a9], .u8 a10] = some r :=
  semCall_unr (fn := Tryd.f60) (c := body60) (by kernel_rfl) (by kernel_rfl) 400 (by kernel_rfl) ((text60 _ _ a0 a1 a2 a3 a4 a5 a6 a7 a8 a9 a10).trans h)
end
noncomputable def X60_8 (call : CallT) (run : RunT) (a0 : UInt8) (a1 : AV) (a2 a3 : UInt8) (a4 : Bool) (a5 a6 a7 a8 : UInt8) (a9 : Bool) (a10 : UInt8) (a11 : List UInt8) (a12 a13 : UInt8) (a14 : Bool) (a15 a16 a17 a18 : UInt8) (a19 : Bool) (a20 : UInt8) (a21 : List UInt8) : Option AV :=
  condM (.b ((w64 (a2.toNat : Int)) == 19))
  ((binS .eql (.s a11) (a1)).bind fun v1 => (selW (v1) true ((call 36 [.u8 a0]).bind fun v2 => (selW (v2) false (some (.b (ueq a0 47))) (.b true)).bind fun v3 => (selW (v3) false (some (.b (ueq a0 62))) (.b true)).bind fun v4 => some (v4)) (.b false)).bind fun v5 => condM (v5)
  ((selW (.b (une a8 0)) true (some (.b (une a8 4))) (.b false)).bind fun v6 => condM (v6)
  ((call 32 []).bind fun v7 => (AV.asAg 10 (v7)).bind fun v8 => some (.ag [v8.getD 0 .un, v8.getD 1 .un, v8.getD 2 .un, v8.getD 3 .un, v8.getD 4 .un, v8.getD 5 .un, v8.getD 6 .un, v8.getD 7 .un, v8.getD 8 .un, v8.getD 9 .un]))
  ((call 34 [.ag [.u8 9, .u8 0, .b true, .u8 0, .u8 0, .u8 0, .u8 0, .b false, .u8 0, .s []], .u8 a0]).bind fun v9 => (AV.asAg 10 (v9)).bind fun v10 => some (.ag [v10.getD 0 .un, v10.getD 1 .un, v10.getD 2 .un, v10.getD 3 .un, v10.getD 4 .un, v10.getD 5 .un, v10.getD 6 .un, v10.getD 7 .un, v10.getD 8 .un, v10.getD 9 .un])))
  ((call 37 [.u8 a0]).bind fun v11 => (binS .add (.s a11) (v11)).bind fun v12 => (lenS (v12)).bind fun v13 => (lenS (a1)).bind fun v14 => (binI .leq (v13) (v14)).bind fun v15 => (selW (v15) true ((lenS (v12)).bind fun v16 => (slS (a1) none (some (v16))).bind fun v17 => (binS .eql (v17) (v12)).bind fun v18 => some (v18)) (.b false)).bind fun v19 => condM (v19)
  ((AV.one (v12)).bind fun v20 => some (.ag [.u8 a2, .u8 a3, .b a4, .u8 a5, .u8 a6, .u8 a7, .u8 a8, .b a9, .u8 a10, v20]))
  ((binS .add (.s [47]) (.s a11)).bind fun v21 => (call 77 [.ag [.u8 a2, .u8 a3, .b a4, .u8 a5, .u8 a6, .u8 a7, .u8 a8, .b a9, .u8 a10, .s a11], v21]).bind fun v22 => (AV.asAg 10 (v22)).bind fun v23 => (conv .i64 (v23.getD 0 .un)).bind fun v24 => (binI .eql (v24) (.int 20)).bind fun v25 => condM (v25)
  ((call 32 []).bind fun v26 => (AV.asAg 10 (v26)).bind fun v27 => some (.ag [v27.getD 0 .un, v27.getD 1 .un, v27.getD 2 .un, v27.getD 3 .un, v27.getD 4 .un, v27.getD 5 .un, v27.getD 6 .un, v27.getD 7 .un, v27.getD 8 .un, v27.getD 9 .un]))
  (F60_20 run a0 (v23.getD 0 .un) (v23.getD 1 .un) (v23.getD 2 .un) (v23.getD 3 .un) (v23.getD 4 .un) (v23.getD 5 .un) (v23.getD 6 .un) (v23.getD 7 .un) (v23.getD 8 .un) (v23.getD 9 .un) a12 a13 a14 a15 a16 a17 a18 a19 a20 a21))))
  (F60_20 run a0 (.u8 a2) (.u8 a3) (.b a4) (.u8 a5) (.u8 a6) (.u8 a7) (.u8 a8) (.b a9) (.u8 a10) (.s a11) a12 a13 a14 a15 a16 a17 a18 a19 a20 a21)
section
variable (call : CallT) (run : RunT) (a0 : UInt8) (a1 : AV) (a2 a3 : UInt8) (a4 : Bool) (a5 a6 a7 a8 : UInt8) (a9 : Bool) (a10 : UInt8) (a11 : List UInt8) (a12 a13 : UInt8) (a14 : Bool) (a15 a16 a17 a18 : UInt8) (a19 : Bool) (a20 : UInt8) (a21 : List UInt8)
theorem text60_8 : step C call 60 Tryd.f60 (unr C call run 60 Tryd.f60 400) K60_8 (S60_8 a0 a1 a2 a3 a4 a5 a6 a7 a8 a9 a10 a11 a12 a13 a14 a15 a16 a17 a18 a19 a20 a21) = X60_8 call run a0 a1 a2 a3 a4 a5 a6 a7 a8 a9 a10 a11 a12 a13 a14 a15 a16 a17 a18 a19 a20 a21 := by
  kernel_rfl
end
noncomputable def X60_20 (call : CallT) (run : RunT) (a0 : UInt8) (a1 a2 a3 a4 a5 a6 a7 a8 a9 a10 : AV) (a11 a12 : UInt8) (a13 : Bool) (a14 a15 a16 a17 : UInt8) (a18 : Bool) (a19 : UInt8) (a20 : List UInt8) : Option AV :=
  (b2s (.ro 1 (([.u8 a0] : List AV)))).bind fun v1 => (call 77 [.ag [a1, a2, a3, a4, a5, a6, a7, a8, a9, a10], v1]).bind fun v2 => (AV.asAg 10 (v2)).bind fun v3 => (conv .i64 (v3.getD 0 .un)).bind fun v4 => (binI .eql (v4) (.int 17)).bind fun v5 => (selW (v5) true (some (.b (ueq a0 60))) (.b false)).bind fun v6 => condM (v6)
  (F60_23 run (.u8 18) (v3.getD 1 .un) (v3.getD 2 .un) (v3.getD 3 .un) (v3.getD 4 .un) (v3.getD 5 .un) (v3.getD 6 .un) (v3.getD 7 .un) (v3.getD 8 .un) (v3.getD 9 .un) a11 a12 a13 a14 a15 a16 a17 a18 a19 a20)
  (F60_23 run (v3.getD 0 .un) (v3.getD 1 .un) (v3.getD 2 .un) (v3.getD 3 .un) (v3.getD 4 .un) (v3.getD 5 .un) (v3.getD 6 .un) (v3.getD 7 .un) (v3.getD 8 .un) (v3.getD 9 .un) a11 a12 a13 a14 a15 a16 a17 a18 a19 a20)
section
variable (call : CallT) (run : RunT) (a0 : UInt8) (a1 a2 a3 a4 a5 a6 a7 a8 a9 a10 : AV) (a11 a12 : UInt8) (a13 : Bool) (a14 a15 a16 a17 : UInt8) (a18 : Bool) (a19 : UInt8) (a20 : List UInt8)
theorem text60_20 : step C call 60 Tryd.f60 (unr C call run 60 Tryd.f60 400) K60_20 (S60_20 a0 a1 a2 a3 a4 a5 a6 a7 a8 a9 a10 a11 a12 a13 a14 a15 a16 a17 a18 a19 a20) = X60_20 call run a0 a1 a2 a3 a4 a5 a6 a7 a8 a9 a10 a11 a12 a13 a14 a15 a16 a17 a18 a19 a20 := by
  kernel_rfl
end
noncomputable def X60_23 (call : CallT) (run : RunT) (a0 a1 a2 a3 a4 a5 a6 a7 a8 a9 : AV) (a10 a11 : UInt8) (a12 : Bool) (a13 a14 a15 a16 : UInt8) (a17 : Bool) (a18 : UInt8) (a19 : List UInt8) : Option AV :=
  some (.ag [a0, a1, a2, a3, a4, a5, a6, a7, a8, a9])
section
variable (call : CallT) (run : RunT) (a0 a1 a2 a3 a4 a5 a6 a7 a8 a9 : AV) (a10 a11 : UInt8) (a12 : Bool) (a13 a14 a15 a16 : UInt8) (a17 : Bool) (a18 : UInt8) (a19 : List UInt8)
theorem text60_23 : step C call 60 Tryd.f60 (unr C call run 60 Tryd.f60 400) K60_23 (S60_23 a0 a1 a2 a3 a4 a5 a6 a7 a8 a9 a10 a11 a12 a13 a14 a15 a16 a17 a18 a19) = X60_23 call run a0 a1 a2 a3 a4 a5 a6 a7 a8 a9 a10 a11 a12 a13 a14 a15 a16 a17 a18 a19 := by
  kernel_rfl
end
section
variable (a0 : UInt8) (a1 : AV) (a2 a3 : UInt8) (a4 : Bool) (a5 a6 a7 a8 : UInt8) (a9 : Bool) (a10 : UInt8) (a11 : List UInt8) (a12 a13 : UInt8) (a14 : Bool) (a15 a16 a17 a18 : UInt8) (a19 : Bool) (a20 : UInt8) (a21 : List UInt8)
theorem r60_8 {r : AV} (h : X60_8 (semCall C Tryd.prog) (semRun C Tryd.prog 60 Tryd.f60) a0 a1 a2 a3 a4 a5 a6 a7 a8 a9 a10 a11 a12 a13 a14 a15 a16 a17 a18 a19 a20 a21 = some r) : F60_8 (semRun C Tryd.prog 60 Tryd.f60) a0 a1 a2 a3 a4 a5 a6 a7 a8 a9 a10 a11 a12 a13 a14 a15 a16 a17 a18 a19 a20 a21 = some r :=
  semRun_unr 400 ((text60_8 _ _ a0 a1 a2 a3 a4 a5 a6 a7 a8 a9 a10 a11 a12 a13 a14 a15 a16 a17 a18 a19 a20 a21).trans h)
end
section
variable (a0 : UInt8) (a1 a2 a3 a4 a5 a6 a7 a8 a9 a10 : AV) (a11 a12 : UInt8) (a13 : Bool) (a14 a15 a16 a17 : UInt8) (a18 : Bool) (a19 : UInt8) (a20 : List UInt8)
theorem r60_20 {r : AV} (h : X60_20 (semCall C Tryd.prog) (semRun C Tryd.prog 60 Tryd.f60) a0 a1 a2 a3 a4 a5 a6 a7 a8 a9 a10 a11 a12 a13 a14 a15 a16 a17 a18 a19 a20 = some r) : F60_20 (semRun C Tryd.prog 60 Tryd.f60) a0 a1 a2 a3 a4 a5 a6 a7 a8 a9 a10 a11 a12 a13 a14 a15 a16 a17 a18 a19 a20 = some r :=
  semRun_unr 400 ((text60_20 _ _ a0 a1 a2 a3 a4 a5 a6 a7 a8 a9 a10 a11 a12 a13 a14 a15 a16 a17 a18 a19 a20).trans h)
end
section
variable (a0 a1 a2 a3 a4 a5 a6 a7 a8 a9 : AV) (a10 a11 : UInt8) (a12 : Bool) (a13 a14 a15 a16 : UInt8) (a17 : Bool) (a18 : UInt8) (a19 : List UInt8)
theorem r60_23 {r : AV} (h : X60_23 (semCall C Tryd.prog) (semRun C Tryd.prog 60 Tryd.f60) a0 a1 a2 a3 a4 a5 a6 a7 a8 a9 a10 a11 a12 a13 a14 a15 a16 a17 a18 a19 = some r) : F60_23 (semRun C Tryd.prog 60 Tryd.f60) a0 a1 a2 a3 a4 a5 a6 a7 a8 a9 a10 a11 a12 a13 a14 a15 a16 a17 a18 a19 = some r :=
  semRun_unr 400 ((text60_23 _ _ a0 a1 a2 a3 a4 a5 a6 a7 a8 a9 a10 a11 a12 a13 a14 a15 a16 a17 a18 a19).trans h)
end
end R4

namespace R4
open Go Go.Proofs Sx
noncomputable def body58 : Code := (Tryd.f58.body).getD .skip
noncomputable def X58 (call : CallT) (run : RunT) (a0 a1 : UInt8) (a2 : Bool) (a3 a4 a5 a6 : UInt8) (a7 : Bool) (a8 : UInt8) (a9 : List UInt8) (a10 a11 : UInt8) (a12 : Bool) (a13 a14 a15 a16 : UInt8) (a17 : Bool) (a18 : UInt8) (a19 : List UInt8) (a20 : UInt8) : Option AV :=
  condM (.b (ueq a20 61))
  ((call 74 [.s a9]).bind fun v1 => (conv .u8 (v1)).bind fun v2 => (AV.one (v2)).bind fun v3 => some (.ag [.u8 7, .u8 a11, .b a12, v3, .u8 a14, .u8 a15, .u8 a16, .b a17, .u8 a18, .s a19]))
  ((selW (.b (ueq a20 47)) false (some (.b (ueq a20 62))) (.b true)).bind fun v4 => condM (v4)
  ((call 34 [.ag [.u8 9, .u8 a11, .b a12, .u8 a13, .u8 a14, .u8 a15, .u8 a16, .b a17, .u8 a18, .s a19], .u8 a20]).bind fun v5 => (AV.asAg 10 (v5)).bind fun v6 => some (.ag [v6.getD 0 .un, v6.getD 1 .un, v6.getD 2 .un, v6.getD 3 .un, v6.getD 4 .un, v6.getD 5 .un, v6.getD 6 .un, v6.getD 7 .un, v6.getD 8 .un, v6.getD 9 .un]))
  ((call 36 [.u8 a20]).bind fun v7 => condM (v7)
  (some (.ag [.u8 6, .u8 a1, .b a2, .u8 a3, .u8 a4, .u8 a5, .u8 a6, .b a7, .u8 a8, .s a9]))
  (condM (.b ((w64 (a0.toNat : Int)) == 6))
  ((call 34 [.ag [.u8 4, .u8 a11, .b a12, .u8 a13, .u8 a14, .u8 a15, .u8 a16, .b a17, .u8 a18, .s a19], .u8 a20]).bind fun v8 => (AV.asAg 10 (v8)).bind fun v9 => some (.ag [v9.getD 0 .un, v9.getD 1 .un, v9.getD 2 .un, v9.getD 3 .un, v9.getD 4 .un, v9.getD 5 .un, v9.getD 6 .un, v9.getD 7 .un, v9.getD 8 .un, v9.getD 9 .un]))
  ((selW (.b (ueq a20 34)) false (some (.b (ueq a20 39))) (.b true)).bind fun v10 => (selW (v10) false (some (.b (ueq a20 60))) (.b true)).bind fun v11 => condM (v11)
  ((call 32 []).bind fun v12 => (AV.asAg 10 (v12)).bind fun v13 => some (.ag [v13.getD 0 .un, v13.getD 1 .un, v13.getD 2 .un, v13.getD 3 .un, v13.getD 4 .un, v13.getD 5 .un, v13.getD 6 .un, v13.getD 7 .un, v13.getD 8 .un, v13.getD 9 .un]))
  ((call 56 [.ag [.u8 a0, .u8 a1, .b a2, .u8 a3, .u8 a4, .u8 a5, .u8 a6, .b a7, .u8 a8, .s a9], .u8 a20]).bind fun v14 => (AV.asAg 10 (v14)).bind fun v15 => some (.ag [v15.getD 0 .un, v15.getD 1 .un, v15.getD 2 .un, v15.getD 3 .un, v15.getD 4 .un, v15.getD 5 .un, v15.getD 6 .un, v15.getD 7 .un, v15.getD 8 .un, v15.getD 9 .un]))))))
section
variable (call : CallT) (run : RunT) (a0 a1 : UInt8) (a2 : Bool) (a3 a4 a5 a6 : UInt8) (a7 : Bool) (a8 : UInt8) (a9 : List UInt8) (a10 a11 : UInt8) (a12 : Bool) (a13 a14 a15 a16 : UInt8) (a17 : Bool) (a18 : UInt8) (a19 : List UInt8) (a20 : UInt8)
theorem text58 : unr C call run 58 Tryd.f58 400 [.code body58] (initF C 58 Tryd.f58.ntmps [.ag [.u8 a0, .u8 a1, .b a2, .u8 a3, .u8 a4, .u8 a5, .u8 a6, .b a7, .u8 a8, .s a9], .ag [.u8 a10, .u8 a11, .b a12, .u8 a13, .u8 a14, .u8 a15, .u8 a16, .b a17, .u8 a18, .s a19], .u8 a20]) = X58 call run a0 a1 a2 a3 a4 a5 a6 a7 a8 a9 a10 a11 a12 a13 a14 a15 a16 a17 a18 a19 a20 := by
  kernel_rfl
theorem c58 {r : AV} (h : X58 (semCall C Tryd.prog) (semRun C Tryd.prog 58 Tryd.f58) a0 a1 a2 a3 a4 a5 a6 a7 a8 a9 a10 a11 a12 a13 a14 a15 a16 a17 a18 a19 a20 = some r) : semCall C Tryd.prog 58 [.ag [.u8 a0, .u8 a1, .b a2, .u8 a3, .u8 a4, .u8 a5, .u8 a6, .b a7, .u8 a8, .s a9], .ag [.u8 a10, .u8 a11, .b a12, .u8 a13, .u8 a14, .u8 a15, .u8 a16, .b a17, .u8 a18, .s a19], .u8 a20] = some r :=
  semCall_unr (fn := Tryd.f58) (c := body58) (by kernel_rfl) (by kernel_rfl) 400 (by kernel_rfl) ((text58 _ _ a0 a1 a2 a3 a4 a5 a6 a7 a8 a9 a10 a11 a12 a13 a14 a15 a16 a17 a18 a19 a20).trans h)
end
end R4

namespace R4
open Go Go.Proofs Sx
noncomputable def body27 : Code := (Tryd.f27.body).getD .skip
section
variable (run : RunT) (a0 : AV) (a1 : Nat) (a2 a3 : UInt8) (a4 : Bool) (a5 a6 a7 a8 : UInt8) (a9 : Bool) (a10 : UInt8) (a11 : List UInt8) (a12 a13 : UInt8) (a14 : Bool) (a15 a16 a17 a18 : UInt8) (a19 : Bool) (a20 : UInt8) (a21 : List UInt8)
noncomputable def K27_3 : List Item := (kAt 3 body27 []).getD []
def S27_3 : St := St.ofL [(1, .cell (.val (a0))), (2, .cell (.val (.fn a1))), (3, .cell (.ptr 3 0)), (6, .cell (.ptr 6 0))] [(3, some [.val (.u8 a2), .val (.u8 a3), .val (.b a4), .val (.u8 a5), .val (.u8 a6), .val (.u8 a7), .val (.u8 a8), .val (.b a9), .val (.u8 a10), .val (.s a11)]), (6, some [.val (.u8 a12), .val (.u8 a13), .val (.b a14), .val (.u8 a15), .val (.u8 a16), .val (.u8 a17), .val (.u8 a18), .val (.b a19), .val (.u8 a20), .val (.s a21)])]
noncomputable def F27_3 : Option AV := run K27_3 (S27_3 a0 a1 a2 a3 a4 a5 a6 a7 a8 a9 a10 a11 a12 a13 a14 a15 a16 a17 a18 a19 a20 a21)
end
section
variable (run : RunT) (a0 : Nat) (a1 a2 : AV) (a3 : Int) (a4 a5 a6 a7 a8 a9 a10 a11 a12 a13 : AV) (a14 a15 : UInt8) (a16 : Bool) (a17 a18 a19 a20 : UInt8) (a21 : Bool) (a22 : UInt8) (a23 : List UInt8)
noncomputable def K27_4 : List Item := (kAt 4 body27 []).getD []
def S27_4 : St := St.ofL [(2, .cell (.val (.fn a0))), (3, .cell (.ptr 3 0)), (6, .cell (.ptr 6 0)), (14, .cell (.val (a1))), (15, .cell (.val (a2))), (16, .cell (.val (.int a3)))] [(3, some [.val (a4), .val (a5), .val (a6), .val (a7), .val (a8), .val (a9), .val (a10), .val (a11), .val (a12), .val (a13)]), (6, some [.val (.u8 a14), .val (.u8 a15), .val (.b a16), .val (.u8 a17), .val (.u8 a18), .val (.u8 a19), .val (.u8 a20), .val (.b a21), .val (.u8 a22), .val (.s a23)])]
noncomputable def F27_4 : Option AV := run K27_4 (S27_4 a0 a1 a2 a3 a4 a5 a6 a7 a8 a9 a10 a11 a12 a13 a14 a15 a16 a17 a18 a19 a20 a21 a22 a23)
end
noncomputable def X27 (call : CallT) (run : RunT) (a0 a1 : UInt8) (a2 : Bool) (a3 a4 a5 a6 : UInt8) (a7 : Bool) (a8 : UInt8) (a9 : List UInt8) (a10 : AV) (a11 : Nat) : Option AV :=
  (call 43 [.ag [.u8 a0, .u8 a1, .b a2, .u8 a3, .u8 a4, .u8 a5, .u8 a6, .b a7, .u8 a8, .s a9]]).bind fun v1 => (unop .not (v1)).bind fun v2 => condM (v2)
  (F27_3 run (a10) a11 20 0 false 0 0 0 0 false 0 [] 0 0 false 0 0 0 0 false 0 [])
  (F27_3 run (a10) a11 a0 a1 a2 a3 a4 a5 a6 a7 a8 a9 0 0 false 0 0 0 0 false 0 [])
section
variable (call : CallT) (run : RunT) (a0 a1 : UInt8) (a2 : Bool) (a3 a4 a5 a6 : UInt8) (a7 : Bool) (a8 : UInt8) (a9 : List UInt8) (a10 : AV) (a11 : Nat)
theorem text27 : unr C call run 27 Tryd.f27 400 [.code body27] (initF C 27 Tryd.f27.ntmps [.ag [.u8 a0, .u8 a1, .b a2, .u8 a3, .u8 a4, .u8 a5, .u8 a6, .b a7, .u8 a8, .s a9], a10, .fn a11]) = X27 call run a0 a1 a2 a3 a4 a5 a6 a7 a8 a9 a10 a11 := by
  kernel_rfl
theorem c27 {r : AV} (h : X27 (semCall C Tryd.prog) (semRun C Tryd.prog 27 Tryd.f27) a0 a1 a2 a3 a4 a5 a6 a7 a8 a9 a10 a11 = some r) : semCall C Tryd.prog 27 [.ag [.u8 a0, .u8 a1, .b a2, .u8 a3, .u8 a4, .u8 a5, .u8 a6, .b a7, .u8 a8, .s a9], a10, .fn a11] = some r :=
  semCall_unr (fn := Tryd.f27) (c := body27) (by kernel_rfl) (by kernel_rfl) 400 (by kernel_rfl) ((text27 _ _ a0 a1 a2 a3 a4 a5 a6 a7 a8 a9 a10 a11).trans h)
end
noncomputable def X27_3 (call : CallT) (run : RunT) (a0 : AV) (a1 : Nat) (a2 a3 : UInt8) (a4 : Bool) (a5 a6 a7 a8 : UInt8) (a9 : Bool) (a10 : UInt8) (a11 : List UInt8) (a12 a13 : UInt8) (a14 : Bool) (a15 a16 a17 a18 : UInt8) (a19 : Bool) (a20 : UInt8) (a21 : List UInt8) : Option AV :=
  (lenR (a0)).bind fun v1 => F27_4 run a1 (a0) (v1) 0 (.u8 a2) (.u8 a3) (.b a4) (.u8 a5) (.u8 a6) (.u8 a7) (.u8 a8) (.b a9) (.u8 a10) (.s a11) a12 a13 a14 a15 a16 a17 a18 a19 a20 a21
section
variable (call : CallT) (run : RunT) (a0 : AV) (a1 : Nat) (a2 a3 : UInt8) (a4 : Bool) (a5 a6 a7 a8 : UInt8) (a9 : Bool) (a10 : UInt8) (a11 : List UInt8) (a12 a13 : UInt8) (a14 : Bool) (a15 a16 a17 a18 : UInt8) (a19 : Bool) (a20 : UInt8) (a21 : List UInt8)
theorem text27_3 : step C call 27 Tryd.f27 (unr C call run 27 Tryd.f27 400) K27_3 (S27_3 a0 a1 a2 a3 a4 a5 a6 a7 a8 a9 a10 a11 a12 a13 a14 a15 a16 a17 a18 a19 a20 a21) = X27_3 call run a0 a1 a2 a3 a4 a5 a6 a7 a8 a9 a10 a11 a12 a13 a14 a15 a16 a17 a18 a19 a20 a21 := by
  kernel_rfl
end
noncomputable def X27_4 (call : CallT) (run : RunT) (a0 : Nat) (a1 a2 : AV) (a3 : Int) (a4 a5 a6 a7 a8 a9 a10 a11 a12 a13 : AV) (a14 a15 : UInt8) (a16 : Bool) (a17 a18 a19 a20 : UInt8) (a21 : Bool) (a22 : UInt8) (a23 : List UInt8) : Option AV :=
  (binI .lss (.int a3) (a2)).bind fun v1 => condM (v1)
  ((idx 1 (a1) (.int a3)).bind fun v2 => (callV C call a0 [.ag [a4, a5, a6, a7, a8, a9, a10, a11, a12, a13], AV.cell (v2) 0]).bind fun v4 => (AV.asAg 10 (v4)).bind fun v5 => (binI .eql (v5.getD 0 .un) (.u8 20)).bind fun v6 => condM (v6)
  (some (.tu [.ag [v5.getD 0 .un, v5.getD 1 .un, v5.getD 2 .un, v5.getD 3 .un, v5.getD 4 .un, v5.getD 5 .un, v5.getD 6 .un, v5.getD 7 .un, v5.getD 8 .un, v5.getD 9 .un], .int a3]))
  (F27_4 run a0 (a1) (a2) (w64 (a3 + 1)) (v5.getD 0 .un) (v5.getD 1 .un) (v5.getD 2 .un) (v5.getD 3 .un) (v5.getD 4 .un) (v5.getD 5 .un) (v5.getD 6 .un) (v5.getD 7 .un) (v5.getD 8 .un) (v5.getD 9 .un) a14 a15 a16 a17 a18 a19 a20 a21 a22 a23))
  (some (.tu [.ag [a4, a5, a6, a7, a8, a9, a10, a11, a12, a13], .int ((-1))]))
section
variable (call : CallT) (run : RunT) (a0 : Nat) (a1 a2 : AV) (a3 : Int) (a4 a5 a6 a7 a8 a9 a10 a11 a12 a13 : AV) (a14 a15 : UInt8) (a16 : Bool) (a17 a18 a19 a20 : UInt8) (a21 : Bool) (a22 : UInt8) (a23 : List UInt8)
theorem text27_4 : step C call 27 Tryd.f27 (unr C call run 27 Tryd.f27 400) K27_4 (S27_4 a0 a1 a2 a3 a4 a5 a6 a7 a8 a9 a10 a11 a12 a13 a14 a15 a16 a17 a18 a19 a20 a21 a22 a23) = X27_4 call run a0 a1 a2 a3 a4 a5 a6 a7 a8 a9 a10 a11 a12 a13 a14 a15 a16 a17 a18 a19 a20 a21 a22 a23 := by
  kernel_rfl
end
section
variable (a0 : AV) (a1 : Nat) (a2 a3 : UInt8) (a4 : Bool) (a5 a6 a7 a8 : UInt8) (a9 : Bool) (a10 : UInt8) (a11 : List UInt8) (a12 a13 : UInt8) (a14 : Bool) (a15 a16 a17 a18 : UInt8) (a19 : Bool) (a20 : UInt8) (a21 : List UInt8)
theorem r27_3 {r : AV} (h : X27_3 (semCall C Tryd.prog) (semRun C Tryd.prog 27 Tryd.f27) a0 a1 a2 a3 a4 a5 a6 a7 a8 a9 a10 a11 a12 a13 a14 a15 a16 a17 a18 a19 a20 a21 = some r) : F27_3 (semRun C Tryd.prog 27 Tryd.f27) a0 a1 a2 a3 a4 a5 a6 a7 a8 a9 a10 a11 a12 a13 a14 a15 a16 a17 a18 a19 a20 a21 = some r :=
  semRun_unr 400 ((text27_3 _ _ a0 a1 a2 a3 a4 a5 a6 a7 a8 a9 a10 a11 a12 a13 a14 a15 a16 a17 a18 a19 a20 a21).trans h)
end
section
variable (a0 : Nat) (a1 a2 : AV) (a3 : Int) (a4 a5 a6 a7 a8 a9 a10 a11 a12 a13 : AV) (a14 a15 : UInt8) (a16 : Bool) (a17 a18 a19 a20 : UInt8) (a21 : Bool) (a22 : UInt8) (a23 : List UInt8)
theorem r27_4 {r : AV} (h : X27_4 (semCall C Tryd.prog) (semRun C Tryd.prog 27 Tryd.f27) a0 a1 a2 a3 a4 a5 a6 a7 a8 a9 a10 a11 a12 a13 a14 a15 a16 a17 a18 a19 a20 a21 a22 a23 = some r) : F27_4 (semRun C Tryd.prog 27 Tryd.f27) a0 a1 a2 a3 a4 a5 a6 a7 a8 a9 a10 a11 a12 a13 a14 a15 a16 a17 a18 a19 a20 a21 a22 a23 = some r :=
  semRun_unr 400 ((text27_4 _ _ a0 a1 a2 a3 a4 a5 a6 a7 a8 a9 a10 a11 a12 a13 a14 a15 a16 a17 a18 a19 a20 a21 a22 a23).trans h)
end
end R4

namespace R4
open Go Go.Proofs Sx
noncomputable def body17 : Code := (Tryd.f17.body).getD .skip
noncomputable def X17 (call : CallT) (run : RunT) (a0 a1 : UInt8) (a2 : Bool) (a3 a4 a5 a6 : UInt8) (a7 : Bool) (a8 : UInt8) (a9 : List UInt8) (a10 : AV) : Option AV :=
  (call 27 [.ag [.u8 a0, .u8 a1, .b a2, .u8 a3, .u8 a4, .u8 a5, .u8 a6, .b a7, .u8 a8, .s a9], a10, .fn 28]).bind fun v1 => (tupI (v1) 0).bind fun v2 => (tupI (v1) 1).bind fun v3 => (AV.asAg 10 (v2)).bind fun v4 => some (.tu [.ag [v4.getD 0 .un, v4.getD 1 .un, v4.getD 2 .un, v4.getD 3 .un, v4.getD 4 .un, v4.getD 5 .un, v4.getD 6 .un, v4.getD 7 .un, v4.getD 8 .un, v4.getD 9 .un], v3])
section
variable (call : CallT) (run : RunT) (a0 a1 : UInt8) (a2 : Bool) (a3 a4 a5 a6 : UInt8) (a7 : Bool) (a8 : UInt8) (a9 : List UInt8) (a10 : AV)
theorem text17 : unr C call run 17 Tryd.f17 400 [.code body17] (initF C 17 Tryd.f17.ntmps [.ag [.u8 a0, .u8 a1, .b a2, .u8 a3, .u8 a4, .u8 a5, .u8 a6, .b a7, .u8 a8, .s a9], a10]) = X17 call run a0 a1 a2 a3 a4 a5 a6 a7 a8 a9 a10 := by
  kernel_rfl
theorem c17 {r : AV} (h : X17 (semCall C Tryd.prog) (semRun C Tryd.prog 17 Tryd.f17) a0 a1 a2 a3 a4 a5 a6 a7 a8 a9 a10 = some r) : semCall C Tryd.prog 17 [.ag [.u8 a0, .u8 a1, .b a2, .u8 a3, .u8 a4, .u8 a5, .u8 a6, .b a7, .u8 a8, .s a9], a10] = some r :=
  semCall_unr (fn := Tryd.f17) (c := body17) (by kernel_rfl) (by kernel_rfl) 400 (by kernel_rfl) ((text17 _ _ a0 a1 a2 a3 a4 a5 a6 a7 a8 a9 a10).trans h)
end
end R4

namespace R4
open Go Go.Proofs Sx
noncomputable def body20 : Code := (Tryd.f20.body).getD .skip
section
variable (run : RunT) (a0 : UInt8) (a1 a2 a3 a4 a5 a6 a7 a8 a9 a10 : AV) (a11 a12 : UInt8) (a13 : Bool) (a14 a15 a16 a17 : UInt8) (a18 : Bool) (a19 : UInt8) (a20 : List UInt8)
noncomputable def K20_20 : List Item := (kAt 20 body20 []).getD []
def S20_20 : St := St.ofL [(1, .cell (.val (.u8 a0))), (2, .cell (.ptr 2 0)), (4, .cell (.ptr 4 0))] [(2, some [.val (a1), .val (a2), .val (a3), .val (a4), .val (a5), .val (a6), .val (a7), .val (a8), .val (a9), .val (a10)]), (4, some [.val (.u8 a11), .val (.u8 a12), .val (.b a13), .val (.u8 a14), .val (.u8 a15), .val (.u8 a16), .val (.u8 a17), .val (.b a18), .val (.u8 a19), .val (.s a20)])]
noncomputable def F20_20 : Option AV := run K20_20 (S20_20 a0 a1 a2 a3 a4 a5 a6 a7 a8 a9 a10 a11 a12 a13 a14 a15 a16 a17 a18 a19 a20)
end
section
variable (run : RunT) (a0 : UInt8) (a1 a2 a3 a4 a5 a6 a7 a8 : AV) (a9 : List UInt8) (a10 a11 : UInt8) (a12 : Bool) (a13 a14 a15 a16 : UInt8) (a17 : Bool) (a18 : UInt8) (a19 : List UInt8)
noncomputable def K20_24 : List Item := (kAt 24 body20 []).getD []
def S20_24 : St := St.ofL [(2, .cell (.ptr 2 0)), (4, .cell (.ptr 4 0))] [(2, some [.val (.u8 a0), .val (a1), .val (a2), .val (a3), .val (a4), .val (a5), .val (a6), .val (a7), .val (a8), .val (.s a9)]), (4, some [.val (.u8 a10), .val (.u8 a11), .val (.b a12), .val (.u8 a13), .val (.u8 a14), .val (.u8 a15), .val (.u8 a16), .val (.b a17), .val (.u8 a18), .val (.s a19)])]
noncomputable def F20_24 : Option AV := run K20_24 (S20_24 a0 a1 a2 a3 a4 a5 a6 a7 a8 a9 a10 a11 a12 a13 a14 a15 a16 a17 a18 a19)
end
noncomputable def X20 (call : CallT) (run : RunT) (a0 a1 : UInt8) (a2 : Bool) (a3 a4 a5 a6 : UInt8) (a7 : Bool) (a8 : UInt8) (a9 : List UInt8) (a10 : UInt8) : Option AV :=
  (call 31 [.ag [.u8 a0, .u8 a1, .b a2, .u8 a3, .u8 a4, .u8 a5, .u8 a6, .b a7, .u8 a8, .s a9]]).bind fun v1 => (unop .not (v1)).bind fun v2 => condM (v2)
  ((call 32 []).bind fun v3 => (AV.asAg 10 (v3)).bind fun v4 => some (.ag [v4.getD 0 .un, v4.getD 1 .un, v4.getD 2 .un, v4.getD 3 .un, v4.getD 4 .un, v4.getD 5 .un, v4.getD 6 .un, v4.getD 7 .un, v4.getD 8 .un, v4.getD 9 .un]))
  ((call 33 [.ag [.u8 a0, .u8 a1, .b a2, .u8 a3, .u8 a4, .u8 a5, .u8 a6, .b a7, .u8 a8, .s a9]]).bind fun v5 => (AV.asAg 10 (v5)).bind fun v6 => (conv .i64 (v6.getD 0 .un)).bind fun v7 => (binI .lss (v7) (.int 17)).bind fun v8 => (selW (v8) false ((binI .gtr (v7) (.int 19)).bind fun v9 => some (v9)) (.b true)).bind fun v10 => (selW (v10) false ((binI .lss (v6.getD 1 .un) (.u8 3)).bind fun v11 => some (v11)) (.b true)).bind fun v12 => condM (v12)
  ((call 34 [.ag [v6.getD 0 .un, v6.getD 1 .un, v6.getD 2 .un, v6.getD 3 .un, v6.getD 4 .un, v6.getD 5 .un, v6.getD 6 .un, v6.getD 7 .un, v6.getD 8 .un, v6.getD 9 .un], .u8 a10]).bind fun v13 => (call 33 [v13]).bind fun v14 => (AV.asAg 10 (v14)).bind fun v15 => some (.ag [v15.getD 0 .un, v15.getD 1 .un, v15.getD 2 .un, v15.getD 3 .un, v15.getD 4 .un, v15.getD 5 .un, v15.getD 6 .un, v15.getD 7 .un, v15.getD 8 .un, v15.getD 9 .un]))
  ((binI .eql (v7) (.int 18)).bind fun v16 => (selW (v16) true (some (.b (ueq a10 33))) (.b false)).bind fun v17 => (selW (v17) true ((binI .eql (v6.getD 1 .un) (.u8 3)).bind fun v18 => some (v18)) (.b false)).bind fun v19 => condM (v19)
  ((call 32 []).bind fun v20 => (AV.asAg 10 (v20)).bind fun v21 => some (.ag [v21.getD 0 .un, v21.getD 1 .un, v21.getD 2 .un, v21.getD 3 .un, v21.getD 4 .un, v21.getD 5 .un, v21.getD 6 .un, v21.getD 7 .un, v21.getD 8 .un, v21.getD 9 .un]))
  ((binI .eql (v7) (.int 18)).bind fun v22 => (selW (v22) true (some (.b (ueq a10 47))) (.b false)).bind fun v23 => condM (v23)
  (some (.ag [.u8 19, v6.getD 1 .un, v6.getD 2 .un, v6.getD 3 .un, v6.getD 4 .un, v6.getD 5 .un, v6.getD 6 .un, v6.getD 7 .un, v6.getD 8 .un, v6.getD 9 .un]))
  ((conv .i64 (v6.getD 1 .un)).bind fun v24 => (call 35 [v24]).bind fun v25 => (binI .eql (v7) (.int 19)).bind fun v26 => condM (v26)
  ((binS .eql (v6.getD 9 .un) (v25)).bind fun v27 => (selW (v27) true ((call 36 [.u8 a10]).bind fun v28 => (selW (v28) false (some (.b (ueq a10 47))) (.b true)).bind fun v29 => (selW (v29) false (some (.b (ueq a10 62))) (.b true)).bind fun v30 => some (v30)) (.b false)).bind fun v31 => condM (v31)
  ((call 34 [.ag [.u8 9, .u8 0, .b true, .u8 0, .u8 0, .u8 0, .u8 0, .b false, .u8 0, .s []], .u8 a10]).bind fun v32 => (AV.asAg 10 (v32)).bind fun v33 => some (.ag [v33.getD 0 .un, v33.getD 1 .un, v33.getD 2 .un, v33.getD 3 .un, v33.getD 4 .un, v33.getD 5 .un, v33.getD 6 .un, v33.getD 7 .un, v33.getD 8 .un, v33.getD 9 .un]))
  ((call 37 [.u8 a10]).bind fun v34 => (binS .add (v6.getD 9 .un) (v34)).bind fun v35 => (lenS (v35)).bind fun v36 => (lenS (v25)).bind fun v37 => (binI .leq (v36) (v37)).bind fun v38 => (selW (v38) true ((lenS (v35)).bind fun v39 => (slS (v25) none (some (v39))).bind fun v40 => (binS .eql (v40) (v35)).bind fun v41 => some (v41)) (.b false)).bind fun v42 => condM (v42)
  ((AV.one (v35)).bind fun v43 => some (.ag [v6.getD 0 .un, v6.getD 1 .un, v6.getD 2 .un, v6.getD 3 .un, v6.getD 4 .un, v6.getD 5 .un, v6.getD 6 .un, v6.getD 7 .un, v6.getD 8 .un, v43]))
  (F20_20 run a10 (v6.getD 0 .un) (v6.getD 1 .un) (v6.getD 2 .un) (v6.getD 3 .un) (v6.getD 4 .un) (v6.getD 5 .un) (v6.getD 6 .un) (v6.getD 7 .un) (v6.getD 8 .un) (v6.getD 9 .un) 0 0 false 0 0 0 0 false 0 [])))
  (F20_20 run a10 (v6.getD 0 .un) (v6.getD 1 .un) (v6.getD 2 .un) (v6.getD 3 .un) (v6.getD 4 .un) (v6.getD 5 .un) (v6.getD 6 .un) (v6.getD 7 .un) (v6.getD 8 .un) (v6.getD 9 .un) 0 0 false 0 0 0 0 false 0 [])))))
section
variable (call : CallT) (run : RunT) (a0 a1 : UInt8) (a2 : Bool) (a3 a4 a5 a6 : UInt8) (a7 : Bool) (a8 : UInt8) (a9 : List UInt8) (a10 : UInt8)
theorem text20 : unr C call run 20 Tryd.f20 400 [.code body20] (initF C 20 Tryd.f20.ntmps [.ag [.u8 a0, .u8 a1, .b a2, .u8 a3, .u8 a4, .u8 a5, .u8 a6, .b a7, .u8 a8, .s a9], .u8 a10]) = X20 call run a0 a1 a2 a3 a4 a5 a6 a7 a8 a9 a10 := by
  kernel_rfl
theorem c20 {r : AV} (h : X20 (semCall C Tryd.prog) (semRun C Tryd.prog 20 Tryd.f20) a0 a1 a2 a3 a4 a5 a6 a7 a8 a9 a10 = some r) : semCall C Tryd.prog 20 [.ag [.u8 a0, .u8 a1, .b a2, .u8 a3, .u8 a4, .u8 a5, .u8 a6, .b a7, .u8 a8, .s a9], .u8 a10] = some r :=
  semCall_unr (fn := Tryd.f20) (c := body20) (by kernel_rfl) (by kernel_rfl) 400 (by kernel_rfl) ((text20 _ _ a0 a1 a2 a3 a4 a5 a6 a7 a8 a9 a10).trans h)
end
noncomputable def X20_20 (call : CallT) (run : RunT) (a0 : UInt8) (a1 a2 a3 a4 a5 a6 a7 a8 a9 a10 : AV) (a11 a12 : UInt8) (a13 : Bool) (a14 a15 a16 a17 : UInt8) (a18 : Bool) (a19 : UInt8) (a20 : List UInt8) : Option AV :=
  condM (.b (ueq a0 60))
  (F20_24 run 18 (a2) (a3) (a4) (a5) (a6) (a7) (a8) (a9) [] a11 a12 a13 a14 a15 a16 a17 a18 a19 a20)
  (F20_24 run 17 (a2) (a3) (a4) (a5) (a6) (a7) (a8) (a9) [] a11 a12 a13 a14 a15 a16 a17 a18 a19 a20)
section
variable (call : CallT) (run : RunT) (a0 : UInt8) (a1 a2 a3 a4 a5 a6 a7 a8 a9 a10 : AV) (a11 a12 : UInt8) (a13 : Bool) (a14 a15 a16 a17 : UInt8) (a18 : Bool) (a19 : UInt8) (a20 : List UInt8)
theorem text20_20 : step C call 20 Tryd.f20 (unr C call run 20 Tryd.f20 400) K20_20 (S20_20 a0 a1 a2 a3 a4 a5 a6 a7 a8 a9 a10 a11 a12 a13 a14 a15 a16 a17 a18 a19 a20) = X20_20 call run a0 a1 a2 a3 a4 a5 a6 a7 a8 a9 a10 a11 a12 a13 a14 a15 a16 a17 a18 a19 a20 := by
  kernel_rfl
end
noncomputable def X20_24 (call : CallT) (run : RunT) (a0 : UInt8) (a1 a2 a3 a4 a5 a6 a7 a8 : AV) (a9 : List UInt8) (a10 a11 : UInt8) (a12 : Bool) (a13 a14 a15 a16 : UInt8) (a17 : Bool) (a18 : UInt8) (a19 : List UInt8) : Option AV :=
  some (.ag [.u8 a0, a1, a2, a3, a4, a5, a6, a7, a8, .s a9])
section
variable (call : CallT) (run : RunT) (a0 : UInt8) (a1 a2 a3 a4 a5 a6 a7 a8 : AV) (a9 : List UInt8) (a10 a11 : UInt8) (a12 : Bool) (a13 a14 a15 a16 : UInt8) (a17 : Bool) (a18 : UInt8) (a19 : List UInt8)
theorem text20_24 : step C call 20 Tryd.f20 (unr C call run 20 Tryd.f20 400) K20_24 (S20_24 a0 a1 a2 a3 a4 a5 a6 a7 a8 a9 a10 a11 a12 a13 a14 a15 a16 a17 a18 a19) = X20_24 call run a0 a1 a2 a3 a4 a5 a6 a7 a8 a9 a10 a11 a12 a13 a14 a15 a16 a17 a18 a19 := by
  kernel_rfl
end
section
variable (a0 : UInt8) (a1 a2 a3 a4 a5 a6 a7 a8 a9 a10 : AV) (a11 a12 : UInt8) (a13 : Bool) (a14 a15 a16 a17 : UInt8) (a18 : Bool) (a19 : UInt8) (a20 : List UInt8)
theorem r20_20 {r : AV} (h : X20_20 (semCall C Tryd.prog) (semRun C Tryd.prog 20 Tryd.f20) a0 a1 a2 a3 a4 a5 a6 a7 a8 a9 a10 a11 a12 a13 a14 a15 a16 a17 a18 a19 a20 = some r) : F20_20 (semRun C Tryd.prog 20 Tryd.f20) a0 a1 a2 a3 a4 a5 a6 a7 a8 a9 a10 a11 a12 a13 a14 a15 a16 a17 a18 a19 a20 = some r :=
  semRun_unr 400 ((text20_20 _ _ a0 a1 a2 a3 a4 a5 a6 a7 a8 a9 a10 a11 a12 a13 a14 a15 a16 a17 a18 a19 a20).trans h)
end
section
variable (a0 : UInt8) (a1 a2 a3 a4 a5 a6 a7 a8 : AV) (a9 : List UInt8) (a10 a11 : UInt8) (a12 : Bool) (a13 a14 a15 a16 : UInt8) (a17 : Bool) (a18 : UInt8) (a19 : List UInt8)
theorem r20_24 {r : AV} (h : X20_24 (semCall C Tryd.prog) (semRun C Tryd.prog 20 Tryd.f20) a0 a1 a2 a3 a4 a5 a6 a7 a8 a9 a10 a11 a12 a13 a14 a15 a16 a17 a18 a19 = some r) : F20_24 (semRun C Tryd.prog 20 Tryd.f20) a0 a1 a2 a3 a4 a5 a6 a7 a8 a9 a10 a11 a12 a13 a14 a15 a16 a17 a18 a19 = some r :=
  semRun_unr 400 ((text20_24 _ _ a0 a1 a2 a3 a4 a5 a6 a7 a8 a9 a10 a11 a12 a13 a14 a15 a16 a17 a18 a19).trans h)
end
end R4

namespace R4
open Go Go.Proofs Sx
noncomputable def body28 : Code := (Tryd.f28.body).getD .skip
noncomputable def X28 (call : CallT) (run : RunT) (a0 a1 : UInt8) (a2 : Bool) (a3 a4 a5 a6 : UInt8) (a7 : Bool) (a8 : UInt8) (a9 : List UInt8) (a10 : UInt8) : Option AV :=
  (call 43 [.ag [.u8 a0, .u8 a1, .b a2, .u8 a3, .u8 a4, .u8 a5, .u8 a6, .b a7, .u8 a8, .s a9]]).bind fun v1 => (unop .not (v1)).bind fun v2 => condM (v2)
  (some (.ag [.u8 20, .u8 0, .b false, .u8 0, .u8 0, .u8 0, .u8 0, .b false, .u8 0, .s []]))
  ((call 44 [.ag [.u8 a0, .u8 a1, .b a2, .u8 a3, .u8 a4, .u8 a5, .u8 a6, .b a7, .u8 a8, .s a9]]).bind fun v3 => (call 45 [v3, .u8 a10, .b false]).bind fun v4 => (call 44 [v4]).bind fun v5 => (AV.asAg 10 (v5)).bind fun v6 => some (.ag [v6.getD 0 .un, v6.getD 1 .un, v6.getD 2 .un, v6.getD 3 .un, v6.getD 4 .un, v6.getD 5 .un, v6.getD 6 .un, v6.getD 7 .un, v6.getD 8 .un, v6.getD 9 .un]))
section
variable (call : CallT) (run : RunT) (a0 a1 : UInt8) (a2 : Bool) (a3 a4 a5 a6 : UInt8) (a7 : Bool) (a8 : UInt8) (a9 : List UInt8) (a10 : UInt8)
theorem text28 : unr C call run 28 Tryd.f28 400 [.code body28] (initF C 28 Tryd.f28.ntmps [.ag [.u8 a0, .u8 a1, .b a2, .u8 a3, .u8 a4, .u8 a5, .u8 a6, .b a7, .u8 a8, .s a9], .u8 a10]) = X28 call run a0 a1 a2 a3 a4 a5 a6 a7 a8 a9 a10 := by
  kernel_rfl
theorem c28 {r : AV} (h : X28 (semCall C Tryd.prog) (semRun C Tryd.prog 28 Tryd.f28) a0 a1 a2 a3 a4 a5 a6 a7 a8 a9 a10 = some r) : semCall C Tryd.prog 28 [.ag [.u8 a0, .u8 a1, .b a2, .u8 a3, .u8 a4, .u8 a5, .u8 a6, .b a7, .u8 a8, .s a9], .u8 a10] = some r :=
  semCall_unr (fn := Tryd.f28) (c := body28) (by kernel_rfl) (by kernel_rfl) 400 (by kernel_rfl) ((text28 _ _ a0 a1 a2 a3 a4 a5 a6 a7 a8 a9 a10).trans h)
end
end R4

namespace R4
open Go Go.Proofs Sx
noncomputable def body33 : Code := (Tryd.f33.body).getD .skip
section
variable (run : RunT) (a0 a1 : UInt8) (a2 : Bool) (a3 a4 a5 a6 : UInt8) (a7 : Bool) (a8 : UInt8) (a9 : List UInt8) (a10 a11 : UInt8) (a12 : Bool) (a13 a14 a15 a16 : UInt8) (a17 : Bool) (a18 : UInt8) (a19 : List UInt8)
noncomputable def K33_4 : List Item := (kAt 4 body33 []).getD []
def S33_4 : St := St.ofL [(2, .cell (.ptr 2 0)), (3, .cell (.ptr 3 0))] [(2, some [.val (.u8 a0), .val (.u8 a1), .val (.b a2), .val (.u8 a3), .val (.u8 a4), .val (.u8 a5), .val (.u8 a6), .val (.b a7), .val (.u8 a8), .val (.s a9)]), (3, some [.val (.u8 a10), .val (.u8 a11), .val (.b a12), .val (.u8 a13), .val (.u8 a14), .val (.u8 a15), .val (.u8 a16), .val (.b a17), .val (.u8 a18), .val (.s a19)])]
noncomputable def F33_4 : Option AV := run K33_4 (S33_4 a0 a1 a2 a3 a4 a5 a6 a7 a8 a9 a10 a11 a12 a13 a14 a15 a16 a17 a18 a19)
end
noncomputable def X33 (call : CallT) (run : RunT) (a0 a1 : UInt8) (a2 : Bool) (a3 a4 a5 a6 : UInt8) (a7 : Bool) (a8 : UInt8) (a9 : List UInt8) : Option AV :=
  condM (.b ((w64 (a0.toNat : Int)) == 8))
  (F33_4 run 0 0 false 0 0 0 0 false 0 [] a0 a1 a2 0 a4 0 0 false a8 [])
  (F33_4 run 0 0 false 0 0 0 0 false 0 [] a0 a1 a2 0 a4 0 0 false a8 a9)
section
variable (call : CallT) (run : RunT) (a0 a1 : UInt8) (a2 : Bool) (a3 a4 a5 a6 : UInt8) (a7 : Bool) (a8 : UInt8) (a9 : List UInt8)
theorem text33 : unr C call run 33 Tryd.f33 400 [.code body33] (initF C 33 Tryd.f33.ntmps [.ag [.u8 a0, .u8 a1, .b a2, .u8 a3, .u8 a4, .u8 a5, .u8 a6, .b a7, .u8 a8, .s a9]]) = X33 call run a0 a1 a2 a3 a4 a5 a6 a7 a8 a9 := by
  kernel_rfl
theorem c33 {r : AV} (h : X33 (semCall C Tryd.prog) (semRun C Tryd.prog 33 Tryd.f33) a0 a1 a2 a3 a4 a5 a6 a7 a8 a9 = some r) : semCall C Tryd.prog 33 [.ag [.u8 a0, .u8 a1, .b a2, .u8 a3, .u8 a4, .u8 a5, .u8 a6, .b a7, .u8 a8, .s a9]] = some r :=
  semCall_unr (fn := Tryd.f33) (c := body33) (by kernel_rfl) (by kernel_rfl) 400 (by kernel_rfl) ((text33 _ _ a0 a1 a2 a3 a4 a5 a6 a7 a8 a9).trans h)
end
noncomputable def X33_4 (call : CallT) (run : RunT) (a0 a1 : UInt8) (a2 : Bool) (a3 a4 a5 a6 : UInt8) (a7 : Bool) (a8 : UInt8) (a9 : List UInt8) (a10 a11 : UInt8) (a12 : Bool) (a13 a14 a15 a16 : UInt8) (a17 : Bool) (a18 : UInt8) (a19 : List UInt8) : Option AV :=
  some (.ag [.u8 a10, .u8 a11, .b a12, .u8 a13, .u8 a14, .u8 a15, .u8 a16, .b a17, .u8 a18, .s a19])
section
variable (call : CallT) (run : RunT) (a0 a1 : UInt8) (a2 : Bool) (a3 a4 a5 a6 : UInt8) (a7 : Bool) (a8 : UInt8) (a9 : List UInt8) (a10 a11 : UInt8) (a12 : Bool) (a13 a14 a15 a16 : UInt8) (a17 : Bool) (a18 : UInt8) (a19 : List UInt8)
theorem text33_4 : step C call 33 Tryd.f33 (unr C call run 33 Tryd.f33 400) K33_4 (S33_4 a0 a1 a2 a3 a4 a5 a6 a7 a8 a9 a10 a11 a12 a13 a14 a15 a16 a17 a18 a19) = X33_4 call run a0 a1 a2 a3 a4 a5 a6 a7 a8 a9 a10 a11 a12 a13 a14 a15 a16 a17 a18 a19 := by
  kernel_rfl
end
section
variable (a0 a1 : UInt8) (a2 : Bool) (a3 a4 a5 a6 : UInt8) (a7 : Bool) (a8 : UInt8) (a9 : List UInt8) (a10 a11 : UInt8) (a12 : Bool) (a13 a14 a15 a16 : UInt8) (a17 : Bool) (a18 : UInt8) (a19 : List UInt8)
theorem r33_4 {r : AV} (h : X33_4 (semCall C Tryd.prog) (semRun C Tryd.prog 33 Tryd.f33) a0 a1 a2 a3 a4 a5 a6 a7 a8 a9 a10 a11 a12 a13 a14 a15 a16 a17 a18 a19 = some r) : F33_4 (semRun C Tryd.prog 33 Tryd.f33) a0 a1 a2 a3 a4 a5 a6 a7 a8 a9 a10 a11 a12 a13 a14 a15 a16 a17 a18 a19 = some r :=
  semRun_unr 400 ((text33_4 _ _ a0 a1 a2 a3 a4 a5 a6 a7 a8 a9 a10 a11 a12 a13 a14 a15 a16 a17 a18 a19).trans h)
end
end R4

namespace R4
open Go Go.Proofs Sx
noncomputable def body44 : Code := (Tryd.f44.body).getD .skip
section
variable (run : RunT) (a0 a1 : UInt8) (a2 : Bool) (a3 a4 a5 a6 : UInt8) (a7 : Bool) (a8 : UInt8) (a9 : List UInt8) (a10 a11 : UInt8) (a12 : Bool) (a13 a14 a15 a16 : UInt8) (a17 : Bool) (a18 : UInt8) (a19 : List UInt8)
noncomputable def K44_3 : List Item := (kAt 3 body44 []).getD []
def S44_3 : St := St.ofL [(1, .cell (.ptr 1 0)), (2, .cell (.ptr 2 0))] [(1, some [.val (.u8 a0), .val (.u8 a1), .val (.b a2), .val (.u8 a3), .val (.u8 a4), .val (.u8 a5), .val (.u8 a6), .val (.b a7), .val (.u8 a8), .val (.s a9)]), (2, some [.val (.u8 a10), .val (.u8 a11), .val (.b a12), .val (.u8 a13), .val (.u8 a14), .val (.u8 a15), .val (.u8 a16), .val (.b a17), .val (.u8 a18), .val (.s a19)])]
noncomputable def F44_3 : Option AV := run K44_3 (S44_3 a0 a1 a2 a3 a4 a5 a6 a7 a8 a9 a10 a11 a12 a13 a14 a15 a16 a17 a18 a19)
end
noncomputable def X44 (call : CallT) (run : RunT) (a0 a1 : UInt8) (a2 : Bool) (a3 a4 a5 a6 : UInt8) (a7 : Bool) (a8 : UInt8) (a9 : List UInt8) : Option AV :=
  condM (.b (ueq a0 8))
  (F44_3 run a0 a1 a2 a3 a4 a5 a6 a7 a8 [] 0 0 false 0 0 0 0 false 0 [])
  (F44_3 run a0 a1 a2 a3 a4 a5 a6 a7 a8 a9 0 0 false 0 0 0 0 false 0 [])
section
variable (call : CallT) (run : RunT) (a0 a1 : UInt8) (a2 : Bool) (a3 a4 a5 a6 : UInt8) (a7 : Bool) (a8 : UInt8) (a9 : List UInt8)
theorem text44 : unr C call run 44 Tryd.f44 400 [.code body44] (initF C 44 Tryd.f44.ntmps [.ag [.u8 a0, .u8 a1, .b a2, .u8 a3, .u8 a4, .u8 a5, .u8 a6, .b a7, .u8 a8, .s a9]]) = X44 call run a0 a1 a2 a3 a4 a5 a6 a7 a8 a9 := by
  kernel_rfl
theorem c44 {r : AV} (h : X44 (semCall C Tryd.prog) (semRun C Tryd.prog 44 Tryd.f44) a0 a1 a2 a3 a4 a5 a6 a7 a8 a9 = some r) : semCall C Tryd.prog 44 [.ag [.u8 a0, .u8 a1, .b a2, .u8 a3, .u8 a4, .u8 a5, .u8 a6, .b a7, .u8 a8, .s a9]] = some r :=
  semCall_unr (fn := Tryd.f44) (c := body44) (by kernel_rfl) (by kernel_rfl) 400 (by kernel_rfl) ((text44 _ _ a0 a1 a2 a3 a4 a5 a6 a7 a8 a9).trans h)
end
noncomputable def X44_3 (call : CallT) (run : RunT) (a0 a1 : UInt8) (a2 : Bool) (a3 a4 a5 a6 : UInt8) (a7 : Bool) (a8 : UInt8) (a9 : List UInt8) (a10 a11 : UInt8) (a12 : Bool) (a13 a14 a15 a16 : UInt8) (a17 : Bool) (a18 : UInt8) (a19 : List UInt8) : Option AV :=
  some (.ag [.u8 a0, .u8 a1, .b a2, .u8 0, .u8 a4, .u8 0, .u8 0, .b false, .u8 a8, .s a9])
section
variable (call : CallT) (run : RunT) (a0 a1 : UInt8) (a2 : Bool) (a3 a4 a5 a6 : UInt8) (a7 : Bool) (a8 : UInt8) (a9 : List UInt8) (a10 a11 : UInt8) (a12 : Bool) (a13 a14 a15 a16 : UInt8) (a17 : Bool) (a18 : UInt8) (a19 : List UInt8)
theorem text44_3 : step C call 44 Tryd.f44 (unr C call run 44 Tryd.f44 400) K44_3 (S44_3 a0 a1 a2 a3 a4 a5 a6 a7 a8 a9 a10 a11 a12 a13 a14 a15 a16 a17 a18 a19) = X44_3 call run a0 a1 a2 a3 a4 a5 a6 a7 a8 a9 a10 a11 a12 a13 a14 a15 a16 a17 a18 a19 := by
  kernel_rfl
end
section
variable (a0 a1 : UInt8) (a2 : Bool) (a3 a4 a5 a6 : UInt8) (a7 : Bool) (a8 : UInt8) (a9 : List UInt8) (a10 a11 : UInt8) (a12 : Bool) (a13 a14 a15 a16 : UInt8) (a17 : Bool) (a18 : UInt8) (a19 : List UInt8)
theorem r44_3 {r : AV} (h : X44_3 (semCall C Tryd.prog) (semRun C Tryd.prog 44 Tryd.f44) a0 a1 a2 a3 a4 a5 a6 a7 a8 a9 a10 a11 a12 a13 a14 a15 a16 a17 a18 a19 = some r) : F44_3 (semRun C Tryd.prog 44 Tryd.f44) a0 a1 a2 a3 a4 a5 a6 a7 a8 a9 a10 a11 a12 a13 a14 a15 a16 a17 a18 a19 = some r :=
  semRun_unr 400 ((text44_3 _ _ a0 a1 a2 a3 a4 a5 a6 a7 a8 a9 a10 a11 a12 a13 a14 a15 a16 a17 a18 a19).trans h)
end
end R4

namespace R4
open Go Go.Proofs Sx
noncomputable def body18 : Code := (Tryd.f18.body).getD .skip
noncomputable def X18 (call : CallT) (run : RunT) (a0 : UInt8) (a1 : List UInt8) (a2 : AV) (a3 : List UInt8) (a4 : List AV) : Option AV :=
  (app 64 4 a4 (.ro 4 (([.ag [.u8 a0, .s a1, a2, .s a3]] : List AV)))).bind fun v1 => some (.tu [.b true, .ag [.ro 4 v1]])
section
variable (call : CallT) (run : RunT) (a0 : UInt8) (a1 : List UInt8) (a2 : AV) (a3 : List UInt8) (a4 : List AV)
theorem text18 : unr C call run 18 Tryd.f18 400 [.code body18] (initF C 18 Tryd.f18.ntmps [.ag [.u8 a0, .s a1, a2, .s a3], .un, .ag [.ro 4 a4]]) = X18 call run a0 a1 a2 a3 a4 := by
  kernel_rfl
theorem c18 {r : AV} (h : X18 (semCall C Tryd.prog) (semRun C Tryd.prog 18 Tryd.f18) a0 a1 a2 a3 a4 = some r) : semCall C Tryd.prog 18 [.ag [.u8 a0, .s a1, a2, .s a3], .un, .ag [.ro 4 a4]] = some r :=
  semCall_unr (fn := Tryd.f18) (c := body18) (by kernel_rfl) (by kernel_rfl) 400 (by kernel_rfl) ((text18 _ _ a0 a1 a2 a3 a4).trans h)
end
end R4

namespace R4
open Go Go.Proofs Sx
noncomputable def body30 : Code := (Tryd.f30.body).getD .skip
section
variable (run : RunT) (a0 a1 a2 a3 a4 a5 a6 a7 a8 a9 : AV) (a10 a11 : List AV) (a12 a13 a14 a15 a16 a17 : AV) (a18 : List AV)
noncomputable def K30_2 : List Item := (kAt 2 body30 []).getD []
def S30_2 : St := St.ofL [(0, .cell (.ptr 22 0))] [(22, some [.val (a0), .val (a1), .val (a2), .val (a3), .val (a4), .val (a5), .val (a6), .val (a7), .val (a8), .val (a9), .own 622010 5 1 a10, .own 622011 5 1 a11, .val (a12), .val (a13), .val (a14), .val (a15), .val (a16), .clo 18 [23], .val (a17)]), (23, some [.own 623000 39 4 a18])]
noncomputable def F30_2 : Option AV := run K30_2 (S30_2 a0 a1 a2 a3 a4 a5 a6 a7 a8 a9 a10 a11 a12 a13 a14 a15 a16 a17 a18)
end
noncomputable def X30 (call : CallT) (run : RunT) (a0 a1 : UInt8) (a2 : Bool) (a3 a4 a5 a6 : UInt8) (a7 : Bool) (a8 : UInt8) (a9 : List UInt8) (a10 a11 : List AV) (a12 : Bool) (a13 : UInt8) (a14 : List UInt8) (a15 : AV) (a16 : List UInt8) (a17 : Bool) (a18 : List AV) : Option AV :=
  condM (.b (decide (((a10.length : Int)) > 0)))
  ((b2s (.ro 1 a10)).bind fun v1 => (AV.one (v1)).bind fun v2 => (call 50 [.un, .ag [.u8 0, .s [], .nils, v2], .ag [.u8 a0, .u8 a1, .b a2, .u8 a3, .u8 a4, .u8 a5, .u8 a6, .b a7, .u8 a8, .s a9, .ro 1 a10, .ro 1 a11, .b a12, .u8 a13, .s a14, a15, .s a16, .un, .b a17], .ag [.ro 4 a18]]).bind fun v3 => (tupI v3 0).bind fun v4 => (tupI v3 1).bind fun v5 => (AV.asAg 19 v5).bind fun v6 => (tupI v3 2).bind fun v7 => (AV.asAg 1 v7).bind fun v8 => F30_2 run (v6.getD 0 .un) (v6.getD 1 .un) (v6.getD 2 .un) (v6.getD 3 .un) (v6.getD 4 .un) (v6.getD 5 .un) (v6.getD 6 .un) (v6.getD 7 .un) (v6.getD 8 .un) (v6.getD 9 .un) (AV.elems (v6.getD 10 .un)) (AV.elems (v6.getD 11 .un)) (v6.getD 12 .un) (v6.getD 13 .un) (v6.getD 14 .un) (v6.getD 15 .un) (v6.getD 16 .un) (v6.getD 18 .un) (AV.elems (v8.getD 0 .un)))
  (F30_2 run (.u8 a0) (.u8 a1) (.b a2) (.u8 a3) (.u8 a4) (.u8 a5) (.u8 a6) (.b a7) (.u8 a8) (.s a9) a10 a11 (.b a12) (.u8 a13) (.s a14) (a15) (.s a16) (.b a17) a18)
section
variable (call : CallT) (run : RunT) (a0 a1 : UInt8) (a2 : Bool) (a3 a4 a5 a6 : UInt8) (a7 : Bool) (a8 : UInt8) (a9 : List UInt8) (a10 a11 : List AV) (a12 : Bool) (a13 : UInt8) (a14 : List UInt8) (a15 : AV) (a16 : List UInt8) (a17 : Bool) (a18 : List AV)
theorem text30 : unr C call run 30 Tryd.f30 400 [.code body30] (initF C 30 Tryd.f30.ntmps [.un, .ag [.u8 a0, .u8 a1, .b a2, .u8 a3, .u8 a4, .u8 a5, .u8 a6, .b a7, .u8 a8, .s a9, .ro 1 a10, .ro 1 a11, .b a12, .u8 a13, .s a14, a15, .s a16, .un, .b a17], .ag [.ro 4 a18]]) = X30 call run a0 a1 a2 a3 a4 a5 a6 a7 a8 a9 a10 a11 a12 a13 a14 a15 a16 a17 a18 := by
  kernel_rfl
theorem c30 {r : AV} (h : X30 (semCall C Tryd.prog) (semRun C Tryd.prog 30 Tryd.f30) a0 a1 a2 a3 a4 a5 a6 a7 a8 a9 a10 a11 a12 a13 a14 a15 a16 a17 a18 = some r) : semCall C Tryd.prog 30 [.un, .ag [.u8 a0, .u8 a1, .b a2, .u8 a3, .u8 a4, .u8 a5, .u8 a6, .b a7, .u8 a8, .s a9, .ro 1 a10, .ro 1 a11, .b a12, .u8 a13, .s a14, a15, .s a16, .un, .b a17], .ag [.ro 4 a18]] = some r :=
  semCall_unr (fn := Tryd.f30) (c := body30) (by kernel_rfl) (by kernel_rfl) 400 (by kernel_rfl) ((text30 _ _ a0 a1 a2 a3 a4 a5 a6 a7 a8 a9 a10 a11 a12 a13 a14 a15 a16 a17 a18).trans h)
end
noncomputable def X30_2 (call : CallT) (run : RunT) (a0 a1 a2 a3 a4 a5 a6 a7 a8 a9 : AV) (a10 a11 : List AV) (a12 a13 a14 a15 a16 a17 : AV) (a18 : List AV) : Option AV :=
  some (.tu [.tu [], .ag [a0, a1, a2, a3, a4, a5, a6, a7, a8, a9, .ro 1 [], .ro 1 [], a12, a13, a14, a15, a16, .un, a17], .ag [.ro 4 a18]])
section
variable (call : CallT) (run : RunT) (a0 a1 a2 a3 a4 a5 a6 a7 a8 a9 : AV) (a10 a11 : List AV) (a12 a13 a14 a15 a16 a17 : AV) (a18 : List AV)
theorem text30_2 : step C call 30 Tryd.f30 (unr C call run 30 Tryd.f30 400) K30_2 (S30_2 a0 a1 a2 a3 a4 a5 a6 a7 a8 a9 a10 a11 a12 a13 a14 a15 a16 a17 a18) = X30_2 call run a0 a1 a2 a3 a4 a5 a6 a7 a8 a9 a10 a11 a12 a13 a14 a15 a16 a17 a18 := by
  kernel_rfl
end
section
variable (a0 a1 a2 a3 a4 a5 a6 a7 a8 a9 : AV) (a10 a11 : List AV) (a12 a13 a14 a15 a16 a17 : AV) (a18 : List AV)
theorem r30_2 {r : AV} (h : X30_2 (semCall C Tryd.prog) (semRun C Tryd.prog 30 Tryd.f30) a0 a1 a2 a3 a4 a5 a6 a7 a8 a9 a10 a11 a12 a13 a14 a15 a16 a17 a18 = some r) : F30_2 (semRun C Tryd.prog 30 Tryd.f30) a0 a1 a2 a3 a4 a5 a6 a7 a8 a9 a10 a11 a12 a13 a14 a15 a16 a17 a18 = some r :=
  semRun_unr 400 ((text30_2 _ _ a0 a1 a2 a3 a4 a5 a6 a7 a8 a9 a10 a11 a12 a13 a14 a15 a16 a17 a18).trans h)
end
end R4

namespace R4
open Go Go.Proofs Sx
noncomputable def body50 : Code := (Tryd.f50.body).getD .skip
noncomputable def X50 (call : CallT) (run : RunT) (a0 : UInt8) (a1 : List UInt8) (a2 : AV) (a3 : List UInt8) (a4 a5 : UInt8) (a6 : Bool) (a7 a8 a9 a10 : UInt8) (a11 : Bool) (a12 : UInt8) (a13 : List UInt8) (a14 a15 : List AV) (a16 : Bool) (a17 : UInt8) (a18 : List UInt8) (a19 : AV) (a20 : List UInt8) (a21 : Bool) (a22 : List AV) : Option AV :=
  condM (.b (!a21))
  ((call 18 [.ag [.u8 a0, .s a1, a2, .s a3], .un, .ag [.ro 4 a22]]).bind fun v1 => (tupI v1 0).bind fun v2 => (tupI v1 1).bind fun v3 => (AV.asAg 1 v3).bind fun v4 => (unop .not (v2)).bind fun v5 => condM (v5)
  (some (.tu [.tu [], .ag [.u8 a4, .u8 a5, .b a6, .u8 a7, .u8 a8, .u8 a9, .u8 a10, .b a11, .u8 a12, .s a13, .ro 1 a14, .ro 1 a15, .b a16, .u8 a17, .s a18, a19, .s a20, .un, .b true], .ag [.ro 4 (AV.elems (v4.getD 0 .un))]]))
  (some (.tu [.tu [], .ag [.u8 a4, .u8 a5, .b a6, .u8 a7, .u8 a8, .u8 a9, .u8 a10, .b a11, .u8 a12, .s a13, .ro 1 a14, .ro 1 a15, .b a16, .u8 a17, .s a18, a19, .s a20, .un, .b a21], .ag [.ro 4 (AV.elems (v4.getD 0 .un))]])))
  (some (.tu [.tu [], .ag [.u8 a4, .u8 a5, .b a6, .u8 a7, .u8 a8, .u8 a9, .u8 a10, .b a11, .u8 a12, .s a13, .ro 1 a14, .ro 1 a15, .b a16, .u8 a17, .s a18, a19, .s a20, .un, .b a21], .ag [.ro 4 a22]]))
section
variable (call : CallT) (run : RunT) (a0 : UInt8) (a1 : List UInt8) (a2 : AV) (a3 : List UInt8) (a4 a5 : UInt8) (a6 : Bool) (a7 a8 a9 a10 : UInt8) (a11 : Bool) (a12 : UInt8) (a13 : List UInt8) (a14 a15 : List AV) (a16 : Bool) (a17 : UInt8) (a18 : List UInt8) (a19 : AV) (a20 : List UInt8) (a21 : Bool) (a22 : List AV)
theorem text50 : unr C call run 50 Tryd.f50 400 [.code body50] (initF C 50 Tryd.f50.ntmps [.un, .ag [.u8 a0, .s a1, a2, .s a3], .ag [.u8 a4, .u8 a5, .b a6, .u8 a7, .u8 a8, .u8 a9, .u8 a10, .b a11, .u8 a12, .s a13, .ro 1 a14, .ro 1 a15, .b a16, .u8 a17, .s a18, a19, .s a20, .un, .b a21], .ag [.ro 4 a22]]) = X50 call run a0 a1 a2 a3 a4 a5 a6 a7 a8 a9 a10 a11 a12 a13 a14 a15 a16 a17 a18 a19 a20 a21 a22 := by
  kernel_rfl
theorem c50 {r : AV} (h : X50 (semCall C Tryd.prog) (semRun C Tryd.prog 50 Tryd.f50) a0 a1 a2 a3 a4 a5 a6 a7 a8 a9 a10 a11 a12 a13 a14 a15 a16 a17 a18 a19 a20 a21 a22 = some r) : semCall C Tryd.prog 50 [.un, .ag [.u8 a0, .s a1, a2, .s a3], .ag [.u8 a4, .u8 a5, .b a6, .u8 a7, .u8 a8, .u8 a9, .u8 a10, .b a11, .u8 a12, .s a13, .ro 1 a14, .ro 1 a15, .b a16, .u8 a17, .s a18, a19, .s a20, .un, .b a21], .ag [.ro 4 a22]] = some r :=
  semCall_unr (fn := Tryd.f50) (c := body50) (by kernel_rfl) (by kernel_rfl) 400 (by kernel_rfl) ((text50 _ _ a0 a1 a2 a3 a4 a5 a6 a7 a8 a9 a10 a11 a12 a13 a14 a15 a16 a17 a18 a19 a20 a21 a22).trans h)
end
end R4

namespace R4
open Go Go.Proofs Sx
noncomputable def body71 : Code := (Tryd.f71.body).getD .skip
noncomputable def X71 (call : CallT) (run : RunT) (a0 : AV) (a1 a2 : UInt8) (a3 : Bool) (a4 a5 a6 a7 : UInt8) (a8 : Bool) (a9 : UInt8) (a10 : List UInt8) (a11 a12 : List AV) (a13 : Bool) (a14 : UInt8) (a15 : List UInt8) (a16 : List AV) (a17 : List UInt8) (a18 : Bool) (a19 : List AV) : Option AV :=
  (app 1 1 a11 (.ro 1 a12)).bind fun v1 => (app 1 1 v1 (a0)).bind fun v2 => some (.tu [.tu [], .ag [.u8 a1, .u8 a2, .b a3, .u8 a4, .u8 a5, .u8 a6, .u8 a7, .b a8, .u8 a9, .s a10, .ro 1 v2, .ro 1 [], .b a13, .u8 a14, .s a15, .ro 2 a16, .s a17, .un, .b a18], .ag [.ro 4 a19]])
section
variable (call : CallT) (run : RunT) (a0 : AV) (a1 a2 : UInt8) (a3 : Bool) (a4 a5 a6 a7 : UInt8) (a8 : Bool) (a9 : UInt8) (a10 : List UInt8) (a11 a12 : List AV) (a13 : Bool) (a14 : UInt8) (a15 : List UInt8) (a16 : List AV) (a17 : List UInt8) (a18 : Bool) (a19 : List AV)
theorem text71 : unr C call run 71 Tryd.f71 400 [.code body71] (initF C 71 Tryd.f71.ntmps [.un, a0, .ag [.u8 a1, .u8 a2, .b a3, .u8 a4, .u8 a5, .u8 a6, .u8 a7, .b a8, .u8 a9, .s a10, .ro 1 a11, .ro 1 a12, .b a13, .u8 a14, .s a15, .ro 2 a16, .s a17, .un, .b a18], .ag [.ro 4 a19]]) = X71 call run a0 a1 a2 a3 a4 a5 a6 a7 a8 a9 a10 a11 a12 a13 a14 a15 a16 a17 a18 a19 := by
  kernel_rfl
theorem c71 {r : AV} (h : X71 (semCall C Tryd.prog) (semRun C Tryd.prog 71 Tryd.f71) a0 a1 a2 a3 a4 a5 a6 a7 a8 a9 a10 a11 a12 a13 a14 a15 a16 a17 a18 a19 = some r) : semCall C Tryd.prog 71 [.un, a0, .ag [.u8 a1, .u8 a2, .b a3, .u8 a4, .u8 a5, .u8 a6, .u8 a7, .b a8, .u8 a9, .s a10, .ro 1 a11, .ro 1 a12, .b a13, .u8 a14, .s a15, .ro 2 a16, .s a17, .un, .b a18], .ag [.ro 4 a19]] = some r :=
  semCall_unr (fn := Tryd.f71) (c := body71) (by kernel_rfl) (by kernel_rfl) 400 (by kernel_rfl) ((text71 _ _ a0 a1 a2 a3 a4 a5 a6 a7 a8 a9 a10 a11 a12 a13 a14 a15 a16 a17 a18 a19).trans h)
end
end R4

namespace R4
open Go Go.Proofs Sx
noncomputable def body72 : Code := (Tryd.f72.body).getD .skip
noncomputable def X72 (call : CallT) (run : RunT) (a0 : UInt8) (a1 a2 : List UInt8) (a3 a4 : UInt8) (a5 : Bool) (a6 a7 a8 a9 : UInt8) (a10 : Bool) (a11 : UInt8) (a12 : List UInt8) (a13 a14 : List AV) (a15 : Bool) (a16 : UInt8) (a17 : List UInt8) (a18 : List AV) (a19 : List UInt8) (a20 : Bool) (a21 : List AV) : Option AV :=
  (call 30 [.un, .ag [.u8 a3, .u8 a4, .b a5, .u8 a6, .u8 a7, .u8 a8, .u8 a9, .b a10, .u8 a11, .s a12, .ro 1 a13, .ro 1 a14, .b a15, .u8 a16, .s a17, .ro 2 a18, .s a19, .un, .b a20], .ag [.ro 4 a21]]).bind fun v1 => (tupI v1 0).bind fun v2 => (tupI v1 1).bind fun v3 => (AV.asAg 19 v3).bind fun v4 => (tupI v1 2).bind fun v5 => (AV.asAg 1 v5).bind fun v6 => some (.tu [.tu [], .ag [v4.getD 0 .un, v4.getD 1 .un, v4.getD 2 .un, v4.getD 3 .un, v4.getD 4 .un, v4.getD 5 .un, v4.getD 6 .un, v4.getD 7 .un, v4.getD 8 .un, v4.getD 9 .un, .ro 1 (AV.elems (v4.getD 10 .un)), .ro 1 (AV.elems (v4.getD 11 .un)), .b true, .u8 a0, .s a1, .ro 2 [], .s a2, .un, v4.getD 18 .un], .ag [.ro 4 (AV.elems (v6.getD 0 .un))]])
section
variable (call : CallT) (run : RunT) (a0 : UInt8) (a1 a2 : List UInt8) (a3 a4 : UInt8) (a5 : Bool) (a6 a7 a8 a9 : UInt8) (a10 : Bool) (a11 : UInt8) (a12 : List UInt8) (a13 a14 : List AV) (a15 : Bool) (a16 : UInt8) (a17 : List UInt8) (a18 : List AV) (a19 : List UInt8) (a20 : Bool) (a21 : List AV)
theorem text72 : unr C call run 72 Tryd.f72 400 [.code body72] (initF C 72 Tryd.f72.ntmps [.un, .u8 a0, .s a1, .s a2, .ag [.u8 a3, .u8 a4, .b a5, .u8 a6, .u8 a7, .u8 a8, .u8 a9, .b a10, .u8 a11, .s a12, .ro 1 a13, .ro 1 a14, .b a15, .u8 a16, .s a17, .ro 2 a18, .s a19, .un, .b a20], .ag [.ro 4 a21]]) = X72 call run a0 a1 a2 a3 a4 a5 a6 a7 a8 a9 a10 a11 a12 a13 a14 a15 a16 a17 a18 a19 a20 a21 := by
  kernel_rfl
theorem c72 {r : AV} (h : X72 (semCall C Tryd.prog) (semRun C Tryd.prog 72 Tryd.f72) a0 a1 a2 a3 a4 a5 a6 a7 a8 a9 a10 a11 a12 a13 a14 a15 a16 a17 a18 a19 a20 a21 = some r) : semCall C Tryd.prog 72 [.un, .u8 a0, .s a1, .s a2, .ag [.u8 a3, .u8 a4, .b a5, .u8 a6, .u8 a7, .u8 a8, .u8 a9, .b a10, .u8 a11, .s a12, .ro 1 a13, .ro 1 a14, .b a15, .u8 a16, .s a17, .ro 2 a18, .s a19, .un, .b a20], .ag [.ro 4 a21]] = some r :=
  semCall_unr (fn := Tryd.f72) (c := body72) (by kernel_rfl) (by kernel_rfl) 400 (by kernel_rfl) ((text72 _ _ a0 a1 a2 a3 a4 a5 a6 a7 a8 a9 a10 a11 a12 a13 a14 a15 a16 a17 a18 a19 a20 a21).trans h)
end
end R4

namespace R4
open Go Go.Proofs Sx
noncomputable def body73 : Code := (Tryd.f73.body).getD .skip
section
variable (run : RunT) (a0 a1 a2 a3 a4 a5 a6 a7 a8 a9 : AV) (a10 a11 : List AV) (a12 a13 a14 a15 a16 a17 : AV) (a18 : List AV)
noncomputable def K73_2 : List Item := (kAt 2 body73 []).getD []
def S73_2 : St := St.ofL [(0, .cell (.ptr 19 0))] [(19, some [.val (a0), .val (a1), .val (a2), .val (a3), .val (a4), .val (a5), .val (a6), .val (a7), .val (a8), .val (a9), .own 619010 5 1 a10, .own 619011 5 1 a11, .val (a12), .val (a13), .val (a14), .val (a15), .val (a16), .clo 18 [20], .val (a17)]), (20, some [.own 620000 39 4 a18])]
noncomputable def F73_2 : Option AV := run K73_2 (S73_2 a0 a1 a2 a3 a4 a5 a6 a7 a8 a9 a10 a11 a12 a13 a14 a15 a16 a17 a18)
end
noncomputable def X73 (call : CallT) (run : RunT) (a0 a1 : UInt8) (a2 : Bool) (a3 a4 a5 a6 : UInt8) (a7 : Bool) (a8 : UInt8) (a9 : List UInt8) (a10 a11 : List AV) (a12 : Bool) (a13 : UInt8) (a14 : List UInt8) (a15 : List AV) (a16 : List UInt8) (a17 : Bool) (a18 : List AV) : Option AV :=
  condM (.b a12)
  ((call 50 [.un, .ag [.u8 a13, .s a14, .ro 2 a15, .s a16], .ag [.u8 a0, .u8 a1, .b a2, .u8 a3, .u8 a4, .u8 a5, .u8 a6, .b a7, .u8 a8, .s a9, .ro 1 a10, .ro 1 a11, .b a12, .u8 a13, .s a14, .ro 2 a15, .s a16, .un, .b a17], .ag [.ro 4 a18]]).bind fun v1 => (tupI v1 0).bind fun v2 => (tupI v1 1).bind fun v3 => (AV.asAg 19 v3).bind fun v4 => (tupI v1 2).bind fun v5 => (AV.asAg 1 v5).bind fun v6 => F73_2 run (v4.getD 0 .un) (v4.getD 1 .un) (v4.getD 2 .un) (v4.getD 3 .un) (v4.getD 4 .un) (v4.getD 5 .un) (v4.getD 6 .un) (v4.getD 7 .un) (v4.getD 8 .un) (v4.getD 9 .un) (AV.elems (v4.getD 10 .un)) (AV.elems (v4.getD 11 .un)) (v4.getD 12 .un) (v4.getD 13 .un) (v4.getD 14 .un) (v4.getD 15 .un) (v4.getD 16 .un) (v4.getD 18 .un) (AV.elems (v6.getD 0 .un)))
  (F73_2 run (.u8 a0) (.u8 a1) (.b a2) (.u8 a3) (.u8 a4) (.u8 a5) (.u8 a6) (.b a7) (.u8 a8) (.s a9) a10 a11 (.b a12) (.u8 a13) (.s a14) (.ro 2 a15) (.s a16) (.b a17) a18)
section
variable (call : CallT) (run : RunT) (a0 a1 : UInt8) (a2 : Bool) (a3 a4 a5 a6 : UInt8) (a7 : Bool) (a8 : UInt8) (a9 : List UInt8) (a10 a11 : List AV) (a12 : Bool) (a13 : UInt8) (a14 : List UInt8) (a15 : List AV) (a16 : List UInt8) (a17 : Bool) (a18 : List AV)
theorem text73 : unr C call run 73 Tryd.f73 400 [.code body73] (initF C 73 Tryd.f73.ntmps [.un, .ag [.u8 a0, .u8 a1, .b a2, .u8 a3, .u8 a4, .u8 a5, .u8 a6, .b a7, .u8 a8, .s a9, .ro 1 a10, .ro 1 a11, .b a12, .u8 a13, .s a14, .ro 2 a15, .s a16, .un, .b a17], .ag [.ro 4 a18]]) = X73 call run a0 a1 a2 a3 a4 a5 a6 a7 a8 a9 a10 a11 a12 a13 a14 a15 a16 a17 a18 := by
  kernel_rfl
theorem c73 {r : AV} (h : X73 (semCall C Tryd.prog) (semRun C Tryd.prog 73 Tryd.f73) a0 a1 a2 a3 a4 a5 a6 a7 a8 a9 a10 a11 a12 a13 a14 a15 a16 a17 a18 = some r) : semCall C Tryd.prog 73 [.un, .ag [.u8 a0, .u8 a1, .b a2, .u8 a3, .u8 a4, .u8 a5, .u8 a6, .b a7, .u8 a8, .s a9, .ro 1 a10, .ro 1 a11, .b a12, .u8 a13, .s a14, .ro 2 a15, .s a16, .un, .b a17], .ag [.ro 4 a18]] = some r :=
  semCall_unr (fn := Tryd.f73) (c := body73) (by kernel_rfl) (by kernel_rfl) 400 (by kernel_rfl) ((text73 _ _ a0 a1 a2 a3 a4 a5 a6 a7 a8 a9 a10 a11 a12 a13 a14 a15 a16 a17 a18).trans h)
end
noncomputable def X73_2 (call : CallT) (run : RunT) (a0 a1 a2 a3 a4 a5 a6 a7 a8 a9 : AV) (a10 a11 : List AV) (a12 a13 a14 a15 a16 a17 : AV) (a18 : List AV) : Option AV :=
  some (.tu [.tu [], .ag [a0, a1, a2, a3, a4, a5, a6, a7, a8, a9, .ro 1 a10, .ro 1 a11, .b false, .u8 0, .s [], .ro 2 [], .s [], .un, a17], .ag [.ro 4 a18]])
section
variable (call : CallT) (run : RunT) (a0 a1 a2 a3 a4 a5 a6 a7 a8 a9 : AV) (a10 a11 : List AV) (a12 a13 a14 a15 a16 a17 : AV) (a18 : List AV)
theorem text73_2 : step C call 73 Tryd.f73 (unr C call run 73 Tryd.f73 400) K73_2 (S73_2 a0 a1 a2 a3 a4 a5 a6 a7 a8 a9 a10 a11 a12 a13 a14 a15 a16 a17 a18) = X73_2 call run a0 a1 a2 a3 a4 a5 a6 a7 a8 a9 a10 a11 a12 a13 a14 a15 a16 a17 a18 := by
  kernel_rfl
end
section
variable (a0 a1 a2 a3 a4 a5 a6 a7 a8 a9 : AV) (a10 a11 : List AV) (a12 a13 a14 a15 a16 a17 : AV) (a18 : List AV)
theorem r73_2 {r : AV} (h : X73_2 (semCall C Tryd.prog) (semRun C Tryd.prog 73 Tryd.f73) a0 a1 a2 a3 a4 a5 a6 a7 a8 a9 a10 a11 a12 a13 a14 a15 a16 a17 a18 = some r) : F73_2 (semRun C Tryd.prog 73 Tryd.f73) a0 a1 a2 a3 a4 a5 a6 a7 a8 a9 a10 a11 a12 a13 a14 a15 a16 a17 a18 = some r :=
  semRun_unr 400 ((text73_2 _ _ a0 a1 a2 a3 a4 a5 a6 a7 a8 a9 a10 a11 a12 a13 a14 a15 a16 a17 a18).trans h)
end
end R4

namespace R4
open Go Go.Proofs Sx
noncomputable def body46 : Code := (Tryd.f46.body).getD .skip
section
variable (run : RunT) (a0 : UInt8) (a1 a2 a3 a4 a5 a6 a7 a8 a9 a10 : AV) (a11 a12 : List AV) (a13 a14 a15 : AV) (a16 : List AV) (a17 a18 : AV) (a19 : List AV)
noncomputable def K46_5 : List Item := (kAt 5 body46 []).getD []
def S46_5 : St := St.ofL [(0, .cell (.ptr 74 0)), (2, .cell (.val (.u8 a0)))] [(74, some [.val (a1), .val (a2), .val (a3), .val (a4), .val (a5), .val (a6), .val (a7), .val (a8), .val (a9), .val (a10), .own 674010 5 1 a11, .own 674011 5 1 a12, .val (a13), .val (a14), .val (a15), .own 674015 45 2 a16, .val (a17), .clo 18 [75], .val (a18)]), (75, some [.own 675000 39 4 a19])]
noncomputable def F46_5 : Option AV := run K46_5 (S46_5 a0 a1 a2 a3 a4 a5 a6 a7 a8 a9 a10 a11 a12 a13 a14 a15 a16 a17 a18 a19)
end
section
variable (run : RunT) (a0 a1 a2 : UInt8) (a3 : Bool) (a4 a5 a6 a7 : UInt8) (a8 : Bool) (a9 : UInt8) (a10 : List UInt8) (a11 a12 : List AV) (a13 : Bool) (a14 : UInt8) (a15 : List UInt8) (a16 : List AV) (a17 : List UInt8) (a18 : Bool) (a19 : List AV)
noncomputable def K46_12 : List Item := (kAt 12 body46 []).getD []
def S46_12 : St := St.ofL [(0, .cell (.ptr 74 0)), (6, .cell (.val (.u8 a0)))] [(74, some [.val (.u8 a1), .val (.u8 a2), .val (.b a3), .val (.u8 a4), .val (.u8 a5), .val (.u8 a6), .val (.u8 a7), .val (.b a8), .val (.u8 a9), .val (.s a10), .own 674010 5 1 a11, .own 674011 5 1 a12, .val (.b a13), .val (.u8 a14), .val (.s a15), .own 674015 45 2 a16, .val (.s a17), .clo 18 [75], .val (.b a18)]), (75, some [.own 675000 39 4 a19])]
noncomputable def F46_12 : Option AV := run K46_12 (S46_12 a0 a1 a2 a3 a4 a5 a6 a7 a8 a9 a10 a11 a12 a13 a14 a15 a16 a17 a18 a19)
end
noncomputable def X46 (call : CallT) (run : RunT) (a0 a1 : UInt8) (a2 : Bool) (a3 a4 a5 a6 : UInt8) (a7 : Bool) (a8 : UInt8) (a9 : List UInt8) (a10 a11 a12 : UInt8) (a13 : Bool) (a14 a15 a16 a17 : UInt8) (a18 : Bool) (a19 : UInt8) (a20 : List UInt8) (a21 a22 : List AV) (a23 : Bool) (a24 : UInt8) (a25 : List UInt8) (a26 : List AV) (a27 : List UInt8) (a28 : Bool) (a29 : List AV) : Option AV :=
  condM (.b (ueq a11 1))
  (condM (.b (ueq a0 1))
  ((call 71 [.un, .nils, .ag [.u8 a11, .u8 a12, .b a13, .u8 a14, .u8 a15, .u8 a16, .u8 a17, .b a18, .u8 a19, .s a20, .ro 1 a21, .ro 1 a22, .b a23, .u8 a24, .s a25, .ro 2 a26, .s a27, .un, .b a28], .ag [.ro 4 a29]]).bind fun v1 => (tupI v1 0).bind fun v2 => (tupI v1 1).bind fun v3 => (AV.asAg 19 v3).bind fun v4 => (tupI v1 2).bind fun v5 => (AV.asAg 1 v5).bind fun v6 => F46_5 run a10 (v4.getD 0 .un) (v4.getD 1 .un) (v4.getD 2 .un) (v4.getD 3 .un) (v4.getD 4 .un) (v4.getD 5 .un) (v4.getD 6 .un) (v4.getD 7 .un) (v4.getD 8 .un) (v4.getD 9 .un) (AV.elems (v4.getD 10 .un)) (AV.elems (v4.getD 11 .un)) (v4.getD 12 .un) (v4.getD 13 .un) (v4.getD 14 .un) (AV.elems (v4.getD 15 .un)) (v4.getD 16 .un) (v4.getD 18 .un) (AV.elems (v6.getD 0 .un)))
  (F46_5 run a10 (.u8 a11) (.u8 a12) (.b a13) (.u8 a14) (.u8 a15) (.u8 a16) (.u8 a17) (.b a18) (.u8 a19) (.s a20) a21 a22 (.b a23) (.u8 a24) (.s a25) a26 (.s a27) (.b a28) a29))
  (condM (.b (ueq a11 2))
  ((app 1 1 a22 (.ro 1 (([.u8 a10] : List AV)))).bind fun v7 => some (.tu [.tu [], .ag [.u8 a11, .u8 a12, .b a13, .u8 a14, .u8 a15, .u8 a16, .u8 a17, .b a18, .u8 a19, .s a20, .ro 1 a21, .ro 1 v7, .b a23, .u8 a24, .s a25, .ro 2 a26, .s a27, .un, .b a28], .ag [.ro 4 a29]]))
  (condM (.b (ueq a11 3))
  (condM (.b a13)
  (F46_12 run 2 a11 a12 a13 a14 a15 a16 a17 a18 a19 a20 a21 a22 a23 a24 a25 a26 a27 a28 a29)
  (F46_12 run 1 a11 a12 a13 a14 a15 a16 a17 a18 a19 a20 a21 a22 a23 a24 a25 a26 a27 a28 a29))
  (condM (.b (ueq a11 11))
  ((call 72 [.un, .u8 4, .s [], .s [], .ag [.u8 a11, .u8 a12, .b a13, .u8 a14, .u8 a15, .u8 a16, .u8 a17, .b a18, .u8 a19, .s a20, .ro 1 a21, .ro 1 a22, .b a23, .u8 a24, .s a25, .ro 2 a26, .s a27, .un, .b a28], .ag [.ro 4 a29]]).bind fun v8 => (tupI v8 0).bind fun v9 => (tupI v8 1).bind fun v10 => (AV.asAg 19 v10).bind fun v11 => (tupI v8 2).bind fun v12 => (AV.asAg 1 v12).bind fun v13 => some (.tu [.tu [], .ag [v11.getD 0 .un, v11.getD 1 .un, v11.getD 2 .un, v11.getD 3 .un, v11.getD 4 .un, v11.getD 5 .un, v11.getD 6 .un, v11.getD 7 .un, v11.getD 8 .un, v11.getD 9 .un, .ro 1 (AV.elems (v11.getD 10 .un)), .ro 1 (AV.elems (v11.getD 11 .un)), v11.getD 12 .un, v11.getD 13 .un, v11.getD 14 .un, .ro 2 (AV.elems (v11.getD 15 .un)), v11.getD 16 .un, .un, v11.getD 18 .un], .ag [.ro 4 (AV.elems (v13.getD 0 .un))]]))
  (condM (.b (ueq a11 16))
  ((b2s (.ro 1 (([.u8 a10] : List AV)))).bind fun v14 => (call 72 [.un, .u8 4, .s [], v14, .ag [.u8 a11, .u8 a12, .b a13, .u8 a14, .u8 a15, .u8 a16, .u8 a17, .b a18, .u8 a19, .s a20, .ro 1 a21, .ro 1 a22, .b a23, .u8 a24, .s a25, .ro 2 a26, .s a27, .un, .b a28], .ag [.ro 4 a29]]).bind fun v15 => (tupI v15 0).bind fun v16 => (tupI v15 1).bind fun v17 => (AV.asAg 19 v17).bind fun v18 => (tupI v15 2).bind fun v19 => (AV.asAg 1 v19).bind fun v20 => some (.tu [.tu [], .ag [v18.getD 0 .un, v18.getD 1 .un, v18.getD 2 .un, v18.getD 3 .un, v18.getD 4 .un, v18.getD 5 .un, v18.getD 6 .un, v18.getD 7 .un, v18.getD 8 .un, v18.getD 9 .un, .ro 1 (AV.elems (v18.getD 10 .un)), .ro 1 (AV.elems (v18.getD 11 .un)), v18.getD 12 .un, v18.getD 13 .un, v18.getD 14 .un, .ro 2 (AV.elems (v18.getD 15 .un)), v18.getD 16 .un, .un, v18.getD 18 .un], .ag [.ro 4 (AV.elems (v20.getD 0 .un))]]))
  (condM (.b (ueq a11 0))
  (condM (.b (ueq a0 2))
  (some (.tu [.tu [], .ag [.u8 a11, .u8 a12, .b a13, .u8 a14, .u8 a15, .u8 a16, .u8 a17, .b a18, .u8 a19, .s a20, .ro 1 a21, .ro 1 [], .b a23, .u8 a24, .s a25, .ro 2 a26, .s a27, .un, .b a28], .ag [.ro 4 a29]]))
  ((call 71 [.un, .ro 1 (([.u8 a10] : List AV)), .ag [.u8 a11, .u8 a12, .b a13, .u8 a14, .u8 a15, .u8 a16, .u8 a17, .b a18, .u8 a19, .s a20, .ro 1 a21, .ro 1 a22, .b a23, .u8 a24, .s a25, .ro 2 a26, .s a27, .un, .b a28], .ag [.ro 4 a29]]).bind fun v21 => (tupI v21 0).bind fun v22 => (tupI v21 1).bind fun v23 => (AV.asAg 19 v23).bind fun v24 => (tupI v21 2).bind fun v25 => (AV.asAg 1 v25).bind fun v26 => some (.tu [.tu [], .ag [v24.getD 0 .un, v24.getD 1 .un, v24.getD 2 .un, v24.getD 3 .un, v24.getD 4 .un, v24.getD 5 .un, v24.getD 6 .un, v24.getD 7 .un, v24.getD 8 .un, v24.getD 9 .un, .ro 1 (AV.elems (v24.getD 10 .un)), .ro 1 (AV.elems (v24.getD 11 .un)), v24.getD 12 .un, v24.getD 13 .un, v24.getD 14 .un, .ro 2 (AV.elems (v24.getD 15 .un)), v24.getD 16 .un, .un, v24.getD 18 .un], .ag [.ro 4 (AV.elems (v26.getD 0 .un))]])))
  (some (.tu [.tu [], .ag [.u8 a11, .u8 a12, .b a13, .u8 a14, .u8 a15, .u8 a16, .u8 a17, .b a18, .u8 a19, .s a20, .ro 1 a21, .ro 1 a22, .b a23, .u8 a24, .s a25, .ro 2 a26, .s a27, .un, .b a28], .ag [.ro 4 a29]])))))))
section
variable (call : CallT) (run : RunT) (a0 a1 : UInt8) (a2 : Bool) (a3 a4 a5 a6 : UInt8) (a7 : Bool) (a8 : UInt8) (a9 : List UInt8) (a10 a11 a12 : UInt8) (a13 : Bool) (a14 a15 a16 a17 : UInt8) (a18 : Bool) (a19 : UInt8) (a20 : List UInt8) (a21 a22 : List AV) (a23 : Bool) (a24 : UInt8) (a25 : List UInt8) (a26 : List AV) (a27 : List UInt8) (a28 : Bool) (a29 : List AV)
theorem text46 : unr C call run 46 Tryd.f46 400 [.code body46] (initF C 46 Tryd.f46.ntmps [.un, .ag [.u8 a0, .u8 a1, .b a2, .u8 a3, .u8 a4, .u8 a5, .u8 a6, .b a7, .u8 a8, .s a9], .u8 a10, .ag [.u8 a11, .u8 a12, .b a13, .u8 a14, .u8 a15, .u8 a16, .u8 a17, .b a18, .u8 a19, .s a20, .ro 1 a21, .ro 1 a22, .b a23, .u8 a24, .s a25, .ro 2 a26, .s a27, .un, .b a28], .ag [.ro 4 a29]]) = X46 call run a0 a1 a2 a3 a4 a5 a6 a7 a8 a9 a10 a11 a12 a13 a14 a15 a16 a17 a18 a19 a20 a21 a22 a23 a24 a25 a26 a27 a28 a29 := by
  kernel_rfl
theorem c46 {r : AV} (h : X46 (semCall C Tryd.prog) (semRun C Tryd.prog 46 Tryd.f46) a0 a1 a2 a3 a4 a5 a6 a7 a8 a9 a10 a11 a12 a13 a14 a15 a16 a17 a18 a19 a20 a21 a22 a23 a24 a25 a26 a27 a28 a29 = some r) : semCall C Tryd.prog 46 [.un, .ag [.u8 a0, .u8 a1, .b a2, .u8 a3, .u8 a4, .u8 a5, .u8 a6, .b a7, .u8 a8, .s a9], .u8 a10, .ag [.u8 a11, .u8 a12, .b a13, .u8 a14, .u8 a15, .u8 a16, .u8 a17, .b a18, .u8 a19, .s a20, .ro 1 a21, .ro 1 a22, .b a23, .u8 a24, .s a25, .ro 2 a26, .s a27, .un, .b a28], .ag [.ro 4 a29]] = some r :=
  semCall_unr (fn := Tryd.f46) (c := body46) (by kernel_rfl) (by kernel_rfl) 400 (by kernel_rfl) ((text46 _ _ a0 a1 a2 a3 a4 a5 a6 a7 a8 a9 a10 a11 a12 a13 a14 a15 a16 a17 a18 a19 a20 a21 a22 a23 a24 a25 a26 a27 a28 a29).trans h)
end
noncomputable def X46_5 (call : CallT) (run : RunT) (a0 : UInt8) (a1 a2 a3 a4 a5 a6 a7 a8 a9 a10 : AV) (a11 a12 : List AV) (a13 a14 a15 : AV) (a16 : List AV) (a17 a18 : AV) (a19 : List AV) : Option AV :=
  some (.tu [.tu [], .ag [a1, a2, a3, a4, a5, a6, a7, a8, a9, a10, .ro 1 a11, .ro 1 (([.u8 a0] : List AV)), a13, a14, a15, .ro 2 a16, a17, .un, a18], .ag [.ro 4 a19]])
section
variable (call : CallT) (run : RunT) (a0 : UInt8) (a1 a2 a3 a4 a5 a6 a7 a8 a9 a10 : AV) (a11 a12 : List AV) (a13 a14 a15 : AV) (a16 : List AV) (a17 a18 : AV) (a19 : List AV)
theorem text46_5 : step C call 46 Tryd.f46 (unr C call run 46 Tryd.f46 400) K46_5 (S46_5 a0 a1 a2 a3 a4 a5 a6 a7 a8 a9 a10 a11 a12 a13 a14 a15 a16 a17 a18 a19) = X46_5 call run a0 a1 a2 a3 a4 a5 a6 a7 a8 a9 a10 a11 a12 a13 a14 a15 a16 a17 a18 a19 := by
  kernel_rfl
end
noncomputable def X46_12 (call : CallT) (run : RunT) (a0 a1 a2 : UInt8) (a3 : Bool) (a4 a5 a6 a7 : UInt8) (a8 : Bool) (a9 : UInt8) (a10 : List UInt8) (a11 a12 : List AV) (a13 : Bool) (a14 : UInt8) (a15 : List UInt8) (a16 : List AV) (a17 : List UInt8) (a18 : Bool) (a19 : List AV) : Option AV :=
  (call 72 [.un, .u8 a0, .s a10, .s [], .ag [.u8 a1, .u8 a2, .b a3, .u8 a4, .u8 a5, .u8 a6, .u8 a7, .b a8, .u8 a9, .s a10, .ro 1 a11, .ro 1 a12, .b a13, .u8 a14, .s a15, .ro 2 a16, .s a17, .un, .b a18], .ag [.ro 4 a19]]).bind fun v1 => (tupI v1 0).bind fun v2 => (tupI v1 1).bind fun v3 => (AV.asAg 19 v3).bind fun v4 => (tupI v1 2).bind fun v5 => (AV.asAg 1 v5).bind fun v6 => some (.tu [.tu [], .ag [v4.getD 0 .un, v4.getD 1 .un, v4.getD 2 .un, v4.getD 3 .un, v4.getD 4 .un, v4.getD 5 .un, v4.getD 6 .un, v4.getD 7 .un, v4.getD 8 .un, v4.getD 9 .un, .ro 1 (AV.elems (v4.getD 10 .un)), .ro 1 (AV.elems (v4.getD 11 .un)), v4.getD 12 .un, v4.getD 13 .un, v4.getD 14 .un, .ro 2 (AV.elems (v4.getD 15 .un)), v4.getD 16 .un, .un, v4.getD 18 .un], .ag [.ro 4 (AV.elems (v6.getD 0 .un))]])
section
variable (call : CallT) (run : RunT) (a0 a1 a2 : UInt8) (a3 : Bool) (a4 a5 a6 a7 : UInt8) (a8 : Bool) (a9 : UInt8) (a10 : List UInt8) (a11 a12 : List AV) (a13 : Bool) (a14 : UInt8) (a15 : List UInt8) (a16 : List AV) (a17 : List UInt8) (a18 : Bool) (a19 : List AV)
theorem text46_12 : step C call 46 Tryd.f46 (unr C call run 46 Tryd.f46 400) K46_12 (S46_12 a0 a1 a2 a3 a4 a5 a6 a7 a8 a9 a10 a11 a12 a13 a14 a15 a16 a17 a18 a19) = X46_12 call run a0 a1 a2 a3 a4 a5 a6 a7 a8 a9 a10 a11 a12 a13 a14 a15 a16 a17 a18 a19 := by
  kernel_rfl
end
section
variable (a0 : UInt8) (a1 a2 a3 a4 a5 a6 a7 a8 a9 a10 : AV) (a11 a12 : List AV) (a13 a14 a15 : AV) (a16 : List AV) (a17 a18 : AV) (a19 : List AV)
theorem r46_5 {r : AV} (h : X46_5 (semCall C Tryd.prog) (semRun C Tryd.prog 46 Tryd.f46) a0 a1 a2 a3 a4 a5 a6 a7 a8 a9 a10 a11 a12 a13 a14 a15 a16 a17 a18 a19 = some r) : F46_5 (semRun C Tryd.prog 46 Tryd.f46) a0 a1 a2 a3 a4 a5 a6 a7 a8 a9 a10 a11 a12 a13 a14 a15 a16 a17 a18 a19 = some r :=
  semRun_unr 400 ((text46_5 _ _ a0 a1 a2 a3 a4 a5 a6 a7 a8 a9 a10 a11 a12 a13 a14 a15 a16 a17 a18 a19).trans h)
end
section
variable (a0 a1 a2 : UInt8) (a3 : Bool) (a4 a5 a6 a7 : UInt8) (a8 : Bool) (a9 : UInt8) (a10 : List UInt8) (a11 a12 : List AV) (a13 : Bool) (a14 : UInt8) (a15 : List UInt8) (a16 : List AV) (a17 : List UInt8) (a18 : Bool) (a19 : List AV)
theorem r46_12 {r : AV} (h : X46_12 (semCall C Tryd.prog) (semRun C Tryd.prog 46 Tryd.f46) a0 a1 a2 a3 a4 a5 a6 a7 a8 a9 a10 a11 a12 a13 a14 a15 a16 a17 a18 a19 = some r) : F46_12 (semRun C Tryd.prog 46 Tryd.f46) a0 a1 a2 a3 a4 a5 a6 a7 a8 a9 a10 a11 a12 a13 a14 a15 a16 a17 a18 a19 = some r :=
  semRun_unr 400 ((text46_12 _ _ a0 a1 a2 a3 a4 a5 a6 a7 a8 a9 a10 a11 a12 a13 a14 a15 a16 a17 a18 a19).trans h)
end
end R4

namespace R4
open Go Go.Proofs Sx
noncomputable def body47 : Code := (Tryd.f47.body).getD .skip
section
variable (run : RunT) (a0 a1 : UInt8) (a2 : Bool) (a3 a4 a5 a6 : UInt8) (a7 : Bool) (a8 : UInt8) (a9 : List UInt8) (a10 a11 : UInt8) (a12 : Bool) (a13 a14 a15 a16 : UInt8) (a17 : Bool) (a18 : UInt8) (a19 : List UInt8) (a20 a21 : List AV) (a22 : Bool) (a23 : UInt8) (a24 : List UInt8) (a25 : List AV) (a26 : List UInt8) (a27 : Bool) (a28 : List AV)
noncomputable def K47_12 : List Item := (kAt 12 body47 []).getD []
def S47_12 : St := St.ofL [(0, .cell (.ptr 54 0)), (4, .cell (.ptr 4 0))] [(4, some [.val (.u8 a0), .val (.u8 a1), .val (.b a2), .val (.u8 a3), .val (.u8 a4), .val (.u8 a5), .val (.u8 a6), .val (.b a7), .val (.u8 a8), .val (.s a9)]), (54, some [.val (.u8 a10), .val (.u8 a11), .val (.b a12), .val (.u8 a13), .val (.u8 a14), .val (.u8 a15), .val (.u8 a16), .val (.b a17), .val (.u8 a18), .val (.s a19), .own 654010 5 1 a20, .own 654011 5 1 a21, .val (.b a22), .val (.u8 a23), .val (.s a24), .own 654015 45 2 a25, .val (.s a26), .clo 18 [55], .val (.b a27)]), (55, some [.own 655000 39 4 a28])]
noncomputable def F47_12 : Option AV := run K47_12 (S47_12 a0 a1 a2 a3 a4 a5 a6 a7 a8 a9 a10 a11 a12 a13 a14 a15 a16 a17 a18 a19 a20 a21 a22 a23 a24 a25 a26 a27 a28)
end
noncomputable def X47 (call : CallT) (run : RunT) (a0 a1 : UInt8) (a2 : Bool) (a3 a4 a5 a6 : UInt8) (a7 : Bool) (a8 : UInt8) (a9 : List UInt8) (a10 a11 a12 : UInt8) (a13 : Bool) (a14 a15 a16 a17 : UInt8) (a18 : Bool) (a19 : UInt8) (a20 : List UInt8) (a21 a22 : List AV) (a23 : Bool) (a24 : UInt8) (a25 : List UInt8) (a26 : List AV) (a27 : List UInt8) (a28 : Bool) (a29 : List AV) : Option AV :=
  condM (.b (ueq a11 17))
  ((call 71 [.un, .ro 1 (([.u8 a10] : List AV)), .ag [.u8 a11, .u8 a12, .b a13, .u8 a14, .u8 a15, .u8 a16, .u8 a17, .b a18, .u8 a19, .s a20, .ro 1 a21, .ro 1 a22, .b a23, .u8 a24, .s a25, .ro 2 a26, .s a27, .un, .b a28], .ag [.ro 4 a29]]).bind fun v1 => (tupI v1 0).bind fun v2 => (tupI v1 1).bind fun v3 => (AV.asAg 19 v3).bind fun v4 => (tupI v1 2).bind fun v5 => (AV.asAg 1 v5).bind fun v6 => some (.tu [.tu [], .ag [v4.getD 0 .un, v4.getD 1 .un, v4.getD 2 .un, v4.getD 3 .un, v4.getD 4 .un, v4.getD 5 .un, v4.getD 6 .un, v4.getD 7 .un, v4.getD 8 .un, v4.getD 9 .un, .ro 1 (AV.elems (v4.getD 10 .un)), .ro 1 (AV.elems (v4.getD 11 .un)), v4.getD 12 .un, v4.getD 13 .un, v4.getD 14 .un, .ro 2 (AV.elems (v4.getD 15 .un)), v4.getD 16 .un, .un, v4.getD 18 .un], .ag [.ro 4 (AV.elems (v6.getD 0 .un))]]))
  (condM (.b (ueq a11 18))
  ((call 71 [.un, .nils, .ag [.u8 a11, .u8 a12, .b a13, .u8 a14, .u8 a15, .u8 a16, .u8 a17, .b a18, .u8 a19, .s a20, .ro 1 a21, .ro 1 a22, .b a23, .u8 a24, .s a25, .ro 2 a26, .s a27, .un, .b a28], .ag [.ro 4 a29]]).bind fun v7 => (tupI v7 0).bind fun v8 => (tupI v7 1).bind fun v9 => (AV.asAg 19 v9).bind fun v10 => (tupI v7 2).bind fun v11 => (AV.asAg 1 v11).bind fun v12 => some (.tu [.tu [], .ag [v10.getD 0 .un, v10.getD 1 .un, v10.getD 2 .un, v10.getD 3 .un, v10.getD 4 .un, v10.getD 5 .un, v10.getD 6 .un, v10.getD 7 .un, v10.getD 8 .un, v10.getD 9 .un, .ro 1 (AV.elems (v10.getD 10 .un)), .ro 1 (([.u8 a10] : List AV)), v10.getD 12 .un, v10.getD 13 .un, v10.getD 14 .un, .ro 2 (AV.elems (v10.getD 15 .un)), v10.getD 16 .un, .un, v10.getD 18 .un], .ag [.ro 4 (AV.elems (v12.getD 0 .un))]]))
  (condM (.b (ueq a11 19))
  ((app 1 1 a22 (.ro 1 (([.u8 a10] : List AV)))).bind fun v13 => some (.tu [.tu [], .ag [.u8 a11, .u8 a12, .b a13, .u8 a14, .u8 a15, .u8 a16, .u8 a17, .b a18, .u8 a19, .s a20, .ro 1 a21, .ro 1 v13, .b a23, .u8 a24, .s a25, .ro 2 a26, .s a27, .un, .b a28], .ag [.ro 4 a29]]))
  (condM (.b (ueq a11 4))
  (F47_12 run a0 a1 a2 a3 a4 a5 a6 a7 a8 a9 a11 a12 a13 a14 a15 a16 a17 a18 a19 a20 a21 a22 a23 a24 a25 a26 a27 a28 a29)
  (condM (.b (ueq a11 10))
  (F47_12 run a0 a1 a2 a3 a4 a5 a6 a7 a8 a9 a11 a12 a13 a14 a15 a16 a17 a18 a19 a20 a21 a22 a23 a24 a25 a26 a27 a28 a29)
  (condM (.b (ueq a11 0))
  (F47_12 run a0 a1 a2 a3 a4 a5 a6 a7 a8 a9 a11 a12 a13 a14 a15 a16 a17 a18 a19 a20 a21 a22 a23 a24 a25 a26 a27 a28 a29)
  (some (.tu [.tu [], .ag [.u8 a11, .u8 a12, .b a13, .u8 a14, .u8 a15, .u8 a16, .u8 a17, .b a18, .u8 a19, .s a20, .ro 1 a21, .ro 1 a22, .b a23, .u8 a24, .s a25, .ro 2 a26, .s a27, .un, .b a28], .ag [.ro 4 a29]])))))))
section
variable (call : CallT) (run : RunT) (a0 a1 : UInt8) (a2 : Bool) (a3 a4 a5 a6 : UInt8) (a7 : Bool) (a8 : UInt8) (a9 : List UInt8) (a10 a11 a12 : UInt8) (a13 : Bool) (a14 a15 a16 a17 : UInt8) (a18 : Bool) (a19 : UInt8) (a20 : List UInt8) (a21 a22 : List AV) (a23 : Bool) (a24 : UInt8) (a25 : List UInt8) (a26 : List AV) (a27 : List UInt8) (a28 : Bool) (a29 : List AV)
theorem text47 : unr C call run 47 Tryd.f47 400 [.code body47] (initF C 47 Tryd.f47.ntmps [.un, .ag [.u8 a0, .u8 a1, .b a2, .u8 a3, .u8 a4, .u8 a5, .u8 a6, .b a7, .u8 a8, .s a9], .u8 a10, .ag [.u8 a11, .u8 a12, .b a13, .u8 a14, .u8 a15, .u8 a16, .u8 a17, .b a18, .u8 a19, .s a20, .ro 1 a21, .ro 1 a22, .b a23, .u8 a24, .s a25, .ro 2 a26, .s a27, .un, .b a28], .ag [.ro 4 a29]]) = X47 call run a0 a1 a2 a3 a4 a5 a6 a7 a8 a9 a10 a11 a12 a13 a14 a15 a16 a17 a18 a19 a20 a21 a22 a23 a24 a25 a26 a27 a28 a29 := by
  kernel_rfl
theorem c47 {r : AV} (h : X47 (semCall C Tryd.prog) (semRun C Tryd.prog 47 Tryd.f47) a0 a1 a2 a3 a4 a5 a6 a7 a8 a9 a10 a11 a12 a13 a14 a15 a16 a17 a18 a19 a20 a21 a22 a23 a24 a25 a26 a27 a28 a29 = some r) : semCall C Tryd.prog 47 [.un, .ag [.u8 a0, .u8 a1, .b a2, .u8 a3, .u8 a4, .u8 a5, .u8 a6, .b a7, .u8 a8, .s a9], .u8 a10, .ag [.u8 a11, .u8 a12, .b a13, .u8 a14, .u8 a15, .u8 a16, .u8 a17, .b a18, .u8 a19, .s a20, .ro 1 a21, .ro 1 a22, .b a23, .u8 a24, .s a25, .ro 2 a26, .s a27, .un, .b a28], .ag [.ro 4 a29]] = some r :=
  semCall_unr (fn := Tryd.f47) (c := body47) (by kernel_rfl) (by kernel_rfl) 400 (by kernel_rfl) ((text47 _ _ a0 a1 a2 a3 a4 a5 a6 a7 a8 a9 a10 a11 a12 a13 a14 a15 a16 a17 a18 a19 a20 a21 a22 a23 a24 a25 a26 a27 a28 a29).trans h)
end
noncomputable def X47_12 (call : CallT) (run : RunT) (a0 a1 : UInt8) (a2 : Bool) (a3 a4 a5 a6 : UInt8) (a7 : Bool) (a8 : UInt8) (a9 : List UInt8) (a10 a11 : UInt8) (a12 : Bool) (a13 a14 a15 a16 : UInt8) (a17 : Bool) (a18 : UInt8) (a19 : List UInt8) (a20 a21 : List AV) (a22 : Bool) (a23 : UInt8) (a24 : List UInt8) (a25 : List AV) (a26 : List UInt8) (a27 : Bool) (a28 : List AV) : Option AV :=
  (call 72 [.un, .u8 2, .s a9, .s [], .ag [.u8 a10, .u8 a11, .b a12, .u8 a13, .u8 a14, .u8 a15, .u8 a16, .b a17, .u8 a18, .s a19, .ro 1 a20, .ro 1 a21, .b a22, .u8 a23, .s a24, .ro 2 a25, .s a26, .un, .b a27], .ag [.ro 4 a28]]).bind fun v1 => (tupI v1 0).bind fun v2 => (tupI v1 1).bind fun v3 => (AV.asAg 19 v3).bind fun v4 => (tupI v1 2).bind fun v5 => (AV.asAg 1 v5).bind fun v6 => (binI .eql (v4.getD 0 .un) (.u8 0)).bind fun v7 => condM (v7)
  ((call 73 [.un, .ag [v4.getD 0 .un, v4.getD 1 .un, v4.getD 2 .un, v4.getD 3 .un, v4.getD 4 .un, v4.getD 5 .un, v4.getD 6 .un, v4.getD 7 .un, v4.getD 8 .un, v4.getD 9 .un, .ro 1 (AV.elems (v4.getD 10 .un)), .ro 1 (AV.elems (v4.getD 11 .un)), v4.getD 12 .un, v4.getD 13 .un, v4.getD 14 .un, .ro 2 (AV.elems (v4.getD 15 .un)), v4.getD 16 .un, .un, v4.getD 18 .un], .ag [.ro 4 (AV.elems (v6.getD 0 .un))]]).bind fun v8 => (tupI v8 0).bind fun v9 => (tupI v8 1).bind fun v10 => (AV.asAg 19 v10).bind fun v11 => (tupI v8 2).bind fun v12 => (AV.asAg 1 v12).bind fun v13 => some (.tu [.tu [], .ag [v11.getD 0 .un, v11.getD 1 .un, v11.getD 2 .un, v11.getD 3 .un, v11.getD 4 .un, v11.getD 5 .un, v11.getD 6 .un, v11.getD 7 .un, v11.getD 8 .un, v11.getD 9 .un, .ro 1 (AV.elems (v11.getD 10 .un)), .ro 1 (AV.elems (v11.getD 11 .un)), v11.getD 12 .un, v11.getD 13 .un, v11.getD 14 .un, .ro 2 (AV.elems (v11.getD 15 .un)), v11.getD 16 .un, .un, v11.getD 18 .un], .ag [.ro 4 (AV.elems (v13.getD 0 .un))]]))
  (some (.tu [.tu [], .ag [v4.getD 0 .un, v4.getD 1 .un, v4.getD 2 .un, v4.getD 3 .un, v4.getD 4 .un, v4.getD 5 .un, v4.getD 6 .un, v4.getD 7 .un, v4.getD 8 .un, v4.getD 9 .un, .ro 1 (AV.elems (v4.getD 10 .un)), .ro 1 (AV.elems (v4.getD 11 .un)), v4.getD 12 .un, v4.getD 13 .un, v4.getD 14 .un, .ro 2 (AV.elems (v4.getD 15 .un)), v4.getD 16 .un, .un, v4.getD 18 .un], .ag [.ro 4 (AV.elems (v6.getD 0 .un))]]))
section
variable (call : CallT) (run : RunT) (a0 a1 : UInt8) (a2 : Bool) (a3 a4 a5 a6 : UInt8) (a7 : Bool) (a8 : UInt8) (a9 : List UInt8) (a10 a11 : UInt8) (a12 : Bool) (a13 a14 a15 a16 : UInt8) (a17 : Bool) (a18 : UInt8) (a19 : List UInt8) (a20 a21 : List AV) (a22 : Bool) (a23 : UInt8) (a24 : List UInt8) (a25 : List AV) (a26 : List UInt8) (a27 : Bool) (a28 : List AV)
theorem text47_12 : step C call 47 Tryd.f47 (unr C call run 47 Tryd.f47 400) K47_12 (S47_12 a0 a1 a2 a3 a4 a5 a6 a7 a8 a9 a10 a11 a12 a13 a14 a15 a16 a17 a18 a19 a20 a21 a22 a23 a24 a25 a26 a27 a28) = X47_12 call run a0 a1 a2 a3 a4 a5 a6 a7 a8 a9 a10 a11 a12 a13 a14 a15 a16 a17 a18 a19 a20 a21 a22 a23 a24 a25 a26 a27 a28 := by
  kernel_rfl
end
section
variable (a0 a1 : UInt8) (a2 : Bool) (a3 a4 a5 a6 : UInt8) (a7 : Bool) (a8 : UInt8) (a9 : List UInt8) (a10 a11 : UInt8) (a12 : Bool) (a13 a14 a15 a16 : UInt8) (a17 : Bool) (a18 : UInt8) (a19 : List UInt8) (a20 a21 : List AV) (a22 : Bool) (a23 : UInt8) (a24 : List UInt8) (a25 : List AV) (a26 : List UInt8) (a27 : Bool) (a28 : List AV)
theorem r47_12 {r : AV} (h : X47_12 (semCall C Tryd.prog) (semRun C Tryd.prog 47 Tryd.f47) a0 a1 a2 a3 a4 a5 a6 a7 a8 a9 a10 a11 a12 a13 a14 a15 a16 a17 a18 a19 a20 a21 a22 a23 a24 a25 a26 a27 a28 = some r) : F47_12 (semRun C Tryd.prog 47 Tryd.f47) a0 a1 a2 a3 a4 a5 a6 a7 a8 a9 a10 a11 a12 a13 a14 a15 a16 a17 a18 a19 a20 a21 a22 a23 a24 a25 a26 a27 a28 = some r :=
  semRun_unr 400 ((text47_12 _ _ a0 a1 a2 a3 a4 a5 a6 a7 a8 a9 a10 a11 a12 a13 a14 a15 a16 a17 a18 a19 a20 a21 a22 a23 a24 a25 a26 a27 a28).trans h)
end
end R4

namespace R4
open Go Go.Proofs Sx
noncomputable def body48 : Code := (Tryd.f48.body).getD .skip
section
variable (run : RunT) (a0 a1 : UInt8) (a2 : Bool) (a3 a4 a5 a6 : UInt8) (a7 : Bool) (a8 : UInt8) (a9 : List UInt8) (a10 a11 : List AV) (a12 : Bool) (a13 : UInt8) (a14 : List UInt8) (a15 : List AV) (a16 : AV) (a17 : Bool) (a18 : List AV)
noncomputable def K48_3 : List Item := (kAt 3 body48 []).getD []
def S48_3 : St := St.ofL [(0, .cell (.ptr 58 0))] [(58, some [.val (.u8 a0), .val (.u8 a1), .val (.b a2), .val (.u8 a3), .val (.u8 a4), .val (.u8 a5), .val (.u8 a6), .val (.b a7), .val (.u8 a8), .val (.s a9), .own 658010 5 1 a10, .own 658011 5 1 a11, .val (.b a12), .val (.u8 a13), .val (.s a14), .own 658015 45 2 a15, .val (a16), .clo 18 [59], .val (.b a17)]), (59, some [.own 659000 39 4 a18])]
noncomputable def F48_3 : Option AV := run K48_3 (S48_3 a0 a1 a2 a3 a4 a5 a6 a7 a8 a9 a10 a11 a12 a13 a14 a15 a16 a17 a18)
end
noncomputable def X48 (call : CallT) (run : RunT) (a0 a1 : UInt8) (a2 : Bool) (a3 a4 a5 a6 : UInt8) (a7 : Bool) (a8 : UInt8) (a9 : List UInt8) (a10 a11 a12 : UInt8) (a13 : Bool) (a14 a15 a16 a17 : UInt8) (a18 : Bool) (a19 : UInt8) (a20 : List UInt8) (a21 a22 : List AV) (a23 : Bool) (a24 : UInt8) (a25 : List UInt8) (a26 : List AV) (a27 : List UInt8) (a28 : Bool) (a29 : List AV) : Option AV :=
  condM (.b (ueq a11 13))
  (some (.tu [.tu [], .ag [.u8 a11, .u8 a12, .b a13, .u8 a14, .u8 a15, .u8 a16, .u8 a17, .b a18, .u8 a19, .s a20, .ro 1 a21, .ro 1 a22, .b a23, .u8 3, .s [], .ro 2 [], .s [], .un, .b a28], .ag [.ro 4 a29]]))
  (condM (.b (une a11 0))
  ((b2s (.ro 1 (([.u8 a10] : List AV)))).bind fun v1 => (binS .add (.s a27) (v1)).bind fun v2 => (AV.one (v2)).bind fun v3 => some (.tu [.tu [], .ag [.u8 a11, .u8 a12, .b a13, .u8 a14, .u8 a15, .u8 a16, .u8 a17, .b a18, .u8 a19, .s a20, .ro 1 a21, .ro 1 a22, .b a23, .u8 a24, .s a25, .ro 2 a26, v3, .un, .b a28], .ag [.ro 4 a29]]))
  (condM (.b (ueq a0 15))
  ((slS (.s a27) none (some (.int (w64 (((a27.length : Int)) - 2))))).bind fun v4 => (AV.one (v4)).bind fun v5 => F48_3 run a11 a12 a13 a14 a15 a16 a17 a18 a19 a20 a21 a22 a23 a24 a25 a26 (v5) a28 a29)
  (F48_3 run a11 a12 a13 a14 a15 a16 a17 a18 a19 a20 a21 a22 a23 a24 a25 a26 (.s a27) a28 a29)))
section
variable (call : CallT) (run : RunT) (a0 a1 : UInt8) (a2 : Bool) (a3 a4 a5 a6 : UInt8) (a7 : Bool) (a8 : UInt8) (a9 : List UInt8) (a10 a11 a12 : UInt8) (a13 : Bool) (a14 a15 a16 a17 : UInt8) (a18 : Bool) (a19 : UInt8) (a20 : List UInt8) (a21 a22 : List AV) (a23 : Bool) (a24 : UInt8) (a25 : List UInt8) (a26 : List AV) (a27 : List UInt8) (a28 : Bool) (a29 : List AV)
theorem text48 : unr C call run 48 Tryd.f48 400 [.code body48] (initF C 48 Tryd.f48.ntmps [.un, .ag [.u8 a0, .u8 a1, .b a2, .u8 a3, .u8 a4, .u8 a5, .u8 a6, .b a7, .u8 a8, .s a9], .u8 a10, .ag [.u8 a11, .u8 a12, .b a13, .u8 a14, .u8 a15, .u8 a16, .u8 a17, .b a18, .u8 a19, .s a20, .ro 1 a21, .ro 1 a22, .b a23, .u8 a24, .s a25, .ro 2 a26, .s a27, .un, .b a28], .ag [.ro 4 a29]]) = X48 call run a0 a1 a2 a3 a4 a5 a6 a7 a8 a9 a10 a11 a12 a13 a14 a15 a16 a17 a18 a19 a20 a21 a22 a23 a24 a25 a26 a27 a28 a29 := by
  kernel_rfl
theorem c48 {r : AV} (h : X48 (semCall C Tryd.prog) (semRun C Tryd.prog 48 Tryd.f48) a0 a1 a2 a3 a4 a5 a6 a7 a8 a9 a10 a11 a12 a13 a14 a15 a16 a17 a18 a19 a20 a21 a22 a23 a24 a25 a26 a27 a28 a29 = some r) : semCall C Tryd.prog 48 [.un, .ag [.u8 a0, .u8 a1, .b a2, .u8 a3, .u8 a4, .u8 a5, .u8 a6, .b a7, .u8 a8, .s a9], .u8 a10, .ag [.u8 a11, .u8 a12, .b a13, .u8 a14, .u8 a15, .u8 a16, .u8 a17, .b a18, .u8 a19, .s a20, .ro 1 a21, .ro 1 a22, .b a23, .u8 a24, .s a25, .ro 2 a26, .s a27, .un, .b a28], .ag [.ro 4 a29]] = some r :=
  semCall_unr (fn := Tryd.f48) (c := body48) (by kernel_rfl) (by kernel_rfl) 400 (by kernel_rfl) ((text48 _ _ a0 a1 a2 a3 a4 a5 a6 a7 a8 a9 a10 a11 a12 a13 a14 a15 a16 a17 a18 a19 a20 a21 a22 a23 a24 a25 a26 a27 a28 a29).trans h)
end
noncomputable def X48_3 (call : CallT) (run : RunT) (a0 a1 : UInt8) (a2 : Bool) (a3 a4 a5 a6 : UInt8) (a7 : Bool) (a8 : UInt8) (a9 : List UInt8) (a10 a11 : List AV) (a12 : Bool) (a13 : UInt8) (a14 : List UInt8) (a15 : List AV) (a16 : AV) (a17 : Bool) (a18 : List AV) : Option AV :=
  (call 73 [.un, .ag [.u8 a0, .u8 a1, .b a2, .u8 a3, .u8 a4, .u8 a5, .u8 a6, .b a7, .u8 a8, .s a9, .ro 1 a10, .ro 1 a11, .b a12, .u8 a13, .s a14, .ro 2 a15, a16, .un, .b a17], .ag [.ro 4 a18]]).bind fun v1 => (tupI v1 0).bind fun v2 => (tupI v1 1).bind fun v3 => (AV.asAg 19 v3).bind fun v4 => (tupI v1 2).bind fun v5 => (AV.asAg 1 v5).bind fun v6 => some (.tu [.tu [], .ag [v4.getD 0 .un, v4.getD 1 .un, v4.getD 2 .un, v4.getD 3 .un, v4.getD 4 .un, v4.getD 5 .un, v4.getD 6 .un, v4.getD 7 .un, v4.getD 8 .un, v4.getD 9 .un, .ro 1 (AV.elems (v4.getD 10 .un)), .ro 1 (AV.elems (v4.getD 11 .un)), v4.getD 12 .un, v4.getD 13 .un, v4.getD 14 .un, .ro 2 (AV.elems (v4.getD 15 .un)), v4.getD 16 .un, .un, v4.getD 18 .un], .ag [.ro 4 (AV.elems (v6.getD 0 .un))]])
section
variable (call : CallT) (run : RunT) (a0 a1 : UInt8) (a2 : Bool) (a3 a4 a5 a6 : UInt8) (a7 : Bool) (a8 : UInt8) (a9 : List UInt8) (a10 a11 : List AV) (a12 : Bool) (a13 : UInt8) (a14 : List UInt8) (a15 : List AV) (a16 : AV) (a17 : Bool) (a18 : List AV)
theorem text48_3 : step C call 48 Tryd.f48 (unr C call run 48 Tryd.f48 400) K48_3 (S48_3 a0 a1 a2 a3 a4 a5 a6 a7 a8 a9 a10 a11 a12 a13 a14 a15 a16 a17 a18) = X48_3 call run a0 a1 a2 a3 a4 a5 a6 a7 a8 a9 a10 a11 a12 a13 a14 a15 a16 a17 a18 := by
  kernel_rfl
end
section
variable (a0 a1 : UInt8) (a2 : Bool) (a3 a4 a5 a6 : UInt8) (a7 : Bool) (a8 : UInt8) (a9 : List UInt8) (a10 a11 : List AV) (a12 : Bool) (a13 : UInt8) (a14 : List UInt8) (a15 : List AV) (a16 : AV) (a17 : Bool) (a18 : List AV)
theorem r48_3 {r : AV} (h : X48_3 (semCall C Tryd.prog) (semRun C Tryd.prog 48 Tryd.f48) a0 a1 a2 a3 a4 a5 a6 a7 a8 a9 a10 a11 a12 a13 a14 a15 a16 a17 a18 = some r) : F48_3 (semRun C Tryd.prog 48 Tryd.f48) a0 a1 a2 a3 a4 a5 a6 a7 a8 a9 a10 a11 a12 a13 a14 a15 a16 a17 a18 = some r :=
  semRun_unr 400 ((text48_3 _ _ a0 a1 a2 a3 a4 a5 a6 a7 a8 a9 a10 a11 a12 a13 a14 a15 a16 a17 a18).trans h)
end
end R4

namespace R4
open Go Go.Proofs Sx
noncomputable def body49 : Code := (Tryd.f49.body).getD .skip
section
variable (run : RunT) (a0 : Int) (a1 a2 : UInt8) (a3 : Bool) (a4 a5 a6 a7 : UInt8) (a8 : Bool) (a9 : UInt8) (a10 : List UInt8) (a11 a12 : List AV) (a13 : Bool) (a14 : UInt8) (a15 : List UInt8) (a16 : List AV) (a17 : List UInt8) (a18 : Bool) (a19 : List AV)
noncomputable def K49_9 : List Item := (kAt 9 body49 []).getD []
def S49_9 : St := St.ofL [(0, .cell (.ptr 96 0)), (6, .cell (.val (.int a0)))] [(96, some [.val (.u8 a1), .val (.u8 a2), .val (.b a3), .val (.u8 a4), .val (.u8 a5), .val (.u8 a6), .val (.u8 a7), .val (.b a8), .val (.u8 a9), .val (.s a10), .own 696010 5 1 a11, .own 696011 5 1 a12, .val (.b a13), .val (.u8 a14), .val (.s a15), .own 696015 45 2 a16, .val (.s a17), .clo 18 [97], .val (.b a18)]), (97, some [.own 697000 39 4 a19])]
noncomputable def F49_9 : Option AV := run K49_9 (S49_9 a0 a1 a2 a3 a4 a5 a6 a7 a8 a9 a10 a11 a12 a13 a14 a15 a16 a17 a18 a19)
end
section
variable (run : RunT) (a0 a1 : UInt8) (a2 : Bool) (a3 a4 a5 a6 : UInt8) (a7 : Bool) (a8 : UInt8) (a9 : List UInt8) (a10 a11 : List AV) (a12 : Bool) (a13 : UInt8) (a14 : List UInt8) (a15 : List AV) (a16 : List UInt8) (a17 : Bool) (a18 : List AV)
noncomputable def K49_15 : List Item := (kAt 15 body49 []).getD []
def S49_15 : St := St.ofL [(0, .cell (.ptr 96 0))] [(96, some [.val (.u8 a0), .val (.u8 a1), .val (.b a2), .val (.u8 a3), .val (.u8 a4), .val (.u8 a5), .val (.u8 a6), .val (.b a7), .val (.u8 a8), .val (.s a9), .own 696010 5 1 a10, .own 696011 5 1 a11, .val (.b a12), .val (.u8 a13), .val (.s a14), .own 696015 45 2 a15, .val (.s a16), .clo 18 [97], .val (.b a17)]), (97, some [.own 697000 39 4 a18])]
noncomputable def F49_15 : Option AV := run K49_15 (S49_15 a0 a1 a2 a3 a4 a5 a6 a7 a8 a9 a10 a11 a12 a13 a14 a15 a16 a17 a18)
end
noncomputable def X49 (call : CallT) (run : RunT) (a0 a1 : UInt8) (a2 : Bool) (a3 a4 a5 a6 : UInt8) (a7 : Bool) (a8 : UInt8) (a9 : List UInt8) (a10 a11 a12 : UInt8) (a13 : Bool) (a14 a15 a16 a17 : UInt8) (a18 : Bool) (a19 : UInt8) (a20 : List UInt8) (a21 a22 : List AV) (a23 : Bool) (a24 : UInt8) (a25 : List UInt8) (a26 : List AV) (a27 : List UInt8) (a28 : Bool) (a29 : List AV) : Option AV :=
  condM (.b (ueq a11 3))
  (some (.tu [.tu [], .ag [.u8 a11, .u8 a12, .b a13, .u8 a14, .u8 a15, .u8 a16, .u8 a17, .b a18, .u8 a19, .s a20, .ro 1 a21, .ro 1 a22, .b a23, .u8 a24, .s a20, .ro 2 a26, .s a27, .un, .b a28], .ag [.ro 4 a29]]))
  (condM (.b (ueq a11 5))
  (condM (.b (une a0 5))
  ((app 32 2 a26 (.ro 2 (([.ag [.s [], .s []]] : List AV)))).bind fun v1 => F49_9 run (w64 (((a26.length : Int)) + 1)) a11 a12 a13 a14 a15 a16 a17 a18 a19 a20 a21 a22 a23 a24 a25 v1 a27 a28 a29)
  (F49_9 run ((a26.length : Int)) a11 a12 a13 a14 a15 a16 a17 a18 a19 a20 a21 a22 a23 a24 a25 a26 a27 a28 a29))
  (condM (.b (ueq a11 8))
  ((selW (.b (ueq a0 8)) false (some (.b (ueq a15 0))) (.b true)).bind fun v2 => condM (v2)
  ((inN a26.length (.int (w64 (((a26.length : Int)) - 1)))).bind fun v3 => (b2s (.ro 1 (([.u8 a10] : List AV)))).bind fun v4 => (binS .add (AV.cell (a26.getD v3 .un) 1) (v4)).bind fun v5 => (inN a26.length (.int (w64 (((a26.length : Int)) - 1)))).bind fun v6 => (AV.one (v5)).bind fun v7 => some (.tu [.tu [], .ag [.u8 a11, .u8 a12, .b a13, .u8 a14, .u8 a15, .u8 a16, .u8 a17, .b a18, .u8 a19, .s a20, .ro 1 a21, .ro 1 a22, .b a23, .u8 a24, .s a25, .ro 2 (a26.set v6 (.ag [AV.cell (a26.getD v6 .un) 0, v7])), .s a27, .un, .b a28], .ag [.ro 4 a29]]))
  (some (.tu [.tu [], .ag [.u8 a11, .u8 a12, .b a13, .u8 a14, .u8 a15, .u8 a16, .u8 a17, .b a18, .u8 a19, .s a20, .ro 1 a21, .ro 1 a22, .b a23, .u8 a24, .s a25, .ro 2 a26, .s a27, .un, .b a28], .ag [.ro 4 a29]])))
  (condM (.b (ueq a11 0))
  (F49_15 run a11 a12 a13 a14 a15 a16 a17 a18 a19 a20 a21 a22 a23 a24 a25 a26 a27 a28 a29)
  (condM (.b (ueq a11 17))
  (F49_15 run a11 a12 a13 a14 a15 a16 a17 a18 a19 a20 a21 a22 a23 a24 a25 a26 a27 a28 a29)
  (some (.tu [.tu [], .ag [.u8 a11, .u8 a12, .b a13, .u8 a14, .u8 a15, .u8 a16, .u8 a17, .b a18, .u8 a19, .s a20, .ro 1 a21, .ro 1 a22, .b a23, .u8 a24, .s a25, .ro 2 a26, .s a27, .un, .b a28], .ag [.ro 4 a29]]))))))
section
variable (call : CallT) (run : RunT) (a0 a1 : UInt8) (a2 : Bool) (a3 a4 a5 a6 : UInt8) (a7 : Bool) (a8 : UInt8) (a9 : List UInt8) (a10 a11 a12 : UInt8) (a13 : Bool) (a14 a15 a16 a17 : UInt8) (a18 : Bool) (a19 : UInt8) (a20 : List UInt8) (a21 a22 : List AV) (a23 : Bool) (a24 : UInt8) (a25 : List UInt8) (a26 : List AV) (a27 : List UInt8) (a28 : Bool) (a29 : List AV)
theorem text49 : unr C call run 49 Tryd.f49 400 [.code body49] (initF C 49 Tryd.f49.ntmps [.un, .ag [.u8 a0, .u8 a1, .b a2, .u8 a3, .u8 a4, .u8 a5, .u8 a6, .b a7, .u8 a8, .s a9], .u8 a10, .ag [.u8 a11, .u8 a12, .b a13, .u8 a14, .u8 a15, .u8 a16, .u8 a17, .b a18, .u8 a19, .s a20, .ro 1 a21, .ro 1 a22, .b a23, .u8 a24, .s a25, .ro 2 a26, .s a27, .un, .b a28], .ag [.ro 4 a29]]) = X49 call run a0 a1 a2 a3 a4 a5 a6 a7 a8 a9 a10 a11 a12 a13 a14 a15 a16 a17 a18 a19 a20 a21 a22 a23 a24 a25 a26 a27 a28 a29 := by
  kernel_rfl
theorem c49 {r : AV} (h : X49 (semCall C Tryd.prog) (semRun C Tryd.prog 49 Tryd.f49) a0 a1 a2 a3 a4 a5 a6 a7 a8 a9 a10 a11 a12 a13 a14 a15 a16 a17 a18 a19 a20 a21 a22 a23 a24 a25 a26 a27 a28 a29 = some r) : semCall C Tryd.prog 49 [.un, .ag [.u8 a0, .u8 a1, .b a2, .u8 a3, .u8 a4, .u8 a5, .u8 a6, .b a7, .u8 a8, .s a9], .u8 a10, .ag [.u8 a11, .u8 a12, .b a13, .u8 a14, .u8 a15, .u8 a16, .u8 a17, .b a18, .u8 a19, .s a20, .ro 1 a21, .ro 1 a22, .b a23, .u8 a24, .s a25, .ro 2 a26, .s a27, .un, .b a28], .ag [.ro 4 a29]] = some r :=
  semCall_unr (fn := Tryd.f49) (c := body49) (by kernel_rfl) (by kernel_rfl) 400 (by kernel_rfl) ((text49 _ _ a0 a1 a2 a3 a4 a5 a6 a7 a8 a9 a10 a11 a12 a13 a14 a15 a16 a17 a18 a19 a20 a21 a22 a23 a24 a25 a26 a27 a28 a29).trans h)
end
noncomputable def X49_9 (call : CallT) (run : RunT) (a0 : Int) (a1 a2 : UInt8) (a3 : Bool) (a4 a5 a6 a7 : UInt8) (a8 : Bool) (a9 : UInt8) (a10 : List UInt8) (a11 a12 : List AV) (a13 : Bool) (a14 : UInt8) (a15 : List UInt8) (a16 : List AV) (a17 : List UInt8) (a18 : Bool) (a19 : List AV) : Option AV :=
  (inN a16.length (.int (w64 (a0 - 1)))).bind fun v1 => some (.tu [.tu [], .ag [.u8 a1, .u8 a2, .b a3, .u8 a4, .u8 a5, .u8 a6, .u8 a7, .b a8, .u8 a9, .s a10, .ro 1 a11, .ro 1 a12, .b a13, .u8 a14, .s a15, .ro 2 (a16.set v1 (.ag [.s a10, AV.cell (a16.getD v1 .un) 1])), .s a17, .un, .b a18], .ag [.ro 4 a19]])
section
variable (call : CallT) (run : RunT) (a0 : Int) (a1 a2 : UInt8) (a3 : Bool) (a4 a5 a6 a7 : UInt8) (a8 : Bool) (a9 : UInt8) (a10 : List UInt8) (a11 a12 : List AV) (a13 : Bool) (a14 : UInt8) (a15 : List UInt8) (a16 : List AV) (a17 : List UInt8) (a18 : Bool) (a19 : List AV)
theorem text49_9 : step C call 49 Tryd.f49 (unr C call run 49 Tryd.f49 400) K49_9 (S49_9 a0 a1 a2 a3 a4 a5 a6 a7 a8 a9 a10 a11 a12 a13 a14 a15 a16 a17 a18 a19) = X49_9 call run a0 a1 a2 a3 a4 a5 a6 a7 a8 a9 a10 a11 a12 a13 a14 a15 a16 a17 a18 a19 := by
  kernel_rfl
end
noncomputable def X49_15 (call : CallT) (run : RunT) (a0 a1 : UInt8) (a2 : Bool) (a3 a4 a5 a6 : UInt8) (a7 : Bool) (a8 : UInt8) (a9 : List UInt8) (a10 a11 : List AV) (a12 : Bool) (a13 : UInt8) (a14 : List UInt8) (a15 : List AV) (a16 : List UInt8) (a17 : Bool) (a18 : List AV) : Option AV :=
  (call 73 [.un, .ag [.u8 a0, .u8 a1, .b a2, .u8 a3, .u8 a4, .u8 a5, .u8 a6, .b a7, .u8 a8, .s a9, .ro 1 a10, .ro 1 a11, .b a12, .u8 a13, .s a14, .ro 2 a15, .s a16, .un, .b a17], .ag [.ro 4 a18]]).bind fun v1 => (tupI v1 0).bind fun v2 => (tupI v1 1).bind fun v3 => (AV.asAg 19 v3).bind fun v4 => (tupI v1 2).bind fun v5 => (AV.asAg 1 v5).bind fun v6 => some (.tu [.tu [], .ag [v4.getD 0 .un, v4.getD 1 .un, v4.getD 2 .un, v4.getD 3 .un, v4.getD 4 .un, v4.getD 5 .un, v4.getD 6 .un, v4.getD 7 .un, v4.getD 8 .un, v4.getD 9 .un, .ro 1 (AV.elems (v4.getD 10 .un)), .ro 1 (AV.elems (v4.getD 11 .un)), v4.getD 12 .un, v4.getD 13 .un, v4.getD 14 .un, .ro 2 (AV.elems (v4.getD 15 .un)), v4.getD 16 .un, .un, v4.getD 18 .un], .ag [.ro 4 (AV.elems (v6.getD 0 .un))]])
section
variable (call : CallT) (run : RunT) (a0 a1 : UInt8) (a2 : Bool) (a3 a4 a5 a6 : UInt8) (a7 : Bool) (a8 : UInt8) (a9 : List UInt8) (a10 a11 : List AV) (a12 : Bool) (a13 : UInt8) (a14 : List UInt8) (a15 : List AV) (a16 : List UInt8) (a17 : Bool) (a18 : List AV)
theorem text49_15 : step C call 49 Tryd.f49 (unr C call run 49 Tryd.f49 400) K49_15 (S49_15 a0 a1 a2 a3 a4 a5 a6 a7 a8 a9 a10 a11 a12 a13 a14 a15 a16 a17 a18) = X49_15 call run a0 a1 a2 a3 a4 a5 a6 a7 a8 a9 a10 a11 a12 a13 a14 a15 a16 a17 a18 := by
  kernel_rfl
end
section
variable (a0 : Int) (a1 a2 : UInt8) (a3 : Bool) (a4 a5 a6 a7 : UInt8) (a8 : Bool) (a9 : UInt8) (a10 : List UInt8) (a11 a12 : List AV) (a13 : Bool) (a14 : UInt8) (a15 : List UInt8) (a16 : List AV) (a17 : List UInt8) (a18 : Bool) (a19 : List AV)
theorem r49_9 {r : AV} (h : X49_9 (semCall C Tryd.prog) (semRun C Tryd.prog 49 Tryd.f49) a0 a1 a2 a3 a4 a5 a6 a7 a8 a9 a10 a11 a12 a13 a14 a15 a16 a17 a18 a19 = some r) : F49_9 (semRun C Tryd.prog 49 Tryd.f49) a0 a1 a2 a3 a4 a5 a6 a7 a8 a9 a10 a11 a12 a13 a14 a15 a16 a17 a18 a19 = some r :=
  semRun_unr 400 ((text49_9 _ _ a0 a1 a2 a3 a4 a5 a6 a7 a8 a9 a10 a11 a12 a13 a14 a15 a16 a17 a18 a19).trans h)
end
section
variable (a0 a1 : UInt8) (a2 : Bool) (a3 a4 a5 a6 : UInt8) (a7 : Bool) (a8 : UInt8) (a9 : List UInt8) (a10 a11 : List AV) (a12 : Bool) (a13 : UInt8) (a14 : List UInt8) (a15 : List AV) (a16 : List UInt8) (a17 : Bool) (a18 : List AV)
theorem r49_15 {r : AV} (h : X49_15 (semCall C Tryd.prog) (semRun C Tryd.prog 49 Tryd.f49) a0 a1 a2 a3 a4 a5 a6 a7 a8 a9 a10 a11 a12 a13 a14 a15 a16 a17 a18 = some r) : F49_15 (semRun C Tryd.prog 49 Tryd.f49) a0 a1 a2 a3 a4 a5 a6 a7 a8 a9 a10 a11 a12 a13 a14 a15 a16 a17 a18 = some r :=
  semRun_unr 400 ((text49_15 _ _ a0 a1 a2 a3 a4 a5 a6 a7 a8 a9 a10 a11 a12 a13 a14 a15 a16 a17 a18).trans h)
end
end R4

namespace R4
open Go Go.Proofs Sx
noncomputable def body12 : Code := (Tryd.f12.body).getD .skip
noncomputable def X12 (call : CallT) (run : RunT) (a0 : AV) : Option AV :=
  (call 19 [.un, a0, .ag [.u8 0, .u8 0, .b false, .u8 0, .u8 0, .u8 0, .u8 0, .b false, .u8 0, .s [], .ro 1 [], .ro 1 [], .b false, .u8 0, .s [], .ro 2 [], .s [], .un, .b false], .ag [.ro 4 []]]).bind fun v1 => (tupI v1 0).bind fun v2 => (tupI v1 1).bind fun v3 => (AV.asAg 19 v3).bind fun v4 => (tupI v1 2).bind fun v5 => (AV.asAg 1 v5).bind fun v6 => some (.tu [.ro 4 (AV.elems (v6.getD 0 .un)), .ag [v4.getD 0 .un, v4.getD 1 .un, v4.getD 2 .un, v4.getD 3 .un, v4.getD 4 .un, v4.getD 5 .un, v4.getD 6 .un, v4.getD 7 .un, v4.getD 8 .un, v4.getD 9 .un], v2])
section
variable (call : CallT) (run : RunT) (a0 : AV)
theorem text12 : unr C call run 12 Tryd.f12 400 [.code body12] (initF C 12 Tryd.f12.ntmps [a0]) = X12 call run a0 := by
  kernel_rfl
theorem c12 {r : AV} (h : X12 (semCall C Tryd.prog) (semRun C Tryd.prog 12 Tryd.f12) a0 = some r) : semCall C Tryd.prog 12 [a0] = some r :=
  semCall_unr (fn := Tryd.f12) (c := body12) (by kernel_rfl) (by kernel_rfl) 400 (by kernel_rfl) ((text12 _ _ a0).trans h)
end
end R4

namespace R4
open Go Go.Proofs Sx
noncomputable def body19 : Code := (Tryd.f19.body).getD .skip
section
variable (run : RunT) (a0 a1 : AV) (a2 : Int) (a3 a4 a5 a6 a7 a8 a9 a10 a11 a12 : AV) (a13 a14 : List AV) (a15 a16 a17 : AV) (a18 : List AV) (a19 a20 : AV) (a21 : List AV)
noncomputable def K19_2 : List Item := (kAt 2 body19 []).getD []
def S19_2 : St := St.ofL [(0, .cell (.ptr 34 0)), (7, .cell (.val (a0))), (8, .cell (.val (a1))), (9, .cell (.val (.int a2)))] [(34, some [.val (a3), .val (a4), .val (a5), .val (a6), .val (a7), .val (a8), .val (a9), .val (a10), .val (a11), .val (a12), .own 634010 5 1 a13, .own 634011 5 1 a14, .val (a15), .val (a16), .val (a17), .own 634015 45 2 a18, .val (a19), .clo 18 [35], .val (a20)]), (35, some [.own 635000 39 4 a21])]
noncomputable def F19_2 : Option AV := run K19_2 (S19_2 a0 a1 a2 a3 a4 a5 a6 a7 a8 a9 a10 a11 a12 a13 a14 a15 a16 a17 a18 a19 a20 a21)
end
noncomputable def X19 (call : CallT) (run : RunT) (a0 : AV) (a1 a2 : UInt8) (a3 : Bool) (a4 a5 a6 a7 : UInt8) (a8 : Bool) (a9 : UInt8) (a10 : List UInt8) (a11 a12 : List AV) (a13 : Bool) (a14 : UInt8) (a15 : List UInt8) (a16 : List AV) (a17 : List UInt8) (a18 : Bool) (a19 : List AV) : Option AV :=
  (lenR (a0)).bind fun v1 => F19_2 run (a0) (v1) 0 (.u8 a1) (.u8 a2) (.b a3) (.u8 a4) (.u8 a5) (.u8 a6) (.u8 a7) (.b a8) (.u8 a9) (.s a10) a11 a12 (.b a13) (.u8 a14) (.s a15) a16 (.s a17) (.b a18) a19
section
variable (call : CallT) (run : RunT) (a0 : AV) (a1 a2 : UInt8) (a3 : Bool) (a4 a5 a6 a7 : UInt8) (a8 : Bool) (a9 : UInt8) (a10 : List UInt8) (a11 a12 : List AV) (a13 : Bool) (a14 : UInt8) (a15 : List UInt8) (a16 : List AV) (a17 : List UInt8) (a18 : Bool) (a19 : List AV)
theorem text19 : unr C call run 19 Tryd.f19 400 [.code body19] (initF C 19 Tryd.f19.ntmps [.un, a0, .ag [.u8 a1, .u8 a2, .b a3, .u8 a4, .u8 a5, .u8 a6, .u8 a7, .b a8, .u8 a9, .s a10, .ro 1 a11, .ro 1 a12, .b a13, .u8 a14, .s a15, .ro 2 a16, .s a17, .un, .b a18], .ag [.ro 4 a19]]) = X19 call run a0 a1 a2 a3 a4 a5 a6 a7 a8 a9 a10 a11 a12 a13 a14 a15 a16 a17 a18 a19 := by
  kernel_rfl
theorem c19 {r : AV} (h : X19 (semCall C Tryd.prog) (semRun C Tryd.prog 19 Tryd.f19) a0 a1 a2 a3 a4 a5 a6 a7 a8 a9 a10 a11 a12 a13 a14 a15 a16 a17 a18 a19 = some r) : semCall C Tryd.prog 19 [.un, a0, .ag [.u8 a1, .u8 a2, .b a3, .u8 a4, .u8 a5, .u8 a6, .u8 a7, .b a8, .u8 a9, .s a10, .ro 1 a11, .ro 1 a12, .b a13, .u8 a14, .s a15, .ro 2 a16, .s a17, .un, .b a18], .ag [.ro 4 a19]] = some r :=
  semCall_unr (fn := Tryd.f19) (c := body19) (by kernel_rfl) (by kernel_rfl) 400 (by kernel_rfl) ((text19 _ _ a0 a1 a2 a3 a4 a5 a6 a7 a8 a9 a10 a11 a12 a13 a14 a15 a16 a17 a18 a19).trans h)
end
noncomputable def X19_2 (call : CallT) (run : RunT) (a0 a1 : AV) (a2 : Int) (a3 a4 a5 a6 a7 a8 a9 a10 a11 a12 : AV) (a13 a14 : List AV) (a15 a16 a17 : AV) (a18 : List AV) (a19 a20 : AV) (a21 : List AV) : Option AV :=
  (binI .lss (.int a2) (a1)).bind fun v1 => condM (v1)
  ((idx 1 (a0) (.int a2)).bind fun v2 => condM (a20)
  (some (.tu [.int ((-1)), .ag [a3, a4, a5, a6, a7, a8, a9, a10, a11, a12, .ro 1 a13, .ro 1 a14, a15, a16, a17, .ro 2 a18, a19, .un, a20], .ag [.ro 4 a21]]))
  ((call 29 [.un, AV.cell (v2) 0, .ag [a3, a4, a5, a6, a7, a8, a9, a10, a11, a12, .ro 1 a13, .ro 1 a14, a15, a16, a17, .ro 2 a18, a19, .un, a20], .ag [.ro 4 a21]]).bind fun v3 => (tupI v3 0).bind fun v4 => (tupI v3 1).bind fun v5 => (AV.asAg 19 v5).bind fun v6 => (tupI v3 2).bind fun v7 => (AV.asAg 1 v7).bind fun v8 => (binI .eql (v6.getD 0 .un) (.u8 20)).bind fun v9 => condM (v9)
  (some (.tu [.int a2, .ag [v6.getD 0 .un, v6.getD 1 .un, v6.getD 2 .un, v6.getD 3 .un, v6.getD 4 .un, v6.getD 5 .un, v6.getD 6 .un, v6.getD 7 .un, v6.getD 8 .un, v6.getD 9 .un, .ro 1 (AV.elems (v6.getD 10 .un)), .ro 1 (AV.elems (v6.getD 11 .un)), v6.getD 12 .un, v6.getD 13 .un, v6.getD 14 .un, .ro 2 (AV.elems (v6.getD 15 .un)), v6.getD 16 .un, .un, v6.getD 18 .un], .ag [.ro 4 (AV.elems (v8.getD 0 .un))]]))
  (F19_2 run (a0) (a1) (w64 (a2 + 1)) (v6.getD 0 .un) (v6.getD 1 .un) (v6.getD 2 .un) (v6.getD 3 .un) (v6.getD 4 .un) (v6.getD 5 .un) (v6.getD 6 .un) (v6.getD 7 .un) (v6.getD 8 .un) (v6.getD 9 .un) (AV.elems (v6.getD 10 .un)) (AV.elems (v6.getD 11 .un)) (v6.getD 12 .un) (v6.getD 13 .un) (v6.getD 14 .un) (AV.elems (v6.getD 15 .un)) (v6.getD 16 .un) (v6.getD 18 .un) (AV.elems (v8.getD 0 .un)))))
  ((call 30 [.un, .ag [a3, a4, a5, a6, a7, a8, a9, a10, a11, a12, .ro 1 a13, .ro 1 [], a15, a16, a17, .ro 2 a18, a19, .un, a20], .ag [.ro 4 a21]]).bind fun v10 => (tupI v10 0).bind fun v11 => (tupI v10 1).bind fun v12 => (AV.asAg 19 v12).bind fun v13 => (tupI v10 2).bind fun v14 => (AV.asAg 1 v14).bind fun v15 => some (.tu [.int ((-1)), .ag [v13.getD 0 .un, v13.getD 1 .un, v13.getD 2 .un, v13.getD 3 .un, v13.getD 4 .un, v13.getD 5 .un, v13.getD 6 .un, v13.getD 7 .un, v13.getD 8 .un, v13.getD 9 .un, .ro 1 (AV.elems (v13.getD 10 .un)), .ro 1 (AV.elems (v13.getD 11 .un)), v13.getD 12 .un, v13.getD 13 .un, v13.getD 14 .un, v13.getD 15 .un, v13.getD 16 .un, .un, v13.getD 18 .un], .ag [.ro 4 (AV.elems (v15.getD 0 .un))]]))
section
variable (call : CallT) (run : RunT) (a0 a1 : AV) (a2 : Int) (a3 a4 a5 a6 a7 a8 a9 a10 a11 a12 : AV) (a13 a14 : List AV) (a15 a16 a17 : AV) (a18 : List AV) (a19 a20 : AV) (a21 : List AV)
theorem text19_2 : step C call 19 Tryd.f19 (unr C call run 19 Tryd.f19 400) K19_2 (S19_2 a0 a1 a2 a3 a4 a5 a6 a7 a8 a9 a10 a11 a12 a13 a14 a15 a16 a17 a18 a19 a20 a21) = X19_2 call run a0 a1 a2 a3 a4 a5 a6 a7 a8 a9 a10 a11 a12 a13 a14 a15 a16 a17 a18 a19 a20 a21 := by
  kernel_rfl
end
section
variable (a0 a1 : AV) (a2 : Int) (a3 a4 a5 a6 a7 a8 a9 a10 a11 a12 : AV) (a13 a14 : List AV) (a15 a16 a17 : AV) (a18 : List AV) (a19 a20 : AV) (a21 : List AV)
theorem r19_2 {r : AV} (h : X19_2 (semCall C Tryd.prog) (semRun C Tryd.prog 19 Tryd.f19) a0 a1 a2 a3 a4 a5 a6 a7 a8 a9 a10 a11 a12 a13 a14 a15 a16 a17 a18 a19 a20 a21 = some r) : F19_2 (semRun C Tryd.prog 19 Tryd.f19) a0 a1 a2 a3 a4 a5 a6 a7 a8 a9 a10 a11 a12 a13 a14 a15 a16 a17 a18 a19 a20 a21 = some r :=
  semRun_unr 400 ((text19_2 _ _ a0 a1 a2 a3 a4 a5 a6 a7 a8 a9 a10 a11 a12 a13 a14 a15 a16 a17 a18 a19 a20 a21).trans h)
end
end R4

namespace R4
open Go Go.Proofs Sx
noncomputable def body29 : Code := (Tryd.f29.body).getD .skip
section
variable (run : RunT) (a0 a1 a2 : UInt8) (a3 : Bool) (a4 a5 a6 a7 : UInt8) (a8 : Bool) (a9 : UInt8) (a10 : List UInt8) (a11 a12 a13 a14 a15 a16 a17 a18 a19 a20 : AV) (a21 a22 : List AV) (a23 : Bool) (a24 : UInt8) (a25 : List UInt8) (a26 : List AV) (a27 : List UInt8) (a28 : Bool) (a29 : List AV)
noncomputable def K29_7 : List Item := (kAt 7 body29 []).getD []
def S29_7 : St := St.ofL [(0, .cell (.ptr 48 0)), (1, .cell (.val (.u8 a0))), (4, .cell (.ptr 4 0))] [(4, some [.val (.u8 a1), .val (.u8 a2), .val (.b a3), .val (.u8 a4), .val (.u8 a5), .val (.u8 a6), .val (.u8 a7), .val (.b a8), .val (.u8 a9), .val (.s a10)]), (48, some [.val (a11), .val (a12), .val (a13), .val (a14), .val (a15), .val (a16), .val (a17), .val (a18), .val (a19), .val (a20), .own 648010 5 1 a21, .own 648011 5 1 a22, .val (.b a23), .val (.u8 a24), .val (.s a25), .own 648015 45 2 a26, .val (.s a27), .clo 18 [49], .val (.b a28)]), (49, some [.own 649000 39 4 a29])]
noncomputable def F29_7 : Option AV := run K29_7 (S29_7 a0 a1 a2 a3 a4 a5 a6 a7 a8 a9 a10 a11 a12 a13 a14 a15 a16 a17 a18 a19 a20 a21 a22 a23 a24 a25 a26 a27 a28 a29)
end
section
variable (run : RunT) (a0 a1 a2 a3 : UInt8) (a4 : Bool) (a5 a6 a7 a8 : UInt8) (a9 : Bool) (a10 : UInt8) (a11 : List UInt8) (a12 a13 a14 a15 a16 a17 a18 a19 a20 a21 : AV) (a22 a23 : List AV) (a24 : Bool) (a25 : UInt8) (a26 : List UInt8) (a27 : List AV) (a28 : List UInt8) (a29 : Bool) (a30 : List AV)
noncomputable def K29_8 : List Item := (kAt 8 body29 []).getD []
def S29_8 : St := St.ofL [(0, .cell (.ptr 48 0)), (1, .cell (.val (.u8 a0))), (4, .cell (.ptr 4 0)), (16, .cell (.val (.u8 a1)))] [(4, some [.val (.u8 a2), .val (.u8 a3), .val (.b a4), .val (.u8 a5), .val (.u8 a6), .val (.u8 a7), .val (.u8 a8), .val (.b a9), .val (.u8 a10), .val (.s a11)]), (48, some [.val (a12), .val (a13), .val (a14), .val (a15), .val (a16), .val (a17), .val (a18), .val (a19), .val (a20), .val (a21), .own 648010 5 1 a22, .own 648011 5 1 a23, .val (.b a24), .val (.u8 a25), .val (.s a26), .own 648015 45 2 a27, .val (.s a28), .clo 18 [49], .val (.b a29)]), (49, some [.own 649000 39 4 a30])]
noncomputable def F29_8 : Option AV := run K29_8 (S29_8 a0 a1 a2 a3 a4 a5 a6 a7 a8 a9 a10 a11 a12 a13 a14 a15 a16 a17 a18 a19 a20 a21 a22 a23 a24 a25 a26 a27 a28 a29 a30)
end
section
variable (run : RunT) (a0 a1 a2 : UInt8) (a3 : Bool) (a4 a5 a6 a7 : UInt8) (a8 : Bool) (a9 : UInt8) (a10 : List UInt8) (a11 a12 a13 a14 a15 a16 a17 a18 a19 a20 : AV) (a21 a22 : List AV) (a23 : Bool) (a24 : UInt8) (a25 : List UInt8) (a26 : List AV) (a27 : List UInt8) (a28 : Bool) (a29 : List AV)
noncomputable def K29_11 : List Item := (kAt 11 body29 []).getD []
def S29_11 : St := St.ofL [(0, .cell (.ptr 48 0)), (1, .cell (.val (.u8 a0))), (4, .cell (.ptr 4 0))] [(4, some [.val (.u8 a1), .val (.u8 a2), .val (.b a3), .val (.u8 a4), .val (.u8 a5), .val (.u8 a6), .val (.u8 a7), .val (.b a8), .val (.u8 a9), .val (.s a10)]), (48, some [.val (a11), .val (a12), .val (a13), .val (a14), .val (a15), .val (a16), .val (a17), .val (a18), .val (a19), .val (a20), .own 648010 5 1 a21, .own 648011 5 1 a22, .val (.b a23), .val (.u8 a24), .val (.s a25), .own 648015 45 2 a26, .val (.s a27), .clo 18 [49], .val (.b a28)]), (49, some [.own 649000 39 4 a29])]
noncomputable def F29_11 : Option AV := run K29_11 (S29_11 a0 a1 a2 a3 a4 a5 a6 a7 a8 a9 a10 a11 a12 a13 a14 a15 a16 a17 a18 a19 a20 a21 a22 a23 a24 a25 a26 a27 a28 a29)
end
section
variable (run : RunT) (a0 a1 a2 a3 : UInt8) (a4 : Bool) (a5 a6 a7 a8 : UInt8) (a9 : Bool) (a10 : UInt8) (a11 : List UInt8) (a12 a13 a14 a15 a16 a17 a18 a19 a20 a21 : AV) (a22 a23 : List AV) (a24 : Bool) (a25 : UInt8) (a26 : List UInt8) (a27 : List AV) (a28 : List UInt8) (a29 : Bool) (a30 : List AV)
noncomputable def K29_12 : List Item := (kAt 12 body29 []).getD []
def S29_12 : St := St.ofL [(0, .cell (.ptr 48 0)), (1, .cell (.val (.u8 a0))), (4, .cell (.ptr 4 0)), (16, .cell (.val (.u8 a1)))] [(4, some [.val (.u8 a2), .val (.u8 a3), .val (.b a4), .val (.u8 a5), .val (.u8 a6), .val (.u8 a7), .val (.u8 a8), .val (.b a9), .val (.u8 a10), .val (.s a11)]), (48, some [.val (a12), .val (a13), .val (a14), .val (a15), .val (a16), .val (a17), .val (a18), .val (a19), .val (a20), .val (a21), .own 648010 5 1 a22, .own 648011 5 1 a23, .val (.b a24), .val (.u8 a25), .val (.s a26), .own 648015 45 2 a27, .val (.s a28), .clo 18 [49], .val (.b a29)]), (49, some [.own 649000 39 4 a30])]
noncomputable def F29_12 : Option AV := run K29_12 (S29_12 a0 a1 a2 a3 a4 a5 a6 a7 a8 a9 a10 a11 a12 a13 a14 a15 a16 a17 a18 a19 a20 a21 a22 a23 a24 a25 a26 a27 a28 a29 a30)
end
section
variable (run : RunT) (a0 a1 a2 : UInt8) (a3 : Bool) (a4 a5 a6 a7 : UInt8) (a8 : Bool) (a9 : UInt8) (a10 : List UInt8) (a11 a12 a13 a14 a15 a16 a17 a18 a19 a20 : AV) (a21 a22 : List AV) (a23 : Bool) (a24 : UInt8) (a25 : List UInt8) (a26 : List AV) (a27 : List UInt8) (a28 : Bool) (a29 : List AV)
noncomputable def K29_18 : List Item := (kAt 18 body29 []).getD []
def S29_18 : St := St.ofL [(0, .cell (.ptr 48 0)), (1, .cell (.val (.u8 a0))), (4, .cell (.ptr 4 0))] [(4, some [.val (.u8 a1), .val (.u8 a2), .val (.b a3), .val (.u8 a4), .val (.u8 a5), .val (.u8 a6), .val (.u8 a7), .val (.b a8), .val (.u8 a9), .val (.s a10)]), (48, some [.val (a11), .val (a12), .val (a13), .val (a14), .val (a15), .val (a16), .val (a17), .val (a18), .val (a19), .val (a20), .own 648010 5 1 a21, .own 648011 5 1 a22, .val (.b a23), .val (.u8 a24), .val (.s a25), .own 648015 45 2 a26, .val (.s a27), .clo 18 [49], .val (.b a28)]), (49, some [.own 649000 39 4 a29])]
noncomputable def F29_18 : Option AV := run K29_18 (S29_18 a0 a1 a2 a3 a4 a5 a6 a7 a8 a9 a10 a11 a12 a13 a14 a15 a16 a17 a18 a19 a20 a21 a22 a23 a24 a25 a26 a27 a28 a29)
end
section
variable (run : RunT) (a0 a1 a2 : UInt8) (a3 : Bool) (a4 a5 a6 a7 : UInt8) (a8 : Bool) (a9 : UInt8) (a10 : List UInt8) (a11 a12 a13 a14 a15 a16 a17 a18 a19 a20 : AV) (a21 a22 : List AV) (a23 : Bool) (a24 : UInt8) (a25 : List UInt8) (a26 : List AV) (a27 : List UInt8) (a28 : Bool) (a29 : List AV)
noncomputable def K29_3 : List Item := (kAt 3 body29 []).getD []
def S29_3 : St := St.ofL [(0, .cell (.ptr 48 0)), (1, .cell (.val (.u8 a0))), (4, .cell (.ptr 4 0))] [(4, some [.val (.u8 a1), .val (.u8 a2), .val (.b a3), .val (.u8 a4), .val (.u8 a5), .val (.u8 a6), .val (.u8 a7), .val (.b a8), .val (.u8 a9), .val (.s a10)]), (48, some [.val (a11), .val (a12), .val (a13), .val (a14), .val (a15), .val (a16), .val (a17), .val (a18), .val (a19), .val (a20), .own 648010 5 1 a21, .own 648011 5 1 a22, .val (.b a23), .val (.u8 a24), .val (.s a25), .own 648015 45 2 a26, .val (.s a27), .clo 18 [49], .val (.b a28)]), (49, some [.own 649000 39 4 a29])]
noncomputable def F29_3 : Option AV := run K29_3 (S29_3 a0 a1 a2 a3 a4 a5 a6 a7 a8 a9 a10 a11 a12 a13 a14 a15 a16 a17 a18 a19 a20 a21 a22 a23 a24 a25 a26 a27 a28 a29)
end
noncomputable def X29 (call : CallT) (run : RunT) (a0 a1 a2 : UInt8) (a3 : Bool) (a4 a5 a6 a7 : UInt8) (a8 : Bool) (a9 : UInt8) (a10 : List UInt8) (a11 a12 : List AV) (a13 : Bool) (a14 : UInt8) (a15 : List UInt8) (a16 : List AV) (a17 : List UInt8) (a18 : Bool) (a19 : List AV) : Option AV :=
  (call 28 [.ag [.u8 a1, .u8 a2, .b a3, .u8 a4, .u8 a5, .u8 a6, .u8 a7, .b a8, .u8 a9, .s a10], .u8 a0]).bind fun v1 => (AV.asAg 10 (v1)).bind fun v2 => condM (.b (ueq a1 0))
  (F29_7 run a0 a1 a2 a3 a4 a5 a6 a7 a8 a9 a10 (v2.getD 0 .un) (v2.getD 1 .un) (v2.getD 2 .un) (v2.getD 3 .un) (v2.getD 4 .un) (v2.getD 5 .un) (v2.getD 6 .un) (v2.getD 7 .un) (v2.getD 8 .un) (v2.getD 9 .un) a11 a12 a13 a14 a15 a16 a17 a18 a19)
  (condM (.b (ueq a1 1))
  (F29_7 run a0 a1 a2 a3 a4 a5 a6 a7 a8 a9 a10 (v2.getD 0 .un) (v2.getD 1 .un) (v2.getD 2 .un) (v2.getD 3 .un) (v2.getD 4 .un) (v2.getD 5 .un) (v2.getD 6 .un) (v2.getD 7 .un) (v2.getD 8 .un) (v2.getD 9 .un) a11 a12 a13 a14 a15 a16 a17 a18 a19)
  (condM (.b (ueq a1 2))
  (F29_7 run a0 a1 a2 a3 a4 a5 a6 a7 a8 a9 a10 (v2.getD 0 .un) (v2.getD 1 .un) (v2.getD 2 .un) (v2.getD 3 .un) (v2.getD 4 .un) (v2.getD 5 .un) (v2.getD 6 .un) (v2.getD 7 .un) (v2.getD 8 .un) (v2.getD 9 .un) a11 a12 a13 a14 a15 a16 a17 a18 a19)
  (F29_8 run a0 a1 a1 a2 a3 a4 a5 a6 a7 a8 a9 a10 (v2.getD 0 .un) (v2.getD 1 .un) (v2.getD 2 .un) (v2.getD 3 .un) (v2.getD 4 .un) (v2.getD 5 .un) (v2.getD 6 .un) (v2.getD 7 .un) (v2.getD 8 .un) (v2.getD 9 .un) a11 a12 a13 a14 a15 a16 a17 a18 a19)))
section
variable (call : CallT) (run : RunT) (a0 a1 a2 : UInt8) (a3 : Bool) (a4 a5 a6 a7 : UInt8) (a8 : Bool) (a9 : UInt8) (a10 : List UInt8) (a11 a12 : List AV) (a13 : Bool) (a14 : UInt8) (a15 : List UInt8) (a16 : List AV) (a17 : List UInt8) (a18 : Bool) (a19 : List AV)
theorem text29 : unr C call run 29 Tryd.f29 400 [.code body29] (initF C 29 Tryd.f29.ntmps [.un, .u8 a0, .ag [.u8 a1, .u8 a2, .b a3, .u8 a4, .u8 a5, .u8 a6, .u8 a7, .b a8, .u8 a9, .s a10, .ro 1 a11, .ro 1 a12, .b a13, .u8 a14, .s a15, .ro 2 a16, .s a17, .un, .b a18], .ag [.ro 4 a19]]) = X29 call run a0 a1 a2 a3 a4 a5 a6 a7 a8 a9 a10 a11 a12 a13 a14 a15 a16 a17 a18 a19 := by
  kernel_rfl
theorem c29 {r : AV} (h : X29 (semCall C Tryd.prog) (semRun C Tryd.prog 29 Tryd.f29) a0 a1 a2 a3 a4 a5 a6 a7 a8 a9 a10 a11 a12 a13 a14 a15 a16 a17 a18 a19 = some r) : semCall C Tryd.prog 29 [.un, .u8 a0, .ag [.u8 a1, .u8 a2, .b a3, .u8 a4, .u8 a5, .u8 a6, .u8 a7, .b a8, .u8 a9, .s a10, .ro 1 a11, .ro 1 a12, .b a13, .u8 a14, .s a15, .ro 2 a16, .s a17, .un, .b a18], .ag [.ro 4 a19]] = some r :=
  semCall_unr (fn := Tryd.f29) (c := body29) (by kernel_rfl) (by kernel_rfl) 400 (by kernel_rfl) ((text29 _ _ a0 a1 a2 a3 a4 a5 a6 a7 a8 a9 a10 a11 a12 a13 a14 a15 a16 a17 a18 a19).trans h)
end
noncomputable def X29_7 (call : CallT) (run : RunT) (a0 a1 a2 : UInt8) (a3 : Bool) (a4 a5 a6 a7 : UInt8) (a8 : Bool) (a9 : UInt8) (a10 : List UInt8) (a11 a12 a13 a14 a15 a16 a17 a18 a19 a20 : AV) (a21 a22 : List AV) (a23 : Bool) (a24 : UInt8) (a25 : List UInt8) (a26 : List AV) (a27 : List UInt8) (a28 : Bool) (a29 : List AV) : Option AV :=
  (call 46 [.un, .ag [.u8 a1, .u8 a2, .b a3, .u8 a4, .u8 a5, .u8 a6, .u8 a7, .b a8, .u8 a9, .s a10], .u8 a0, .ag [a11, a12, a13, a14, a15, a16, a17, a18, a19, a20, .ro 1 a21, .ro 1 a22, .b a23, .u8 a24, .s a25, .ro 2 a26, .s a27, .un, .b a28], .ag [.ro 4 a29]]).bind fun v1 => (tupI v1 0).bind fun v2 => (tupI v1 1).bind fun v3 => (AV.asAg 19 v3).bind fun v4 => (tupI v1 2).bind fun v5 => (AV.asAg 1 v5).bind fun v6 => some (.tu [.tu [], .ag [v4.getD 0 .un, v4.getD 1 .un, v4.getD 2 .un, v4.getD 3 .un, v4.getD 4 .un, v4.getD 5 .un, v4.getD 6 .un, v4.getD 7 .un, v4.getD 8 .un, v4.getD 9 .un, .ro 1 (AV.elems (v4.getD 10 .un)), .ro 1 (AV.elems (v4.getD 11 .un)), v4.getD 12 .un, v4.getD 13 .un, v4.getD 14 .un, .ro 2 (AV.elems (v4.getD 15 .un)), v4.getD 16 .un, .un, v4.getD 18 .un], .ag [.ro 4 (AV.elems (v6.getD 0 .un))]])
section
variable (call : CallT) (run : RunT) (a0 a1 a2 : UInt8) (a3 : Bool) (a4 a5 a6 a7 : UInt8) (a8 : Bool) (a9 : UInt8) (a10 : List UInt8) (a11 a12 a13 a14 a15 a16 a17 a18 a19 a20 : AV) (a21 a22 : List AV) (a23 : Bool) (a24 : UInt8) (a25 : List UInt8) (a26 : List AV) (a27 : List UInt8) (a28 : Bool) (a29 : List AV)
theorem text29_7 : step C call 29 Tryd.f29 (unr C call run 29 Tryd.f29 400) K29_7 (S29_7 a0 a1 a2 a3 a4 a5 a6 a7 a8 a9 a10 a11 a12 a13 a14 a15 a16 a17 a18 a19 a20 a21 a22 a23 a24 a25 a26 a27 a28 a29) = X29_7 call run a0 a1 a2 a3 a4 a5 a6 a7 a8 a9 a10 a11 a12 a13 a14 a15 a16 a17 a18 a19 a20 a21 a22 a23 a24 a25 a26 a27 a28 a29 := by
  kernel_rfl
end
noncomputable def X29_8 (call : CallT) (run : RunT) (a0 a1 a2 a3 : UInt8) (a4 : Bool) (a5 a6 a7 a8 : UInt8) (a9 : Bool) (a10 : UInt8) (a11 : List UInt8) (a12 a13 a14 a15 a16 a17 a18 a19 a20 a21 : AV) (a22 a23 : List AV) (a24 : Bool) (a25 : UInt8) (a26 : List UInt8) (a27 : List AV) (a28 : List UInt8) (a29 : Bool) (a30 : List AV) : Option AV :=
  condM (.b (ueq a1 17))
  (F29_11 run a0 a2 a3 a4 a5 a6 a7 a8 a9 a10 a11 (a12) (a13) (a14) (a15) (a16) (a17) (a18) (a19) (a20) (a21) a22 a23 a24 a25 a26 a27 a28 a29 a30)
  (condM (.b (ueq a1 18))
  (F29_11 run a0 a2 a3 a4 a5 a6 a7 a8 a9 a10 a11 (a12) (a13) (a14) (a15) (a16) (a17) (a18) (a19) (a20) (a21) a22 a23 a24 a25 a26 a27 a28 a29 a30)
  (condM (.b (ueq a1 19))
  (F29_11 run a0 a2 a3 a4 a5 a6 a7 a8 a9 a10 a11 (a12) (a13) (a14) (a15) (a16) (a17) (a18) (a19) (a20) (a21) a22 a23 a24 a25 a26 a27 a28 a29 a30)
  (F29_12 run a0 a1 a2 a3 a4 a5 a6 a7 a8 a9 a10 a11 (a12) (a13) (a14) (a15) (a16) (a17) (a18) (a19) (a20) (a21) a22 a23 a24 a25 a26 a27 a28 a29 a30)))
section
variable (call : CallT) (run : RunT) (a0 a1 a2 a3 : UInt8) (a4 : Bool) (a5 a6 a7 a8 : UInt8) (a9 : Bool) (a10 : UInt8) (a11 : List UInt8) (a12 a13 a14 a15 a16 a17 a18 a19 a20 a21 : AV) (a22 a23 : List AV) (a24 : Bool) (a25 : UInt8) (a26 : List UInt8) (a27 : List AV) (a28 : List UInt8) (a29 : Bool) (a30 : List AV)
theorem text29_8 : step C call 29 Tryd.f29 (unr C call run 29 Tryd.f29 400) K29_8 (S29_8 a0 a1 a2 a3 a4 a5 a6 a7 a8 a9 a10 a11 a12 a13 a14 a15 a16 a17 a18 a19 a20 a21 a22 a23 a24 a25 a26 a27 a28 a29 a30) = X29_8 call run a0 a1 a2 a3 a4 a5 a6 a7 a8 a9 a10 a11 a12 a13 a14 a15 a16 a17 a18 a19 a20 a21 a22 a23 a24 a25 a26 a27 a28 a29 a30 := by
  kernel_rfl
end
noncomputable def X29_11 (call : CallT) (run : RunT) (a0 a1 a2 : UInt8) (a3 : Bool) (a4 a5 a6 a7 : UInt8) (a8 : Bool) (a9 : UInt8) (a10 : List UInt8) (a11 a12 a13 a14 a15 a16 a17 a18 a19 a20 : AV) (a21 a22 : List AV) (a23 : Bool) (a24 : UInt8) (a25 : List UInt8) (a26 : List AV) (a27 : List UInt8) (a28 : Bool) (a29 : List AV) : Option AV :=
  (call 47 [.un, .ag [.u8 a1, .u8 a2, .b a3, .u8 a4, .u8 a5, .u8 a6, .u8 a7, .b a8, .u8 a9, .s a10], .u8 a0, .ag [a11, a12, a13, a14, a15, a16, a17, a18, a19, a20, .ro 1 a21, .ro 1 a22, .b a23, .u8 a24, .s a25, .ro 2 a26, .s a27, .un, .b a28], .ag [.ro 4 a29]]).bind fun v1 => (tupI v1 0).bind fun v2 => (tupI v1 1).bind fun v3 => (AV.asAg 19 v3).bind fun v4 => (tupI v1 2).bind fun v5 => (AV.asAg 1 v5).bind fun v6 => some (.tu [.tu [], .ag [v4.getD 0 .un, v4.getD 1 .un, v4.getD 2 .un, v4.getD 3 .un, v4.getD 4 .un, v4.getD 5 .un, v4.getD 6 .un, v4.getD 7 .un, v4.getD 8 .un, v4.getD 9 .un, .ro 1 (AV.elems (v4.getD 10 .un)), .ro 1 (AV.elems (v4.getD 11 .un)), v4.getD 12 .un, v4.getD 13 .un, v4.getD 14 .un, .ro 2 (AV.elems (v4.getD 15 .un)), v4.getD 16 .un, .un, v4.getD 18 .un], .ag [.ro 4 (AV.elems (v6.getD 0 .un))]])
section
variable (call : CallT) (run : RunT) (a0 a1 a2 : UInt8) (a3 : Bool) (a4 a5 a6 a7 : UInt8) (a8 : Bool) (a9 : UInt8) (a10 : List UInt8) (a11 a12 a13 a14 a15 a16 a17 a18 a19 a20 : AV) (a21 a22 : List AV) (a23 : Bool) (a24 : UInt8) (a25 : List UInt8) (a26 : List AV) (a27 : List UInt8) (a28 : Bool) (a29 : List AV)
theorem text29_11 : step C call 29 Tryd.f29 (unr C call run 29 Tryd.f29 400) K29_11 (S29_11 a0 a1 a2 a3 a4 a5 a6 a7 a8 a9 a10 a11 a12 a13 a14 a15 a16 a17 a18 a19 a20 a21 a22 a23 a24 a25 a26 a27 a28 a29) = X29_11 call run a0 a1 a2 a3 a4 a5 a6 a7 a8 a9 a10 a11 a12 a13 a14 a15 a16 a17 a18 a19 a20 a21 a22 a23 a24 a25 a26 a27 a28 a29 := by
  kernel_rfl
end
noncomputable def X29_12 (call : CallT) (run : RunT) (a0 a1 a2 a3 : UInt8) (a4 : Bool) (a5 a6 a7 a8 : UInt8) (a9 : Bool) (a10 : UInt8) (a11 : List UInt8) (a12 a13 a14 a15 a16 a17 a18 a19 a20 a21 : AV) (a22 a23 : List AV) (a24 : Bool) (a25 : UInt8) (a26 : List UInt8) (a27 : List AV) (a28 : List UInt8) (a29 : Bool) (a30 : List AV) : Option AV :=
  condM (.b (ueq a1 11))
  (F29_18 run a0 a2 a3 a4 a5 a6 a7 a8 a9 a10 a11 (a12) (a13) (a14) (a15) (a16) (a17) (a18) (a19) (a20) (a21) a22 a23 a24 a25 a26 a27 a28 a29 a30)
  (condM (.b (ueq a1 12))
  (F29_18 run a0 a2 a3 a4 a5 a6 a7 a8 a9 a10 a11 (a12) (a13) (a14) (a15) (a16) (a17) (a18) (a19) (a20) (a21) a22 a23 a24 a25 a26 a27 a28 a29 a30)
  (condM (.b (ueq a1 13))
  (F29_18 run a0 a2 a3 a4 a5 a6 a7 a8 a9 a10 a11 (a12) (a13) (a14) (a15) (a16) (a17) (a18) (a19) (a20) (a21) a22 a23 a24 a25 a26 a27 a28 a29 a30)
  (condM (.b (ueq a1 14))
  (F29_18 run a0 a2 a3 a4 a5 a6 a7 a8 a9 a10 a11 (a12) (a13) (a14) (a15) (a16) (a17) (a18) (a19) (a20) (a21) a22 a23 a24 a25 a26 a27 a28 a29 a30)
  (condM (.b (ueq a1 15))
  (F29_18 run a0 a2 a3 a4 a5 a6 a7 a8 a9 a10 a11 (a12) (a13) (a14) (a15) (a16) (a17) (a18) (a19) (a20) (a21) a22 a23 a24 a25 a26 a27 a28 a29 a30)
  (condM (.b (ueq a1 16))
  (F29_18 run a0 a2 a3 a4 a5 a6 a7 a8 a9 a10 a11 (a12) (a13) (a14) (a15) (a16) (a17) (a18) (a19) (a20) (a21) a22 a23 a24 a25 a26 a27 a28 a29 a30)
  (F29_3 run a0 a2 a3 a4 a5 a6 a7 a8 a9 a10 a11 (a12) (a13) (a14) (a15) (a16) (a17) (a18) (a19) (a20) (a21) a22 a23 a24 a25 a26 a27 a28 a29 a30))))))
section
variable (call : CallT) (run : RunT) (a0 a1 a2 a3 : UInt8) (a4 : Bool) (a5 a6 a7 a8 : UInt8) (a9 : Bool) (a10 : UInt8) (a11 : List UInt8) (a12 a13 a14 a15 a16 a17 a18 a19 a20 a21 : AV) (a22 a23 : List AV) (a24 : Bool) (a25 : UInt8) (a26 : List UInt8) (a27 : List AV) (a28 : List UInt8) (a29 : Bool) (a30 : List AV)
theorem text29_12 : step C call 29 Tryd.f29 (unr C call run 29 Tryd.f29 400) K29_12 (S29_12 a0 a1 a2 a3 a4 a5 a6 a7 a8 a9 a10 a11 a12 a13 a14 a15 a16 a17 a18 a19 a20 a21 a22 a23 a24 a25 a26 a27 a28 a29 a30) = X29_12 call run a0 a1 a2 a3 a4 a5 a6 a7 a8 a9 a10 a11 a12 a13 a14 a15 a16 a17 a18 a19 a20 a21 a22 a23 a24 a25 a26 a27 a28 a29 a30 := by
  kernel_rfl
end
noncomputable def X29_18 (call : CallT) (run : RunT) (a0 a1 a2 : UInt8) (a3 : Bool) (a4 a5 a6 a7 : UInt8) (a8 : Bool) (a9 : UInt8) (a10 : List UInt8) (a11 a12 a13 a14 a15 a16 a17 a18 a19 a20 : AV) (a21 a22 : List AV) (a23 : Bool) (a24 : UInt8) (a25 : List UInt8) (a26 : List AV) (a27 : List UInt8) (a28 : Bool) (a29 : List AV) : Option AV :=
  (call 48 [.un, .ag [.u8 a1, .u8 a2, .b a3, .u8 a4, .u8 a5, .u8 a6, .u8 a7, .b a8, .u8 a9, .s a10], .u8 a0, .ag [a11, a12, a13, a14, a15, a16, a17, a18, a19, a20, .ro 1 a21, .ro 1 a22, .b a23, .u8 a24, .s a25, .ro 2 a26, .s a27, .un, .b a28], .ag [.ro 4 a29]]).bind fun v1 => (tupI v1 0).bind fun v2 => (tupI v1 1).bind fun v3 => (AV.asAg 19 v3).bind fun v4 => (tupI v1 2).bind fun v5 => (AV.asAg 1 v5).bind fun v6 => some (.tu [.tu [], .ag [v4.getD 0 .un, v4.getD 1 .un, v4.getD 2 .un, v4.getD 3 .un, v4.getD 4 .un, v4.getD 5 .un, v4.getD 6 .un, v4.getD 7 .un, v4.getD 8 .un, v4.getD 9 .un, .ro 1 (AV.elems (v4.getD 10 .un)), .ro 1 (AV.elems (v4.getD 11 .un)), v4.getD 12 .un, v4.getD 13 .un, v4.getD 14 .un, .ro 2 (AV.elems (v4.getD 15 .un)), v4.getD 16 .un, .un, v4.getD 18 .un], .ag [.ro 4 (AV.elems (v6.getD 0 .un))]])
section
variable (call : CallT) (run : RunT) (a0 a1 a2 : UInt8) (a3 : Bool) (a4 a5 a6 a7 : UInt8) (a8 : Bool) (a9 : UInt8) (a10 : List UInt8) (a11 a12 a13 a14 a15 a16 a17 a18 a19 a20 : AV) (a21 a22 : List AV) (a23 : Bool) (a24 : UInt8) (a25 : List UInt8) (a26 : List AV) (a27 : List UInt8) (a28 : Bool) (a29 : List AV)
theorem text29_18 : step C call 29 Tryd.f29 (unr C call run 29 Tryd.f29 400) K29_18 (S29_18 a0 a1 a2 a3 a4 a5 a6 a7 a8 a9 a10 a11 a12 a13 a14 a15 a16 a17 a18 a19 a20 a21 a22 a23 a24 a25 a26 a27 a28 a29) = X29_18 call run a0 a1 a2 a3 a4 a5 a6 a7 a8 a9 a10 a11 a12 a13 a14 a15 a16 a17 a18 a19 a20 a21 a22 a23 a24 a25 a26 a27 a28 a29 := by
  kernel_rfl
end
noncomputable def X29_3 (call : CallT) (run : RunT) (a0 a1 a2 : UInt8) (a3 : Bool) (a4 a5 a6 a7 : UInt8) (a8 : Bool) (a9 : UInt8) (a10 : List UInt8) (a11 a12 a13 a14 a15 a16 a17 a18 a19 a20 : AV) (a21 a22 : List AV) (a23 : Bool) (a24 : UInt8) (a25 : List UInt8) (a26 : List AV) (a27 : List UInt8) (a28 : Bool) (a29 : List AV) : Option AV :=
  (call 49 [.un, .ag [.u8 a1, .u8 a2, .b a3, .u8 a4, .u8 a5, .u8 a6, .u8 a7, .b a8, .u8 a9, .s a10], .u8 a0, .ag [a11, a12, a13, a14, a15, a16, a17, a18, a19, a20, .ro 1 a21, .ro 1 a22, .b a23, .u8 a24, .s a25, .ro 2 a26, .s a27, .un, .b a28], .ag [.ro 4 a29]]).bind fun v1 => (tupI v1 0).bind fun v2 => (tupI v1 1).bind fun v3 => (AV.asAg 19 v3).bind fun v4 => (tupI v1 2).bind fun v5 => (AV.asAg 1 v5).bind fun v6 => some (.tu [.tu [], .ag [v4.getD 0 .un, v4.getD 1 .un, v4.getD 2 .un, v4.getD 3 .un, v4.getD 4 .un, v4.getD 5 .un, v4.getD 6 .un, v4.getD 7 .un, v4.getD 8 .un, v4.getD 9 .un, .ro 1 (AV.elems (v4.getD 10 .un)), .ro 1 (AV.elems (v4.getD 11 .un)), v4.getD 12 .un, v4.getD 13 .un, v4.getD 14 .un, .ro 2 (AV.elems (v4.getD 15 .un)), v4.getD 16 .un, .un, v4.getD 18 .un], .ag [.ro 4 (AV.elems (v6.getD 0 .un))]])
section
variable (call : CallT) (run : RunT) (a0 a1 a2 : UInt8) (a3 : Bool) (a4 a5 a6 a7 : UInt8) (a8 : Bool) (a9 : UInt8) (a10 : List UInt8) (a11 a12 a13 a14 a15 a16 a17 a18 a19 a20 : AV) (a21 a22 : List AV) (a23 : Bool) (a24 : UInt8) (a25 : List UInt8) (a26 : List AV) (a27 : List UInt8) (a28 : Bool) (a29 : List AV)
theorem text29_3 : step C call 29 Tryd.f29 (unr C call run 29 Tryd.f29 400) K29_3 (S29_3 a0 a1 a2 a3 a4 a5 a6 a7 a8 a9 a10 a11 a12 a13 a14 a15 a16 a17 a18 a19 a20 a21 a22 a23 a24 a25 a26 a27 a28 a29) = X29_3 call run a0 a1 a2 a3 a4 a5 a6 a7 a8 a9 a10 a11 a12 a13 a14 a15 a16 a17 a18 a19 a20 a21 a22 a23 a24 a25 a26 a27 a28 a29 := by
  kernel_rfl
end
section
variable (a0 a1 a2 : UInt8) (a3 : Bool) (a4 a5 a6 a7 : UInt8) (a8 : Bool) (a9 : UInt8) (a10 : List UInt8) (a11 a12 a13 a14 a15 a16 a17 a18 a19 a20 : AV) (a21 a22 : List AV) (a23 : Bool) (a24 : UInt8) (a25 : List UInt8) (a26 : List AV) (a27 : List UInt8) (a28 : Bool) (a29 : List AV)
theorem r29_7 {r : AV} (h : X29_7 (semCall C Tryd.prog) (semRun C Tryd.prog 29 Tryd.f29) a0 a1 a2 a3 a4 a5 a6 a7 a8 a9 a10 a11 a12 a13 a14 a15 a16 a17 a18 a19 a20 a21 a22 a23 a24 a25 a26 a27 a28 a29 = some r) : F29_7 (semRun C Tryd.prog 29 Tryd.f29) a0 a1 a2 a3 a4 a5 a6 a7 a8 a9 a10 a11 a12 a13 a14 a15 a16 a17 a18 a19 a20 a21 a22 a23 a24 a25 a26 a27 a28 a29 = some r :=
  semRun_unr 400 ((text29_7 _ _ a0 a1 a2 a3 a4 a5 a6 a7 a8 a9 a10 a11 a12 a13 a14 a15 a16 a17 a18 a19 a20 a21 a22 a23 a24 a25 a26 a27 a28 a29).trans h)
end
section
variable (a0 a1 a2 a3 : UInt8) (a4 : Bool) (a5 a6 a7 a8 : UInt8) (a9 : Bool) (a10 : UInt8) (a11 : List UInt8) (a12 a13 a14 a15 a16 a17 a18 a19 a20 a21 : AV) (a22 a23 : List AV) (a24 : Bool) (a25 : UInt8) (a26 : List UInt8) (a27 : List AV) (a28 : List UInt8) (a29 : Bool) (a30 : List AV)
theorem r29_8 {r : AV} (h : X29_8 (semCall C Tryd.prog) (semRun C Tryd.prog 29 Tryd.f29) a0 a1 a2 a3 a4 a5 a6 a7 a8 a9 a10 a11 a12 a13 a14 a15 a16 a17 a18 a19 a20 a21 a22 a23 a24 a25 a26 a27 a28 a29 a30 = some r) : F29_8 (semRun C Tryd.prog 29 Tryd.f29) a0 a1 a2 a3 a4 a5 a6 a7 a8 a9 a10 a11 a12 a13 a14 a15 a16 a17 a18 a19 a20 a21 a22 a23 a24 a25 a26 a27 a28 a29 a30 = some r :=
  semRun_unr 400 ((text29_8 _ _ a0 a1 a2 a3 a4 a5 a6 a7 a8 a9 a10 a11 a12 a13 a14 a15 a16 a17 a18 a19 a20 a21 a22 a23 a24 a25 a26 a27 a28 a29 a30).trans h)
end
section
variable (a0 a1 a2 : UInt8) (a3 : Bool) (a4 a5 a6 a7 : UInt8) (a8 : Bool) (a9 : UInt8) (a10 : List UInt8) (a11 a12 a13 a14 a15 a16 a17 a18 a19 a20 : AV) (a21 a22 : List AV) (a23 : Bool) (a24 : UInt8) (a25 : List UInt8) (a26 : List AV) (a27 : List UInt8) (a28 : Bool) (a29 : List AV)
theorem r29_11 {r : AV} (h : X29_11 (semCall C Tryd.prog) (semRun C Tryd.prog 29 Tryd.f29) a0 a1 a2 a3 a4 a5 a6 a7 a8 a9 a10 a11 a12 a13 a14 a15 a16 a17 a18 a19 a20 a21 a22 a23 a24 a25 a26 a27 a28 a29 = some r) : F29_11 (semRun C Tryd.prog 29 Tryd.f29) a0 a1 a2 a3 a4 a5 a6 a7 a8 a9 a10 a11 a12 a13 a14 a15 a16 a17 a18 a19 a20 a21 a22 a23 a24 a25 a26 a27 a28 a29 = some r :=
  semRun_unr 400 ((text29_11 _ _ a0 a1 a2 a3 a4 a5 a6 a7 a8 a9 a10 a11 a12 a13 a14 a15 a16 a17 a18 a19 a20 a21 a22 a23 a24 a25 a26 a27 a28 a29).trans h)
end
section
variable (a0 a1 a2 a3 : UInt8) (a4 : Bool) (a5 a6 a7 a8 : UInt8) (a9 : Bool) (a10 : UInt8) (a11 : List UInt8) (a12 a13 a14 a15 a16 a17 a18 a19 a20 a21 : AV) (a22 a23 : List AV) (a24 : Bool) (a25 : UInt8) (a26 : List UInt8) (a27 : List AV) (a28 : List UInt8) (a29 : Bool) (a30 : List AV)
theorem r29_12 {r : AV} (h : X29_12 (semCall C Tryd.prog) (semRun C Tryd.prog 29 Tryd.f29) a0 a1 a2 a3 a4 a5 a6 a7 a8 a9 a10 a11 a12 a13 a14 a15 a16 a17 a18 a19 a20 a21 a22 a23 a24 a25 a26 a27 a28 a29 a30 = some r) : F29_12 (semRun C Tryd.prog 29 Tryd.f29) a0 a1 a2 a3 a4 a5 a6 a7 a8 a9 a10 a11 a12 a13 a14 a15 a16 a17 a18 a19 a20 a21 a22 a23 a24 a25 a26 a27 a28 a29 a30 = some r :=
  semRun_unr 400 ((text29_12 _ _ a0 a1 a2 a3 a4 a5 a6 a7 a8 a9 a10 a11 a12 a13 a14 a15 a16 a17 a18 a19 a20 a21 a22 a23 a24 a25 a26 a27 a28 a29 a30).trans h)
end
section
variable (a0 a1 a2 : UInt8) (a3 : Bool) (a4 a5 a6 a7 : UInt8) (a8 : Bool) (a9 : UInt8) (a10 : List UInt8) (a11 a12 a13 a14 a15 a16 a17 a18 a19 a20 : AV) (a21 a22 : List AV) (a23 : Bool) (a24 : UInt8) (a25 : List UInt8) (a26 : List AV) (a27 : List UInt8) (a28 : Bool) (a29 : List AV)
theorem r29_18 {r : AV} (h : X29_18 (semCall C Tryd.prog) (semRun C Tryd.prog 29 Tryd.f29) a0 a1 a2 a3 a4 a5 a6 a7 a8 a9 a10 a11 a12 a13 a14 a15 a16 a17 a18 a19 a20 a21 a22 a23 a24 a25 a26 a27 a28 a29 = some r) : F29_18 (semRun C Tryd.prog 29 Tryd.f29) a0 a1 a2 a3 a4 a5 a6 a7 a8 a9 a10 a11 a12 a13 a14 a15 a16 a17 a18 a19 a20 a21 a22 a23 a24 a25 a26 a27 a28 a29 = some r :=
  semRun_unr 400 ((text29_18 _ _ a0 a1 a2 a3 a4 a5 a6 a7 a8 a9 a10 a11 a12 a13 a14 a15 a16 a17 a18 a19 a20 a21 a22 a23 a24 a25 a26 a27 a28 a29).trans h)
end
section
variable (a0 a1 a2 : UInt8) (a3 : Bool) (a4 a5 a6 a7 : UInt8) (a8 : Bool) (a9 : UInt8) (a10 : List UInt8) (a11 a12 a13 a14 a15 a16 a17 a18 a19 a20 : AV) (a21 a22 : List AV) (a23 : Bool) (a24 : UInt8) (a25 : List UInt8) (a26 : List AV) (a27 : List UInt8) (a28 : Bool) (a29 : List AV)
theorem r29_3 {r : AV} (h : X29_3 (semCall C Tryd.prog) (semRun C Tryd.prog 29 Tryd.f29) a0 a1 a2 a3 a4 a5 a6 a7 a8 a9 a10 a11 a12 a13 a14 a15 a16 a17 a18 a19 a20 a21 a22 a23 a24 a25 a26 a27 a28 a29 = some r) : F29_3 (semRun C Tryd.prog 29 Tryd.f29) a0 a1 a2 a3 a4 a5 a6 a7 a8 a9 a10 a11 a12 a13 a14 a15 a16 a17 a18 a19 a20 a21 a22 a23 a24 a25 a26 a27 a28 a29 = some r :=
  semRun_unr 400 ((text29_3 _ _ a0 a1 a2 a3 a4 a5 a6 a7 a8 a9 a10 a11 a12 a13 a14 a15 a16 a17 a18 a19 a20 a21 a22 a23 a24 a25 a26 a27 a28 a29).trans h)
end
end R4

namespace R4
open Go Go.Proofs Sx
noncomputable def body5 : Code := (Tryd.f5.body).getD .skip
section
variable (run : RunT) (a0 : AV) (a1 : List AV) (a2 : Int)
noncomputable def K5_5 : List Item := (kAt 5 body5 []).getD []
def S5_5 : St := St.ofL [(0, .cell (.val (a0))), (3, .cell (.own 300003 5 1 a1)), (4, .cell (.val (.int a2)))] []
noncomputable def F5_5 : Option AV := run K5_5 (S5_5 a0 a1 a2)
end
section
variable (run : RunT) (a0 : AV) (a1 : List AV) (a2 : Int)
noncomputable def K5_6 : List Item := (kAt 6 body5 []).getD []
def S5_6 : St := St.ofL [(0, .cell (.val (a0))), (3, .cell (.own 300003 5 1 a1)), (4, .cell (.val (.int a2)))] []
noncomputable def F5_6 : Option AV := run K5_6 (S5_6 a0 a1 a2)
end
noncomputable def X5 (call : CallT) (run : RunT) (a0 : AV) : Option AV :=
  (call 11 []).bind fun v1 => (unop .not (v1)).bind fun v2 => condM (v2)
  (some (.b false))
  (F5_5 run (a0) [] 0)
section
variable (call : CallT) (run : RunT) (a0 : AV)
theorem text5 : unr C call run 5 Tryd.f5 400 [.code body5] (initF C 5 Tryd.f5.ntmps [a0]) = X5 call run a0 := by
  kernel_rfl
theorem c5 {r : AV} (h : X5 (semCall C Tryd.prog) (semRun C Tryd.prog 5 Tryd.f5) a0 = some r) : semCall C Tryd.prog 5 [a0] = some r :=
  semCall_unr (fn := Tryd.f5) (c := body5) (by kernel_rfl) (by kernel_rfl) 400 (by kernel_rfl) ((text5 _ _ a0).trans h)
end
noncomputable def X5_5 (call : CallT) (run : RunT) (a0 : AV) (a1 : List AV) (a2 : Int) : Option AV :=
  (lenR (a0)).bind fun v1 => (binI .lss (.int a2) (v1)).bind fun v2 => condM (v2)
  ((idx 1 (a0) (.int a2)).bind fun v3 => (binI .eql (AV.cell (v3) 0) (.u8 60)).bind fun v4 => condM (v4)
  ((app 1 1 a1 (.s [38, 108, 116, 59])).bind fun v5 => F5_6 run (a0) v5 a2)
  ((idx 1 (a0) (.int a2)).bind fun v6 => (AV.one (AV.cell (v6) 0)).bind fun v7 => (app 1 1 a1 (.ro 1 (([v7] : List AV)))).bind fun v8 => F5_6 run (a0) v8 a2))
  ((call 12 [.ro 1 a1]).bind fun v9 => (AV.asAg 10 (AV.comp (v9) 1)).bind fun v10 => condM (.b (((a1.length : Int)) == 0))
  ((selW (.b ((((AV.elems (AV.comp (v9) 0)).length : Int)) == 0)) true ((binAg [.i, .i, .b, .i, .i, .i, .i, .b, .i, .s] .eql (.ag [v10.getD 0 .un, v10.getD 1 .un, v10.getD 2 .un, v10.getD 3 .un, v10.getD 4 .un, v10.getD 5 .un, v10.getD 6 .un, v10.getD 7 .un, v10.getD 8 .un, v10.getD 9 .un]) (.ag [.u8 0, .u8 0, .b false, .u8 0, .u8 0, .u8 0, .u8 0, .b false, .u8 0, .s []])).bind fun v11 => some (v11)) (.b false)).bind fun v12 => (selW (v12) true ((binI .eql (AV.comp (v9) 2) (.int ((-1)))).bind fun v13 => some (v13)) (.b false)).bind fun v14 => some (v14))
  ((selW (.b ((((AV.elems (AV.comp (v9) 0)).length : Int)) == 1)) true ((inN (AV.elems (AV.comp (v9) 0)).length (.int 0)).bind fun v15 => (binI .eql (AV.cell ((AV.elems (AV.comp (v9) 0)).getD v15 .un) 0) (.u8 0)).bind fun v16 => some (v16)) (.b false)).bind fun v17 => (selW (v17) true ((inN (AV.elems (AV.comp (v9) 0)).length (.int 0)).bind fun v18 => (b2s (.ro 1 a1)).bind fun v19 => (binS .eql (AV.cell ((AV.elems (AV.comp (v9) 0)).getD v18 .un) 3) (v19)).bind fun v20 => some (v20)) (.b false)).bind fun v21 => (selW (v21) true ((binAg [.i, .i, .b, .i, .i, .i, .i, .b, .i, .s] .eql (.ag [v10.getD 0 .un, v10.getD 1 .un, v10.getD 2 .un, v10.getD 3 .un, v10.getD 4 .un, v10.getD 5 .un, v10.getD 6 .un, v10.getD 7 .un, v10.getD 8 .un, v10.getD 9 .un]) (.ag [.u8 0, .u8 0, .b false, .u8 0, .u8 0, .u8 0, .u8 0, .b false, .u8 0, .s []])).bind fun v22 => some (v22)) (.b false)).bind fun v23 => (selW (v23) true ((binI .eql (AV.comp (v9) 2) (.int ((-1)))).bind fun v24 => some (v24)) (.b false)).bind fun v25 => some (v25)))
section
variable (call : CallT) (run : RunT) (a0 : AV) (a1 : List AV) (a2 : Int)
theorem text5_5 : step C call 5 Tryd.f5 (unr C call run 5 Tryd.f5 400) K5_5 (S5_5 a0 a1 a2) = X5_5 call run a0 a1 a2 := by
  kernel_rfl
end
noncomputable def X5_6 (call : CallT) (run : RunT) (a0 : AV) (a1 : List AV) (a2 : Int) : Option AV :=
  F5_5 run (a0) a1 (w64 (a2 + 1))
section
variable (call : CallT) (run : RunT) (a0 : AV) (a1 : List AV) (a2 : Int)
theorem text5_6 : step C call 5 Tryd.f5 (unr C call run 5 Tryd.f5 400) K5_6 (S5_6 a0 a1 a2) = X5_6 call run a0 a1 a2 := by
  kernel_rfl
end
section
variable (a0 : AV) (a1 : List AV) (a2 : Int)
theorem r5_5 {r : AV} (h : X5_5 (semCall C Tryd.prog) (semRun C Tryd.prog 5 Tryd.f5) a0 a1 a2 = some r) : F5_5 (semRun C Tryd.prog 5 Tryd.f5) a0 a1 a2 = some r :=
  semRun_unr 400 ((text5_5 _ _ a0 a1 a2).trans h)
end
section
variable (a0 : AV) (a1 : List AV) (a2 : Int)
theorem r5_6 {r : AV} (h : X5_6 (semCall C Tryd.prog) (semRun C Tryd.prog 5 Tryd.f5) a0 a1 a2 = some r) : F5_6 (semRun C Tryd.prog 5 Tryd.f5) a0 a1 a2 = some r :=
  semRun_unr 400 ((text5_6 _ _ a0 a1 a2).trans h)
end
end R4

namespace R4
open Go Go.Proofs Sx
noncomputable def body8 : Code := (Tryd.f8.body).getD .skip
section
variable (run : RunT) (a0 : AV) (a1 : List AV) (a2 : Int)
noncomputable def K8_5 : List Item := (kAt 5 body8 []).getD []
def S8_5 : St := St.ofL [(0, .cell (.val (a0))), (3, .cell (.own 300003 5 1 a1)), (4, .cell (.val (.int a2)))] []
noncomputable def F8_5 : Option AV := run K8_5 (S8_5 a0 a1 a2)
end
section
variable (run : RunT) (a0 : AV) (a1 : List AV) (a2 : Int)
noncomputable def K8_6 : List Item := (kAt 6 body8 []).getD []
def S8_6 : St := St.ofL [(0, .cell (.val (a0))), (3, .cell (.own 300003 5 1 a1)), (4, .cell (.val (.int a2)))] []
noncomputable def F8_6 : Option AV := run K8_6 (S8_6 a0 a1 a2)
end
noncomputable def X8 (call : CallT) (run : RunT) (a0 : AV) : Option AV :=
  (call 11 []).bind fun v1 => (unop .not (v1)).bind fun v2 => condM (v2)
  (some (.b false))
  (F8_5 run (a0) [] 0)
section
variable (call : CallT) (run : RunT) (a0 : AV)
theorem text8 : unr C call run 8 Tryd.f8 400 [.code body8] (initF C 8 Tryd.f8.ntmps [a0]) = X8 call run a0 := by
  kernel_rfl
theorem c8 {r : AV} (h : X8 (semCall C Tryd.prog) (semRun C Tryd.prog 8 Tryd.f8) a0 = some r) : semCall C Tryd.prog 8 [a0] = some r :=
  semCall_unr (fn := Tryd.f8) (c := body8) (by kernel_rfl) (by kernel_rfl) 400 (by kernel_rfl) ((text8 _ _ a0).trans h)
end
noncomputable def X8_5 (call : CallT) (run : RunT) (a0 : AV) (a1 : List AV) (a2 : Int) : Option AV :=
  (lenR (a0)).bind fun v1 => (binI .lss (.int a2) (v1)).bind fun v2 => condM (v2)
  ((idx 1 (a0) (.int a2)).bind fun v3 => (binI .neq (AV.cell (v3) 0) (.u8 45)).bind fun v4 => (selW (v4) true ((idx 1 (a0) (.int a2)).bind fun v5 => (binI .neq (AV.cell (v5) 0) (.u8 62)).bind fun v6 => some (v6)) (.b false)).bind fun v7 => (selW (v7) true ((idx 1 (a0) (.int a2)).bind fun v8 => (binI .neq (AV.cell (v8) 0) (.u8 33)).bind fun v9 => some (v9)) (.b false)).bind fun v10 => condM (v10)
  ((idx 1 (a0) (.int a2)).bind fun v11 => (AV.one (AV.cell (v11) 0)).bind fun v12 => (app 1 1 a1 (.ro 1 (([v12] : List AV)))).bind fun v13 => F8_6 run (a0) v13 a2)
  (F8_6 run (a0) a1 a2))
  ((b2s (.ro 1 a1)).bind fun v14 => (binS .add (.s [60, 33, 45, 45]) (v14)).bind fun v15 => (binS .add (v15) (.s [45, 45, 62])).bind fun v16 => (s2b (v16)).bind fun v17 => (call 12 [v17]).bind fun v18 => (AV.asAg 10 (AV.comp (v18) 1)).bind fun v19 => (b2s (.ro 1 a1)).bind fun v20 => (binS .add (.s [60, 33]) (v20)).bind fun v21 => (binS .add (v21) (.s [62])).bind fun v22 => (s2b (v22)).bind fun v23 => (call 12 [v23]).bind fun v24 => (AV.asAg 10 (AV.comp (v24) 1)).bind fun v25 => (b2s (.ro 1 a1)).bind fun v26 => (binS .add (.s [60, 63]) (v26)).bind fun v27 => (binS .add (v27) (.s [62])).bind fun v28 => (s2b (v28)).bind fun v29 => (call 12 [v29]).bind fun v30 => (AV.asAg 10 (AV.comp (v30) 1)).bind fun v31 => (binI .neq (AV.comp (v18) 2) (.int ((-1)))).bind fun v32 => (selW (v32) false ((binI .neq (AV.comp (v24) 2) (.int ((-1)))).bind fun v33 => some (v33)) (.b true)).bind fun v34 => (selW (v34) false ((binI .neq (AV.comp (v30) 2) (.int ((-1)))).bind fun v35 => some (v35)) (.b true)).bind fun v36 => (selW (v36) false ((binAg [.i, .i, .b, .i, .i, .i, .i, .b, .i, .s] .neq (.ag [v19.getD 0 .un, v19.getD 1 .un, v19.getD 2 .un, v19.getD 3 .un, v19.getD 4 .un, v19.getD 5 .un, v19.getD 6 .un, v19.getD 7 .un, v19.getD 8 .un, v19.getD 9 .un]) (.ag [.u8 0, .u8 0, .b false, .u8 0, .u8 0, .u8 0, .u8 0, .b false, .u8 0, .s []])).bind fun v37 => some (v37)) (.b true)).bind fun v38 => (selW (v38) false ((binAg [.i, .i, .b, .i, .i, .i, .i, .b, .i, .s] .neq (.ag [v25.getD 0 .un, v25.getD 1 .un, v25.getD 2 .un, v25.getD 3 .un, v25.getD 4 .un, v25.getD 5 .un, v25.getD 6 .un, v25.getD 7 .un, v25.getD 8 .un, v25.getD 9 .un]) (.ag [v19.getD 0 .un, v19.getD 1 .un, v19.getD 2 .un, v19.getD 3 .un, v19.getD 4 .un, v19.getD 5 .un, v19.getD 6 .un, v19.getD 7 .un, v19.getD 8 .un, v19.getD 9 .un])).bind fun v39 => some (v39)) (.b true)).bind fun v40 => (selW (v40) false ((binAg [.i, .i, .b, .i, .i, .i, .i, .b, .i, .s] .neq (.ag [v31.getD 0 .un, v31.getD 1 .un, v31.getD 2 .un, v31.getD 3 .un, v31.getD 4 .un, v31.getD 5 .un, v31.getD 6 .un, v31.getD 7 .un, v31.getD 8 .un, v31.getD 9 .un]) (.ag [v19.getD 0 .un, v19.getD 1 .un, v19.getD 2 .un, v19.getD 3 .un, v19.getD 4 .un, v19.getD 5 .un, v19.getD 6 .un, v19.getD 7 .un, v19.getD 8 .un, v19.getD 9 .un])).bind fun v41 => some (v41)) (.b true)).bind fun v42 => (selW (v42) false (some (.b ((((AV.elems (AV.comp (v18) 0)).length : Int)) != 1))) (.b true)).bind fun v43 => (selW (v43) false (some (.b ((((AV.elems (AV.comp (v24) 0)).length : Int)) != 1))) (.b true)).bind fun v44 => (selW (v44) false (some (.b ((((AV.elems (AV.comp (v30) 0)).length : Int)) != 1))) (.b true)).bind fun v45 => condM (v45)
  (some (.b false))
  ((inN (AV.elems (AV.comp (v18) 0)).length (.int 0)).bind fun v46 => (binI .eql (AV.cell ((AV.elems (AV.comp (v18) 0)).getD v46 .un) 0) (.u8 3)).bind fun v47 => (selW (v47) true ((inN (AV.elems (AV.comp (v18) 0)).length (.int 0)).bind fun v48 => (b2s (.ro 1 a1)).bind fun v49 => (binS .eql (AV.cell ((AV.elems (AV.comp (v18) 0)).getD v48 .un) 3) (v49)).bind fun v50 => some (v50)) (.b false)).bind fun v51 => (selW (v51) true ((inN (AV.elems (AV.comp (v24) 0)).length (.int 0)).bind fun v52 => (binI .eql (AV.cell ((AV.elems (AV.comp (v24) 0)).getD v52 .un) 0) (.u8 4)).bind fun v53 => some (v53)) (.b false)).bind fun v54 => (selW (v54) true ((inN (AV.elems (AV.comp (v24) 0)).length (.int 0)).bind fun v55 => (b2s (.ro 1 a1)).bind fun v56 => (binS .eql (AV.cell ((AV.elems (AV.comp (v24) 0)).getD v55 .un) 3) (v56)).bind fun v57 => some (v57)) (.b false)).bind fun v58 => (selW (v58) true ((inN (AV.elems (AV.comp (v30) 0)).length (.int 0)).bind fun v59 => (binI .eql (AV.cell ((AV.elems (AV.comp (v30) 0)).getD v59 .un) 0) (.u8 4)).bind fun v60 => some (v60)) (.b false)).bind fun v61 => (selW (v61) true ((inN (AV.elems (AV.comp (v30) 0)).length (.int 0)).bind fun v62 => (b2s (.ro 1 a1)).bind fun v63 => (binS .add (.s [63]) (v63)).bind fun v64 => (binS .eql (AV.cell ((AV.elems (AV.comp (v30) 0)).getD v62 .un) 3) (v64)).bind fun v65 => some (v65)) (.b false)).bind fun v66 => some (v66)))
section
variable (call : CallT) (run : RunT) (a0 : AV) (a1 : List AV) (a2 : Int)
theorem text8_5 : step C call 8 Tryd.f8 (unr C call run 8 Tryd.f8 400) K8_5 (S8_5 a0 a1 a2) = X8_5 call run a0 a1 a2 := by
  kernel_rfl
end
noncomputable def X8_6 (call : CallT) (run : RunT) (a0 : AV) (a1 : List AV) (a2 : Int) : Option AV :=
  F8_5 run (a0) a1 (w64 (a2 + 1))
section
variable (call : CallT) (run : RunT) (a0 : AV) (a1 : List AV) (a2 : Int)
theorem text8_6 : step C call 8 Tryd.f8 (unr C call run 8 Tryd.f8 400) K8_6 (S8_6 a0 a1 a2) = X8_6 call run a0 a1 a2 := by
  kernel_rfl
end
section
variable (a0 : AV) (a1 : List AV) (a2 : Int)
theorem r8_5 {r : AV} (h : X8_5 (semCall C Tryd.prog) (semRun C Tryd.prog 8 Tryd.f8) a0 a1 a2 = some r) : F8_5 (semRun C Tryd.prog 8 Tryd.f8) a0 a1 a2 = some r :=
  semRun_unr 400 ((text8_5 _ _ a0 a1 a2).trans h)
end
section
variable (a0 : AV) (a1 : List AV) (a2 : Int)
theorem r8_6 {r : AV} (h : X8_6 (semCall C Tryd.prog) (semRun C Tryd.prog 8 Tryd.f8) a0 a1 a2 = some r) : F8_6 (semRun C Tryd.prog 8 Tryd.f8) a0 a1 a2 = some r :=
  semRun_unr 400 ((text8_6 _ _ a0 a1 a2).trans h)
end
end R4

namespace R4
open Go Go.Proofs Sx
noncomputable def body11 : Code := (Tryd.f11.body).getD .skip
noncomputable def X11 (call : CallT) (run : RunT)  : Option AV :=
  (call 12 [.ro 1 (([.u8 60, .u8 98, .u8 62] : List AV))]).bind fun v1 => (AV.asAg 10 (AV.comp (v1) 1)).bind fun v2 => (binI .eql (AV.comp (v1) 2) (.int ((-1)))).bind fun v3 => (selW (v3) true (some (.b ((((AV.elems (AV.comp (v1) 0)).length : Int)) == 1))) (.b false)).bind fun v4 => (selW (v4) true ((inN (AV.elems (AV.comp (v1) 0)).length (.int 0)).bind fun v5 => (binI .eql (AV.cell ((AV.elems (AV.comp (v1) 0)).getD v5 .un) 0) (.u8 1)).bind fun v6 => some (v6)) (.b false)).bind fun v7 => (selW (v7) true ((inN (AV.elems (AV.comp (v1) 0)).length (.int 0)).bind fun v8 => (binS .eql (AV.cell ((AV.elems (AV.comp (v1) 0)).getD v8 .un) 1) (.s [98])).bind fun v9 => some (v9)) (.b false)).bind fun v10 => some (v10)
section
variable (call : CallT) (run : RunT) 
theorem text11 : unr C call run 11 Tryd.f11 400 [.code body11] (initF C 11 Tryd.f11.ntmps []) = X11 call run  := by
  kernel_rfl
theorem c11 {r : AV} (h : X11 (semCall C Tryd.prog) (semRun C Tryd.prog 11 Tryd.f11)  = some r) : semCall C Tryd.prog 11 [] = some r :=
  semCall_unr (fn := Tryd.f11) (c := body11) (by kernel_rfl) (by kernel_rfl) 400 (by kernel_rfl) ((text11 _ _ ).trans h)
end
end R4

namespace R4
open Go Go.Proofs Sx
noncomputable def body6 : Code := (Tryd.f6.body).getD .skip
section
variable (run : RunT) (a0 a1 a2 : AV) (a3 : List UInt8) (a4 : UInt8)
noncomputable def K6_9 : List Item := (kAt 9 body6 []).getD []
def S6_9 : St := St.ofL [(1, .cell (.val (a0))), (2, .cell (.val (a1))), (9, .cell (.val (a2))), (10, .cell (.val (.s a3))), (11, .cell (.val (.u8 a4)))] []
noncomputable def F6_9 : Option AV := run K6_9 (S6_9 a0 a1 a2 a3 a4)
end
section
variable (run : RunT) (a0 a1 a2 a3 : AV) (a4 : UInt8) (a5 : AV) (a6 : List AV) (a7 : Int)
noncomputable def K6_13 : List Item := (kAt 13 body6 []).getD []
def S6_13 : St := St.ofL [(1, .cell (.val (a0))), (2, .cell (.val (a1))), (9, .cell (.val (a2))), (10, .cell (.val (a3))), (11, .cell (.val (.u8 a4))), (12, .cell (.val (a5))), (13, .cell (.own 300013 9 1 a6)), (14, .cell (.val (.int a7)))] []
noncomputable def F6_13 : Option AV := run K6_13 (S6_13 a0 a1 a2 a3 a4 a5 a6 a7)
end
section
variable (run : RunT) (a0 a1 a2 a3 : AV) (a4 : UInt8) (a5 : AV) (a6 : List AV) (a7 : Int) (a8 : AV) (a9 : Int)
noncomputable def K6_17 : List Item := (kAt 17 body6 []).getD []
def S6_17 : St := St.ofL [(1, .cell (.val (a0))), (2, .cell (.val (a1))), (9, .cell (.val (a2))), (10, .cell (.val (a3))), (11, .cell (.val (.u8 a4))), (12, .cell (.val (a5))), (13, .cell (.own 300013 9 1 a6)), (14, .cell (.val (.int a7))), (15, .cell (.val (a8))), (16, .cell (.val (.int a9)))] []
noncomputable def F6_17 : Option AV := run K6_17 (S6_17 a0 a1 a2 a3 a4 a5 a6 a7 a8 a9)
end
section
variable (run : RunT) (a0 a1 : AV) (a2 a3 : List AV) (a4 : Int)
noncomputable def K6_28 : List Item := (kAt 28 body6 []).getD []
def S6_28 : St := St.ofL [(1, .cell (.val (a0))), (12, .cell (.val (a1))), (13, .cell (.own 300013 9 1 a2)), (17, .cell (.own 100088 39 4 a3)), (20, .cell (.val (.int a4)))] []
noncomputable def F6_28 : Option AV := run K6_28 (S6_28 a0 a1 a2 a3 a4)
end
section
variable (run : RunT) (a0 a1 a2 a3 : AV) (a4 : UInt8) (a5 : AV) (a6 : List AV) (a7 : Int) (a8 : AV) (a9 : Int)
noncomputable def K6_18 : List Item := (kAt 18 body6 []).getD []
def S6_18 : St := St.ofL [(1, .cell (.val (a0))), (2, .cell (.val (a1))), (9, .cell (.val (a2))), (10, .cell (.val (a3))), (11, .cell (.val (.u8 a4))), (12, .cell (.val (a5))), (13, .cell (.own 300013 9 1 a6)), (14, .cell (.val (.int a7))), (15, .cell (.val (a8))), (16, .cell (.val (.int a9)))] []
noncomputable def F6_18 : Option AV := run K6_18 (S6_18 a0 a1 a2 a3 a4 a5 a6 a7 a8 a9)
end
noncomputable def X6 (call : CallT) (run : RunT) (a0 a1 a2 : AV) (a3 : Bool) : Option AV :=
  (call 11 []).bind fun v1 => (unop .not (v1)).bind fun v2 => condM (v2)
  (some (.b false))
  ((call 15 [a0]).bind fun v3 => condM (.b a3)
  (F6_9 run (a1) (a2) (v3) [60, 47] 2)
  (F6_9 run (a1) (a2) (v3) [60] 1))
section
variable (call : CallT) (run : RunT) (a0 a1 a2 : AV) (a3 : Bool)
theorem text6 : unr C call run 6 Tryd.f6 400 [.code body6] (initF C 6 Tryd.f6.ntmps [a0, a1, a2, .b a3]) = X6 call run a0 a1 a2 a3 := by
  kernel_rfl
theorem c6 {r : AV} (h : X6 (semCall C Tryd.prog) (semRun C Tryd.prog 6 Tryd.f6) a0 a1 a2 a3 = some r) : semCall C Tryd.prog 6 [a0, a1, a2, .b a3] = some r :=
  semCall_unr (fn := Tryd.f6) (c := body6) (by kernel_rfl) (by kernel_rfl) 400 (by kernel_rfl) ((text6 _ _ a0 a1 a2 a3).trans h)
end
noncomputable def X6_9 (call : CallT) (run : RunT) (a0 a1 a2 : AV) (a3 : List UInt8) (a4 : UInt8) : Option AV :=
  (binS .add (.s a3) (a2)).bind fun v1 => (lenR (a0)).bind fun v2 => (lenR (a1)).bind fun v3 => ((mm true (v2) (v3)).bind fun w => mm true w (.int 6)).bind fun v4 => F6_13 run (a0) (a1) (a2) (v1) a4 (v4) [] 0
section
variable (call : CallT) (run : RunT) (a0 a1 a2 : AV) (a3 : List UInt8) (a4 : UInt8)
theorem text6_9 : step C call 6 Tryd.f6 (unr C call run 6 Tryd.f6 400) K6_9 (S6_9 a0 a1 a2 a3 a4) = X6_9 call run a0 a1 a2 a3 a4 := by
  kernel_rfl
end
noncomputable def X6_13 (call : CallT) (run : RunT) (a0 a1 a2 a3 : AV) (a4 : UInt8) (a5 : AV) (a6 : List AV) (a7 : Int) : Option AV :=
  (binI .lss (.int a7) (a5)).bind fun v1 => condM (v1)
  (F6_17 run (a0) (a1) (a2) (a3) a4 (a5) a6 a7 (.s []) 0)
  ((binS .add (a3) (.s [62])).bind fun v2 => (s2b (v2)).bind fun v3 => (call 12 [v3]).bind fun v4 => (AV.asAg 10 (AV.comp (v4) 1)).bind fun v5 => (binI .neq (AV.comp (v4) 2) (.int ((-1)))).bind fun v6 => (selW (v6) false ((binAg [.i, .i, .b, .i, .i, .i, .i, .b, .i, .s] .neq (.ag [v5.getD 0 .un, v5.getD 1 .un, v5.getD 2 .un, v5.getD 3 .un, v5.getD 4 .un, v5.getD 5 .un, v5.getD 6 .un, v5.getD 7 .un, v5.getD 8 .un, v5.getD 9 .un]) (.ag [.u8 0, .u8 0, .b false, .u8 0, .u8 0, .u8 0, .u8 0, .b false, .u8 0, .s []])).bind fun v7 => some (v7)) (.b true)).bind fun v8 => (selW (v8) false (some (.b ((((AV.elems (AV.comp (v4) 0)).length : Int)) != 1))) (.b true)).bind fun v9 => (selW (v9) false ((inN (AV.elems (AV.comp (v4) 0)).length (.int 0)).bind fun v10 => (binI .neq (AV.cell ((AV.elems (AV.comp (v4) 0)).getD v10 .un) 0) (.u8 a4)).bind fun v11 => some (v11)) (.b true)).bind fun v12 => (selW (v12) false ((inN (AV.elems (AV.comp (v4) 0)).length (.int 0)).bind fun v13 => (binS .neq (AV.cell ((AV.elems (AV.comp (v4) 0)).getD v13 .un) 1) (a2)).bind fun v14 => some (v14)) (.b true)).bind fun v15 => (selW (v15) false ((inN (AV.elems (AV.comp (v4) 0)).length (.int 0)).bind fun v16 => (lenR (AV.cell ((AV.elems (AV.comp (v4) 0)).getD v16 .un) 2)).bind fun v17 => (binI .neq (v17) (a5)).bind fun v18 => some (v18)) (.b true)).bind fun v19 => condM (v19)
  (some (.b false))
  (F6_28 run (a0) (a5) a6 (AV.elems (AV.comp (v4) 0)) 0))
section
variable (call : CallT) (run : RunT) (a0 a1 a2 a3 : AV) (a4 : UInt8) (a5 : AV) (a6 : List AV) (a7 : Int)
theorem text6_13 : step C call 6 Tryd.f6 (unr C call run 6 Tryd.f6 400) K6_13 (S6_13 a0 a1 a2 a3 a4 a5 a6 a7) = X6_13 call run a0 a1 a2 a3 a4 a5 a6 a7 := by
  kernel_rfl
end
noncomputable def X6_17 (call : CallT) (run : RunT) (a0 a1 a2 a3 : AV) (a4 : UInt8) (a5 : AV) (a6 : List AV) (a7 : Int) (a8 : AV) (a9 : Int) : Option AV :=
  (idx 1 (a1) (.int a7)).bind fun v1 => (lenR (AV.cell (v1) 0)).bind fun v2 => (binI .lss (.int a9) (v2)).bind fun v3 => condM (v3)
  ((idx 1 (a1) (.int a7)).bind fun v4 => (idx 1 (AV.cell (v4) 0) (.int a9)).bind fun v5 => (binI .neq (AV.cell (v5) 0) (.u8 34)).bind fun v6 => condM (v6)
  ((idx 1 (a1) (.int a7)).bind fun v7 => (idx 1 (AV.cell (v7) 0) (.int a9)).bind fun v8 => (AV.one (AV.cell (v8) 0)).bind fun v9 => (b2s (.ro 1 (([v9] : List AV)))).bind fun v10 => (binS .add (a8) (v10)).bind fun v11 => F6_18 run (a0) (a1) (a2) (a3) a4 (a5) a6 a7 (v11) a9)
  (F6_18 run (a0) (a1) (a2) (a3) a4 (a5) a6 a7 (a8) a9))
  ((AV.one (a8)).bind fun v12 => (app 16 1 a6 (.ro 1 (([v12] : List AV)))).bind fun v13 => (idx 1 (a0) (.int a7)).bind fun v14 => (call 15 [AV.cell (v14) 0]).bind fun v15 => (binS .add (.s [32]) (v15)).bind fun v16 => (binS .add (v16) (.s [61, 34])).bind fun v17 => (binS .add (v17) (a8)).bind fun v18 => (binS .add (v18) (.s [34])).bind fun v19 => (binS .add (a3) (v19)).bind fun v20 => F6_13 run (a0) (a1) (a2) (v20) a4 (a5) v13 (w64 (a7 + 1)))
section
variable (call : CallT) (run : RunT) (a0 a1 a2 a3 : AV) (a4 : UInt8) (a5 : AV) (a6 : List AV) (a7 : Int) (a8 : AV) (a9 : Int)
theorem text6_17 : step C call 6 Tryd.f6 (unr C call run 6 Tryd.f6 400) K6_17 (S6_17 a0 a1 a2 a3 a4 a5 a6 a7 a8 a9) = X6_17 call run a0 a1 a2 a3 a4 a5 a6 a7 a8 a9 := by
  kernel_rfl
end
noncomputable def X6_28 (call : CallT) (run : RunT) (a0 a1 : AV) (a2 a3 : List AV) (a4 : Int) : Option AV :=
  (binI .lss (.int a4) (a1)).bind fun v1 => condM (v1)
  ((inN a3.length (.int 0)).bind fun v2 => (idx 2 (AV.cell (a3.getD v2 .un) 2) (.int a4)).bind fun v3 => (idx 1 (a0) (.int a4)).bind fun v4 => (call 15 [AV.cell (v4) 0]).bind fun v5 => (binS .neq (AV.cell (v3) 0) (v5)).bind fun v6 => (selW (v6) false ((inN a3.length (.int 0)).bind fun v7 => (idx 2 (AV.cell (a3.getD v7 .un) 2) (.int a4)).bind fun v8 => (inN a2.length (.int a4)).bind fun v9 => (binS .neq (AV.cell (v8) 1) (AV.cell (a2.getD v9 .un) 0)).bind fun v10 => some (v10)) (.b true)).bind fun v11 => condM (v11)
  (some (.b false))
  (F6_28 run (a0) (a1) a2 a3 (w64 (a4 + 1))))
  (some (.b true))
section
variable (call : CallT) (run : RunT) (a0 a1 : AV) (a2 a3 : List AV) (a4 : Int)
theorem text6_28 : step C call 6 Tryd.f6 (unr C call run 6 Tryd.f6 400) K6_28 (S6_28 a0 a1 a2 a3 a4) = X6_28 call run a0 a1 a2 a3 a4 := by
  kernel_rfl
end
noncomputable def X6_18 (call : CallT) (run : RunT) (a0 a1 a2 a3 : AV) (a4 : UInt8) (a5 : AV) (a6 : List AV) (a7 : Int) (a8 : AV) (a9 : Int) : Option AV :=
  F6_17 run (a0) (a1) (a2) (a3) a4 (a5) a6 a7 (a8) (w64 (a9 + 1))
section
variable (call : CallT) (run : RunT) (a0 a1 a2 a3 : AV) (a4 : UInt8) (a5 : AV) (a6 : List AV) (a7 : Int) (a8 : AV) (a9 : Int)
theorem text6_18 : step C call 6 Tryd.f6 (unr C call run 6 Tryd.f6 400) K6_18 (S6_18 a0 a1 a2 a3 a4 a5 a6 a7 a8 a9) = X6_18 call run a0 a1 a2 a3 a4 a5 a6 a7 a8 a9 := by
  kernel_rfl
end
section
variable (a0 a1 a2 : AV) (a3 : List UInt8) (a4 : UInt8)
theorem r6_9 {r : AV} (h : X6_9 (semCall C Tryd.prog) (semRun C Tryd.prog 6 Tryd.f6) a0 a1 a2 a3 a4 = some r) : F6_9 (semRun C Tryd.prog 6 Tryd.f6) a0 a1 a2 a3 a4 = some r :=
  semRun_unr 400 ((text6_9 _ _ a0 a1 a2 a3 a4).trans h)
end
section
variable (a0 a1 a2 a3 : AV) (a4 : UInt8) (a5 : AV) (a6 : List AV) (a7 : Int)
theorem r6_13 {r : AV} (h : X6_13 (semCall C Tryd.prog) (semRun C Tryd.prog 6 Tryd.f6) a0 a1 a2 a3 a4 a5 a6 a7 = some r) : F6_13 (semRun C Tryd.prog 6 Tryd.f6) a0 a1 a2 a3 a4 a5 a6 a7 = some r :=
  semRun_unr 400 ((text6_13 _ _ a0 a1 a2 a3 a4 a5 a6 a7).trans h)
end
section
variable (a0 a1 a2 a3 : AV) (a4 : UInt8) (a5 : AV) (a6 : List AV) (a7 : Int) (a8 : AV) (a9 : Int)
theorem r6_17 {r : AV} (h : X6_17 (semCall C Tryd.prog) (semRun C Tryd.prog 6 Tryd.f6) a0 a1 a2 a3 a4 a5 a6 a7 a8 a9 = some r) : F6_17 (semRun C Tryd.prog 6 Tryd.f6) a0 a1 a2 a3 a4 a5 a6 a7 a8 a9 = some r :=
  semRun_unr 400 ((text6_17 _ _ a0 a1 a2 a3 a4 a5 a6 a7 a8 a9).trans h)
end
section
variable (a0 a1 : AV) (a2 a3 : List AV) (a4 : Int)
theorem r6_28 {r : AV} (h : X6_28 (semCall C Tryd.prog) (semRun C Tryd.prog 6 Tryd.f6) a0 a1 a2 a3 a4 = some r) : F6_28 (semRun C Tryd.prog 6 Tryd.f6) a0 a1 a2 a3 a4 = some r :=
  semRun_unr 400 ((text6_28 _ _ a0 a1 a2 a3 a4).trans h)
end
section
variable (a0 a1 a2 a3 : AV) (a4 : UInt8) (a5 : AV) (a6 : List AV) (a7 : Int) (a8 : AV) (a9 : Int)
theorem r6_18 {r : AV} (h : X6_18 (semCall C Tryd.prog) (semRun C Tryd.prog 6 Tryd.f6) a0 a1 a2 a3 a4 a5 a6 a7 a8 a9 = some r) : F6_18 (semRun C Tryd.prog 6 Tryd.f6) a0 a1 a2 a3 a4 a5 a6 a7 a8 a9 = some r :=
  semRun_unr 400 ((text6_18 _ _ a0 a1 a2 a3 a4 a5 a6 a7 a8 a9).trans h)
end
end R4

namespace R4
open Go Go.Proofs Sx
noncomputable def body15 : Code := (Tryd.f15.body).getD .skip
section
variable (run : RunT) (a0 a1 : AV) (a2 : Int)
noncomputable def K15_3 : List Item := (kAt 3 body15 []).getD []
def S15_3 : St := St.ofL [(0, .cell (.val (a0))), (3, .cell (.val (a1))), (4, .cell (.val (.int a2)))] []
noncomputable def F15_3 : Option AV := run K15_3 (S15_3 a0 a1 a2)
end
noncomputable def X15 (call : CallT) (run : RunT) (a0 : AV) : Option AV :=
  F15_3 run (a0) (.s [113]) 0
section
variable (call : CallT) (run : RunT) (a0 : AV)
theorem text15 : unr C call run 15 Tryd.f15 400 [.code body15] (initF C 15 Tryd.f15.ntmps [a0]) = X15 call run a0 := by
  kernel_rfl
theorem c15 {r : AV} (h : X15 (semCall C Tryd.prog) (semRun C Tryd.prog 15 Tryd.f15) a0 = some r) : semCall C Tryd.prog 15 [a0] = some r :=
  semCall_unr (fn := Tryd.f15) (c := body15) (by kernel_rfl) (by kernel_rfl) 400 (by kernel_rfl) ((text15 _ _ a0).trans h)
end
noncomputable def X15_3 (call : CallT) (run : RunT) (a0 a1 : AV) (a2 : Int) : Option AV :=
  (lenR (a0)).bind fun v1 => (binI .lss (.int a2) (v1)).bind fun v2 => (selW (v2) true (some (.b (decide (a2 < 11)))) (.b false)).bind fun v3 => condM (v3)
  ((idx 1 (a0) (.int a2)).bind fun v4 => (binI .rem (AV.cell (v4) 0) (.u8 26)).bind fun v5 => (binI .add (.u8 97) (v5)).bind fun v6 => (AV.one (v6)).bind fun v7 => (b2s (.ro 1 (([v7] : List AV)))).bind fun v8 => (binS .add (a1) (v8)).bind fun v9 => F15_3 run (a0) (v9) (w64 (a2 + 1)))
  (some (a1))
section
variable (call : CallT) (run : RunT) (a0 a1 : AV) (a2 : Int)
theorem text15_3 : step C call 15 Tryd.f15 (unr C call run 15 Tryd.f15 400) K15_3 (S15_3 a0 a1 a2) = X15_3 call run a0 a1 a2 := by
  kernel_rfl
end
section
variable (a0 a1 : AV) (a2 : Int)
theorem r15_3 {r : AV} (h : X15_3 (semCall C Tryd.prog) (semRun C Tryd.prog 15 Tryd.f15) a0 a1 a2 = some r) : F15_3 (semRun C Tryd.prog 15 Tryd.f15) a0 a1 a2 = some r :=
  semRun_unr 400 ((text15_3 _ _ a0 a1 a2).trans h)
end
end R4
