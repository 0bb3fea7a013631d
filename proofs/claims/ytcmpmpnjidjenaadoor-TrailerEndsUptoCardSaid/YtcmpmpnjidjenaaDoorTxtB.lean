/-
  What functions of this seat come to, step by step.
-/
import Derived.Test.YtcmpmpnjidjenaaDoorTab
import Derived.Test.YtcmpmpnjidjenaaDoorProg
set_option linter.unusedVariables false
set_option linter.unusedSimpArgs false
set_option linter.unusedSectionVars false
set_option linter.unnecessarySimpa false
namespace R2
open Go Go.Proofs Sx
noncomputable def body39 : Code := (Tryd.f39.body).getD .skip
noncomputable def X39 (call : CallT) (run : RunT) (a0 : AV) : Option AV :=
  (call 60 [.un, a0, .ag [.u8 0, .u8 0, .b false, .u8 0, .u8 0, .u8 0, .u8 0, .b false, .u8 0, .s [], .ro 1 [], .ro 1 [], .b false, .u8 0, .s [], .ro 2 [], .s [], .un, .b false], .ag [.ro 4 []]]).bind fun v1 => (tupI v1 0).bind fun v2 => (tupI v1 1).bind fun v3 => (AV.asAg 19 v3).bind fun v4 => (tupI v1 2).bind fun v5 => (AV.asAg 1 v5).bind fun v6 => some (.tu [.ro 4 (AV.elems (v6.getD 0 .un)), .ag [v4.getD 0 .un, v4.getD 1 .un, v4.getD 2 .un, v4.getD 3 .un, v4.getD 4 .un, v4.getD 5 .un, v4.getD 6 .un, v4.getD 7 .un, v4.getD 8 .un, v4.getD 9 .un], v2])
section
variable (call : CallT) (run : RunT) (a0 : AV)
theorem text39 : unr C call run 39 Tryd.f39 400 [.code body39] (initF C 39 Tryd.f39.ntmps [a0]) = X39 call run a0 := by
  kernel_rfl
theorem c39 {r : AV} (h : X39 (semCall C Tryd.prog) (semRun C Tryd.prog 39 Tryd.f39) a0 = some r) : semCall C Tryd.prog 39 [a0] = some r :=
  semCall_unr (fn := Tryd.f39) (c := body39) (by kernel_rfl) (by kernel_rfl) 400 (by kernel_rfl) ((text39 _ _ a0).trans h)
end
end R2

namespace R2
open Go Go.Proofs Sx
noncomputable def body60 : Code := (Tryd.f60.body).getD .skip
section
variable (run : RunT) (a0 a1 : AV) (a2 : Int) (a3 a4 a5 a6 a7 a8 a9 a10 a11 a12 : AV) (a13 a14 : List AV) (a15 a16 a17 : AV) (a18 : List AV) (a19 a20 : AV) (a21 : List AV)
noncomputable def K60_2 : List Item := (kAt 2 body60 []).getD []
def S60_2 : St := St.ofL [(0, .cell (.ptr 34 0)), (7, .cell (.val (a0))), (8, .cell (.val (a1))), (9, .cell (.val (.int a2)))] [(34, some [.val (a3), .val (a4), .val (a5), .val (a6), .val (a7), .val (a8), .val (a9), .val (a10), .val (a11), .val (a12), .own 634010 5 1 a13, .own 634011 5 1 a14, .val (a15), .val (a16), .val (a17), .own 634015 101 2 a18, .val (a19), .clo 59 [35], .val (a20)]), (35, some [.own 635000 74 4 a21])]
noncomputable def F60_2 : Option AV := run K60_2 (S60_2 a0 a1 a2 a3 a4 a5 a6 a7 a8 a9 a10 a11 a12 a13 a14 a15 a16 a17 a18 a19 a20 a21)
end
noncomputable def X60 (call : CallT) (run : RunT) (a0 : AV) (a1 a2 : UInt8) (a3 : Bool) (a4 a5 a6 a7 : UInt8) (a8 : Bool) (a9 : UInt8) (a10 : List UInt8) (a11 a12 : List AV) (a13 : Bool) (a14 : UInt8) (a15 : List UInt8) (a16 : List AV) (a17 : List UInt8) (a18 : Bool) (a19 : List AV) : Option AV :=
  (lenR (a0)).bind fun v1 => F60_2 run (a0) (v1) 0 (.u8 a1) (.u8 a2) (.b a3) (.u8 a4) (.u8 a5) (.u8 a6) (.u8 a7) (.b a8) (.u8 a9) (.s a10) a11 a12 (.b a13) (.u8 a14) (.s a15) a16 (.s a17) (.b a18) a19
section
variable (call : CallT) (run : RunT) (a0 : AV) (a1 a2 : UInt8) (a3 : Bool) (a4 a5 a6 a7 : UInt8) (a8 : Bool) (a9 : UInt8) (a10 : List UInt8) (a11 a12 : List AV) (a13 : Bool) (a14 : UInt8) (a15 : List UInt8) (a16 : List AV) (a17 : List UInt8) (a18 : Bool) (a19 : List AV)
theorem text60 : unr C call run 60 Tryd.f60 400 [.code body60] (initF C 60 Tryd.f60.ntmps [.un, a0, .ag [.u8 a1, .u8 a2, .b a3, .u8 a4, .u8 a5, .u8 a6, .u8 a7, .b a8, .u8 a9, .s a10, .ro 1 a11, .ro 1 a12, .b a13, .u8 a14, .s a15, .ro 2 a16, .s a17, .un, .b a18], .ag [.ro 4 a19]]) = X60 call run a0 a1 a2 a3 a4 a5 a6 a7 a8 a9 a10 a11 a12 a13 a14 a15 a16 a17 a18 a19 := by
  kernel_rfl
theorem c60 {r : AV} (h : X60 (semCall C Tryd.prog) (semRun C Tryd.prog 60 Tryd.f60) a0 a1 a2 a3 a4 a5 a6 a7 a8 a9 a10 a11 a12 a13 a14 a15 a16 a17 a18 a19 = some r) : semCall C Tryd.prog 60 [.un, a0, .ag [.u8 a1, .u8 a2, .b a3, .u8 a4, .u8 a5, .u8 a6, .u8 a7, .b a8, .u8 a9, .s a10, .ro 1 a11, .ro 1 a12, .b a13, .u8 a14, .s a15, .ro 2 a16, .s a17, .un, .b a18], .ag [.ro 4 a19]] = some r :=
  semCall_unr (fn := Tryd.f60) (c := body60) (by kernel_rfl) (by kernel_rfl) 400 (by kernel_rfl) ((text60 _ _ a0 a1 a2 a3 a4 a5 a6 a7 a8 a9 a10 a11 a12 a13 a14 a15 a16 a17 a18 a19).trans h)
end
noncomputable def X60_2 (call : CallT) (run : RunT) (a0 a1 : AV) (a2 : Int) (a3 a4 a5 a6 a7 a8 a9 a10 a11 a12 : AV) (a13 a14 : List AV) (a15 a16 a17 : AV) (a18 : List AV) (a19 a20 : AV) (a21 : List AV) : Option AV :=
  (binI .lss (.int a2) (a1)).bind fun v1 => condM (v1)
  ((idx 1 (a0) (.int a2)).bind fun v2 => condM (a20)
  (some (.tu [.int ((-1)), .ag [a3, a4, a5, a6, a7, a8, a9, a10, a11, a12, .ro 1 a13, .ro 1 a14, a15, a16, a17, .ro 2 a18, a19, .un, a20], .ag [.ro 4 a21]]))
  ((call 79 [.un, AV.cell (v2) 0, .ag [a3, a4, a5, a6, a7, a8, a9, a10, a11, a12, .ro 1 a13, .ro 1 a14, a15, a16, a17, .ro 2 a18, a19, .un, a20], .ag [.ro 4 a21]]).bind fun v3 => (tupI v3 0).bind fun v4 => (tupI v3 1).bind fun v5 => (AV.asAg 19 v5).bind fun v6 => (tupI v3 2).bind fun v7 => (AV.asAg 1 v7).bind fun v8 => (binI .eql (v6.getD 0 .un) (.u8 20)).bind fun v9 => condM (v9)
  (some (.tu [.int a2, .ag [v6.getD 0 .un, v6.getD 1 .un, v6.getD 2 .un, v6.getD 3 .un, v6.getD 4 .un, v6.getD 5 .un, v6.getD 6 .un, v6.getD 7 .un, v6.getD 8 .un, v6.getD 9 .un, .ro 1 (AV.elems (v6.getD 10 .un)), .ro 1 (AV.elems (v6.getD 11 .un)), v6.getD 12 .un, v6.getD 13 .un, v6.getD 14 .un, .ro 2 (AV.elems (v6.getD 15 .un)), v6.getD 16 .un, .un, v6.getD 18 .un], .ag [.ro 4 (AV.elems (v8.getD 0 .un))]]))
  (F60_2 run (a0) (a1) (w64 (a2 + 1)) (v6.getD 0 .un) (v6.getD 1 .un) (v6.getD 2 .un) (v6.getD 3 .un) (v6.getD 4 .un) (v6.getD 5 .un) (v6.getD 6 .un) (v6.getD 7 .un) (v6.getD 8 .un) (v6.getD 9 .un) (AV.elems (v6.getD 10 .un)) (AV.elems (v6.getD 11 .un)) (v6.getD 12 .un) (v6.getD 13 .un) (v6.getD 14 .un) (AV.elems (v6.getD 15 .un)) (v6.getD 16 .un) (v6.getD 18 .un) (AV.elems (v8.getD 0 .un)))))
  ((call 80 [.un, .ag [a3, a4, a5, a6, a7, a8, a9, a10, a11, a12, .ro 1 a13, .ro 1 [], a15, a16, a17, .ro 2 a18, a19, .un, a20], .ag [.ro 4 a21]]).bind fun v10 => (tupI v10 0).bind fun v11 => (tupI v10 1).bind fun v12 => (AV.asAg 19 v12).bind fun v13 => (tupI v10 2).bind fun v14 => (AV.asAg 1 v14).bind fun v15 => some (.tu [.int ((-1)), .ag [v13.getD 0 .un, v13.getD 1 .un, v13.getD 2 .un, v13.getD 3 .un, v13.getD 4 .un, v13.getD 5 .un, v13.getD 6 .un, v13.getD 7 .un, v13.getD 8 .un, v13.getD 9 .un, .ro 1 (AV.elems (v13.getD 10 .un)), .ro 1 (AV.elems (v13.getD 11 .un)), v13.getD 12 .un, v13.getD 13 .un, v13.getD 14 .un, v13.getD 15 .un, v13.getD 16 .un, .un, v13.getD 18 .un], .ag [.ro 4 (AV.elems (v15.getD 0 .un))]]))
section
variable (call : CallT) (run : RunT) (a0 a1 : AV) (a2 : Int) (a3 a4 a5 a6 a7 a8 a9 a10 a11 a12 : AV) (a13 a14 : List AV) (a15 a16 a17 : AV) (a18 : List AV) (a19 a20 : AV) (a21 : List AV)
theorem text60_2 : step C call 60 Tryd.f60 (unr C call run 60 Tryd.f60 400) K60_2 (S60_2 a0 a1 a2 a3 a4 a5 a6 a7 a8 a9 a10 a11 a12 a13 a14 a15 a16 a17 a18 a19 a20 a21) = X60_2 call run a0 a1 a2 a3 a4 a5 a6 a7 a8 a9 a10 a11 a12 a13 a14 a15 a16 a17 a18 a19 a20 a21 := by
  kernel_rfl
end
section
variable (a0 a1 : AV) (a2 : Int) (a3 a4 a5 a6 a7 a8 a9 a10 a11 a12 : AV) (a13 a14 : List AV) (a15 a16 a17 : AV) (a18 : List AV) (a19 a20 : AV) (a21 : List AV)
theorem r60_2 {r : AV} (h : X60_2 (semCall C Tryd.prog) (semRun C Tryd.prog 60 Tryd.f60) a0 a1 a2 a3 a4 a5 a6 a7 a8 a9 a10 a11 a12 a13 a14 a15 a16 a17 a18 a19 a20 a21 = some r) : F60_2 (semRun C Tryd.prog 60 Tryd.f60) a0 a1 a2 a3 a4 a5 a6 a7 a8 a9 a10 a11 a12 a13 a14 a15 a16 a17 a18 a19 a20 a21 = some r :=
  semRun_unr 400 ((text60_2 _ _ a0 a1 a2 a3 a4 a5 a6 a7 a8 a9 a10 a11 a12 a13 a14 a15 a16 a17 a18 a19 a20 a21).trans h)
end
end R2

namespace R2
open Go Go.Proofs Sx
noncomputable def body79 : Code := (Tryd.f79.body).getD .skip
section
variable (run : RunT) (a0 a1 a2 : UInt8) (a3 : Bool) (a4 a5 a6 a7 : UInt8) (a8 : Bool) (a9 : UInt8) (a10 : List UInt8) (a11 a12 a13 a14 a15 a16 a17 a18 a19 a20 : AV) (a21 a22 : List AV) (a23 : Bool) (a24 : UInt8) (a25 : List UInt8) (a26 : List AV) (a27 : List UInt8) (a28 : Bool) (a29 : List AV)
noncomputable def K79_7 : List Item := (kAt 7 body79 []).getD []
def S79_7 : St := St.ofL [(0, .cell (.ptr 48 0)), (1, .cell (.val (.u8 a0))), (4, .cell (.ptr 4 0))] [(4, some [.val (.u8 a1), .val (.u8 a2), .val (.b a3), .val (.u8 a4), .val (.u8 a5), .val (.u8 a6), .val (.u8 a7), .val (.b a8), .val (.u8 a9), .val (.s a10)]), (48, some [.val (a11), .val (a12), .val (a13), .val (a14), .val (a15), .val (a16), .val (a17), .val (a18), .val (a19), .val (a20), .own 648010 5 1 a21, .own 648011 5 1 a22, .val (.b a23), .val (.u8 a24), .val (.s a25), .own 648015 101 2 a26, .val (.s a27), .clo 59 [49], .val (.b a28)]), (49, some [.own 649000 74 4 a29])]
noncomputable def F79_7 : Option AV := run K79_7 (S79_7 a0 a1 a2 a3 a4 a5 a6 a7 a8 a9 a10 a11 a12 a13 a14 a15 a16 a17 a18 a19 a20 a21 a22 a23 a24 a25 a26 a27 a28 a29)
end
section
variable (run : RunT) (a0 a1 a2 a3 : UInt8) (a4 : Bool) (a5 a6 a7 a8 : UInt8) (a9 : Bool) (a10 : UInt8) (a11 : List UInt8) (a12 a13 a14 a15 a16 a17 a18 a19 a20 a21 : AV) (a22 a23 : List AV) (a24 : Bool) (a25 : UInt8) (a26 : List UInt8) (a27 : List AV) (a28 : List UInt8) (a29 : Bool) (a30 : List AV)
noncomputable def K79_8 : List Item := (kAt 8 body79 []).getD []
def S79_8 : St := St.ofL [(0, .cell (.ptr 48 0)), (1, .cell (.val (.u8 a0))), (4, .cell (.ptr 4 0)), (16, .cell (.val (.u8 a1)))] [(4, some [.val (.u8 a2), .val (.u8 a3), .val (.b a4), .val (.u8 a5), .val (.u8 a6), .val (.u8 a7), .val (.u8 a8), .val (.b a9), .val (.u8 a10), .val (.s a11)]), (48, some [.val (a12), .val (a13), .val (a14), .val (a15), .val (a16), .val (a17), .val (a18), .val (a19), .val (a20), .val (a21), .own 648010 5 1 a22, .own 648011 5 1 a23, .val (.b a24), .val (.u8 a25), .val (.s a26), .own 648015 101 2 a27, .val (.s a28), .clo 59 [49], .val (.b a29)]), (49, some [.own 649000 74 4 a30])]
noncomputable def F79_8 : Option AV := run K79_8 (S79_8 a0 a1 a2 a3 a4 a5 a6 a7 a8 a9 a10 a11 a12 a13 a14 a15 a16 a17 a18 a19 a20 a21 a22 a23 a24 a25 a26 a27 a28 a29 a30)
end
section
variable (run : RunT) (a0 a1 a2 : UInt8) (a3 : Bool) (a4 a5 a6 a7 : UInt8) (a8 : Bool) (a9 : UInt8) (a10 : List UInt8) (a11 a12 a13 a14 a15 a16 a17 a18 a19 a20 : AV) (a21 a22 : List AV) (a23 : Bool) (a24 : UInt8) (a25 : List UInt8) (a26 : List AV) (a27 : List UInt8) (a28 : Bool) (a29 : List AV)
noncomputable def K79_11 : List Item := (kAt 11 body79 []).getD []
def S79_11 : St := St.ofL [(0, .cell (.ptr 48 0)), (1, .cell (.val (.u8 a0))), (4, .cell (.ptr 4 0))] [(4, some [.val (.u8 a1), .val (.u8 a2), .val (.b a3), .val (.u8 a4), .val (.u8 a5), .val (.u8 a6), .val (.u8 a7), .val (.b a8), .val (.u8 a9), .val (.s a10)]), (48, some [.val (a11), .val (a12), .val (a13), .val (a14), .val (a15), .val (a16), .val (a17), .val (a18), .val (a19), .val (a20), .own 648010 5 1 a21, .own 648011 5 1 a22, .val (.b a23), .val (.u8 a24), .val (.s a25), .own 648015 101 2 a26, .val (.s a27), .clo 59 [49], .val (.b a28)]), (49, some [.own 649000 74 4 a29])]
noncomputable def F79_11 : Option AV := run K79_11 (S79_11 a0 a1 a2 a3 a4 a5 a6 a7 a8 a9 a10 a11 a12 a13 a14 a15 a16 a17 a18 a19 a20 a21 a22 a23 a24 a25 a26 a27 a28 a29)
end
section
variable (run : RunT) (a0 a1 a2 a3 : UInt8) (a4 : Bool) (a5 a6 a7 a8 : UInt8) (a9 : Bool) (a10 : UInt8) (a11 : List UInt8) (a12 a13 a14 a15 a16 a17 a18 a19 a20 a21 : AV) (a22 a23 : List AV) (a24 : Bool) (a25 : UInt8) (a26 : List UInt8) (a27 : List AV) (a28 : List UInt8) (a29 : Bool) (a30 : List AV)
noncomputable def K79_12 : List Item := (kAt 12 body79 []).getD []
def S79_12 : St := St.ofL [(0, .cell (.ptr 48 0)), (1, .cell (.val (.u8 a0))), (4, .cell (.ptr 4 0)), (16, .cell (.val (.u8 a1)))] [(4, some [.val (.u8 a2), .val (.u8 a3), .val (.b a4), .val (.u8 a5), .val (.u8 a6), .val (.u8 a7), .val (.u8 a8), .val (.b a9), .val (.u8 a10), .val (.s a11)]), (48, some [.val (a12), .val (a13), .val (a14), .val (a15), .val (a16), .val (a17), .val (a18), .val (a19), .val (a20), .val (a21), .own 648010 5 1 a22, .own 648011 5 1 a23, .val (.b a24), .val (.u8 a25), .val (.s a26), .own 648015 101 2 a27, .val (.s a28), .clo 59 [49], .val (.b a29)]), (49, some [.own 649000 74 4 a30])]
noncomputable def F79_12 : Option AV := run K79_12 (S79_12 a0 a1 a2 a3 a4 a5 a6 a7 a8 a9 a10 a11 a12 a13 a14 a15 a16 a17 a18 a19 a20 a21 a22 a23 a24 a25 a26 a27 a28 a29 a30)
end
section
variable (run : RunT) (a0 a1 a2 : UInt8) (a3 : Bool) (a4 a5 a6 a7 : UInt8) (a8 : Bool) (a9 : UInt8) (a10 : List UInt8) (a11 a12 a13 a14 a15 a16 a17 a18 a19 a20 : AV) (a21 a22 : List AV) (a23 : Bool) (a24 : UInt8) (a25 : List UInt8) (a26 : List AV) (a27 : List UInt8) (a28 : Bool) (a29 : List AV)
noncomputable def K79_18 : List Item := (kAt 18 body79 []).getD []
def S79_18 : St := St.ofL [(0, .cell (.ptr 48 0)), (1, .cell (.val (.u8 a0))), (4, .cell (.ptr 4 0))] [(4, some [.val (.u8 a1), .val (.u8 a2), .val (.b a3), .val (.u8 a4), .val (.u8 a5), .val (.u8 a6), .val (.u8 a7), .val (.b a8), .val (.u8 a9), .val (.s a10)]), (48, some [.val (a11), .val (a12), .val (a13), .val (a14), .val (a15), .val (a16), .val (a17), .val (a18), .val (a19), .val (a20), .own 648010 5 1 a21, .own 648011 5 1 a22, .val (.b a23), .val (.u8 a24), .val (.s a25), .own 648015 101 2 a26, .val (.s a27), .clo 59 [49], .val (.b a28)]), (49, some [.own 649000 74 4 a29])]
noncomputable def F79_18 : Option AV := run K79_18 (S79_18 a0 a1 a2 a3 a4 a5 a6 a7 a8 a9 a10 a11 a12 a13 a14 a15 a16 a17 a18 a19 a20 a21 a22 a23 a24 a25 a26 a27 a28 a29)
end
section
variable (run : RunT) (a0 a1 a2 : UInt8) (a3 : Bool) (a4 a5 a6 a7 : UInt8) (a8 : Bool) (a9 : UInt8) (a10 : List UInt8) (a11 a12 a13 a14 a15 a16 a17 a18 a19 a20 : AV) (a21 a22 : List AV) (a23 : Bool) (a24 : UInt8) (a25 : List UInt8) (a26 : List AV) (a27 : List UInt8) (a28 : Bool) (a29 : List AV)
noncomputable def K79_3 : List Item := (kAt 3 body79 []).getD []
def S79_3 : St := St.ofL [(0, .cell (.ptr 48 0)), (1, .cell (.val (.u8 a0))), (4, .cell (.ptr 4 0))] [(4, some [.val (.u8 a1), .val (.u8 a2), .val (.b a3), .val (.u8 a4), .val (.u8 a5), .val (.u8 a6), .val (.u8 a7), .val (.b a8), .val (.u8 a9), .val (.s a10)]), (48, some [.val (a11), .val (a12), .val (a13), .val (a14), .val (a15), .val (a16), .val (a17), .val (a18), .val (a19), .val (a20), .own 648010 5 1 a21, .own 648011 5 1 a22, .val (.b a23), .val (.u8 a24), .val (.s a25), .own 648015 101 2 a26, .val (.s a27), .clo 59 [49], .val (.b a28)]), (49, some [.own 649000 74 4 a29])]
noncomputable def F79_3 : Option AV := run K79_3 (S79_3 a0 a1 a2 a3 a4 a5 a6 a7 a8 a9 a10 a11 a12 a13 a14 a15 a16 a17 a18 a19 a20 a21 a22 a23 a24 a25 a26 a27 a28 a29)
end
noncomputable def X79 (call : CallT) (run : RunT) (a0 a1 a2 : UInt8) (a3 : Bool) (a4 a5 a6 a7 : UInt8) (a8 : Bool) (a9 : UInt8) (a10 : List UInt8) (a11 a12 : List AV) (a13 : Bool) (a14 : UInt8) (a15 : List UInt8) (a16 : List AV) (a17 : List UInt8) (a18 : Bool) (a19 : List AV) : Option AV :=
  (call 27 [.ag [.u8 a1, .u8 a2, .b a3, .u8 a4, .u8 a5, .u8 a6, .u8 a7, .b a8, .u8 a9, .s a10], .u8 a0]).bind fun v1 => (AV.asAg 10 (v1)).bind fun v2 => condM (.b (ueq a1 0))
  (F79_7 run a0 a1 a2 a3 a4 a5 a6 a7 a8 a9 a10 (v2.getD 0 .un) (v2.getD 1 .un) (v2.getD 2 .un) (v2.getD 3 .un) (v2.getD 4 .un) (v2.getD 5 .un) (v2.getD 6 .un) (v2.getD 7 .un) (v2.getD 8 .un) (v2.getD 9 .un) a11 a12 a13 a14 a15 a16 a17 a18 a19)
  (condM (.b (ueq a1 1))
  (F79_7 run a0 a1 a2 a3 a4 a5 a6 a7 a8 a9 a10 (v2.getD 0 .un) (v2.getD 1 .un) (v2.getD 2 .un) (v2.getD 3 .un) (v2.getD 4 .un) (v2.getD 5 .un) (v2.getD 6 .un) (v2.getD 7 .un) (v2.getD 8 .un) (v2.getD 9 .un) a11 a12 a13 a14 a15 a16 a17 a18 a19)
  (condM (.b (ueq a1 2))
  (F79_7 run a0 a1 a2 a3 a4 a5 a6 a7 a8 a9 a10 (v2.getD 0 .un) (v2.getD 1 .un) (v2.getD 2 .un) (v2.getD 3 .un) (v2.getD 4 .un) (v2.getD 5 .un) (v2.getD 6 .un) (v2.getD 7 .un) (v2.getD 8 .un) (v2.getD 9 .un) a11 a12 a13 a14 a15 a16 a17 a18 a19)
  (F79_8 run a0 a1 a1 a2 a3 a4 a5 a6 a7 a8 a9 a10 (v2.getD 0 .un) (v2.getD 1 .un) (v2.getD 2 .un) (v2.getD 3 .un) (v2.getD 4 .un) (v2.getD 5 .un) (v2.getD 6 .un) (v2.getD 7 .un) (v2.getD 8 .un) (v2.getD 9 .un) a11 a12 a13 a14 a15 a16 a17 a18 a19)))
section
variable (call : CallT) (run : RunT) (a0 a1 a2 : UInt8) (a3 : Bool) (a4 a5 a6 a7 : UInt8) (a8 : Bool) (a9 : UInt8) (a10 : List UInt8) (a11 a12 : List AV) (a13 : Bool) (a14 : UInt8) (a15 : List UInt8) (a16 : List AV) (a17 : List UInt8) (a18 : Bool) (a19 : List AV)
theorem text79 : unr C call run 79 Tryd.f79 400 [.code body79] (initF C 79 Tryd.f79.ntmps [.un, .u8 a0, .ag [.u8 a1, .u8 a2, .b a3, .u8 a4, .u8 a5, .u8 a6, .u8 a7, .b a8, .u8 a9, .s a10, .ro 1 a11, .ro 1 a12, .b a13, .u8 a14, .s a15, .ro 2 a16, .s a17, .un, .b a18], .ag [.ro 4 a19]]) = X79 call run a0 a1 a2 a3 a4 a5 a6 a7 a8 a9 a10 a11 a12 a13 a14 a15 a16 a17 a18 a19 := by
  kernel_rfl
theorem c79 {r : AV} (h : X79 (semCall C Tryd.prog) (semRun C Tryd.prog 79 Tryd.f79) a0 a1 a2 a3 a4 a5 a6 a7 a8 a9 a10 a11 a12 a13 a14 a15 a16 a17 a18 a19 = some r) : semCall C Tryd.prog 79 [.un, .u8 a0, .ag [.u8 a1, .u8 a2, .b a3, .u8 a4, .u8 a5, .u8 a6, .u8 a7, .b a8, .u8 a9, .s a10, .ro 1 a11, .ro 1 a12, .b a13, .u8 a14, .s a15, .ro 2 a16, .s a17, .un, .b a18], .ag [.ro 4 a19]] = some r :=
  semCall_unr (fn := Tryd.f79) (c := body79) (by kernel_rfl) (by kernel_rfl) 400 (by kernel_rfl) ((text79 _ _ a0 a1 a2 a3 a4 a5 a6 a7 a8 a9 a10 a11 a12 a13 a14 a15 a16 a17 a18 a19).trans h)
end
noncomputable def X79_7 (call : CallT) (run : RunT) (a0 a1 a2 : UInt8) (a3 : Bool) (a4 a5 a6 a7 : UInt8) (a8 : Bool) (a9 : UInt8) (a10 : List UInt8) (a11 a12 a13 a14 a15 a16 a17 a18 a19 a20 : AV) (a21 a22 : List AV) (a23 : Bool) (a24 : UInt8) (a25 : List UInt8) (a26 : List AV) (a27 : List UInt8) (a28 : Bool) (a29 : List AV) : Option AV :=
  (call 100 [.un, .ag [.u8 a1, .u8 a2, .b a3, .u8 a4, .u8 a5, .u8 a6, .u8 a7, .b a8, .u8 a9, .s a10], .u8 a0, .ag [a11, a12, a13, a14, a15, a16, a17, a18, a19, a20, .ro 1 a21, .ro 1 a22, .b a23, .u8 a24, .s a25, .ro 2 a26, .s a27, .un, .b a28], .ag [.ro 4 a29]]).bind fun v1 => (tupI v1 0).bind fun v2 => (tupI v1 1).bind fun v3 => (AV.asAg 19 v3).bind fun v4 => (tupI v1 2).bind fun v5 => (AV.asAg 1 v5).bind fun v6 => some (.tu [.tu [], .ag [v4.getD 0 .un, v4.getD 1 .un, v4.getD 2 .un, v4.getD 3 .un, v4.getD 4 .un, v4.getD 5 .un, v4.getD 6 .un, v4.getD 7 .un, v4.getD 8 .un, v4.getD 9 .un, .ro 1 (AV.elems (v4.getD 10 .un)), .ro 1 (AV.elems (v4.getD 11 .un)), v4.getD 12 .un, v4.getD 13 .un, v4.getD 14 .un, .ro 2 (AV.elems (v4.getD 15 .un)), v4.getD 16 .un, .un, v4.getD 18 .un], .ag [.ro 4 (AV.elems (v6.getD 0 .un))]])
section
variable (call : CallT) (run : RunT) (a0 a1 a2 : UInt8) (a3 : Bool) (a4 a5 a6 a7 : UInt8) (a8 : Bool) (a9 : UInt8) (a10 : List UInt8) (a11 a12 a13 a14 a15 a16 a17 a18 a19 a20 : AV) (a21 a22 : List AV) (a23 : Bool) (a24 : UInt8) (a25 : List UInt8) (a26 : List AV) (a27 : List UInt8) (a28 : Bool) (a29 : List AV)
theorem text79_7 : step C call 79 Tryd.f79 (unr C call run 79 Tryd.f79 400) K79_7 (S79_7 a0 a1 a2 a3 a4 a5 a6 a7 a8 a9 a10 a11 a12 a13 a14 a15 a16 a17 a18 a19 a20 a21 a22 a23 a24 a25 a26 a27 a28 a29) = X79_7 call run a0 a1 a2 a3 a4 a5 a6 a7 a8 a9 a10 a11 a12 a13 a14 a15 a16 a17 a18 a19 a20 a21 a22 a23 a24 a25 a26 a27 a28 a29 := by
  kernel_rfl
end
noncomputable def X79_8 (call : CallT) (run : RunT) (a0 a1 a2 a3 : UInt8) (a4 : Bool) (a5 a6 a7 a8 : UInt8) (a9 : Bool) (a10 : UInt8) (a11 : List UInt8) (a12 a13 a14 a15 a16 a17 a18 a19 a20 a21 : AV) (a22 a23 : List AV) (a24 : Bool) (a25 : UInt8) (a26 : List UInt8) (a27 : List AV) (a28 : List UInt8) (a29 : Bool) (a30 : List AV) : Option AV :=
  condM (.b (ueq a1 17))
  (F79_11 run a0 a2 a3 a4 a5 a6 a7 a8 a9 a10 a11 (a12) (a13) (a14) (a15) (a16) (a17) (a18) (a19) (a20) (a21) a22 a23 a24 a25 a26 a27 a28 a29 a30)
  (condM (.b (ueq a1 18))
  (F79_11 run a0 a2 a3 a4 a5 a6 a7 a8 a9 a10 a11 (a12) (a13) (a14) (a15) (a16) (a17) (a18) (a19) (a20) (a21) a22 a23 a24 a25 a26 a27 a28 a29 a30)
  (condM (.b (ueq a1 19))
  (F79_11 run a0 a2 a3 a4 a5 a6 a7 a8 a9 a10 a11 (a12) (a13) (a14) (a15) (a16) (a17) (a18) (a19) (a20) (a21) a22 a23 a24 a25 a26 a27 a28 a29 a30)
  (F79_12 run a0 a1 a2 a3 a4 a5 a6 a7 a8 a9 a10 a11 (a12) (a13) (a14) (a15) (a16) (a17) (a18) (a19) (a20) (a21) a22 a23 a24 a25 a26 a27 a28 a29 a30)))
section
variable (call : CallT) (run : RunT) (a0 a1 a2 a3 : UInt8) (a4 : Bool) (a5 a6 a7 a8 : UInt8) (a9 : Bool) (a10 : UInt8) (a11 : List UInt8) (a12 a13 a14 a15 a16 a17 a18 a19 a20 a21 : AV) (a22 a23 : List AV) (a24 : Bool) (a25 : UInt8) (a26 : List UInt8) (a27 : List AV) (a28 : List UInt8) (a29 : Bool) (a30 : List AV)
theorem text79_8 : step C call 79 Tryd.f79 (unr C call run 79 Tryd.f79 400) K79_8 (S79_8 a0 a1 a2 a3 a4 a5 a6 a7 a8 a9 a10 a11 a12 a13 a14 a15 a16 a17 a18 a19 a20 a21 a22 a23 a24 a25 a26 a27 a28 a29 a30) = X79_8 call run a0 a1 a2 a3 a4 a5 a6 a7 a8 a9 a10 a11 a12 a13 a14 a15 a16 a17 a18 a19 a20 a21 a22 a23 a24 a25 a26 a27 a28 a29 a30 := by
  kernel_rfl
end
noncomputable def X79_11 (call : CallT) (run : RunT) (a0 a1 a2 : UInt8) (a3 : Bool) (a4 a5 a6 a7 : UInt8) (a8 : Bool) (a9 : UInt8) (a10 : List UInt8) (a11 a12 a13 a14 a15 a16 a17 a18 a19 a20 : AV) (a21 a22 : List AV) (a23 : Bool) (a24 : UInt8) (a25 : List UInt8) (a26 : List AV) (a27 : List UInt8) (a28 : Bool) (a29 : List AV) : Option AV :=
  (call 101 [.un, .ag [.u8 a1, .u8 a2, .b a3, .u8 a4, .u8 a5, .u8 a6, .u8 a7, .b a8, .u8 a9, .s a10], .u8 a0, .ag [a11, a12, a13, a14, a15, a16, a17, a18, a19, a20, .ro 1 a21, .ro 1 a22, .b a23, .u8 a24, .s a25, .ro 2 a26, .s a27, .un, .b a28], .ag [.ro 4 a29]]).bind fun v1 => (tupI v1 0).bind fun v2 => (tupI v1 1).bind fun v3 => (AV.asAg 19 v3).bind fun v4 => (tupI v1 2).bind fun v5 => (AV.asAg 1 v5).bind fun v6 => some (.tu [.tu [], .ag [v4.getD 0 .un, v4.getD 1 .un, v4.getD 2 .un, v4.getD 3 .un, v4.getD 4 .un, v4.getD 5 .un, v4.getD 6 .un, v4.getD 7 .un, v4.getD 8 .un, v4.getD 9 .un, .ro 1 (AV.elems (v4.getD 10 .un)), .ro 1 (AV.elems (v4.getD 11 .un)), v4.getD 12 .un, v4.getD 13 .un, v4.getD 14 .un, .ro 2 (AV.elems (v4.getD 15 .un)), v4.getD 16 .un, .un, v4.getD 18 .un], .ag [.ro 4 (AV.elems (v6.getD 0 .un))]])
section
variable (call : CallT) (run : RunT) (a0 a1 a2 : UInt8) (a3 : Bool) (a4 a5 a6 a7 : UInt8) (a8 : Bool) (a9 : UInt8) (a10 : List UInt8) (a11 a12 a13 a14 a15 a16 a17 a18 a19 a20 : AV) (a21 a22 : List AV) (a23 : Bool) (a24 : UInt8) (a25 : List UInt8) (a26 : List AV) (a27 : List UInt8) (a28 : Bool) (a29 : List AV)
theorem text79_11 : step C call 79 Tryd.f79 (unr C call run 79 Tryd.f79 400) K79_11 (S79_11 a0 a1 a2 a3 a4 a5 a6 a7 a8 a9 a10 a11 a12 a13 a14 a15 a16 a17 a18 a19 a20 a21 a22 a23 a24 a25 a26 a27 a28 a29) = X79_11 call run a0 a1 a2 a3 a4 a5 a6 a7 a8 a9 a10 a11 a12 a13 a14 a15 a16 a17 a18 a19 a20 a21 a22 a23 a24 a25 a26 a27 a28 a29 := by
  kernel_rfl
end
noncomputable def X79_12 (call : CallT) (run : RunT) (a0 a1 a2 a3 : UInt8) (a4 : Bool) (a5 a6 a7 a8 : UInt8) (a9 : Bool) (a10 : UInt8) (a11 : List UInt8) (a12 a13 a14 a15 a16 a17 a18 a19 a20 a21 : AV) (a22 a23 : List AV) (a24 : Bool) (a25 : UInt8) (a26 : List UInt8) (a27 : List AV) (a28 : List UInt8) (a29 : Bool) (a30 : List AV) : Option AV :=
  condM (.b (ueq a1 11))
  (F79_18 run a0 a2 a3 a4 a5 a6 a7 a8 a9 a10 a11 (a12) (a13) (a14) (a15) (a16) (a17) (a18) (a19) (a20) (a21) a22 a23 a24 a25 a26 a27 a28 a29 a30)
  (condM (.b (ueq a1 12))
  (F79_18 run a0 a2 a3 a4 a5 a6 a7 a8 a9 a10 a11 (a12) (a13) (a14) (a15) (a16) (a17) (a18) (a19) (a20) (a21) a22 a23 a24 a25 a26 a27 a28 a29 a30)
  (condM (.b (ueq a1 13))
  (F79_18 run a0 a2 a3 a4 a5 a6 a7 a8 a9 a10 a11 (a12) (a13) (a14) (a15) (a16) (a17) (a18) (a19) (a20) (a21) a22 a23 a24 a25 a26 a27 a28 a29 a30)
  (condM (.b (ueq a1 14))
  (F79_18 run a0 a2 a3 a4 a5 a6 a7 a8 a9 a10 a11 (a12) (a13) (a14) (a15) (a16) (a17) (a18) (a19) (a20) (a21) a22 a23 a24 a25 a26 a27 a28 a29 a30)
  (condM (.b (ueq a1 15))
  (F79_18 run a0 a2 a3 a4 a5 a6 a7 a8 a9 a10 a11 (a12) (a13) (a14) (a15) (a16) (a17) (a18) (a19) (a20) (a21) a22 a23 a24 a25 a26 a27 a28 a29 a30)
  (condM (.b (ueq a1 16))
  (F79_18 run a0 a2 a3 a4 a5 a6 a7 a8 a9 a10 a11 (a12) (a13) (a14) (a15) (a16) (a17) (a18) (a19) (a20) (a21) a22 a23 a24 a25 a26 a27 a28 a29 a30)
  (F79_3 run a0 a2 a3 a4 a5 a6 a7 a8 a9 a10 a11 (a12) (a13) (a14) (a15) (a16) (a17) (a18) (a19) (a20) (a21) a22 a23 a24 a25 a26 a27 a28 a29 a30))))))
section
variable (call : CallT) (run : RunT) (a0 a1 a2 a3 : UInt8) (a4 : Bool) (a5 a6 a7 a8 : UInt8) (a9 : Bool) (a10 : UInt8) (a11 : List UInt8) (a12 a13 a14 a15 a16 a17 a18 a19 a20 a21 : AV) (a22 a23 : List AV) (a24 : Bool) (a25 : UInt8) (a26 : List UInt8) (a27 : List AV) (a28 : List UInt8) (a29 : Bool) (a30 : List AV)
theorem text79_12 : step C call 79 Tryd.f79 (unr C call run 79 Tryd.f79 400) K79_12 (S79_12 a0 a1 a2 a3 a4 a5 a6 a7 a8 a9 a10 a11 a12 a13 a14 a15 a16 a17 a18 a19 a20 a21 a22 a23 a24 a25 a26 a27 a28 a29 a30) = X79_12 call run a0 a1 a2 a3 a4 a5 a6 a7 a8 a9 a10 a11 a12 a13 a14 a15 a16 a17 a18 a19 a20 a21 a22 a23 a24 a25 a26 a27 a28 a29 a30 := by
  kernel_rfl
end
noncomputable def X79_18 (call : CallT) (run : RunT) (a0 a1 a2 : UInt8) (a3 : Bool) (a4 a5 a6 a7 : UInt8) (a8 : Bool) (a9 : UInt8) (a10 : List UInt8) (a11 a12 a13 a14 a15 a16 a17 a18 a19 a20 : AV) (a21 a22 : List AV) (a23 : Bool) (a24 : UInt8) (a25 : List UInt8) (a26 : List AV) (a27 : List UInt8) (a28 : Bool) (a29 : List AV) : Option AV :=
  (call 102 [.un, .ag [.u8 a1, .u8 a2, .b a3, .u8 a4, .u8 a5, .u8 a6, .u8 a7, .b a8, .u8 a9, .s a10], .u8 a0, .ag [a11, a12, a13, a14, a15, a16, a17, a18, a19, a20, .ro 1 a21, .ro 1 a22, .b a23, .u8 a24, .s a25, .ro 2 a26, .s a27, .un, .b a28], .ag [.ro 4 a29]]).bind fun v1 => (tupI v1 0).bind fun v2 => (tupI v1 1).bind fun v3 => (AV.asAg 19 v3).bind fun v4 => (tupI v1 2).bind fun v5 => (AV.asAg 1 v5).bind fun v6 => some (.tu [.tu [], .ag [v4.getD 0 .un, v4.getD 1 .un, v4.getD 2 .un, v4.getD 3 .un, v4.getD 4 .un, v4.getD 5 .un, v4.getD 6 .un, v4.getD 7 .un, v4.getD 8 .un, v4.getD 9 .un, .ro 1 (AV.elems (v4.getD 10 .un)), .ro 1 (AV.elems (v4.getD 11 .un)), v4.getD 12 .un, v4.getD 13 .un, v4.getD 14 .un, .ro 2 (AV.elems (v4.getD 15 .un)), v4.getD 16 .un, .un, v4.getD 18 .un], .ag [.ro 4 (AV.elems (v6.getD 0 .un))]])
section
variable (call : CallT) (run : RunT) (a0 a1 a2 : UInt8) (a3 : Bool) (a4 a5 a6 a7 : UInt8) (a8 : Bool) (a9 : UInt8) (a10 : List UInt8) (a11 a12 a13 a14 a15 a16 a17 a18 a19 a20 : AV) (a21 a22 : List AV) (a23 : Bool) (a24 : UInt8) (a25 : List UInt8) (a26 : List AV) (a27 : List UInt8) (a28 : Bool) (a29 : List AV)
theorem text79_18 : step C call 79 Tryd.f79 (unr C call run 79 Tryd.f79 400) K79_18 (S79_18 a0 a1 a2 a3 a4 a5 a6 a7 a8 a9 a10 a11 a12 a13 a14 a15 a16 a17 a18 a19 a20 a21 a22 a23 a24 a25 a26 a27 a28 a29) = X79_18 call run a0 a1 a2 a3 a4 a5 a6 a7 a8 a9 a10 a11 a12 a13 a14 a15 a16 a17 a18 a19 a20 a21 a22 a23 a24 a25 a26 a27 a28 a29 := by
  kernel_rfl
end
noncomputable def X79_3 (call : CallT) (run : RunT) (a0 a1 a2 : UInt8) (a3 : Bool) (a4 a5 a6 a7 : UInt8) (a8 : Bool) (a9 : UInt8) (a10 : List UInt8) (a11 a12 a13 a14 a15 a16 a17 a18 a19 a20 : AV) (a21 a22 : List AV) (a23 : Bool) (a24 : UInt8) (a25 : List UInt8) (a26 : List AV) (a27 : List UInt8) (a28 : Bool) (a29 : List AV) : Option AV :=
  (call 103 [.un, .ag [.u8 a1, .u8 a2, .b a3, .u8 a4, .u8 a5, .u8 a6, .u8 a7, .b a8, .u8 a9, .s a10], .u8 a0, .ag [a11, a12, a13, a14, a15, a16, a17, a18, a19, a20, .ro 1 a21, .ro 1 a22, .b a23, .u8 a24, .s a25, .ro 2 a26, .s a27, .un, .b a28], .ag [.ro 4 a29]]).bind fun v1 => (tupI v1 0).bind fun v2 => (tupI v1 1).bind fun v3 => (AV.asAg 19 v3).bind fun v4 => (tupI v1 2).bind fun v5 => (AV.asAg 1 v5).bind fun v6 => some (.tu [.tu [], .ag [v4.getD 0 .un, v4.getD 1 .un, v4.getD 2 .un, v4.getD 3 .un, v4.getD 4 .un, v4.getD 5 .un, v4.getD 6 .un, v4.getD 7 .un, v4.getD 8 .un, v4.getD 9 .un, .ro 1 (AV.elems (v4.getD 10 .un)), .ro 1 (AV.elems (v4.getD 11 .un)), v4.getD 12 .un, v4.getD 13 .un, v4.getD 14 .un, .ro 2 (AV.elems (v4.getD 15 .un)), v4.getD 16 .un, .un, v4.getD 18 .un], .ag [.ro 4 (AV.elems (v6.getD 0 .un))]])
section
variable (call : CallT) (run : RunT) (a0 a1 a2 : UInt8) (a3 : Bool) (a4 a5 a6 a7 : UInt8) (a8 : Bool) (a9 : UInt8) (a10 : List UInt8) (a11 a12 a13 a14 a15 a16 a17 a18 a19 a20 : AV) (a21 a22 : List AV) (a23 : Bool) (a24 : UInt8) (a25 : List UInt8) (a26 : List AV) (a27 : List UInt8) (a28 : Bool) (a29 : List AV)
theorem text79_3 : step C call 79 Tryd.f79 (unr C call run 79 Tryd.f79 400) K79_3 (S79_3 a0 a1 a2 a3 a4 a5 a6 a7 a8 a9 a10 a11 a12 a13 a14 a15 a16 a17 a18 a19 a20 a21 a22 a23 a24 a25 a26 a27 a28 a29) = X79_3 call run a0 a1 a2 a3 a4 a5 a6 a7 a8 a9 a10 a11 a12 a13 a14 a15 a16 a17 a18 a19 a20 a21 a22 a23 a24 a25 a26 a27 a28 a29 := by
  kernel_rfl
end
section
variable (a0 a1 a2 : UInt8) (a3 : Bool) (a4 a5 a6 a7 : UInt8) (a8 : Bool) (a9 : UInt8) (a10 : List UInt8) (a11 a12 a13 a14 a15 a16 a17 a18 a19 a20 : AV) (a21 a22 : List AV) (a23 : Bool) (a24 : UInt8) (a25 : List UInt8) (a26 : List AV) (a27 : List UInt8) (a28 : Bool) (a29 : List AV)
theorem r79_7 {r : AV} (h : X79_7 (semCall C Tryd.prog) (semRun C Tryd.prog 79 Tryd.f79) a0 a1 a2 a3 a4 a5 a6 a7 a8 a9 a10 a11 a12 a13 a14 a15 a16 a17 a18 a19 a20 a21 a22 a23 a24 a25 a26 a27 a28 a29 = some r) : F79_7 (semRun C Tryd.prog 79 Tryd.f79) a0 a1 a2 a3 a4 a5 a6 a7 a8 a9 a10 a11 a12 a13 a14 a15 a16 a17 a18 a19 a20 a21 a22 a23 a24 a25 a26 a27 a28 a29 = some r :=
  semRun_unr 400 ((text79_7 _ _ a0 a1 a2 a3 a4 a5 a6 a7 a8 a9 a10 a11 a12 a13 a14 a15 a16 a17 a18 a19 a20 a21 a22 a23 a24 a25 a26 a27 a28 a29).trans h)
end
section
variable (a0 a1 a2 a3 : UInt8) (a4 : Bool) (a5 a6 a7 a8 : UInt8) (a9 : Bool) (a10 : UInt8) (a11 : List UInt8) (a12 a13 a14 a15 a16 a17 a18 a19 a20 a21 : AV) (a22 a23 : List AV) (a24 : Bool) (a25 : UInt8) (a26 : List UInt8) (a27 : List AV) (a28 : List UInt8) (a29 : Bool) (a30 : List AV)
theorem r79_8 {r : AV} (h : X79_8 (semCall C Tryd.prog) (semRun C Tryd.prog 79 Tryd.f79) a0 a1 a2 a3 a4 a5 a6 a7 a8 a9 a10 a11 a12 a13 a14 a15 a16 a17 a18 a19 a20 a21 a22 a23 a24 a25 a26 a27 a28 a29 a30 = some r) : F79_8 (semRun C Tryd.prog 79 Tryd.f79) a0 a1 a2 a3 a4 a5 a6 a7 a8 a9 a10 a11 a12 a13 a14 a15 a16 a17 a18 a19 a20 a21 a22 a23 a24 a25 a26 a27 a28 a29 a30 = some r :=
  semRun_unr 400 ((text79_8 _ _ a0 a1 a2 a3 a4 a5 a6 a7 a8 a9 a10 a11 a12 a13 a14 a15 a16 a17 a18 a19 a20 a21 a22 a23 a24 a25 a26 a27 a28 a29 a30).trans h)
end
section
variable (a0 a1 a2 : UInt8) (a3 : Bool) (a4 a5 a6 a7 : UInt8) (a8 : Bool) (a9 : UInt8) (a10 : List UInt8) (a11 a12 a13 a14 a15 a16 a17 a18 a19 a20 : AV) (a21 a22 : List AV) (a23 : Bool) (a24 : UInt8) (a25 : List UInt8) (a26 : List AV) (a27 : List UInt8) (a28 : Bool) (a29 : List AV)
theorem r79_11 {r : AV} (h : X79_11 (semCall C Tryd.prog) (semRun C Tryd.prog 79 Tryd.f79) a0 a1 a2 a3 a4 a5 a6 a7 a8 a9 a10 a11 a12 a13 a14 a15 a16 a17 a18 a19 a20 a21 a22 a23 a24 a25 a26 a27 a28 a29 = some r) : F79_11 (semRun C Tryd.prog 79 Tryd.f79) a0 a1 a2 a3 a4 a5 a6 a7 a8 a9 a10 a11 a12 a13 a14 a15 a16 a17 a18 a19 a20 a21 a22 a23 a24 a25 a26 a27 a28 a29 = some r :=
  semRun_unr 400 ((text79_11 _ _ a0 a1 a2 a3 a4 a5 a6 a7 a8 a9 a10 a11 a12 a13 a14 a15 a16 a17 a18 a19 a20 a21 a22 a23 a24 a25 a26 a27 a28 a29).trans h)
end
section
variable (a0 a1 a2 a3 : UInt8) (a4 : Bool) (a5 a6 a7 a8 : UInt8) (a9 : Bool) (a10 : UInt8) (a11 : List UInt8) (a12 a13 a14 a15 a16 a17 a18 a19 a20 a21 : AV) (a22 a23 : List AV) (a24 : Bool) (a25 : UInt8) (a26 : List UInt8) (a27 : List AV) (a28 : List UInt8) (a29 : Bool) (a30 : List AV)
theorem r79_12 {r : AV} (h : X79_12 (semCall C Tryd.prog) (semRun C Tryd.prog 79 Tryd.f79) a0 a1 a2 a3 a4 a5 a6 a7 a8 a9 a10 a11 a12 a13 a14 a15 a16 a17 a18 a19 a20 a21 a22 a23 a24 a25 a26 a27 a28 a29 a30 = some r) : F79_12 (semRun C Tryd.prog 79 Tryd.f79) a0 a1 a2 a3 a4 a5 a6 a7 a8 a9 a10 a11 a12 a13 a14 a15 a16 a17 a18 a19 a20 a21 a22 a23 a24 a25 a26 a27 a28 a29 a30 = some r :=
  semRun_unr 400 ((text79_12 _ _ a0 a1 a2 a3 a4 a5 a6 a7 a8 a9 a10 a11 a12 a13 a14 a15 a16 a17 a18 a19 a20 a21 a22 a23 a24 a25 a26 a27 a28 a29 a30).trans h)
end
section
variable (a0 a1 a2 : UInt8) (a3 : Bool) (a4 a5 a6 a7 : UInt8) (a8 : Bool) (a9 : UInt8) (a10 : List UInt8) (a11 a12 a13 a14 a15 a16 a17 a18 a19 a20 : AV) (a21 a22 : List AV) (a23 : Bool) (a24 : UInt8) (a25 : List UInt8) (a26 : List AV) (a27 : List UInt8) (a28 : Bool) (a29 : List AV)
theorem r79_18 {r : AV} (h : X79_18 (semCall C Tryd.prog) (semRun C Tryd.prog 79 Tryd.f79) a0 a1 a2 a3 a4 a5 a6 a7 a8 a9 a10 a11 a12 a13 a14 a15 a16 a17 a18 a19 a20 a21 a22 a23 a24 a25 a26 a27 a28 a29 = some r) : F79_18 (semRun C Tryd.prog 79 Tryd.f79) a0 a1 a2 a3 a4 a5 a6 a7 a8 a9 a10 a11 a12 a13 a14 a15 a16 a17 a18 a19 a20 a21 a22 a23 a24 a25 a26 a27 a28 a29 = some r :=
  semRun_unr 400 ((text79_18 _ _ a0 a1 a2 a3 a4 a5 a6 a7 a8 a9 a10 a11 a12 a13 a14 a15 a16 a17 a18 a19 a20 a21 a22 a23 a24 a25 a26 a27 a28 a29).trans h)
end
section
variable (a0 a1 a2 : UInt8) (a3 : Bool) (a4 a5 a6 a7 : UInt8) (a8 : Bool) (a9 : UInt8) (a10 : List UInt8) (a11 a12 a13 a14 a15 a16 a17 a18 a19 a20 : AV) (a21 a22 : List AV) (a23 : Bool) (a24 : UInt8) (a25 : List UInt8) (a26 : List AV) (a27 : List UInt8) (a28 : Bool) (a29 : List AV)
theorem r79_3 {r : AV} (h : X79_3 (semCall C Tryd.prog) (semRun C Tryd.prog 79 Tryd.f79) a0 a1 a2 a3 a4 a5 a6 a7 a8 a9 a10 a11 a12 a13 a14 a15 a16 a17 a18 a19 a20 a21 a22 a23 a24 a25 a26 a27 a28 a29 = some r) : F79_3 (semRun C Tryd.prog 79 Tryd.f79) a0 a1 a2 a3 a4 a5 a6 a7 a8 a9 a10 a11 a12 a13 a14 a15 a16 a17 a18 a19 a20 a21 a22 a23 a24 a25 a26 a27 a28 a29 = some r :=
  semRun_unr 400 ((text79_3 _ _ a0 a1 a2 a3 a4 a5 a6 a7 a8 a9 a10 a11 a12 a13 a14 a15 a16 a17 a18 a19 a20 a21 a22 a23 a24 a25 a26 a27 a28 a29).trans h)
end
end R2

namespace R2
open Go Go.Proofs Sx
noncomputable def body17 : Code := (Tryd.f17.body).getD .skip
noncomputable def X17 (call : CallT) (run : RunT) (a0 : AV) : Option AV :=
  (call 33 []).bind fun v1 => (unop .not (v1)).bind fun v2 => condM (v2)
  (some (.b false))
  ((call 36 [a0]).bind fun v3 => (tupI (v3) 0).bind fun v4 => (tupI (v3) 1).bind fun v5 => (call 23 [.ag [.u8 0, .u8 0, .b false, .u8 0, .u8 0, .u8 0, .u8 0, .b false, .u8 0, .s []], a0]).bind fun v6 => (tupI (v6) 0).bind fun v7 => (tupI (v6) 1).bind fun v8 => (AV.asAg 10 (v7)).bind fun v9 => (binI .geq (v8) (.int 0)).bind fun v10 => condM (v10)
  ((binI .eql (v5) (.int 5)).bind fun v11 => (selW (v11) true ((lenR (v4)).bind fun v12 => (binI .eql (v12) (.int 0)).bind fun v13 => some (v13)) (.b false)).bind fun v14 => some (v14))
  ((call 23 [.ag [.u8 0, .u8 0, .b false, .u8 0, .u8 0, .u8 0, .u8 0, .b false, .u8 0, .s []], v4]).bind fun v15 => (tupI (v15) 0).bind fun v16 => (tupI (v15) 1).bind fun v17 => (AV.asAg 10 (v16)).bind fun v18 => (call 39 [v4]).bind fun v19 => (AV.asAg 10 (AV.comp (v19) 1)).bind fun v20 => (binI .eql (v5) (.int 0)).bind fun v21 => (selW (v21) true ((binAg [.i, .i, .b, .i, .i, .i, .i, .b, .i, .s] .eql (.ag [v18.getD 0 .un, v18.getD 1 .un, v18.getD 2 .un, v18.getD 3 .un, v18.getD 4 .un, v18.getD 5 .un, v18.getD 6 .un, v18.getD 7 .un, v18.getD 8 .un, v18.getD 9 .un]) (.ag [.u8 0, .u8 0, .b false, .u8 0, .u8 0, .u8 0, .u8 0, .b false, .u8 0, .s []])).bind fun v22 => some (v22)) (.b false)).bind fun v23 => (selW (v23) true ((binI .eql (v17) (.int ((-1)))).bind fun v24 => some (v24)) (.b false)).bind fun v25 => (selW (v25) true ((binAg [.i, .i, .b, .i, .i, .i, .i, .b, .i, .s] .eql (.ag [v20.getD 0 .un, v20.getD 1 .un, v20.getD 2 .un, v20.getD 3 .un, v20.getD 4 .un, v20.getD 5 .un, v20.getD 6 .un, v20.getD 7 .un, v20.getD 8 .un, v20.getD 9 .un]) (.ag [v18.getD 0 .un, v18.getD 1 .un, v18.getD 2 .un, v18.getD 3 .un, v18.getD 4 .un, v18.getD 5 .un, v18.getD 6 .un, v18.getD 7 .un, v18.getD 8 .un, v18.getD 9 .un])).bind fun v26 => some (v26)) (.b false)).bind fun v27 => (selW (v27) true ((binI .eql (AV.comp (v19) 2) (.int ((-1)))).bind fun v28 => some (v28)) (.b false)).bind fun v29 => (selW (v29) true ((lenR (v4)).bind fun v30 => (lenR (a0)).bind fun v31 => (binI .geq (v30) (v31)).bind fun v32 => some (v32)) (.b false)).bind fun v33 => (selW (v33) true ((lenR (a0)).bind fun v34 => (slR 1 (v4) none (some (v34))).bind fun v35 => (b2s (v35)).bind fun v36 => (b2s (a0)).bind fun v37 => (binS .eql (v36) (v37)).bind fun v38 => some (v38)) (.b false)).bind fun v39 => some (v39)))
section
variable (call : CallT) (run : RunT) (a0 : AV)
theorem text17 : unr C call run 17 Tryd.f17 400 [.code body17] (initF C 17 Tryd.f17.ntmps [a0]) = X17 call run a0 := by
  kernel_rfl
theorem c17 {r : AV} (h : X17 (semCall C Tryd.prog) (semRun C Tryd.prog 17 Tryd.f17) a0 = some r) : semCall C Tryd.prog 17 [a0] = some r :=
  semCall_unr (fn := Tryd.f17) (c := body17) (by kernel_rfl) (by kernel_rfl) 400 (by kernel_rfl) ((text17 _ _ a0).trans h)
end
end R2

namespace R2
open Go Go.Proofs Sx
noncomputable def body36 : Code := (Tryd.f36.body).getD .skip
noncomputable def X36 (call : CallT) (run : RunT) (a0 : AV) : Option AV :=
  (call 23 [.ag [.u8 0, .u8 0, .b false, .u8 0, .u8 0, .u8 0, .u8 0, .b false, .u8 0, .s []], a0]).bind fun v1 => (tupI (v1) 0).bind fun v2 => (tupI (v1) 1).bind fun v3 => (AV.asAg 10 (v2)).bind fun v4 => (binI .geq (v3) (.int 0)).bind fun v5 => condM (v5)
  (some (.tu [.nils, .int 5]))
  ((call 34 [.ag [v4.getD 0 .un, v4.getD 1 .un, v4.getD 2 .un, v4.getD 3 .un, v4.getD 4 .un, v4.getD 5 .un, v4.getD 6 .un, v4.getD 7 .un, v4.getD 8 .un, v4.getD 9 .un]]).bind fun v6 => (tupI (v6) 0).bind fun v7 => (tupI (v6) 1).bind fun v8 => (binI .neq (v8) (.int 0)).bind fun v9 => condM (v9)
  (some (.tu [.nils, v8]))
  ((app 1 1 [] (a0)).bind fun v10 => (app 1 1 v10 (v7)).bind fun v11 => some (.tu [.ro 1 v11, .int 0])))
section
variable (call : CallT) (run : RunT) (a0 : AV)
theorem text36 : unr C call run 36 Tryd.f36 400 [.code body36] (initF C 36 Tryd.f36.ntmps [a0]) = X36 call run a0 := by
  kernel_rfl
theorem c36 {r : AV} (h : X36 (semCall C Tryd.prog) (semRun C Tryd.prog 36 Tryd.f36) a0 = some r) : semCall C Tryd.prog 36 [a0] = some r :=
  semCall_unr (fn := Tryd.f36) (c := body36) (by kernel_rfl) (by kernel_rfl) 400 (by kernel_rfl) ((text36 _ _ a0).trans h)
end
end R2
