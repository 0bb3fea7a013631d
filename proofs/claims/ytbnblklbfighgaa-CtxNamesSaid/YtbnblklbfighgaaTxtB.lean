/-
  What the functions of chapter 9 come to, step by step.
-/
import Derived.Test.YtbnblklbfighgaaTabA
import Derived.Test.YtbnblklbfighgaaProg
set_option linter.unusedVariables false
set_option linter.unusedSimpArgs false
set_option linter.unusedSectionVars false
set_option linter.unnecessarySimpa false
namespace R1
open Go Go.Proofs Sx
noncomputable def body7 : Code := (Try.f7.body).getD .skip
noncomputable def X7 (call : Nat → List AV → Option AV) (run : List Item → St → Option AV) (x0_0 : UInt8) (x0_1 : UInt8) (x0_2 : Bool) (x0_3 : UInt8) (x0_4 : UInt8) (x0_5 : UInt8) (x0_6 : UInt8) (x0_7 : Bool) (x0_8 : UInt8) (x0_9 : List UInt8) : Option AV :=
  (call 22 []).bind fun v1 => (selW (v1) true ((call 23 [.ag [.u8 x0_0, .u8 x0_1, .b x0_2, .u8 x0_3, .u8 x0_4, .u8 x0_5, .u8 x0_6, .b x0_7, .u8 x0_8, .s x0_9]]).bind fun v2 => (call 24 [.ag [.u8 x0_0, .u8 x0_1, .b x0_2, .u8 x0_3, .u8 x0_4, .u8 x0_5, .u8 x0_6, .b x0_7, .u8 x0_8, .s x0_9]]).bind fun v3 => (binB .eql (v2) (v3)).bind fun v4 => some (v4)) (.b false)).bind fun v5 => some (v5)
theorem text7 (call : Nat → List AV → Option AV) (run : List Item → St → Option AV) (x0_0 : UInt8) (x0_1 : UInt8) (x0_2 : Bool) (x0_3 : UInt8) (x0_4 : UInt8) (x0_5 : UInt8) (x0_6 : UInt8) (x0_7 : Bool) (x0_8 : UInt8) (x0_9 : List UInt8) : unr C call run 7 Try.f7 400 [.code body7] (initSt [.ag [.u8 x0_0, .u8 x0_1, .b x0_2, .u8 x0_3, .u8 x0_4, .u8 x0_5, .u8 x0_6, .b x0_7, .u8 x0_8, .s x0_9]]) = X7 call run x0_0 x0_1 x0_2 x0_3 x0_4 x0_5 x0_6 x0_7 x0_8 x0_9 := by
  kernel_rfl
theorem c7 (x0_0 : UInt8) (x0_1 : UInt8) (x0_2 : Bool) (x0_3 : UInt8) (x0_4 : UInt8) (x0_5 : UInt8) (x0_6 : UInt8) (x0_7 : Bool) (x0_8 : UInt8) (x0_9 : List UInt8) {r : AV} (h : X7 (semCall C Try.prog) (semRun C Try.prog 7 Try.f7) x0_0 x0_1 x0_2 x0_3 x0_4 x0_5 x0_6 x0_7 x0_8 x0_9 = some r) : semCall C Try.prog 7 [.ag [.u8 x0_0, .u8 x0_1, .b x0_2, .u8 x0_3, .u8 x0_4, .u8 x0_5, .u8 x0_6, .b x0_7, .u8 x0_8, .s x0_9]] = some r :=
  semCall_unr (fn := Try.f7) (c := body7) (by kernel_rfl) (by kernel_rfl) 400 (by kernel_rfl) ((text7 _ _ x0_0 x0_1 x0_2 x0_3 x0_4 x0_5 x0_6 x0_7 x0_8 x0_9).trans h)
end R1

namespace R1
open Go Go.Proofs Sx
noncomputable def body8 : Code := (Try.f8.body).getD .skip
noncomputable def K8_7 : List Item := (kAt 7 body8 []).getD []
def S8_7 (m3_0 : AV) (m3_1 : AV) (m3_2 : AV) (m3_3 : AV) (m3_4 : AV) (m3_5 : AV) (m3_6 : AV) (m3_7 : AV) (m3_8 : AV) (m3_9 : AV) (m4_0 : UInt8) (m4_1 : UInt8) (m4_2 : Bool) (m4_3 : UInt8) (m4_4 : UInt8) (m4_5 : UInt8) (m4_6 : UInt8) (m4_7 : Bool) (m4_8 : UInt8) (m4_9 : List UInt8) : St := St.ofL [(3, .cell (.ptr 3 0)), (4, .cell (.ptr 4 0))] [(3, some [.val (m3_0), .val (m3_1), .val (m3_2), .val (m3_3), .val (m3_4), .val (m3_5), .val (m3_6), .val (m3_7), .val (m3_8), .val (m3_9)]), (4, some [.val (.u8 m4_0), .val (.u8 m4_1), .val (.b m4_2), .val (.u8 m4_3), .val (.u8 m4_4), .val (.u8 m4_5), .val (.u8 m4_6), .val (.b m4_7), .val (.u8 m4_8), .val (.s m4_9)])]
noncomputable def F8_7 (run : List Item → St → Option AV) (m3_0 : AV) (m3_1 : AV) (m3_2 : AV) (m3_3 : AV) (m3_4 : AV) (m3_5 : AV) (m3_6 : AV) (m3_7 : AV) (m3_8 : AV) (m3_9 : AV) (m4_0 : UInt8) (m4_1 : UInt8) (m4_2 : Bool) (m4_3 : UInt8) (m4_4 : UInt8) (m4_5 : UInt8) (m4_6 : UInt8) (m4_7 : Bool) (m4_8 : UInt8) (m4_9 : List UInt8) : Option AV := run K8_7 (S8_7 m3_0 m3_1 m3_2 m3_3 m3_4 m3_5 m3_6 m3_7 m3_8 m3_9 m4_0 m4_1 m4_2 m4_3 m4_4 m4_5 m4_6 m4_7 m4_8 m4_9)
noncomputable def X8 (call : Nat → List AV → Option AV) (run : List Item → St → Option AV) (x0_0 : UInt8) (x0_1 : UInt8) (x0_2 : Bool) (x0_3 : UInt8) (x0_4 : UInt8) (x0_5 : UInt8) (x0_6 : UInt8) (x0_7 : Bool) (x0_8 : UInt8) (x0_9 : List UInt8) : Option AV :=
  (call 22 []).bind fun v1 => (unop .not (v1)).bind fun v2 => condM (v2)
  (some (.b false))
  ((call 25 [.ag [.u8 x0_0, .u8 x0_1, .b x0_2, .u8 x0_3, .u8 x0_4, .u8 x0_5, .u8 x0_6, .b x0_7, .u8 x0_8, .s x0_9]]).bind fun v3 => (AV.asAg 10 (v3)).bind fun v4 => (selW (.b ((w64 (x0_0.toNat : Int)) == 8)) false (some (.b ((w64 (x0_0.toNat : Int)) == 17))) (.b true)).bind fun v5 => condM (v5)
  (F8_7 run (v4.getD 0 .un) (v4.getD 1 .un) (v4.getD 2 .un) (v4.getD 3 .un) (v4.getD 4 .un) (v4.getD 5 .un) (v4.getD 6 .un) (v4.getD 7 .un) (v4.getD 8 .un) (v4.getD 9 .un) x0_0 x0_1 x0_2 x0_3 x0_4 0 0 false 0 [])
  (F8_7 run (v4.getD 0 .un) (v4.getD 1 .un) (v4.getD 2 .un) (v4.getD 3 .un) (v4.getD 4 .un) (v4.getD 5 .un) (v4.getD 6 .un) (v4.getD 7 .un) (v4.getD 8 .un) (v4.getD 9 .un) x0_0 x0_1 x0_2 x0_3 x0_4 x0_5 x0_6 x0_7 x0_8 x0_9))
theorem text8 (call : Nat → List AV → Option AV) (run : List Item → St → Option AV) (x0_0 : UInt8) (x0_1 : UInt8) (x0_2 : Bool) (x0_3 : UInt8) (x0_4 : UInt8) (x0_5 : UInt8) (x0_6 : UInt8) (x0_7 : Bool) (x0_8 : UInt8) (x0_9 : List UInt8) : unr C call run 8 Try.f8 400 [.code body8] (initSt [.ag [.u8 x0_0, .u8 x0_1, .b x0_2, .u8 x0_3, .u8 x0_4, .u8 x0_5, .u8 x0_6, .b x0_7, .u8 x0_8, .s x0_9]]) = X8 call run x0_0 x0_1 x0_2 x0_3 x0_4 x0_5 x0_6 x0_7 x0_8 x0_9 := by
  kernel_rfl
theorem c8 (x0_0 : UInt8) (x0_1 : UInt8) (x0_2 : Bool) (x0_3 : UInt8) (x0_4 : UInt8) (x0_5 : UInt8) (x0_6 : UInt8) (x0_7 : Bool) (x0_8 : UInt8) (x0_9 : List UInt8) {r : AV} (h : X8 (semCall C Try.prog) (semRun C Try.prog 8 Try.f8) x0_0 x0_1 x0_2 x0_3 x0_4 x0_5 x0_6 x0_7 x0_8 x0_9 = some r) : semCall C Try.prog 8 [.ag [.u8 x0_0, .u8 x0_1, .b x0_2, .u8 x0_3, .u8 x0_4, .u8 x0_5, .u8 x0_6, .b x0_7, .u8 x0_8, .s x0_9]] = some r :=
  semCall_unr (fn := Try.f8) (c := body8) (by kernel_rfl) (by kernel_rfl) 400 (by kernel_rfl) ((text8 _ _ x0_0 x0_1 x0_2 x0_3 x0_4 x0_5 x0_6 x0_7 x0_8 x0_9).trans h)
noncomputable def X8_7 (call : Nat → List AV → Option AV) (run : List Item → St → Option AV) (m3_0 : AV) (m3_1 : AV) (m3_2 : AV) (m3_3 : AV) (m3_4 : AV) (m3_5 : AV) (m3_6 : AV) (m3_7 : AV) (m3_8 : AV) (m3_9 : AV) (m4_0 : UInt8) (m4_1 : UInt8) (m4_2 : Bool) (m4_3 : UInt8) (m4_4 : UInt8) (m4_5 : UInt8) (m4_6 : UInt8) (m4_7 : Bool) (m4_8 : UInt8) (m4_9 : List UInt8) : Option AV :=
  (binAg [.i, .i, .b, .i, .i, .i, .i, .b, .i, .s] .eql (.ag [m3_0, m3_1, m3_2, m3_3, m3_4, m3_5, m3_6, m3_7, m3_8, m3_9]) (.ag [.u8 m4_0, .u8 m4_1, .b m4_2, .u8 m4_3, .u8 m4_4, .u8 m4_5, .u8 m4_6, .b m4_7, .u8 m4_8, .s m4_9])).bind fun v1 => (selW (v1) true ((call 25 [.ag [m3_0, m3_1, m3_2, m3_3, m3_4, m3_5, m3_6, m3_7, m3_8, m3_9]]).bind fun v2 => (binAg [.i, .i, .b, .i, .i, .i, .i, .b, .i, .s] .eql (v2) (.ag [m3_0, m3_1, m3_2, m3_3, m3_4, m3_5, m3_6, m3_7, m3_8, m3_9])).bind fun v3 => some (v3)) (.b false)).bind fun v4 => some (v4)
theorem text8_7 (call : Nat → List AV → Option AV) (run : List Item → St → Option AV) (m3_0 : AV) (m3_1 : AV) (m3_2 : AV) (m3_3 : AV) (m3_4 : AV) (m3_5 : AV) (m3_6 : AV) (m3_7 : AV) (m3_8 : AV) (m3_9 : AV) (m4_0 : UInt8) (m4_1 : UInt8) (m4_2 : Bool) (m4_3 : UInt8) (m4_4 : UInt8) (m4_5 : UInt8) (m4_6 : UInt8) (m4_7 : Bool) (m4_8 : UInt8) (m4_9 : List UInt8) : step C call 8 Try.f8 (unr C call run 8 Try.f8 400) K8_7 (S8_7 m3_0 m3_1 m3_2 m3_3 m3_4 m3_5 m3_6 m3_7 m3_8 m3_9 m4_0 m4_1 m4_2 m4_3 m4_4 m4_5 m4_6 m4_7 m4_8 m4_9) = X8_7 call run m3_0 m3_1 m3_2 m3_3 m3_4 m3_5 m3_6 m3_7 m3_8 m3_9 m4_0 m4_1 m4_2 m4_3 m4_4 m4_5 m4_6 m4_7 m4_8 m4_9 := by
  kernel_rfl
theorem r8_7 (m3_0 : AV) (m3_1 : AV) (m3_2 : AV) (m3_3 : AV) (m3_4 : AV) (m3_5 : AV) (m3_6 : AV) (m3_7 : AV) (m3_8 : AV) (m3_9 : AV) (m4_0 : UInt8) (m4_1 : UInt8) (m4_2 : Bool) (m4_3 : UInt8) (m4_4 : UInt8) (m4_5 : UInt8) (m4_6 : UInt8) (m4_7 : Bool) (m4_8 : UInt8) (m4_9 : List UInt8) {r : AV} (h : X8_7 (semCall C Try.prog) (semRun C Try.prog 8 Try.f8) m3_0 m3_1 m3_2 m3_3 m3_4 m3_5 m3_6 m3_7 m3_8 m3_9 m4_0 m4_1 m4_2 m4_3 m4_4 m4_5 m4_6 m4_7 m4_8 m4_9 = some r) : F8_7 (semRun C Try.prog 8 Try.f8) m3_0 m3_1 m3_2 m3_3 m3_4 m3_5 m3_6 m3_7 m3_8 m3_9 m4_0 m4_1 m4_2 m4_3 m4_4 m4_5 m4_6 m4_7 m4_8 m4_9 = some r :=
  semRun_unr 400 ((text8_7 _ _ m3_0 m3_1 m3_2 m3_3 m3_4 m3_5 m3_6 m3_7 m3_8 m3_9 m4_0 m4_1 m4_2 m4_3 m4_4 m4_5 m4_6 m4_7 m4_8 m4_9).trans h)
end R1

namespace R1
open Go Go.Proofs Sx
noncomputable def body9 : Code := (Try.f9.body).getD .skip
noncomputable def X9 (call : Nat → List AV → Option AV) (run : List Item → St → Option AV) (x0_0 : UInt8) (x0_1 : UInt8) (x0_2 : Bool) (x0_3 : UInt8) (x0_4 : UInt8) (x0_5 : UInt8) (x0_6 : UInt8) (x0_7 : Bool) (x0_8 : UInt8) (x0_9 : List UInt8) : Option AV :=
  (call 22 []).bind fun v1 => (unop .not (v1)).bind fun v2 => condM (v2)
  (some (.b false))
  ((call 26 [.ag [.u8 x0_0, .u8 x0_1, .b x0_2, .u8 x0_3, .u8 x0_4, .u8 x0_5, .u8 x0_6, .b x0_7, .u8 x0_8, .s x0_9]]).bind fun v3 => (call 27 [.ag [.u8 x0_0, .u8 x0_1, .b x0_2, .u8 x0_3, .u8 x0_4, .u8 x0_5, .u8 x0_6, .b x0_7, .u8 x0_8, .s x0_9]]).bind fun v4 => (AV.asAg 10 (v4)).bind fun v5 => (binI .eql (v3) (.u8 0)).bind fun v6 => condM (v6)
  ((binAg [.i, .i, .b, .i, .i, .i, .i, .b, .i, .s] .eql (.ag [v5.getD 0 .un, v5.getD 1 .un, v5.getD 2 .un, v5.getD 3 .un, v5.getD 4 .un, v5.getD 5 .un, v5.getD 6 .un, v5.getD 7 .un, v5.getD 8 .un, v5.getD 9 .un]) (.ag [.u8 20, .u8 0, .b false, .u8 0, .u8 0, .u8 0, .u8 0, .b false, .u8 0, .s []])).bind fun v7 => some (v7))
  ((call 23 [.ag [.u8 x0_0, .u8 x0_1, .b x0_2, .u8 x0_3, .u8 x0_4, .u8 x0_5, .u8 x0_6, .b x0_7, .u8 x0_8, .s x0_9]]).bind fun v8 => (selW (v8) true ((call 23 [.ag [v5.getD 0 .un, v5.getD 1 .un, v5.getD 2 .un, v5.getD 3 .un, v5.getD 4 .un, v5.getD 5 .un, v5.getD 6 .un, v5.getD 7 .un, v5.getD 8 .un, v5.getD 9 .un]]).bind fun v9 => (unop .not (v9)).bind fun v10 => some (v10)) (.b false)).bind fun v11 => (selW (v11) false ((call 25 [.ag [v5.getD 0 .un, v5.getD 1 .un, v5.getD 2 .un, v5.getD 3 .un, v5.getD 4 .un, v5.getD 5 .un, v5.getD 6 .un, v5.getD 7 .un, v5.getD 8 .un, v5.getD 9 .un]]).bind fun v12 => (call 25 [.ag [.u8 x0_0, .u8 x0_1, .b x0_2, .u8 x0_3, .u8 x0_4, .u8 x0_5, .u8 x0_6, .b x0_7, .u8 x0_8, .s x0_9]]).bind fun v13 => (binAg [.i, .i, .b, .i, .i, .i, .i, .b, .i, .s] .neq (v12) (v13)).bind fun v14 => some (v14)) (.b true)).bind fun v15 => condM (v15)
  (some (.b false))
  ((binI .eql (v3) (.u8 4)).bind fun v16 => condM (v16)
  ((call 26 [.ag [v5.getD 0 .un, v5.getD 1 .un, v5.getD 2 .un, v5.getD 3 .un, v5.getD 4 .un, v5.getD 5 .un, v5.getD 6 .un, v5.getD 7 .un, v5.getD 8 .un, v5.getD 9 .un]]).bind fun v17 => (binI .eql (v17) (.u8 0)).bind fun v18 => some (v18))
  ((binAg [.i, .i, .b, .i, .i, .i, .i, .b, .i, .s] .eql (.ag [v5.getD 0 .un, v5.getD 1 .un, v5.getD 2 .un, v5.getD 3 .un, v5.getD 4 .un, v5.getD 5 .un, v5.getD 6 .un, v5.getD 7 .un, v5.getD 8 .un, v5.getD 9 .un]) (.ag [.u8 x0_0, .u8 x0_1, .b x0_2, .u8 x0_3, .u8 x0_4, .u8 x0_5, .u8 x0_6, .b x0_7, .u8 x0_8, .s x0_9])).bind fun v19 => (selW (v19) true ((call 26 [.ag [v5.getD 0 .un, v5.getD 1 .un, v5.getD 2 .un, v5.getD 3 .un, v5.getD 4 .un, v5.getD 5 .un, v5.getD 6 .un, v5.getD 7 .un, v5.getD 8 .un, v5.getD 9 .un]]).bind fun v20 => (binI .eql (v20) (v3)).bind fun v21 => some (v21)) (.b false)).bind fun v22 => some (v22)))))
theorem text9 (call : Nat → List AV → Option AV) (run : List Item → St → Option AV) (x0_0 : UInt8) (x0_1 : UInt8) (x0_2 : Bool) (x0_3 : UInt8) (x0_4 : UInt8) (x0_5 : UInt8) (x0_6 : UInt8) (x0_7 : Bool) (x0_8 : UInt8) (x0_9 : List UInt8) : unr C call run 9 Try.f9 400 [.code body9] (initSt [.ag [.u8 x0_0, .u8 x0_1, .b x0_2, .u8 x0_3, .u8 x0_4, .u8 x0_5, .u8 x0_6, .b x0_7, .u8 x0_8, .s x0_9]]) = X9 call run x0_0 x0_1 x0_2 x0_3 x0_4 x0_5 x0_6 x0_7 x0_8 x0_9 := by
  kernel_rfl
theorem c9 (x0_0 : UInt8) (x0_1 : UInt8) (x0_2 : Bool) (x0_3 : UInt8) (x0_4 : UInt8) (x0_5 : UInt8) (x0_6 : UInt8) (x0_7 : Bool) (x0_8 : UInt8) (x0_9 : List UInt8) {r : AV} (h : X9 (semCall C Try.prog) (semRun C Try.prog 9 Try.f9) x0_0 x0_1 x0_2 x0_3 x0_4 x0_5 x0_6 x0_7 x0_8 x0_9 = some r) : semCall C Try.prog 9 [.ag [.u8 x0_0, .u8 x0_1, .b x0_2, .u8 x0_3, .u8 x0_4, .u8 x0_5, .u8 x0_6, .b x0_7, .u8 x0_8, .s x0_9]] = some r :=
  semCall_unr (fn := Try.f9) (c := body9) (by kernel_rfl) (by kernel_rfl) 400 (by kernel_rfl) ((text9 _ _ x0_0 x0_1 x0_2 x0_3 x0_4 x0_5 x0_6 x0_7 x0_8 x0_9).trans h)
end R1

namespace R1
open Go Go.Proofs Sx
noncomputable def body10 : Code := (Try.f10.body).getD .skip
noncomputable def X10 (call : Nat → List AV → Option AV) (run : List Item → St → Option AV) (x0_0 : UInt8) (x0_1 : UInt8) (x0_2 : Bool) (x0_3 : UInt8) (x0_4 : UInt8) (x0_5 : UInt8) (x0_6 : UInt8) (x0_7 : Bool) (x0_8 : UInt8) (x0_9 : List UInt8) : Option AV :=
  (call 22 []).bind fun v1 => (selW (v1) true ((call 26 [.ag [.u8 x0_0, .u8 x0_1, .b x0_2, .u8 x0_3, .u8 x0_4, .u8 x0_5, .u8 x0_6, .b x0_7, .u8 x0_8, .s x0_9]]).bind fun v2 => (conv .i64 (v2)).bind fun v3 => (call 28 [.ag [.u8 x0_0, .u8 x0_1, .b x0_2, .u8 x0_3, .u8 x0_4, .u8 x0_5, .u8 x0_6, .b x0_7, .u8 x0_8, .s x0_9]]).bind fun v4 => (binI .eql (v3) (v4)).bind fun v5 => some (v5)) (.b false)).bind fun v6 => (selW (v6) true ((call 27 [.ag [.u8 x0_0, .u8 x0_1, .b x0_2, .u8 x0_3, .u8 x0_4, .u8 x0_5, .u8 x0_6, .b x0_7, .u8 x0_8, .s x0_9]]).bind fun v7 => (call 29 [.ag [.u8 x0_0, .u8 x0_1, .b x0_2, .u8 x0_3, .u8 x0_4, .u8 x0_5, .u8 x0_6, .b x0_7, .u8 x0_8, .s x0_9]]).bind fun v8 => (binAg [.i, .i, .b, .i, .i, .i, .i, .b, .i, .s] .eql (v7) (v8)).bind fun v9 => some (v9)) (.b false)).bind fun v10 => (selW (v10) true ((call 30 [.ag [.u8 x0_0, .u8 x0_1, .b x0_2, .u8 x0_3, .u8 x0_4, .u8 x0_5, .u8 x0_6, .b x0_7, .u8 x0_8, .s x0_9]]).bind fun v11 => (call 31 [.ag [.u8 x0_0, .u8 x0_1, .b x0_2, .u8 x0_3, .u8 x0_4, .u8 x0_5, .u8 x0_6, .b x0_7, .u8 x0_8, .s x0_9]]).bind fun v12 => (binB .eql (v11) (v12)).bind fun v13 => some (v13)) (.b false)).bind fun v14 => some (v14)
theorem text10 (call : Nat → List AV → Option AV) (run : List Item → St → Option AV) (x0_0 : UInt8) (x0_1 : UInt8) (x0_2 : Bool) (x0_3 : UInt8) (x0_4 : UInt8) (x0_5 : UInt8) (x0_6 : UInt8) (x0_7 : Bool) (x0_8 : UInt8) (x0_9 : List UInt8) : unr C call run 10 Try.f10 400 [.code body10] (initSt [.ag [.u8 x0_0, .u8 x0_1, .b x0_2, .u8 x0_3, .u8 x0_4, .u8 x0_5, .u8 x0_6, .b x0_7, .u8 x0_8, .s x0_9]]) = X10 call run x0_0 x0_1 x0_2 x0_3 x0_4 x0_5 x0_6 x0_7 x0_8 x0_9 := by
  kernel_rfl
theorem c10 (x0_0 : UInt8) (x0_1 : UInt8) (x0_2 : Bool) (x0_3 : UInt8) (x0_4 : UInt8) (x0_5 : UInt8) (x0_6 : UInt8) (x0_7 : Bool) (x0_8 : UInt8) (x0_9 : List UInt8) {r : AV} (h : X10 (semCall C Try.prog) (semRun C Try.prog 10 Try.f10) x0_0 x0_1 x0_2 x0_3 x0_4 x0_5 x0_6 x0_7 x0_8 x0_9 = some r) : semCall C Try.prog 10 [.ag [.u8 x0_0, .u8 x0_1, .b x0_2, .u8 x0_3, .u8 x0_4, .u8 x0_5, .u8 x0_6, .b x0_7, .u8 x0_8, .s x0_9]] = some r :=
  semCall_unr (fn := Try.f10) (c := body10) (by kernel_rfl) (by kernel_rfl) 400 (by kernel_rfl) ((text10 _ _ x0_0 x0_1 x0_2 x0_3 x0_4 x0_5 x0_6 x0_7 x0_8 x0_9).trans h)
end R1

namespace R1
open Go Go.Proofs Sx
noncomputable def body11 : Code := (Try.f11.body).getD .skip
noncomputable def X11 (call : Nat → List AV → Option AV) (run : List Item → St → Option AV) (x0 : List UInt8) (x1 : UInt8) : Option AV :=
  (call 22 []).bind fun v1 => (unop .not (v1)).bind fun v2 => (selW (v2) true (some (.b true)) (.b false)).bind fun v3 => (selW (v3) true (some (.b true)) (.b false)).bind fun v4 => (selW (v4) true (some (.b true)) (.b false)).bind fun v5 => (selW (v5) true (some (.b true)) (.b false)).bind fun v6 => (selW (v6) true (some (.b true)) (.b false)).bind fun v7 => condM (v7)
  (some (.b false))
  ((call 32 [.s x0]).bind fun v8 => (conv .i64 (v8)).bind fun v9 => (call 33 [.s x0]).bind fun v10 => (binI .eql (v9) (v10)).bind fun v11 => (selW (v11) true ((call 34 [.s x0]).bind fun v12 => (conv .i64 (v12)).bind fun v13 => (call 35 [.s x0]).bind fun v14 => (binI .eql (v13) (v14)).bind fun v15 => some (v15)) (.b false)).bind fun v16 => (selW (v16) true ((call 36 [.u8 x1]).bind fun v17 => (call 37 [.int (w64 (x1.toNat : Int))]).bind fun v18 => (binS .eql (v17) (v18)).bind fun v19 => some (v19)) (.b false)).bind fun v20 => (selW (v20) true ((selW (.b (ueq x1 0)) false (some (.b (ugt x1 4))) (.b true)).bind fun v21 => (selW (v21) false ((call 36 [.u8 x1]).bind fun v22 => (call 32 [v22]).bind fun v23 => (conv .i64 (v23)).bind fun v24 => (binI .eql (v24) (.int (w64 (x1.toNat : Int)))).bind fun v25 => some (v25)) (.b true)).bind fun v26 => some (v26)) (.b false)).bind fun v27 => some (v27))
theorem text11 (call : Nat → List AV → Option AV) (run : List Item → St → Option AV) (x0 : List UInt8) (x1 : UInt8) : unr C call run 11 Try.f11 400 [.code body11] (initSt [.s x0, .u8 x1]) = X11 call run x0 x1 := by
  kernel_rfl
theorem c11 (x0 : List UInt8) (x1 : UInt8) {r : AV} (h : X11 (semCall C Try.prog) (semRun C Try.prog 11 Try.f11) x0 x1 = some r) : semCall C Try.prog 11 [.s x0, .u8 x1] = some r :=
  semCall_unr (fn := Try.f11) (c := body11) (by kernel_rfl) (by kernel_rfl) 400 (by kernel_rfl) ((text11 _ _ x0 x1).trans h)
end R1

namespace R1
open Go Go.Proofs Sx
noncomputable def body22 : Code := (Try.f22.body).getD .skip
noncomputable def X22 (call : Nat → List AV → Option AV) (run : List Item → St → Option AV)  : Option AV :=
  (call 26 [.ag [.u8 0, .u8 0, .b false, .u8 0, .u8 0, .u8 0, .u8 0, .b false, .u8 0, .s []]]).bind fun v1 => (binI .eql (v1) (.u8 1)).bind fun v2 => (selW (v2) true ((call 23 [.ag [.u8 0, .u8 0, .b false, .u8 0, .u8 0, .u8 0, .u8 0, .b false, .u8 0, .s []]]).bind fun v3 => some (v3)) (.b false)).bind fun v4 => some (v4)
theorem text22 (call : Nat → List AV → Option AV) (run : List Item → St → Option AV)  : unr C call run 22 Try.f22 400 [.code body22] (initSt []) = X22 call run  := by
  kernel_rfl
theorem c22  {r : AV} (h : X22 (semCall C Try.prog) (semRun C Try.prog 22 Try.f22)  = some r) : semCall C Try.prog 22 [] = some r :=
  semCall_unr (fn := Try.f22) (c := body22) (by kernel_rfl) (by kernel_rfl) 400 (by kernel_rfl) ((text22 _ _ ).trans h)
end R1

namespace R1
open Go Go.Proofs Sx
noncomputable def body23 : Code := (Try.f23.body).getD .skip
noncomputable def K23_11 : List Item := (kAt 11 body23 []).getD []
def S23_11 (m1_0 : UInt8) (m1_1 : UInt8) (m1_2 : Bool) (m1_3 : UInt8) (m1_4 : UInt8) (m1_5 : UInt8) (m1_6 : UInt8) (m1_7 : Bool) (m1_8 : UInt8) (m1_9 : List UInt8) (m4_0 : UInt8) (m4_1 : UInt8) (m4_2 : Bool) (m4_3 : UInt8) (m4_4 : UInt8) (m4_5 : UInt8) (m4_6 : UInt8) (m4_7 : Bool) (m4_8 : UInt8) (m4_9 : List UInt8) : St := St.ofL [(1, .cell (.ptr 1 0)), (4, .cell (.ptr 4 0))] [(1, some [.val (.u8 m1_0), .val (.u8 m1_1), .val (.b m1_2), .val (.u8 m1_3), .val (.u8 m1_4), .val (.u8 m1_5), .val (.u8 m1_6), .val (.b m1_7), .val (.u8 m1_8), .val (.s m1_9)]), (4, some [.val (.u8 m4_0), .val (.u8 m4_1), .val (.b m4_2), .val (.u8 m4_3), .val (.u8 m4_4), .val (.u8 m4_5), .val (.u8 m4_6), .val (.b m4_7), .val (.u8 m4_8), .val (.s m4_9)])]
noncomputable def F23_11 (run : List Item → St → Option AV) (m1_0 : UInt8) (m1_1 : UInt8) (m1_2 : Bool) (m1_3 : UInt8) (m1_4 : UInt8) (m1_5 : UInt8) (m1_6 : UInt8) (m1_7 : Bool) (m1_8 : UInt8) (m1_9 : List UInt8) (m4_0 : UInt8) (m4_1 : UInt8) (m4_2 : Bool) (m4_3 : UInt8) (m4_4 : UInt8) (m4_5 : UInt8) (m4_6 : UInt8) (m4_7 : Bool) (m4_8 : UInt8) (m4_9 : List UInt8) : Option AV := run K23_11 (S23_11 m1_0 m1_1 m1_2 m1_3 m1_4 m1_5 m1_6 m1_7 m1_8 m1_9 m4_0 m4_1 m4_2 m4_3 m4_4 m4_5 m4_6 m4_7 m4_8 m4_9)
noncomputable def K23_12 : List Item := (kAt 12 body23 []).getD []
def S23_12 (t48 : UInt8) (m1_0 : UInt8) (m1_1 : UInt8) (m1_2 : Bool) (m1_3 : UInt8) (m1_4 : UInt8) (m1_5 : UInt8) (m1_6 : UInt8) (m1_7 : Bool) (m1_8 : UInt8) (m1_9 : List UInt8) (m3_0 : UInt8) (m3_1 : UInt8) (m3_2 : Bool) (m3_3 : UInt8) (m3_4 : UInt8) (m3_5 : UInt8) (m3_6 : UInt8) (m3_7 : Bool) (m3_8 : UInt8) (m3_9 : List UInt8) (m4_0 : UInt8) (m4_1 : UInt8) (m4_2 : Bool) (m4_3 : UInt8) (m4_4 : UInt8) (m4_5 : UInt8) (m4_6 : UInt8) (m4_7 : Bool) (m4_8 : UInt8) (m4_9 : List UInt8) : St := St.ofL [(1, .cell (.ptr 1 0)), (3, .cell (.ptr 3 0)), (4, .cell (.ptr 4 0)), (48, .cell (.val (.u8 t48)))] [(1, some [.val (.u8 m1_0), .val (.u8 m1_1), .val (.b m1_2), .val (.u8 m1_3), .val (.u8 m1_4), .val (.u8 m1_5), .val (.u8 m1_6), .val (.b m1_7), .val (.u8 m1_8), .val (.s m1_9)]), (3, some [.val (.u8 m3_0), .val (.u8 m3_1), .val (.b m3_2), .val (.u8 m3_3), .val (.u8 m3_4), .val (.u8 m3_5), .val (.u8 m3_6), .val (.b m3_7), .val (.u8 m3_8), .val (.s m3_9)]), (4, some [.val (.u8 m4_0), .val (.u8 m4_1), .val (.b m4_2), .val (.u8 m4_3), .val (.u8 m4_4), .val (.u8 m4_5), .val (.u8 m4_6), .val (.b m4_7), .val (.u8 m4_8), .val (.s m4_9)])]
noncomputable def F23_12 (run : List Item → St → Option AV) (t48 : UInt8) (m1_0 : UInt8) (m1_1 : UInt8) (m1_2 : Bool) (m1_3 : UInt8) (m1_4 : UInt8) (m1_5 : UInt8) (m1_6 : UInt8) (m1_7 : Bool) (m1_8 : UInt8) (m1_9 : List UInt8) (m3_0 : UInt8) (m3_1 : UInt8) (m3_2 : Bool) (m3_3 : UInt8) (m3_4 : UInt8) (m3_5 : UInt8) (m3_6 : UInt8) (m3_7 : Bool) (m3_8 : UInt8) (m3_9 : List UInt8) (m4_0 : UInt8) (m4_1 : UInt8) (m4_2 : Bool) (m4_3 : UInt8) (m4_4 : UInt8) (m4_5 : UInt8) (m4_6 : UInt8) (m4_7 : Bool) (m4_8 : UInt8) (m4_9 : List UInt8) : Option AV := run K23_12 (S23_12 t48 m1_0 m1_1 m1_2 m1_3 m1_4 m1_5 m1_6 m1_7 m1_8 m1_9 m3_0 m3_1 m3_2 m3_3 m3_4 m3_5 m3_6 m3_7 m3_8 m3_9 m4_0 m4_1 m4_2 m4_3 m4_4 m4_5 m4_6 m4_7 m4_8 m4_9)
noncomputable def K23_14 : List Item := (kAt 14 body23 []).getD []
def S23_14 (m1_0 : UInt8) (m1_1 : UInt8) (m1_2 : Bool) (m1_3 : UInt8) (m1_4 : UInt8) (m1_5 : UInt8) (m1_6 : UInt8) (m1_7 : Bool) (m1_8 : UInt8) (m1_9 : List UInt8) (m4_0 : UInt8) (m4_1 : UInt8) (m4_2 : Bool) (m4_3 : UInt8) (m4_4 : UInt8) (m4_5 : UInt8) (m4_6 : UInt8) (m4_7 : Bool) (m4_8 : UInt8) (m4_9 : List UInt8) : St := St.ofL [(1, .cell (.ptr 1 0)), (4, .cell (.ptr 4 0))] [(1, some [.val (.u8 m1_0), .val (.u8 m1_1), .val (.b m1_2), .val (.u8 m1_3), .val (.u8 m1_4), .val (.u8 m1_5), .val (.u8 m1_6), .val (.b m1_7), .val (.u8 m1_8), .val (.s m1_9)]), (4, some [.val (.u8 m4_0), .val (.u8 m4_1), .val (.b m4_2), .val (.u8 m4_3), .val (.u8 m4_4), .val (.u8 m4_5), .val (.u8 m4_6), .val (.b m4_7), .val (.u8 m4_8), .val (.s m4_9)])]
noncomputable def F23_14 (run : List Item → St → Option AV) (m1_0 : UInt8) (m1_1 : UInt8) (m1_2 : Bool) (m1_3 : UInt8) (m1_4 : UInt8) (m1_5 : UInt8) (m1_6 : UInt8) (m1_7 : Bool) (m1_8 : UInt8) (m1_9 : List UInt8) (m4_0 : UInt8) (m4_1 : UInt8) (m4_2 : Bool) (m4_3 : UInt8) (m4_4 : UInt8) (m4_5 : UInt8) (m4_6 : UInt8) (m4_7 : Bool) (m4_8 : UInt8) (m4_9 : List UInt8) : Option AV := run K23_14 (S23_14 m1_0 m1_1 m1_2 m1_3 m1_4 m1_5 m1_6 m1_7 m1_8 m1_9 m4_0 m4_1 m4_2 m4_3 m4_4 m4_5 m4_6 m4_7 m4_8 m4_9)
noncomputable def K23_16 : List Item := (kAt 16 body23 []).getD []
def S23_16 (t48 : UInt8) (m1_0 : UInt8) (m1_1 : UInt8) (m1_2 : Bool) (m1_3 : UInt8) (m1_4 : UInt8) (m1_5 : UInt8) (m1_6 : UInt8) (m1_7 : Bool) (m1_8 : UInt8) (m1_9 : List UInt8) (m3_0 : UInt8) (m3_1 : UInt8) (m3_2 : Bool) (m3_3 : UInt8) (m3_4 : UInt8) (m3_5 : UInt8) (m3_6 : UInt8) (m3_7 : Bool) (m3_8 : UInt8) (m3_9 : List UInt8) (m4_0 : UInt8) (m4_1 : UInt8) (m4_2 : Bool) (m4_3 : UInt8) (m4_4 : UInt8) (m4_5 : UInt8) (m4_6 : UInt8) (m4_7 : Bool) (m4_8 : UInt8) (m4_9 : List UInt8) : St := St.ofL [(1, .cell (.ptr 1 0)), (3, .cell (.ptr 3 0)), (4, .cell (.ptr 4 0)), (48, .cell (.val (.u8 t48)))] [(1, some [.val (.u8 m1_0), .val (.u8 m1_1), .val (.b m1_2), .val (.u8 m1_3), .val (.u8 m1_4), .val (.u8 m1_5), .val (.u8 m1_6), .val (.b m1_7), .val (.u8 m1_8), .val (.s m1_9)]), (3, some [.val (.u8 m3_0), .val (.u8 m3_1), .val (.b m3_2), .val (.u8 m3_3), .val (.u8 m3_4), .val (.u8 m3_5), .val (.u8 m3_6), .val (.b m3_7), .val (.u8 m3_8), .val (.s m3_9)]), (4, some [.val (.u8 m4_0), .val (.u8 m4_1), .val (.b m4_2), .val (.u8 m4_3), .val (.u8 m4_4), .val (.u8 m4_5), .val (.u8 m4_6), .val (.b m4_7), .val (.u8 m4_8), .val (.s m4_9)])]
noncomputable def F23_16 (run : List Item → St → Option AV) (t48 : UInt8) (m1_0 : UInt8) (m1_1 : UInt8) (m1_2 : Bool) (m1_3 : UInt8) (m1_4 : UInt8) (m1_5 : UInt8) (m1_6 : UInt8) (m1_7 : Bool) (m1_8 : UInt8) (m1_9 : List UInt8) (m3_0 : UInt8) (m3_1 : UInt8) (m3_2 : Bool) (m3_3 : UInt8) (m3_4 : UInt8) (m3_5 : UInt8) (m3_6 : UInt8) (m3_7 : Bool) (m3_8 : UInt8) (m3_9 : List UInt8) (m4_0 : UInt8) (m4_1 : UInt8) (m4_2 : Bool) (m4_3 : UInt8) (m4_4 : UInt8) (m4_5 : UInt8) (m4_6 : UInt8) (m4_7 : Bool) (m4_8 : UInt8) (m4_9 : List UInt8) : Option AV := run K23_16 (S23_16 t48 m1_0 m1_1 m1_2 m1_3 m1_4 m1_5 m1_6 m1_7 m1_8 m1_9 m3_0 m3_1 m3_2 m3_3 m3_4 m3_5 m3_6 m3_7 m3_8 m3_9 m4_0 m4_1 m4_2 m4_3 m4_4 m4_5 m4_6 m4_7 m4_8 m4_9)
noncomputable def K23_27 : List Item := (kAt 27 body23 []).getD []
def S23_27 (m1_0 : UInt8) (m1_1 : UInt8) (m1_2 : Bool) (m1_3 : UInt8) (m1_4 : UInt8) (m1_5 : UInt8) (m1_6 : UInt8) (m1_7 : Bool) (m1_8 : UInt8) (m1_9 : List UInt8) : St := St.ofL [(1, .cell (.ptr 1 0))] [(1, some [.val (.u8 m1_0), .val (.u8 m1_1), .val (.b m1_2), .val (.u8 m1_3), .val (.u8 m1_4), .val (.u8 m1_5), .val (.u8 m1_6), .val (.b m1_7), .val (.u8 m1_8), .val (.s m1_9)])]
noncomputable def F23_27 (run : List Item → St → Option AV) (m1_0 : UInt8) (m1_1 : UInt8) (m1_2 : Bool) (m1_3 : UInt8) (m1_4 : UInt8) (m1_5 : UInt8) (m1_6 : UInt8) (m1_7 : Bool) (m1_8 : UInt8) (m1_9 : List UInt8) : Option AV := run K23_27 (S23_27 m1_0 m1_1 m1_2 m1_3 m1_4 m1_5 m1_6 m1_7 m1_8 m1_9)
noncomputable def K23_28 : List Item := (kAt 28 body23 []).getD []
def S23_28 (m1_0 : UInt8) (m1_1 : UInt8) (m1_2 : Bool) (m1_3 : UInt8) (m1_4 : UInt8) (m1_5 : UInt8) (m1_6 : UInt8) (m1_7 : Bool) (m1_8 : UInt8) (m1_9 : List UInt8) (m3_0 : UInt8) (m3_1 : UInt8) (m3_2 : Bool) (m3_3 : UInt8) (m3_4 : UInt8) (m3_5 : UInt8) (m3_6 : UInt8) (m3_7 : Bool) (m3_8 : UInt8) (m3_9 : List UInt8) : St := St.ofL [(1, .cell (.ptr 1 0)), (3, .cell (.ptr 3 0))] [(1, some [.val (.u8 m1_0), .val (.u8 m1_1), .val (.b m1_2), .val (.u8 m1_3), .val (.u8 m1_4), .val (.u8 m1_5), .val (.u8 m1_6), .val (.b m1_7), .val (.u8 m1_8), .val (.s m1_9)]), (3, some [.val (.u8 m3_0), .val (.u8 m3_1), .val (.b m3_2), .val (.u8 m3_3), .val (.u8 m3_4), .val (.u8 m3_5), .val (.u8 m3_6), .val (.b m3_7), .val (.u8 m3_8), .val (.s m3_9)])]
noncomputable def F23_28 (run : List Item → St → Option AV) (m1_0 : UInt8) (m1_1 : UInt8) (m1_2 : Bool) (m1_3 : UInt8) (m1_4 : UInt8) (m1_5 : UInt8) (m1_6 : UInt8) (m1_7 : Bool) (m1_8 : UInt8) (m1_9 : List UInt8) (m3_0 : UInt8) (m3_1 : UInt8) (m3_2 : Bool) (m3_3 : UInt8) (m3_4 : UInt8) (m3_5 : UInt8) (m3_6 : UInt8) (m3_7 : Bool) (m3_8 : UInt8) (m3_9 : List UInt8) : Option AV := run K23_28 (S23_28 m1_0 m1_1 m1_2 m1_3 m1_4 m1_5 m1_6 m1_7 m1_8 m1_9 m3_0 m3_1 m3_2 m3_3 m3_4 m3_5 m3_6 m3_7 m3_8 m3_9)
noncomputable def X23 (call : Nat → List AV → Option AV) (run : List Item → St → Option AV) (x0_0 : UInt8) (x0_1 : UInt8) (x0_2 : Bool) (x0_3 : UInt8) (x0_4 : UInt8) (x0_5 : UInt8) (x0_6 : UInt8) (x0_7 : Bool) (x0_8 : UInt8) (x0_9 : List UInt8) : Option AV :=
  (selW (.b (ugt x0_0 20)) false (some (.b (ugt x0_1 4))) (.b true)).bind fun v1 => (selW (v1) false (some (.b (ugt x0_3 4))) (.b true)).bind fun v2 => (selW (v2) false (some (.b (ugt x0_5 5))) (.b true)).bind fun v3 => (selW (v3) false (some (.b (ugt x0_6 6))) (.b true)).bind fun v4 => (selW (v4) false ((selW (.b x0_2) true (some (.b (une x0_1 0))) (.b false)).bind fun v5 => some (v5)) (.b true)).bind fun v6 => condM (v6)
  (some (.b false))
  (condM (.b (ueq x0_0 3))
  ((selW (.b ((x0_0 == x0_0 && (x0_1 == 0 && (x0_2 == x0_2 && (x0_3 == 0 && (x0_4 == 0 && (x0_5 == 0 && (x0_6 == 0 && (x0_7 == false && (x0_8 == 0 && (x0_9 == x0_9 && true)))))))))))) true ((call 41 [.s x0_9, .int 32]).bind fun v7 => some (v7)) (.b false)).bind fun v8 => some (v8))
  (condM (.b (ueq x0_0 4))
  (F23_11 run x0_0 x0_1 x0_2 x0_3 x0_4 x0_5 x0_6 x0_7 x0_8 x0_9 x0_0 x0_1 x0_2 0 0 0 0 false 0 [])
  (condM (.b (ueq x0_0 9))
  (F23_11 run x0_0 x0_1 x0_2 x0_3 x0_4 x0_5 x0_6 x0_7 x0_8 x0_9 x0_0 x0_1 x0_2 0 0 0 0 false 0 [])
  (condM (.b (ueq x0_0 10))
  (F23_11 run x0_0 x0_1 x0_2 x0_3 x0_4 x0_5 x0_6 x0_7 x0_8 x0_9 x0_0 x0_1 x0_2 0 0 0 0 false 0 [])
  (F23_12 run x0_0 x0_0 x0_1 x0_2 x0_3 x0_4 x0_5 x0_6 x0_7 x0_8 x0_9 x0_0 0 false 0 0 0 0 false 0 [] x0_0 x0_1 x0_2 0 0 0 0 false 0 [])))))
theorem text23 (call : Nat → List AV → Option AV) (run : List Item → St → Option AV) (x0_0 : UInt8) (x0_1 : UInt8) (x0_2 : Bool) (x0_3 : UInt8) (x0_4 : UInt8) (x0_5 : UInt8) (x0_6 : UInt8) (x0_7 : Bool) (x0_8 : UInt8) (x0_9 : List UInt8) : unr C call run 23 Try.f23 400 [.code body23] (initSt [.ag [.u8 x0_0, .u8 x0_1, .b x0_2, .u8 x0_3, .u8 x0_4, .u8 x0_5, .u8 x0_6, .b x0_7, .u8 x0_8, .s x0_9]]) = X23 call run x0_0 x0_1 x0_2 x0_3 x0_4 x0_5 x0_6 x0_7 x0_8 x0_9 := by
  kernel_rfl
theorem c23 (x0_0 : UInt8) (x0_1 : UInt8) (x0_2 : Bool) (x0_3 : UInt8) (x0_4 : UInt8) (x0_5 : UInt8) (x0_6 : UInt8) (x0_7 : Bool) (x0_8 : UInt8) (x0_9 : List UInt8) {r : AV} (h : X23 (semCall C Try.prog) (semRun C Try.prog 23 Try.f23) x0_0 x0_1 x0_2 x0_3 x0_4 x0_5 x0_6 x0_7 x0_8 x0_9 = some r) : semCall C Try.prog 23 [.ag [.u8 x0_0, .u8 x0_1, .b x0_2, .u8 x0_3, .u8 x0_4, .u8 x0_5, .u8 x0_6, .b x0_7, .u8 x0_8, .s x0_9]] = some r :=
  semCall_unr (fn := Try.f23) (c := body23) (by kernel_rfl) (by kernel_rfl) 400 (by kernel_rfl) ((text23 _ _ x0_0 x0_1 x0_2 x0_3 x0_4 x0_5 x0_6 x0_7 x0_8 x0_9).trans h)
noncomputable def X23_11 (call : Nat → List AV → Option AV) (run : List Item → St → Option AV) (m1_0 : UInt8) (m1_1 : UInt8) (m1_2 : Bool) (m1_3 : UInt8) (m1_4 : UInt8) (m1_5 : UInt8) (m1_6 : UInt8) (m1_7 : Bool) (m1_8 : UInt8) (m1_9 : List UInt8) (m4_0 : UInt8) (m4_1 : UInt8) (m4_2 : Bool) (m4_3 : UInt8) (m4_4 : UInt8) (m4_5 : UInt8) (m4_6 : UInt8) (m4_7 : Bool) (m4_8 : UInt8) (m4_9 : List UInt8) : Option AV :=
  some (.b ((m1_0 == m4_0 && (m1_1 == m4_1 && (m1_2 == m4_2 && (m1_3 == m4_3 && (m1_4 == m4_4 && (m1_5 == m4_5 && (m1_6 == m4_6 && (m1_7 == m4_7 && (m1_8 == m4_8 && (m1_9 == m4_9 && true))))))))))))
theorem text23_11 (call : Nat → List AV → Option AV) (run : List Item → St → Option AV) (m1_0 : UInt8) (m1_1 : UInt8) (m1_2 : Bool) (m1_3 : UInt8) (m1_4 : UInt8) (m1_5 : UInt8) (m1_6 : UInt8) (m1_7 : Bool) (m1_8 : UInt8) (m1_9 : List UInt8) (m4_0 : UInt8) (m4_1 : UInt8) (m4_2 : Bool) (m4_3 : UInt8) (m4_4 : UInt8) (m4_5 : UInt8) (m4_6 : UInt8) (m4_7 : Bool) (m4_8 : UInt8) (m4_9 : List UInt8) : step C call 23 Try.f23 (unr C call run 23 Try.f23 400) K23_11 (S23_11 m1_0 m1_1 m1_2 m1_3 m1_4 m1_5 m1_6 m1_7 m1_8 m1_9 m4_0 m4_1 m4_2 m4_3 m4_4 m4_5 m4_6 m4_7 m4_8 m4_9) = X23_11 call run m1_0 m1_1 m1_2 m1_3 m1_4 m1_5 m1_6 m1_7 m1_8 m1_9 m4_0 m4_1 m4_2 m4_3 m4_4 m4_5 m4_6 m4_7 m4_8 m4_9 := by
  kernel_rfl
noncomputable def X23_12 (call : Nat → List AV → Option AV) (run : List Item → St → Option AV) (t48 : UInt8) (m1_0 : UInt8) (m1_1 : UInt8) (m1_2 : Bool) (m1_3 : UInt8) (m1_4 : UInt8) (m1_5 : UInt8) (m1_6 : UInt8) (m1_7 : Bool) (m1_8 : UInt8) (m1_9 : List UInt8) (m3_0 : UInt8) (m3_1 : UInt8) (m3_2 : Bool) (m3_3 : UInt8) (m3_4 : UInt8) (m3_5 : UInt8) (m3_6 : UInt8) (m3_7 : Bool) (m3_8 : UInt8) (m3_9 : List UInt8) (m4_0 : UInt8) (m4_1 : UInt8) (m4_2 : Bool) (m4_3 : UInt8) (m4_4 : UInt8) (m4_5 : UInt8) (m4_6 : UInt8) (m4_7 : Bool) (m4_8 : UInt8) (m4_9 : List UInt8) : Option AV :=
  condM (.b (ueq t48 5))
  (F23_14 run m1_0 m1_1 m1_2 m1_3 m1_4 m1_5 m1_6 m1_7 m1_8 m1_9 m4_0 m4_1 m4_2 m4_3 m4_4 m4_5 m4_6 m4_7 m4_8 m4_9)
  (condM (.b (ueq t48 6))
  (F23_14 run m1_0 m1_1 m1_2 m1_3 m1_4 m1_5 m1_6 m1_7 m1_8 m1_9 m4_0 m4_1 m4_2 m4_3 m4_4 m4_5 m4_6 m4_7 m4_8 m4_9)
  (F23_16 run t48 m1_0 m1_1 m1_2 m1_3 m1_4 m1_5 m1_6 m1_7 m1_8 m1_9 m3_0 m3_1 m3_2 m3_3 m3_4 m3_5 m3_6 m3_7 m3_8 m3_9 m4_0 m4_1 m4_2 m4_3 m4_4 m4_5 m4_6 m4_7 m4_8 m4_9))
theorem text23_12 (call : Nat → List AV → Option AV) (run : List Item → St → Option AV) (t48 : UInt8) (m1_0 : UInt8) (m1_1 : UInt8) (m1_2 : Bool) (m1_3 : UInt8) (m1_4 : UInt8) (m1_5 : UInt8) (m1_6 : UInt8) (m1_7 : Bool) (m1_8 : UInt8) (m1_9 : List UInt8) (m3_0 : UInt8) (m3_1 : UInt8) (m3_2 : Bool) (m3_3 : UInt8) (m3_4 : UInt8) (m3_5 : UInt8) (m3_6 : UInt8) (m3_7 : Bool) (m3_8 : UInt8) (m3_9 : List UInt8) (m4_0 : UInt8) (m4_1 : UInt8) (m4_2 : Bool) (m4_3 : UInt8) (m4_4 : UInt8) (m4_5 : UInt8) (m4_6 : UInt8) (m4_7 : Bool) (m4_8 : UInt8) (m4_9 : List UInt8) : step C call 23 Try.f23 (unr C call run 23 Try.f23 400) K23_12 (S23_12 t48 m1_0 m1_1 m1_2 m1_3 m1_4 m1_5 m1_6 m1_7 m1_8 m1_9 m3_0 m3_1 m3_2 m3_3 m3_4 m3_5 m3_6 m3_7 m3_8 m3_9 m4_0 m4_1 m4_2 m4_3 m4_4 m4_5 m4_6 m4_7 m4_8 m4_9) = X23_12 call run t48 m1_0 m1_1 m1_2 m1_3 m1_4 m1_5 m1_6 m1_7 m1_8 m1_9 m3_0 m3_1 m3_2 m3_3 m3_4 m3_5 m3_6 m3_7 m3_8 m3_9 m4_0 m4_1 m4_2 m4_3 m4_4 m4_5 m4_6 m4_7 m4_8 m4_9 := by
  kernel_rfl
noncomputable def X23_14 (call : Nat → List AV → Option AV) (run : List Item → St → Option AV) (m1_0 : UInt8) (m1_1 : UInt8) (m1_2 : Bool) (m1_3 : UInt8) (m1_4 : UInt8) (m1_5 : UInt8) (m1_6 : UInt8) (m1_7 : Bool) (m1_8 : UInt8) (m1_9 : List UInt8) (m4_0 : UInt8) (m4_1 : UInt8) (m4_2 : Bool) (m4_3 : UInt8) (m4_4 : UInt8) (m4_5 : UInt8) (m4_6 : UInt8) (m4_7 : Bool) (m4_8 : UInt8) (m4_9 : List UInt8) : Option AV :=
  (selW (.b ((m1_0 == m4_0 && (m1_1 == m4_1 && (m1_2 == m4_2 && (m1_3 == m4_3 && (m1_4 == m4_4 && (m1_5 == m4_5 && (m1_6 == m4_6 && (m1_7 == m4_7 && (m1_8 == m4_8 && (m1_9 == m1_9 && true)))))))))))) true ((call 41 [.s m1_9, .int 32]).bind fun v1 => some (v1)) (.b false)).bind fun v2 => some (v2)
theorem text23_14 (call : Nat → List AV → Option AV) (run : List Item → St → Option AV) (m1_0 : UInt8) (m1_1 : UInt8) (m1_2 : Bool) (m1_3 : UInt8) (m1_4 : UInt8) (m1_5 : UInt8) (m1_6 : UInt8) (m1_7 : Bool) (m1_8 : UInt8) (m1_9 : List UInt8) (m4_0 : UInt8) (m4_1 : UInt8) (m4_2 : Bool) (m4_3 : UInt8) (m4_4 : UInt8) (m4_5 : UInt8) (m4_6 : UInt8) (m4_7 : Bool) (m4_8 : UInt8) (m4_9 : List UInt8) : step C call 23 Try.f23 (unr C call run 23 Try.f23 400) K23_14 (S23_14 m1_0 m1_1 m1_2 m1_3 m1_4 m1_5 m1_6 m1_7 m1_8 m1_9 m4_0 m4_1 m4_2 m4_3 m4_4 m4_5 m4_6 m4_7 m4_8 m4_9) = X23_14 call run m1_0 m1_1 m1_2 m1_3 m1_4 m1_5 m1_6 m1_7 m1_8 m1_9 m4_0 m4_1 m4_2 m4_3 m4_4 m4_5 m4_6 m4_7 m4_8 m4_9 := by
  kernel_rfl
noncomputable def X23_16 (call : Nat → List AV → Option AV) (run : List Item → St → Option AV) (t48 : UInt8) (m1_0 : UInt8) (m1_1 : UInt8) (m1_2 : Bool) (m1_3 : UInt8) (m1_4 : UInt8) (m1_5 : UInt8) (m1_6 : UInt8) (m1_7 : Bool) (m1_8 : UInt8) (m1_9 : List UInt8) (m3_0 : UInt8) (m3_1 : UInt8) (m3_2 : Bool) (m3_3 : UInt8) (m3_4 : UInt8) (m3_5 : UInt8) (m3_6 : UInt8) (m3_7 : Bool) (m3_8 : UInt8) (m3_9 : List UInt8) (m4_0 : UInt8) (m4_1 : UInt8) (m4_2 : Bool) (m4_3 : UInt8) (m4_4 : UInt8) (m4_5 : UInt8) (m4_6 : UInt8) (m4_7 : Bool) (m4_8 : UInt8) (m4_9 : List UInt8) : Option AV :=
  condM (.b (ueq t48 7))
  (some (.b ((m1_0 == m4_0 && (m1_1 == m4_1 && (m1_2 == m4_2 && (m1_3 == m1_3 && (m1_4 == m4_4 && (m1_5 == m4_5 && (m1_6 == m4_6 && (m1_7 == m4_7 && (m1_8 == m4_8 && (m1_9 == m4_9 && true)))))))))))))
  (condM (.b (ueq t48 8))
  ((call 42 [.ag [.u8 m1_0, .u8 m1_1, .b m1_2, .u8 m1_3, .u8 m1_4, .u8 m1_5, .u8 m1_6, .b m1_7, .u8 m1_8, .s m1_9], .ag [.u8 m4_0, .u8 m4_1, .b m4_2, .u8 m4_3, .u8 m4_4, .u8 m4_5, .u8 m4_6, .b m4_7, .u8 m4_8, .s m4_9]]).bind fun v1 => some (v1))
  (condM (.b (ueq t48 15))
  ((selW (.b ((m1_0 == m3_0 && (m1_1 == m3_1 && (m1_2 == m3_2 && (m1_3 == m3_3 && (m1_4 == m3_4 && (m1_5 == m3_5 && (m1_6 == m3_6 && (m1_7 == m3_7 && (m1_8 == m1_8 && (m1_9 == m3_9 && true)))))))))))) true (some (.b (ule m1_8 2))) (.b false)).bind fun v2 => some (v2))
  (condM (.b (ueq t48 17))
  (F23_27 run m1_0 m1_1 m1_2 m1_3 m1_4 m1_5 m1_6 m1_7 m1_8 m1_9)
  (condM (.b (ueq t48 18))
  (F23_27 run m1_0 m1_1 m1_2 m1_3 m1_4 m1_5 m1_6 m1_7 m1_8 m1_9)
  (condM (.b (ueq t48 19))
  (F23_27 run m1_0 m1_1 m1_2 m1_3 m1_4 m1_5 m1_6 m1_7 m1_8 m1_9)
  (F23_28 run m1_0 m1_1 m1_2 m1_3 m1_4 m1_5 m1_6 m1_7 m1_8 m1_9 m3_0 m3_1 m3_2 m3_3 m3_4 m3_5 m3_6 m3_7 m3_8 m3_9))))))
theorem text23_16 (call : Nat → List AV → Option AV) (run : List Item → St → Option AV) (t48 : UInt8) (m1_0 : UInt8) (m1_1 : UInt8) (m1_2 : Bool) (m1_3 : UInt8) (m1_4 : UInt8) (m1_5 : UInt8) (m1_6 : UInt8) (m1_7 : Bool) (m1_8 : UInt8) (m1_9 : List UInt8) (m3_0 : UInt8) (m3_1 : UInt8) (m3_2 : Bool) (m3_3 : UInt8) (m3_4 : UInt8) (m3_5 : UInt8) (m3_6 : UInt8) (m3_7 : Bool) (m3_8 : UInt8) (m3_9 : List UInt8) (m4_0 : UInt8) (m4_1 : UInt8) (m4_2 : Bool) (m4_3 : UInt8) (m4_4 : UInt8) (m4_5 : UInt8) (m4_6 : UInt8) (m4_7 : Bool) (m4_8 : UInt8) (m4_9 : List UInt8) : step C call 23 Try.f23 (unr C call run 23 Try.f23 400) K23_16 (S23_16 t48 m1_0 m1_1 m1_2 m1_3 m1_4 m1_5 m1_6 m1_7 m1_8 m1_9 m3_0 m3_1 m3_2 m3_3 m3_4 m3_5 m3_6 m3_7 m3_8 m3_9 m4_0 m4_1 m4_2 m4_3 m4_4 m4_5 m4_6 m4_7 m4_8 m4_9) = X23_16 call run t48 m1_0 m1_1 m1_2 m1_3 m1_4 m1_5 m1_6 m1_7 m1_8 m1_9 m3_0 m3_1 m3_2 m3_3 m3_4 m3_5 m3_6 m3_7 m3_8 m3_9 m4_0 m4_1 m4_2 m4_3 m4_4 m4_5 m4_6 m4_7 m4_8 m4_9 := by
  kernel_rfl
noncomputable def X23_27 (call : Nat → List AV → Option AV) (run : List Item → St → Option AV) (m1_0 : UInt8) (m1_1 : UInt8) (m1_2 : Bool) (m1_3 : UInt8) (m1_4 : UInt8) (m1_5 : UInt8) (m1_6 : UInt8) (m1_7 : Bool) (m1_8 : UInt8) (m1_9 : List UInt8) : Option AV :=
  (call 43 [.ag [.u8 m1_0, .u8 m1_1, .b m1_2, .u8 m1_3, .u8 m1_4, .u8 m1_5, .u8 m1_6, .b m1_7, .u8 m1_8, .s m1_9]]).bind fun v1 => some (v1)
theorem text23_27 (call : Nat → List AV → Option AV) (run : List Item → St → Option AV) (m1_0 : UInt8) (m1_1 : UInt8) (m1_2 : Bool) (m1_3 : UInt8) (m1_4 : UInt8) (m1_5 : UInt8) (m1_6 : UInt8) (m1_7 : Bool) (m1_8 : UInt8) (m1_9 : List UInt8) : step C call 23 Try.f23 (unr C call run 23 Try.f23 400) K23_27 (S23_27 m1_0 m1_1 m1_2 m1_3 m1_4 m1_5 m1_6 m1_7 m1_8 m1_9) = X23_27 call run m1_0 m1_1 m1_2 m1_3 m1_4 m1_5 m1_6 m1_7 m1_8 m1_9 := by
  kernel_rfl
noncomputable def X23_28 (call : Nat → List AV → Option AV) (run : List Item → St → Option AV) (m1_0 : UInt8) (m1_1 : UInt8) (m1_2 : Bool) (m1_3 : UInt8) (m1_4 : UInt8) (m1_5 : UInt8) (m1_6 : UInt8) (m1_7 : Bool) (m1_8 : UInt8) (m1_9 : List UInt8) (m3_0 : UInt8) (m3_1 : UInt8) (m3_2 : Bool) (m3_3 : UInt8) (m3_4 : UInt8) (m3_5 : UInt8) (m3_6 : UInt8) (m3_7 : Bool) (m3_8 : UInt8) (m3_9 : List UInt8) : Option AV :=
  some (.b ((m1_0 == m3_0 && (m1_1 == m3_1 && (m1_2 == m3_2 && (m1_3 == m3_3 && (m1_4 == m3_4 && (m1_5 == m3_5 && (m1_6 == m3_6 && (m1_7 == m3_7 && (m1_8 == m3_8 && (m1_9 == m3_9 && true))))))))))))
theorem text23_28 (call : Nat → List AV → Option AV) (run : List Item → St → Option AV) (m1_0 : UInt8) (m1_1 : UInt8) (m1_2 : Bool) (m1_3 : UInt8) (m1_4 : UInt8) (m1_5 : UInt8) (m1_6 : UInt8) (m1_7 : Bool) (m1_8 : UInt8) (m1_9 : List UInt8) (m3_0 : UInt8) (m3_1 : UInt8) (m3_2 : Bool) (m3_3 : UInt8) (m3_4 : UInt8) (m3_5 : UInt8) (m3_6 : UInt8) (m3_7 : Bool) (m3_8 : UInt8) (m3_9 : List UInt8) : step C call 23 Try.f23 (unr C call run 23 Try.f23 400) K23_28 (S23_28 m1_0 m1_1 m1_2 m1_3 m1_4 m1_5 m1_6 m1_7 m1_8 m1_9 m3_0 m3_1 m3_2 m3_3 m3_4 m3_5 m3_6 m3_7 m3_8 m3_9) = X23_28 call run m1_0 m1_1 m1_2 m1_3 m1_4 m1_5 m1_6 m1_7 m1_8 m1_9 m3_0 m3_1 m3_2 m3_3 m3_4 m3_5 m3_6 m3_7 m3_8 m3_9 := by
  kernel_rfl
theorem r23_11 (m1_0 : UInt8) (m1_1 : UInt8) (m1_2 : Bool) (m1_3 : UInt8) (m1_4 : UInt8) (m1_5 : UInt8) (m1_6 : UInt8) (m1_7 : Bool) (m1_8 : UInt8) (m1_9 : List UInt8) (m4_0 : UInt8) (m4_1 : UInt8) (m4_2 : Bool) (m4_3 : UInt8) (m4_4 : UInt8) (m4_5 : UInt8) (m4_6 : UInt8) (m4_7 : Bool) (m4_8 : UInt8) (m4_9 : List UInt8) {r : AV} (h : X23_11 (semCall C Try.prog) (semRun C Try.prog 23 Try.f23) m1_0 m1_1 m1_2 m1_3 m1_4 m1_5 m1_6 m1_7 m1_8 m1_9 m4_0 m4_1 m4_2 m4_3 m4_4 m4_5 m4_6 m4_7 m4_8 m4_9 = some r) : F23_11 (semRun C Try.prog 23 Try.f23) m1_0 m1_1 m1_2 m1_3 m1_4 m1_5 m1_6 m1_7 m1_8 m1_9 m4_0 m4_1 m4_2 m4_3 m4_4 m4_5 m4_6 m4_7 m4_8 m4_9 = some r :=
  semRun_unr 400 ((text23_11 _ _ m1_0 m1_1 m1_2 m1_3 m1_4 m1_5 m1_6 m1_7 m1_8 m1_9 m4_0 m4_1 m4_2 m4_3 m4_4 m4_5 m4_6 m4_7 m4_8 m4_9).trans h)
theorem r23_12 (t48 : UInt8) (m1_0 : UInt8) (m1_1 : UInt8) (m1_2 : Bool) (m1_3 : UInt8) (m1_4 : UInt8) (m1_5 : UInt8) (m1_6 : UInt8) (m1_7 : Bool) (m1_8 : UInt8) (m1_9 : List UInt8) (m3_0 : UInt8) (m3_1 : UInt8) (m3_2 : Bool) (m3_3 : UInt8) (m3_4 : UInt8) (m3_5 : UInt8) (m3_6 : UInt8) (m3_7 : Bool) (m3_8 : UInt8) (m3_9 : List UInt8) (m4_0 : UInt8) (m4_1 : UInt8) (m4_2 : Bool) (m4_3 : UInt8) (m4_4 : UInt8) (m4_5 : UInt8) (m4_6 : UInt8) (m4_7 : Bool) (m4_8 : UInt8) (m4_9 : List UInt8) {r : AV} (h : X23_12 (semCall C Try.prog) (semRun C Try.prog 23 Try.f23) t48 m1_0 m1_1 m1_2 m1_3 m1_4 m1_5 m1_6 m1_7 m1_8 m1_9 m3_0 m3_1 m3_2 m3_3 m3_4 m3_5 m3_6 m3_7 m3_8 m3_9 m4_0 m4_1 m4_2 m4_3 m4_4 m4_5 m4_6 m4_7 m4_8 m4_9 = some r) : F23_12 (semRun C Try.prog 23 Try.f23) t48 m1_0 m1_1 m1_2 m1_3 m1_4 m1_5 m1_6 m1_7 m1_8 m1_9 m3_0 m3_1 m3_2 m3_3 m3_4 m3_5 m3_6 m3_7 m3_8 m3_9 m4_0 m4_1 m4_2 m4_3 m4_4 m4_5 m4_6 m4_7 m4_8 m4_9 = some r :=
  semRun_unr 400 ((text23_12 _ _ t48 m1_0 m1_1 m1_2 m1_3 m1_4 m1_5 m1_6 m1_7 m1_8 m1_9 m3_0 m3_1 m3_2 m3_3 m3_4 m3_5 m3_6 m3_7 m3_8 m3_9 m4_0 m4_1 m4_2 m4_3 m4_4 m4_5 m4_6 m4_7 m4_8 m4_9).trans h)
theorem r23_14 (m1_0 : UInt8) (m1_1 : UInt8) (m1_2 : Bool) (m1_3 : UInt8) (m1_4 : UInt8) (m1_5 : UInt8) (m1_6 : UInt8) (m1_7 : Bool) (m1_8 : UInt8) (m1_9 : List UInt8) (m4_0 : UInt8) (m4_1 : UInt8) (m4_2 : Bool) (m4_3 : UInt8) (m4_4 : UInt8) (m4_5 : UInt8) (m4_6 : UInt8) (m4_7 : Bool) (m4_8 : UInt8) (m4_9 : List UInt8) {r : AV} (h : X23_14 (semCall C Try.prog) (semRun C Try.prog 23 Try.f23) m1_0 m1_1 m1_2 m1_3 m1_4 m1_5 m1_6 m1_7 m1_8 m1_9 m4_0 m4_1 m4_2 m4_3 m4_4 m4_5 m4_6 m4_7 m4_8 m4_9 = some r) : F23_14 (semRun C Try.prog 23 Try.f23) m1_0 m1_1 m1_2 m1_3 m1_4 m1_5 m1_6 m1_7 m1_8 m1_9 m4_0 m4_1 m4_2 m4_3 m4_4 m4_5 m4_6 m4_7 m4_8 m4_9 = some r :=
  semRun_unr 400 ((text23_14 _ _ m1_0 m1_1 m1_2 m1_3 m1_4 m1_5 m1_6 m1_7 m1_8 m1_9 m4_0 m4_1 m4_2 m4_3 m4_4 m4_5 m4_6 m4_7 m4_8 m4_9).trans h)
theorem r23_16 (t48 : UInt8) (m1_0 : UInt8) (m1_1 : UInt8) (m1_2 : Bool) (m1_3 : UInt8) (m1_4 : UInt8) (m1_5 : UInt8) (m1_6 : UInt8) (m1_7 : Bool) (m1_8 : UInt8) (m1_9 : List UInt8) (m3_0 : UInt8) (m3_1 : UInt8) (m3_2 : Bool) (m3_3 : UInt8) (m3_4 : UInt8) (m3_5 : UInt8) (m3_6 : UInt8) (m3_7 : Bool) (m3_8 : UInt8) (m3_9 : List UInt8) (m4_0 : UInt8) (m4_1 : UInt8) (m4_2 : Bool) (m4_3 : UInt8) (m4_4 : UInt8) (m4_5 : UInt8) (m4_6 : UInt8) (m4_7 : Bool) (m4_8 : UInt8) (m4_9 : List UInt8) {r : AV} (h : X23_16 (semCall C Try.prog) (semRun C Try.prog 23 Try.f23) t48 m1_0 m1_1 m1_2 m1_3 m1_4 m1_5 m1_6 m1_7 m1_8 m1_9 m3_0 m3_1 m3_2 m3_3 m3_4 m3_5 m3_6 m3_7 m3_8 m3_9 m4_0 m4_1 m4_2 m4_3 m4_4 m4_5 m4_6 m4_7 m4_8 m4_9 = some r) : F23_16 (semRun C Try.prog 23 Try.f23) t48 m1_0 m1_1 m1_2 m1_3 m1_4 m1_5 m1_6 m1_7 m1_8 m1_9 m3_0 m3_1 m3_2 m3_3 m3_4 m3_5 m3_6 m3_7 m3_8 m3_9 m4_0 m4_1 m4_2 m4_3 m4_4 m4_5 m4_6 m4_7 m4_8 m4_9 = some r :=
  semRun_unr 400 ((text23_16 _ _ t48 m1_0 m1_1 m1_2 m1_3 m1_4 m1_5 m1_6 m1_7 m1_8 m1_9 m3_0 m3_1 m3_2 m3_3 m3_4 m3_5 m3_6 m3_7 m3_8 m3_9 m4_0 m4_1 m4_2 m4_3 m4_4 m4_5 m4_6 m4_7 m4_8 m4_9).trans h)
theorem r23_27 (m1_0 : UInt8) (m1_1 : UInt8) (m1_2 : Bool) (m1_3 : UInt8) (m1_4 : UInt8) (m1_5 : UInt8) (m1_6 : UInt8) (m1_7 : Bool) (m1_8 : UInt8) (m1_9 : List UInt8) {r : AV} (h : X23_27 (semCall C Try.prog) (semRun C Try.prog 23 Try.f23) m1_0 m1_1 m1_2 m1_3 m1_4 m1_5 m1_6 m1_7 m1_8 m1_9 = some r) : F23_27 (semRun C Try.prog 23 Try.f23) m1_0 m1_1 m1_2 m1_3 m1_4 m1_5 m1_6 m1_7 m1_8 m1_9 = some r :=
  semRun_unr 400 ((text23_27 _ _ m1_0 m1_1 m1_2 m1_3 m1_4 m1_5 m1_6 m1_7 m1_8 m1_9).trans h)
theorem r23_28 (m1_0 : UInt8) (m1_1 : UInt8) (m1_2 : Bool) (m1_3 : UInt8) (m1_4 : UInt8) (m1_5 : UInt8) (m1_6 : UInt8) (m1_7 : Bool) (m1_8 : UInt8) (m1_9 : List UInt8) (m3_0 : UInt8) (m3_1 : UInt8) (m3_2 : Bool) (m3_3 : UInt8) (m3_4 : UInt8) (m3_5 : UInt8) (m3_6 : UInt8) (m3_7 : Bool) (m3_8 : UInt8) (m3_9 : List UInt8) {r : AV} (h : X23_28 (semCall C Try.prog) (semRun C Try.prog 23 Try.f23) m1_0 m1_1 m1_2 m1_3 m1_4 m1_5 m1_6 m1_7 m1_8 m1_9 m3_0 m3_1 m3_2 m3_3 m3_4 m3_5 m3_6 m3_7 m3_8 m3_9 = some r) : F23_28 (semRun C Try.prog 23 Try.f23) m1_0 m1_1 m1_2 m1_3 m1_4 m1_5 m1_6 m1_7 m1_8 m1_9 m3_0 m3_1 m3_2 m3_3 m3_4 m3_5 m3_6 m3_7 m3_8 m3_9 = some r :=
  semRun_unr 400 ((text23_28 _ _ m1_0 m1_1 m1_2 m1_3 m1_4 m1_5 m1_6 m1_7 m1_8 m1_9 m3_0 m3_1 m3_2 m3_3 m3_4 m3_5 m3_6 m3_7 m3_8 m3_9).trans h)
end R1

namespace R1
open Go Go.Proofs Sx
noncomputable def body24 : Code := (Try.f24.body).getD .skip
noncomputable def X24 (call : Nat → List AV → Option AV) (run : List Item → St → Option AV) (x0_0 : UInt8) (x0_1 : UInt8) (x0_2 : Bool) (x0_3 : UInt8) (x0_4 : UInt8) (x0_5 : UInt8) (x0_6 : UInt8) (x0_7 : Bool) (x0_8 : UInt8) (x0_9 : List UInt8) : Option AV :=
  (selW (.b (decide ((w64 (x0_0.toNat : Int)) > 20))) false (some (.b (ugt x0_1 4))) (.b true)).bind fun v1 => (selW (v1) false (some (.b (ugt x0_3 4))) (.b true)).bind fun v2 => (selW (v2) false (some (.b (ugt x0_5 5))) (.b true)).bind fun v3 => (selW (v3) false (some (.b (ugt x0_6 6))) (.b true)).bind fun v4 => (selW (v4) false (some (.b (ugt x0_8 2))) (.b true)).bind fun v5 => condM (v5)
  (some (.b false))
  ((selW (.b (decide ((w64 (x0_0.toNat : Int)) ≥ 4))) true (some (.b (decide ((w64 (x0_0.toNat : Int)) ≤ 10)))) (.b false)).bind fun v6 => (selW (.b (decide ((w64 (x0_0.toNat : Int)) ≥ 17))) true (some (.b (decide ((w64 (x0_0.toNat : Int)) ≤ 19)))) (.b false)).bind fun v7 => (selW (.b (une x0_1 0)) true ((unop .not (v6)).bind fun v8 => some (v8)) (.b false)).bind fun v9 => (selW (v9) true ((unop .not (v7)).bind fun v10 => some (v10)) (.b false)).bind fun v11 => (selW (v11) false ((selW (v7) true (some (.b (ueq x0_1 0))) (.b false)).bind fun v12 => some (v12)) (.b true)).bind fun v13 => condM (v13)
  (some (.b false))
  ((selW (.b x0_2) true ((selW (.b ((w64 (x0_0.toNat : Int)) != 3)) true ((unop .not (v6)).bind fun v14 => some (v14)) (.b false)).bind fun v15 => (selW (v15) false (some (.b (une x0_1 0))) (.b true)).bind fun v16 => some (v16)) (.b false)).bind fun v17 => condM (v17)
  (some (.b false))
  ((selW (.b (une x0_3 0)) true (some (.b ((w64 (x0_0.toNat : Int)) != 7))) (.b false)).bind fun v18 => (selW (v18) true (some (.b ((w64 (x0_0.toNat : Int)) != 8))) (.b false)).bind fun v19 => condM (v19)
  (some (.b false))
  ((selW (.b (une x0_4 0)) true ((selW (.b ((w64 (x0_0.toNat : Int)) != 8)) false ((selW (.b (une x0_4 34)) true (some (.b (une x0_4 39))) (.b false)).bind fun v20 => some (v20)) (.b true)).bind fun v21 => some (v21)) (.b false)).bind fun v22 => condM (v22)
  (some (.b false))
  ((selW (.b (une x0_5 0)) true ((selW (.b ((w64 (x0_0.toNat : Int)) != 8)) false (some (.b (une x0_3 1))) (.b true)).bind fun v23 => some (v23)) (.b false)).bind fun v24 => condM (v24)
  (some (.b false))
  ((selW (.b (une x0_8 0)) true (some (.b ((w64 (x0_0.toNat : Int)) != 15))) (.b false)).bind fun v25 => condM (v25)
  (some (.b false))
  ((selW (.b ((w64 (x0_0.toNat : Int)) == 8)) true (some (.b (ueq x0_3 3))) (.b false)).bind fun v26 => (selW (v26) false ((selW (v7) true (some (.b (ueq x0_1 4))) (.b false)).bind fun v27 => some (v27)) (.b true)).bind fun v28 => (selW (.b (une x0_6 0)) true ((call 31 [.ag [.u8 x0_0, .u8 x0_1, .b x0_2, .u8 x0_3, .u8 x0_4, .u8 x0_5, .u8 x0_6, .b x0_7, .u8 x0_8, .s x0_9]]).bind fun v29 => (unop .not (v29)).bind fun v30 => some (v30)) (.b false)).bind fun v31 => (selW (v31) false ((selW (v28) true (some (.b (ueq x0_6 4))) (.b false)).bind fun v32 => some (v32)) (.b true)).bind fun v33 => condM (v33)
  (some (.b false))
  ((selW (.b x0_7) true (some (.b (une x0_6 1))) (.b false)).bind fun v34 => (selW (v34) true (some (.b (une x0_6 2))) (.b false)).bind fun v35 => condM (v35)
  (some (.b false))
  ((selW (.b ((w64 (x0_0.toNat : Int)) == 3)) false (some (.b ((w64 (x0_0.toNat : Int)) == 5))) (.b true)).bind fun v36 => (selW (v36) false (some (.b ((w64 (x0_0.toNat : Int)) == 6))) (.b true)).bind fun v37 => condM (v37)
  ((call 44 [.s x0_9, .int 32]).bind fun v38 => some (v38))
  ((selW (.b ((w64 (x0_0.toNat : Int)) == 8)) true (some (.b (ueq x0_3 1))) (.b false)).bind fun v39 => (selW (v39) true (some (.b (ueq x0_5 1))) (.b false)).bind fun v40 => condM (v40)
  ((call 44 [.s x0_9, .int 16]).bind fun v41 => some (v41))
  (condM (.b ((w64 (x0_0.toNat : Int)) == 19))
  ((call 37 [.int (w64 (x0_1.toNat : Int))]).bind fun v42 => (lenS (v42)).bind fun v43 => (binI .leq (.int ((x0_9.length : Int))) (v43)).bind fun v44 => (selW (v44) true ((slS (v42) none (some (.int ((x0_9.length : Int))))).bind fun v45 => (binS .eql (v45) (.s x0_9)).bind fun v46 => some (v46)) (.b false)).bind fun v47 => some (v47))
  (some (.b (x0_9 == []))))))))))))))
theorem text24 (call : Nat → List AV → Option AV) (run : List Item → St → Option AV) (x0_0 : UInt8) (x0_1 : UInt8) (x0_2 : Bool) (x0_3 : UInt8) (x0_4 : UInt8) (x0_5 : UInt8) (x0_6 : UInt8) (x0_7 : Bool) (x0_8 : UInt8) (x0_9 : List UInt8) : unr C call run 24 Try.f24 400 [.code body24] (initSt [.ag [.u8 x0_0, .u8 x0_1, .b x0_2, .u8 x0_3, .u8 x0_4, .u8 x0_5, .u8 x0_6, .b x0_7, .u8 x0_8, .s x0_9]]) = X24 call run x0_0 x0_1 x0_2 x0_3 x0_4 x0_5 x0_6 x0_7 x0_8 x0_9 := by
  kernel_rfl
theorem c24 (x0_0 : UInt8) (x0_1 : UInt8) (x0_2 : Bool) (x0_3 : UInt8) (x0_4 : UInt8) (x0_5 : UInt8) (x0_6 : UInt8) (x0_7 : Bool) (x0_8 : UInt8) (x0_9 : List UInt8) {r : AV} (h : X24 (semCall C Try.prog) (semRun C Try.prog 24 Try.f24) x0_0 x0_1 x0_2 x0_3 x0_4 x0_5 x0_6 x0_7 x0_8 x0_9 = some r) : semCall C Try.prog 24 [.ag [.u8 x0_0, .u8 x0_1, .b x0_2, .u8 x0_3, .u8 x0_4, .u8 x0_5, .u8 x0_6, .b x0_7, .u8 x0_8, .s x0_9]] = some r :=
  semCall_unr (fn := Try.f24) (c := body24) (by kernel_rfl) (by kernel_rfl) 400 (by kernel_rfl) ((text24 _ _ x0_0 x0_1 x0_2 x0_3 x0_4 x0_5 x0_6 x0_7 x0_8 x0_9).trans h)
end R1

namespace R1
open Go Go.Proofs Sx
noncomputable def body25 : Code := (Try.f25.body).getD .skip
noncomputable def X25 (call : Nat → List AV → Option AV) (run : List Item → St → Option AV) (x0_0 : UInt8) (x0_1 : UInt8) (x0_2 : Bool) (x0_3 : UInt8) (x0_4 : UInt8) (x0_5 : UInt8) (x0_6 : UInt8) (x0_7 : Bool) (x0_8 : UInt8) (x0_9 : List UInt8) : Option AV :=
  (selW (.b (ueq x0_0 8)) false (some (.b (ueq x0_0 17))) (.b true)).bind fun v1 => condM (v1)
  (some (.ag [.u8 x0_0, .u8 x0_1, .b x0_2, .u8 x0_3, .u8 x0_4, .u8 0, .u8 0, .b false, .u8 0, .s []]))
  (some (.ag [.u8 x0_0, .u8 x0_1, .b x0_2, .u8 x0_3, .u8 x0_4, .u8 x0_5, .u8 x0_6, .b x0_7, .u8 x0_8, .s x0_9]))
theorem text25 (call : Nat → List AV → Option AV) (run : List Item → St → Option AV) (x0_0 : UInt8) (x0_1 : UInt8) (x0_2 : Bool) (x0_3 : UInt8) (x0_4 : UInt8) (x0_5 : UInt8) (x0_6 : UInt8) (x0_7 : Bool) (x0_8 : UInt8) (x0_9 : List UInt8) : unr C call run 25 Try.f25 400 [.code body25] (initSt [.ag [.u8 x0_0, .u8 x0_1, .b x0_2, .u8 x0_3, .u8 x0_4, .u8 x0_5, .u8 x0_6, .b x0_7, .u8 x0_8, .s x0_9]]) = X25 call run x0_0 x0_1 x0_2 x0_3 x0_4 x0_5 x0_6 x0_7 x0_8 x0_9 := by
  kernel_rfl
theorem c25 (x0_0 : UInt8) (x0_1 : UInt8) (x0_2 : Bool) (x0_3 : UInt8) (x0_4 : UInt8) (x0_5 : UInt8) (x0_6 : UInt8) (x0_7 : Bool) (x0_8 : UInt8) (x0_9 : List UInt8) {r : AV} (h : X25 (semCall C Try.prog) (semRun C Try.prog 25 Try.f25) x0_0 x0_1 x0_2 x0_3 x0_4 x0_5 x0_6 x0_7 x0_8 x0_9 = some r) : semCall C Try.prog 25 [.ag [.u8 x0_0, .u8 x0_1, .b x0_2, .u8 x0_3, .u8 x0_4, .u8 x0_5, .u8 x0_6, .b x0_7, .u8 x0_8, .s x0_9]] = some r :=
  semCall_unr (fn := Try.f25) (c := body25) (by kernel_rfl) (by kernel_rfl) 400 (by kernel_rfl) ((text25 _ _ x0_0 x0_1 x0_2 x0_3 x0_4 x0_5 x0_6 x0_7 x0_8 x0_9).trans h)
end R1

namespace R1
open Go Go.Proofs Sx
noncomputable def body26 : Code := (Try.f26.body).getD .skip
noncomputable def X26 (call : Nat → List AV → Option AV) (run : List Item → St → Option AV) (x0_0 : UInt8) (x0_1 : UInt8) (x0_2 : Bool) (x0_3 : UInt8) (x0_4 : UInt8) (x0_5 : UInt8) (x0_6 : UInt8) (x0_7 : Bool) (x0_8 : UInt8) (x0_9 : List UInt8) : Option AV :=
  condM (.b (ueq x0_0 0))
  (some (.u8 1))
  ((selW (.b (ueq x0_0 17)) true ((selW (.b (ueq x0_1 1)) false (some (.b (ueq x0_1 2))) (.b true)).bind fun v1 => some (v1)) (.b false)).bind fun v2 => condM (v2)
  (some (.u8 2))
  ((selW (.b (ueq x0_0 17)) true (some (.b (ueq x0_1 3))) (.b false)).bind fun v3 => (selW (v3) true ((call 45 [.ag [.u8 x0_0, .u8 x0_1, .b x0_2, .u8 x0_3, .u8 x0_4, .u8 x0_5, .u8 x0_6, .b x0_7, .u8 x0_8, .s x0_9]]).bind fun v4 => some (v4)) (.b false)).bind fun v5 => condM (v5)
  (some (.u8 7))
  ((selW (.b (ueq x0_0 17)) true (some (.b (ueq x0_1 4))) (.b false)).bind fun v6 => (selW (v6) true ((call 45 [.ag [.u8 x0_0, .u8 x0_1, .b x0_2, .u8 x0_3, .u8 x0_4, .u8 x0_5, .u8 x0_6, .b x0_7, .u8 x0_8, .s x0_9]]).bind fun v7 => some (v7)) (.b false)).bind fun v8 => condM (v8)
  (some (.u8 9))
  ((selW (.b (une x0_0 8)) false (some (.b (ueq x0_4 0))) (.b true)).bind fun v9 => condM (v9)
  (some (.u8 0))
  (condM (.b (ueq x0_3 0))
  (some (.u8 3))
  ((selW (.b (ueq x0_3 2)) true ((call 45 [.ag [.u8 x0_0, .u8 x0_1, .b x0_2, .u8 x0_3, .u8 x0_4, .u8 x0_5, .u8 x0_6, .b x0_7, .u8 x0_8, .s x0_9]]).bind fun v10 => some (v10)) (.b false)).bind fun v11 => condM (v11)
  (some (.u8 8))
  ((selW (.b (ueq x0_3 3)) true ((call 45 [.ag [.u8 x0_0, .u8 x0_1, .b x0_2, .u8 x0_3, .u8 x0_4, .u8 x0_5, .u8 x0_6, .b x0_7, .u8 x0_8, .s x0_9]]).bind fun v12 => some (v12)) (.b false)).bind fun v13 => condM (v13)
  (some (.u8 10))
  (condM (.b (une x0_3 1))
  (some (.u8 0))
  (condM (.b (ueq x0_5 0))
  (some (.u8 4))
  (condM (.b (ueq x0_5 3))
  (some (.u8 5))
  (condM (.b (ueq x0_5 4))
  (some (.u8 6))
  (some (.u8 0)))))))))))))
theorem text26 (call : Nat → List AV → Option AV) (run : List Item → St → Option AV) (x0_0 : UInt8) (x0_1 : UInt8) (x0_2 : Bool) (x0_3 : UInt8) (x0_4 : UInt8) (x0_5 : UInt8) (x0_6 : UInt8) (x0_7 : Bool) (x0_8 : UInt8) (x0_9 : List UInt8) : unr C call run 26 Try.f26 400 [.code body26] (initSt [.ag [.u8 x0_0, .u8 x0_1, .b x0_2, .u8 x0_3, .u8 x0_4, .u8 x0_5, .u8 x0_6, .b x0_7, .u8 x0_8, .s x0_9]]) = X26 call run x0_0 x0_1 x0_2 x0_3 x0_4 x0_5 x0_6 x0_7 x0_8 x0_9 := by
  kernel_rfl
theorem c26 (x0_0 : UInt8) (x0_1 : UInt8) (x0_2 : Bool) (x0_3 : UInt8) (x0_4 : UInt8) (x0_5 : UInt8) (x0_6 : UInt8) (x0_7 : Bool) (x0_8 : UInt8) (x0_9 : List UInt8) {r : AV} (h : X26 (semCall C Try.prog) (semRun C Try.prog 26 Try.f26) x0_0 x0_1 x0_2 x0_3 x0_4 x0_5 x0_6 x0_7 x0_8 x0_9 = some r) : semCall C Try.prog 26 [.ag [.u8 x0_0, .u8 x0_1, .b x0_2, .u8 x0_3, .u8 x0_4, .u8 x0_5, .u8 x0_6, .b x0_7, .u8 x0_8, .s x0_9]] = some r :=
  semCall_unr (fn := Try.f26) (c := body26) (by kernel_rfl) (by kernel_rfl) 400 (by kernel_rfl) ((text26 _ _ x0_0 x0_1 x0_2 x0_3 x0_4 x0_5 x0_6 x0_7 x0_8 x0_9).trans h)
end R1

namespace R1
open Go Go.Proofs Sx
noncomputable def body27 : Code := (Try.f27.body).getD .skip
noncomputable def K27_6 : List Item := (kAt 6 body27 []).getD []
def S27_6 (m1_0 : UInt8) (m1_1 : UInt8) (m1_2 : Bool) (m1_3 : UInt8) (m1_4 : UInt8) (m1_5 : UInt8) (m1_6 : UInt8) (m1_7 : Bool) (m1_8 : UInt8) (m1_9 : List UInt8) (m2_0 : UInt8) (m2_1 : UInt8) (m2_2 : Bool) (m2_3 : UInt8) (m2_4 : UInt8) (m2_5 : UInt8) (m2_6 : UInt8) (m2_7 : Bool) (m2_8 : UInt8) (m2_9 : List UInt8) : St := St.ofL [(1, .cell (.ptr 1 0)), (2, .cell (.ptr 2 0))] [(1, some [.val (.u8 m1_0), .val (.u8 m1_1), .val (.b m1_2), .val (.u8 m1_3), .val (.u8 m1_4), .val (.u8 m1_5), .val (.u8 m1_6), .val (.b m1_7), .val (.u8 m1_8), .val (.s m1_9)]), (2, some [.val (.u8 m2_0), .val (.u8 m2_1), .val (.b m2_2), .val (.u8 m2_3), .val (.u8 m2_4), .val (.u8 m2_5), .val (.u8 m2_6), .val (.b m2_7), .val (.u8 m2_8), .val (.s m2_9)])]
noncomputable def F27_6 (run : List Item → St → Option AV) (m1_0 : UInt8) (m1_1 : UInt8) (m1_2 : Bool) (m1_3 : UInt8) (m1_4 : UInt8) (m1_5 : UInt8) (m1_6 : UInt8) (m1_7 : Bool) (m1_8 : UInt8) (m1_9 : List UInt8) (m2_0 : UInt8) (m2_1 : UInt8) (m2_2 : Bool) (m2_3 : UInt8) (m2_4 : UInt8) (m2_5 : UInt8) (m2_6 : UInt8) (m2_7 : Bool) (m2_8 : UInt8) (m2_9 : List UInt8) : Option AV := run K27_6 (S27_6 m1_0 m1_1 m1_2 m1_3 m1_4 m1_5 m1_6 m1_7 m1_8 m1_9 m2_0 m2_1 m2_2 m2_3 m2_4 m2_5 m2_6 m2_7 m2_8 m2_9)
noncomputable def X27 (call : Nat → List AV → Option AV) (run : List Item → St → Option AV) (x0_0 : UInt8) (x0_1 : UInt8) (x0_2 : Bool) (x0_3 : UInt8) (x0_4 : UInt8) (x0_5 : UInt8) (x0_6 : UInt8) (x0_7 : Bool) (x0_8 : UInt8) (x0_9 : List UInt8) : Option AV :=
  (call 26 [.ag [.u8 x0_0, .u8 x0_1, .b x0_2, .u8 x0_3, .u8 x0_4, .u8 x0_5, .u8 x0_6, .b x0_7, .u8 x0_8, .s x0_9]]).bind fun v1 => (binI .eql (v1) (.u8 0)).bind fun v2 => condM (v2)
  (some (.ag [.u8 20, .u8 0, .b false, .u8 0, .u8 0, .u8 0, .u8 0, .b false, .u8 0, .s []]))
  ((binI .eql (v1) (.u8 4)).bind fun v3 => condM (v3)
  (F27_6 run x0_0 x0_1 x0_2 x0_3 x0_4 2 x0_6 x0_7 x0_8 x0_9 0 0 false 0 0 0 0 false 0 [])
  (F27_6 run x0_0 x0_1 x0_2 x0_3 x0_4 x0_5 x0_6 x0_7 x0_8 x0_9 0 0 false 0 0 0 0 false 0 []))
theorem text27 (call : Nat → List AV → Option AV) (run : List Item → St → Option AV) (x0_0 : UInt8) (x0_1 : UInt8) (x0_2 : Bool) (x0_3 : UInt8) (x0_4 : UInt8) (x0_5 : UInt8) (x0_6 : UInt8) (x0_7 : Bool) (x0_8 : UInt8) (x0_9 : List UInt8) : unr C call run 27 Try.f27 400 [.code body27] (initSt [.ag [.u8 x0_0, .u8 x0_1, .b x0_2, .u8 x0_3, .u8 x0_4, .u8 x0_5, .u8 x0_6, .b x0_7, .u8 x0_8, .s x0_9]]) = X27 call run x0_0 x0_1 x0_2 x0_3 x0_4 x0_5 x0_6 x0_7 x0_8 x0_9 := by
  kernel_rfl
theorem c27 (x0_0 : UInt8) (x0_1 : UInt8) (x0_2 : Bool) (x0_3 : UInt8) (x0_4 : UInt8) (x0_5 : UInt8) (x0_6 : UInt8) (x0_7 : Bool) (x0_8 : UInt8) (x0_9 : List UInt8) {r : AV} (h : X27 (semCall C Try.prog) (semRun C Try.prog 27 Try.f27) x0_0 x0_1 x0_2 x0_3 x0_4 x0_5 x0_6 x0_7 x0_8 x0_9 = some r) : semCall C Try.prog 27 [.ag [.u8 x0_0, .u8 x0_1, .b x0_2, .u8 x0_3, .u8 x0_4, .u8 x0_5, .u8 x0_6, .b x0_7, .u8 x0_8, .s x0_9]] = some r :=
  semCall_unr (fn := Try.f27) (c := body27) (by kernel_rfl) (by kernel_rfl) 400 (by kernel_rfl) ((text27 _ _ x0_0 x0_1 x0_2 x0_3 x0_4 x0_5 x0_6 x0_7 x0_8 x0_9).trans h)
noncomputable def X27_6 (call : Nat → List AV → Option AV) (run : List Item → St → Option AV) (m1_0 : UInt8) (m1_1 : UInt8) (m1_2 : Bool) (m1_3 : UInt8) (m1_4 : UInt8) (m1_5 : UInt8) (m1_6 : UInt8) (m1_7 : Bool) (m1_8 : UInt8) (m1_9 : List UInt8) (m2_0 : UInt8) (m2_1 : UInt8) (m2_2 : Bool) (m2_3 : UInt8) (m2_4 : UInt8) (m2_5 : UInt8) (m2_6 : UInt8) (m2_7 : Bool) (m2_8 : UInt8) (m2_9 : List UInt8) : Option AV :=
  some (.ag [.u8 m1_0, .u8 m1_1, .b m1_2, .u8 m1_3, .u8 m1_4, .u8 m1_5, .u8 m1_6, .b m1_7, .u8 m1_8, .s m1_9])
theorem text27_6 (call : Nat → List AV → Option AV) (run : List Item → St → Option AV) (m1_0 : UInt8) (m1_1 : UInt8) (m1_2 : Bool) (m1_3 : UInt8) (m1_4 : UInt8) (m1_5 : UInt8) (m1_6 : UInt8) (m1_7 : Bool) (m1_8 : UInt8) (m1_9 : List UInt8) (m2_0 : UInt8) (m2_1 : UInt8) (m2_2 : Bool) (m2_3 : UInt8) (m2_4 : UInt8) (m2_5 : UInt8) (m2_6 : UInt8) (m2_7 : Bool) (m2_8 : UInt8) (m2_9 : List UInt8) : step C call 27 Try.f27 (unr C call run 27 Try.f27 400) K27_6 (S27_6 m1_0 m1_1 m1_2 m1_3 m1_4 m1_5 m1_6 m1_7 m1_8 m1_9 m2_0 m2_1 m2_2 m2_3 m2_4 m2_5 m2_6 m2_7 m2_8 m2_9) = X27_6 call run m1_0 m1_1 m1_2 m1_3 m1_4 m1_5 m1_6 m1_7 m1_8 m1_9 m2_0 m2_1 m2_2 m2_3 m2_4 m2_5 m2_6 m2_7 m2_8 m2_9 := by
  kernel_rfl
theorem r27_6 (m1_0 : UInt8) (m1_1 : UInt8) (m1_2 : Bool) (m1_3 : UInt8) (m1_4 : UInt8) (m1_5 : UInt8) (m1_6 : UInt8) (m1_7 : Bool) (m1_8 : UInt8) (m1_9 : List UInt8) (m2_0 : UInt8) (m2_1 : UInt8) (m2_2 : Bool) (m2_3 : UInt8) (m2_4 : UInt8) (m2_5 : UInt8) (m2_6 : UInt8) (m2_7 : Bool) (m2_8 : UInt8) (m2_9 : List UInt8) {r : AV} (h : X27_6 (semCall C Try.prog) (semRun C Try.prog 27 Try.f27) m1_0 m1_1 m1_2 m1_3 m1_4 m1_5 m1_6 m1_7 m1_8 m1_9 m2_0 m2_1 m2_2 m2_3 m2_4 m2_5 m2_6 m2_7 m2_8 m2_9 = some r) : F27_6 (semRun C Try.prog 27 Try.f27) m1_0 m1_1 m1_2 m1_3 m1_4 m1_5 m1_6 m1_7 m1_8 m1_9 m2_0 m2_1 m2_2 m2_3 m2_4 m2_5 m2_6 m2_7 m2_8 m2_9 = some r :=
  semRun_unr 400 ((text27_6 _ _ m1_0 m1_1 m1_2 m1_3 m1_4 m1_5 m1_6 m1_7 m1_8 m1_9 m2_0 m2_1 m2_2 m2_3 m2_4 m2_5 m2_6 m2_7 m2_8 m2_9).trans h)
end R1

namespace R1
open Go Go.Proofs Sx
noncomputable def body28 : Code := (Try.f28.body).getD .skip
noncomputable def K28_32 : List Item := (kAt 32 body28 []).getD []
def S28_32  : St := St.ofL [] []
noncomputable def F28_32 (run : List Item → St → Option AV)  : Option AV := run K28_32 (S28_32 )
noncomputable def X28 (call : Nat → List AV → Option AV) (run : List Item → St → Option AV) (x0_0 : UInt8) (x0_1 : UInt8) (x0_2 : Bool) (x0_3 : UInt8) (x0_4 : UInt8) (x0_5 : UInt8) (x0_6 : UInt8) (x0_7 : Bool) (x0_8 : UInt8) (x0_9 : List UInt8) : Option AV :=
  (selW (.b (ueq x0_6 1)) false (some (.b (ueq x0_6 2))) (.b true)).bind fun v1 => (selW (v1) true (some (.b (!x0_7))) (.b false)).bind fun v2 => condM (.b ((w64 (x0_0.toNat : Int)) == 0))
  (some (.int 1))
  (condM (.b ((w64 (x0_0.toNat : Int)) == 17))
  ((selW (.b (ueq x0_1 1)) false (some (.b (ueq x0_1 2))) (.b true)).bind fun v3 => condM (v3)
  (some (.int 2))
  ((selW (v2) true (some (.b (ueq x0_1 3))) (.b false)).bind fun v4 => condM (v4)
  (some (.int 7))
  ((selW (v2) true (some (.b (ueq x0_1 4))) (.b false)).bind fun v5 => condM (v5)
  (some (.int 9))
  (F28_32 run))))
  (condM (.b ((w64 (x0_0.toNat : Int)) == 8))
  (condM (.b (ueq x0_4 0))
  (some (.int 0))
  (condM (.b (ueq x0_3 0))
  (some (.int 3))
  (condM (.b (ueq x0_3 1))
  (condM (.b (ueq x0_5 0))
  (some (.int 4))
  (condM (.b (ueq x0_5 3))
  (some (.int 5))
  (condM (.b (ueq x0_5 4))
  (some (.int 6))
  (F28_32 run))))
  (condM (.b (ueq x0_3 2))
  (condM (v2)
  (some (.int 8))
  (F28_32 run))
  (condM (.b (ueq x0_3 3))
  (condM (v2)
  (some (.int 10))
  (F28_32 run))
  (F28_32 run))))))
  (F28_32 run)))
theorem text28 (call : Nat → List AV → Option AV) (run : List Item → St → Option AV) (x0_0 : UInt8) (x0_1 : UInt8) (x0_2 : Bool) (x0_3 : UInt8) (x0_4 : UInt8) (x0_5 : UInt8) (x0_6 : UInt8) (x0_7 : Bool) (x0_8 : UInt8) (x0_9 : List UInt8) : unr C call run 28 Try.f28 400 [.code body28] (initSt [.ag [.u8 x0_0, .u8 x0_1, .b x0_2, .u8 x0_3, .u8 x0_4, .u8 x0_5, .u8 x0_6, .b x0_7, .u8 x0_8, .s x0_9]]) = X28 call run x0_0 x0_1 x0_2 x0_3 x0_4 x0_5 x0_6 x0_7 x0_8 x0_9 := by
  kernel_rfl
theorem c28 (x0_0 : UInt8) (x0_1 : UInt8) (x0_2 : Bool) (x0_3 : UInt8) (x0_4 : UInt8) (x0_5 : UInt8) (x0_6 : UInt8) (x0_7 : Bool) (x0_8 : UInt8) (x0_9 : List UInt8) {r : AV} (h : X28 (semCall C Try.prog) (semRun C Try.prog 28 Try.f28) x0_0 x0_1 x0_2 x0_3 x0_4 x0_5 x0_6 x0_7 x0_8 x0_9 = some r) : semCall C Try.prog 28 [.ag [.u8 x0_0, .u8 x0_1, .b x0_2, .u8 x0_3, .u8 x0_4, .u8 x0_5, .u8 x0_6, .b x0_7, .u8 x0_8, .s x0_9]] = some r :=
  semCall_unr (fn := Try.f28) (c := body28) (by kernel_rfl) (by kernel_rfl) 400 (by kernel_rfl) ((text28 _ _ x0_0 x0_1 x0_2 x0_3 x0_4 x0_5 x0_6 x0_7 x0_8 x0_9).trans h)
noncomputable def X28_32 (call : Nat → List AV → Option AV) (run : List Item → St → Option AV)  : Option AV :=
  some (.int 0)
theorem text28_32 (call : Nat → List AV → Option AV) (run : List Item → St → Option AV)  : step C call 28 Try.f28 (unr C call run 28 Try.f28 400) K28_32 (S28_32 ) = X28_32 call run  := by
  kernel_rfl
theorem r28_32  {r : AV} (h : X28_32 (semCall C Try.prog) (semRun C Try.prog 28 Try.f28)  = some r) : F28_32 (semRun C Try.prog 28 Try.f28)  = some r :=
  semRun_unr 400 ((text28_32 _ _ ).trans h)
end R1

namespace R1
open Go Go.Proofs Sx
noncomputable def body29 : Code := (Try.f29.body).getD .skip
noncomputable def K29_6 : List Item := (kAt 6 body29 []).getD []
def S29_6 (m1_0 : UInt8) (m1_1 : UInt8) (m1_2 : Bool) (m1_3 : UInt8) (m1_4 : UInt8) (m1_5 : UInt8) (m1_6 : UInt8) (m1_7 : Bool) (m1_8 : UInt8) (m1_9 : List UInt8) (m2_0 : UInt8) (m2_1 : UInt8) (m2_2 : Bool) (m2_3 : UInt8) (m2_4 : UInt8) (m2_5 : UInt8) (m2_6 : UInt8) (m2_7 : Bool) (m2_8 : UInt8) (m2_9 : List UInt8) : St := St.ofL [(1, .cell (.ptr 1 0)), (2, .cell (.ptr 2 0))] [(1, some [.val (.u8 m1_0), .val (.u8 m1_1), .val (.b m1_2), .val (.u8 m1_3), .val (.u8 m1_4), .val (.u8 m1_5), .val (.u8 m1_6), .val (.b m1_7), .val (.u8 m1_8), .val (.s m1_9)]), (2, some [.val (.u8 m2_0), .val (.u8 m2_1), .val (.b m2_2), .val (.u8 m2_3), .val (.u8 m2_4), .val (.u8 m2_5), .val (.u8 m2_6), .val (.b m2_7), .val (.u8 m2_8), .val (.s m2_9)])]
noncomputable def F29_6 (run : List Item → St → Option AV) (m1_0 : UInt8) (m1_1 : UInt8) (m1_2 : Bool) (m1_3 : UInt8) (m1_4 : UInt8) (m1_5 : UInt8) (m1_6 : UInt8) (m1_7 : Bool) (m1_8 : UInt8) (m1_9 : List UInt8) (m2_0 : UInt8) (m2_1 : UInt8) (m2_2 : Bool) (m2_3 : UInt8) (m2_4 : UInt8) (m2_5 : UInt8) (m2_6 : UInt8) (m2_7 : Bool) (m2_8 : UInt8) (m2_9 : List UInt8) : Option AV := run K29_6 (S29_6 m1_0 m1_1 m1_2 m1_3 m1_4 m1_5 m1_6 m1_7 m1_8 m1_9 m2_0 m2_1 m2_2 m2_3 m2_4 m2_5 m2_6 m2_7 m2_8 m2_9)
noncomputable def X29 (call : Nat → List AV → Option AV) (run : List Item → St → Option AV) (x0_0 : UInt8) (x0_1 : UInt8) (x0_2 : Bool) (x0_3 : UInt8) (x0_4 : UInt8) (x0_5 : UInt8) (x0_6 : UInt8) (x0_7 : Bool) (x0_8 : UInt8) (x0_9 : List UInt8) : Option AV :=
  (call 28 [.ag [.u8 x0_0, .u8 x0_1, .b x0_2, .u8 x0_3, .u8 x0_4, .u8 x0_5, .u8 x0_6, .b x0_7, .u8 x0_8, .s x0_9]]).bind fun v1 => (binI .eql (v1) (.int 0)).bind fun v2 => condM (v2)
  (some (.ag [.u8 20, .u8 0, .b false, .u8 0, .u8 0, .u8 0, .u8 0, .b false, .u8 0, .s []]))
  ((binI .eql (v1) (.int 4)).bind fun v3 => condM (v3)
  (F29_6 run x0_0 x0_1 x0_2 x0_3 x0_4 2 x0_6 x0_7 x0_8 x0_9 0 0 false 0 0 0 0 false 0 [])
  (F29_6 run x0_0 x0_1 x0_2 x0_3 x0_4 x0_5 x0_6 x0_7 x0_8 x0_9 0 0 false 0 0 0 0 false 0 []))
theorem text29 (call : Nat → List AV → Option AV) (run : List Item → St → Option AV) (x0_0 : UInt8) (x0_1 : UInt8) (x0_2 : Bool) (x0_3 : UInt8) (x0_4 : UInt8) (x0_5 : UInt8) (x0_6 : UInt8) (x0_7 : Bool) (x0_8 : UInt8) (x0_9 : List UInt8) : unr C call run 29 Try.f29 400 [.code body29] (initSt [.ag [.u8 x0_0, .u8 x0_1, .b x0_2, .u8 x0_3, .u8 x0_4, .u8 x0_5, .u8 x0_6, .b x0_7, .u8 x0_8, .s x0_9]]) = X29 call run x0_0 x0_1 x0_2 x0_3 x0_4 x0_5 x0_6 x0_7 x0_8 x0_9 := by
  kernel_rfl
theorem c29 (x0_0 : UInt8) (x0_1 : UInt8) (x0_2 : Bool) (x0_3 : UInt8) (x0_4 : UInt8) (x0_5 : UInt8) (x0_6 : UInt8) (x0_7 : Bool) (x0_8 : UInt8) (x0_9 : List UInt8) {r : AV} (h : X29 (semCall C Try.prog) (semRun C Try.prog 29 Try.f29) x0_0 x0_1 x0_2 x0_3 x0_4 x0_5 x0_6 x0_7 x0_8 x0_9 = some r) : semCall C Try.prog 29 [.ag [.u8 x0_0, .u8 x0_1, .b x0_2, .u8 x0_3, .u8 x0_4, .u8 x0_5, .u8 x0_6, .b x0_7, .u8 x0_8, .s x0_9]] = some r :=
  semCall_unr (fn := Try.f29) (c := body29) (by kernel_rfl) (by kernel_rfl) 400 (by kernel_rfl) ((text29 _ _ x0_0 x0_1 x0_2 x0_3 x0_4 x0_5 x0_6 x0_7 x0_8 x0_9).trans h)
noncomputable def X29_6 (call : Nat → List AV → Option AV) (run : List Item → St → Option AV) (m1_0 : UInt8) (m1_1 : UInt8) (m1_2 : Bool) (m1_3 : UInt8) (m1_4 : UInt8) (m1_5 : UInt8) (m1_6 : UInt8) (m1_7 : Bool) (m1_8 : UInt8) (m1_9 : List UInt8) (m2_0 : UInt8) (m2_1 : UInt8) (m2_2 : Bool) (m2_3 : UInt8) (m2_4 : UInt8) (m2_5 : UInt8) (m2_6 : UInt8) (m2_7 : Bool) (m2_8 : UInt8) (m2_9 : List UInt8) : Option AV :=
  some (.ag [.u8 m1_0, .u8 m1_1, .b m1_2, .u8 m1_3, .u8 m1_4, .u8 m1_5, .u8 m1_6, .b m1_7, .u8 m1_8, .s m1_9])
theorem text29_6 (call : Nat → List AV → Option AV) (run : List Item → St → Option AV) (m1_0 : UInt8) (m1_1 : UInt8) (m1_2 : Bool) (m1_3 : UInt8) (m1_4 : UInt8) (m1_5 : UInt8) (m1_6 : UInt8) (m1_7 : Bool) (m1_8 : UInt8) (m1_9 : List UInt8) (m2_0 : UInt8) (m2_1 : UInt8) (m2_2 : Bool) (m2_3 : UInt8) (m2_4 : UInt8) (m2_5 : UInt8) (m2_6 : UInt8) (m2_7 : Bool) (m2_8 : UInt8) (m2_9 : List UInt8) : step C call 29 Try.f29 (unr C call run 29 Try.f29 400) K29_6 (S29_6 m1_0 m1_1 m1_2 m1_3 m1_4 m1_5 m1_6 m1_7 m1_8 m1_9 m2_0 m2_1 m2_2 m2_3 m2_4 m2_5 m2_6 m2_7 m2_8 m2_9) = X29_6 call run m1_0 m1_1 m1_2 m1_3 m1_4 m1_5 m1_6 m1_7 m1_8 m1_9 m2_0 m2_1 m2_2 m2_3 m2_4 m2_5 m2_6 m2_7 m2_8 m2_9 := by
  kernel_rfl
theorem r29_6 (m1_0 : UInt8) (m1_1 : UInt8) (m1_2 : Bool) (m1_3 : UInt8) (m1_4 : UInt8) (m1_5 : UInt8) (m1_6 : UInt8) (m1_7 : Bool) (m1_8 : UInt8) (m1_9 : List UInt8) (m2_0 : UInt8) (m2_1 : UInt8) (m2_2 : Bool) (m2_3 : UInt8) (m2_4 : UInt8) (m2_5 : UInt8) (m2_6 : UInt8) (m2_7 : Bool) (m2_8 : UInt8) (m2_9 : List UInt8) {r : AV} (h : X29_6 (semCall C Try.prog) (semRun C Try.prog 29 Try.f29) m1_0 m1_1 m1_2 m1_3 m1_4 m1_5 m1_6 m1_7 m1_8 m1_9 m2_0 m2_1 m2_2 m2_3 m2_4 m2_5 m2_6 m2_7 m2_8 m2_9 = some r) : F29_6 (semRun C Try.prog 29 Try.f29) m1_0 m1_1 m1_2 m1_3 m1_4 m1_5 m1_6 m1_7 m1_8 m1_9 m2_0 m2_1 m2_2 m2_3 m2_4 m2_5 m2_6 m2_7 m2_8 m2_9 = some r :=
  semRun_unr 400 ((text29_6 _ _ m1_0 m1_1 m1_2 m1_3 m1_4 m1_5 m1_6 m1_7 m1_8 m1_9 m2_0 m2_1 m2_2 m2_3 m2_4 m2_5 m2_6 m2_7 m2_8 m2_9).trans h)
end R1

namespace R1
open Go Go.Proofs Sx
noncomputable def body30 : Code := (Try.f30.body).getD .skip
noncomputable def K30_7 : List Item := (kAt 7 body30 []).getD []
def S30_7 (m1_0 : UInt8) (m1_1 : UInt8) (m1_2 : Bool) (m1_3 : UInt8) (m1_4 : UInt8) (m1_5 : UInt8) (m1_6 : UInt8) (m1_7 : Bool) (m1_8 : UInt8) (m1_9 : List UInt8) : St := St.ofL [(1, .cell (.ptr 1 0))] [(1, some [.val (.u8 m1_0), .val (.u8 m1_1), .val (.b m1_2), .val (.u8 m1_3), .val (.u8 m1_4), .val (.u8 m1_5), .val (.u8 m1_6), .val (.b m1_7), .val (.u8 m1_8), .val (.s m1_9)])]
noncomputable def F30_7 (run : List Item → St → Option AV) (m1_0 : UInt8) (m1_1 : UInt8) (m1_2 : Bool) (m1_3 : UInt8) (m1_4 : UInt8) (m1_5 : UInt8) (m1_6 : UInt8) (m1_7 : Bool) (m1_8 : UInt8) (m1_9 : List UInt8) : Option AV := run K30_7 (S30_7 m1_0 m1_1 m1_2 m1_3 m1_4 m1_5 m1_6 m1_7 m1_8 m1_9)
noncomputable def K30_8 : List Item := (kAt 8 body30 []).getD []
def S30_8  : St := St.ofL [] []
noncomputable def F30_8 (run : List Item → St → Option AV)  : Option AV := run K30_8 (S30_8 )
noncomputable def X30 (call : Nat → List AV → Option AV) (run : List Item → St → Option AV) (x0_0 : UInt8) (x0_1 : UInt8) (x0_2 : Bool) (x0_3 : UInt8) (x0_4 : UInt8) (x0_5 : UInt8) (x0_6 : UInt8) (x0_7 : Bool) (x0_8 : UInt8) (x0_9 : List UInt8) : Option AV :=
  condM (.b (ueq x0_0 8))
  ((selW (.b (ueq x0_3 2)) false (some (.b (ueq x0_3 3))) (.b true)).bind fun v1 => some (v1))
  (condM (.b (ueq x0_0 17))
  (F30_7 run x0_0 x0_1 x0_2 x0_3 x0_4 x0_5 x0_6 x0_7 x0_8 x0_9)
  (condM (.b (ueq x0_0 18))
  (F30_7 run x0_0 x0_1 x0_2 x0_3 x0_4 x0_5 x0_6 x0_7 x0_8 x0_9)
  (condM (.b (ueq x0_0 19))
  (F30_7 run x0_0 x0_1 x0_2 x0_3 x0_4 x0_5 x0_6 x0_7 x0_8 x0_9)
  (F30_8 run))))
theorem text30 (call : Nat → List AV → Option AV) (run : List Item → St → Option AV) (x0_0 : UInt8) (x0_1 : UInt8) (x0_2 : Bool) (x0_3 : UInt8) (x0_4 : UInt8) (x0_5 : UInt8) (x0_6 : UInt8) (x0_7 : Bool) (x0_8 : UInt8) (x0_9 : List UInt8) : unr C call run 30 Try.f30 400 [.code body30] (initSt [.ag [.u8 x0_0, .u8 x0_1, .b x0_2, .u8 x0_3, .u8 x0_4, .u8 x0_5, .u8 x0_6, .b x0_7, .u8 x0_8, .s x0_9]]) = X30 call run x0_0 x0_1 x0_2 x0_3 x0_4 x0_5 x0_6 x0_7 x0_8 x0_9 := by
  kernel_rfl
theorem c30 (x0_0 : UInt8) (x0_1 : UInt8) (x0_2 : Bool) (x0_3 : UInt8) (x0_4 : UInt8) (x0_5 : UInt8) (x0_6 : UInt8) (x0_7 : Bool) (x0_8 : UInt8) (x0_9 : List UInt8) {r : AV} (h : X30 (semCall C Try.prog) (semRun C Try.prog 30 Try.f30) x0_0 x0_1 x0_2 x0_3 x0_4 x0_5 x0_6 x0_7 x0_8 x0_9 = some r) : semCall C Try.prog 30 [.ag [.u8 x0_0, .u8 x0_1, .b x0_2, .u8 x0_3, .u8 x0_4, .u8 x0_5, .u8 x0_6, .b x0_7, .u8 x0_8, .s x0_9]] = some r :=
  semCall_unr (fn := Try.f30) (c := body30) (by kernel_rfl) (by kernel_rfl) 400 (by kernel_rfl) ((text30 _ _ x0_0 x0_1 x0_2 x0_3 x0_4 x0_5 x0_6 x0_7 x0_8 x0_9).trans h)
noncomputable def X30_7 (call : Nat → List AV → Option AV) (run : List Item → St → Option AV) (m1_0 : UInt8) (m1_1 : UInt8) (m1_2 : Bool) (m1_3 : UInt8) (m1_4 : UInt8) (m1_5 : UInt8) (m1_6 : UInt8) (m1_7 : Bool) (m1_8 : UInt8) (m1_9 : List UInt8) : Option AV :=
  (selW (.b (ueq m1_1 3)) false (some (.b (ueq m1_1 4))) (.b true)).bind fun v1 => some (v1)
theorem text30_7 (call : Nat → List AV → Option AV) (run : List Item → St → Option AV) (m1_0 : UInt8) (m1_1 : UInt8) (m1_2 : Bool) (m1_3 : UInt8) (m1_4 : UInt8) (m1_5 : UInt8) (m1_6 : UInt8) (m1_7 : Bool) (m1_8 : UInt8) (m1_9 : List UInt8) : step C call 30 Try.f30 (unr C call run 30 Try.f30 400) K30_7 (S30_7 m1_0 m1_1 m1_2 m1_3 m1_4 m1_5 m1_6 m1_7 m1_8 m1_9) = X30_7 call run m1_0 m1_1 m1_2 m1_3 m1_4 m1_5 m1_6 m1_7 m1_8 m1_9 := by
  kernel_rfl
noncomputable def X30_8 (call : Nat → List AV → Option AV) (run : List Item → St → Option AV)  : Option AV :=
  some (.b false)
theorem text30_8 (call : Nat → List AV → Option AV) (run : List Item → St → Option AV)  : step C call 30 Try.f30 (unr C call run 30 Try.f30 400) K30_8 (S30_8 ) = X30_8 call run  := by
  kernel_rfl
theorem r30_7 (m1_0 : UInt8) (m1_1 : UInt8) (m1_2 : Bool) (m1_3 : UInt8) (m1_4 : UInt8) (m1_5 : UInt8) (m1_6 : UInt8) (m1_7 : Bool) (m1_8 : UInt8) (m1_9 : List UInt8) {r : AV} (h : X30_7 (semCall C Try.prog) (semRun C Try.prog 30 Try.f30) m1_0 m1_1 m1_2 m1_3 m1_4 m1_5 m1_6 m1_7 m1_8 m1_9 = some r) : F30_7 (semRun C Try.prog 30 Try.f30) m1_0 m1_1 m1_2 m1_3 m1_4 m1_5 m1_6 m1_7 m1_8 m1_9 = some r :=
  semRun_unr 400 ((text30_7 _ _ m1_0 m1_1 m1_2 m1_3 m1_4 m1_5 m1_6 m1_7 m1_8 m1_9).trans h)
theorem r30_8  {r : AV} (h : X30_8 (semCall C Try.prog) (semRun C Try.prog 30 Try.f30)  = some r) : F30_8 (semRun C Try.prog 30 Try.f30)  = some r :=
  semRun_unr 400 ((text30_8 _ _ ).trans h)
end R1

namespace R1
open Go Go.Proofs Sx
noncomputable def body31 : Code := (Try.f31.body).getD .skip
noncomputable def X31 (call : Nat → List AV → Option AV) (run : List Item → St → Option AV) (x0_0 : UInt8) (x0_1 : UInt8) (x0_2 : Bool) (x0_3 : UInt8) (x0_4 : UInt8) (x0_5 : UInt8) (x0_6 : UInt8) (x0_7 : Bool) (x0_8 : UInt8) (x0_9 : List UInt8) : Option AV :=
  (selW (.b ((w64 (x0_0.toNat : Int)) == 8)) true ((selW (.b (ueq x0_3 2)) false (some (.b (ueq x0_3 3))) (.b true)).bind fun v1 => some (v1)) (.b false)).bind fun v2 => (selW (v2) false ((selW (.b (decide ((w64 (x0_0.toNat : Int)) ≥ 17))) true (some (.b (decide ((w64 (x0_0.toNat : Int)) ≤ 19)))) (.b false)).bind fun v3 => (selW (v3) true ((selW (.b (ueq x0_1 3)) false (some (.b (ueq x0_1 4))) (.b true)).bind fun v4 => some (v4)) (.b false)).bind fun v5 => some (v5)) (.b true)).bind fun v6 => some (v6)
theorem text31 (call : Nat → List AV → Option AV) (run : List Item → St → Option AV) (x0_0 : UInt8) (x0_1 : UInt8) (x0_2 : Bool) (x0_3 : UInt8) (x0_4 : UInt8) (x0_5 : UInt8) (x0_6 : UInt8) (x0_7 : Bool) (x0_8 : UInt8) (x0_9 : List UInt8) : unr C call run 31 Try.f31 400 [.code body31] (initSt [.ag [.u8 x0_0, .u8 x0_1, .b x0_2, .u8 x0_3, .u8 x0_4, .u8 x0_5, .u8 x0_6, .b x0_7, .u8 x0_8, .s x0_9]]) = X31 call run x0_0 x0_1 x0_2 x0_3 x0_4 x0_5 x0_6 x0_7 x0_8 x0_9 := by
  kernel_rfl
theorem c31 (x0_0 : UInt8) (x0_1 : UInt8) (x0_2 : Bool) (x0_3 : UInt8) (x0_4 : UInt8) (x0_5 : UInt8) (x0_6 : UInt8) (x0_7 : Bool) (x0_8 : UInt8) (x0_9 : List UInt8) {r : AV} (h : X31 (semCall C Try.prog) (semRun C Try.prog 31 Try.f31) x0_0 x0_1 x0_2 x0_3 x0_4 x0_5 x0_6 x0_7 x0_8 x0_9 = some r) : semCall C Try.prog 31 [.ag [.u8 x0_0, .u8 x0_1, .b x0_2, .u8 x0_3, .u8 x0_4, .u8 x0_5, .u8 x0_6, .b x0_7, .u8 x0_8, .s x0_9]] = some r :=
  semCall_unr (fn := Try.f31) (c := body31) (by kernel_rfl) (by kernel_rfl) 400 (by kernel_rfl) ((text31 _ _ x0_0 x0_1 x0_2 x0_3 x0_4 x0_5 x0_6 x0_7 x0_8 x0_9).trans h)
end R1

namespace R1
open Go Go.Proofs Sx
noncomputable def body32 : Code := (Try.f32.body).getD .skip
noncomputable def X32 (call : Nat → List AV → Option AV) (run : List Item → St → Option AV) (x0 : List UInt8) : Option AV :=
  condM (.b (x0 == [116, 101, 120, 116, 97, 114, 101, 97]))
  (some (.u8 1))
  (condM (.b (x0 == [116, 105, 116, 108, 101]))
  (some (.u8 2))
  (condM (.b (x0 == [115, 99, 114, 105, 112, 116]))
  (some (.u8 3))
  (condM (.b (x0 == [115, 116, 121, 108, 101]))
  (some (.u8 4))
  (some (.u8 0)))))
theorem text32 (call : Nat → List AV → Option AV) (run : List Item → St → Option AV) (x0 : List UInt8) : unr C call run 32 Try.f32 400 [.code body32] (initSt [.s x0]) = X32 call run x0 := by
  kernel_rfl
theorem c32 (x0 : List UInt8) {r : AV} (h : X32 (semCall C Try.prog) (semRun C Try.prog 32 Try.f32) x0 = some r) : semCall C Try.prog 32 [.s x0] = some r :=
  semCall_unr (fn := Try.f32) (c := body32) (by kernel_rfl) (by kernel_rfl) 400 (by kernel_rfl) ((text32 _ _ x0).trans h)
end R1

namespace R1
open Go Go.Proofs Sx
noncomputable def body33 : Code := (Try.f33.body).getD .skip
noncomputable def K33_3 : List Item := (kAt 3 body33 []).getD []
def S33_3 (t0 : List UInt8) (t3 : List AV) (t4 : Int) : St := St.ofL [(0, .cell (.val (.s t0))), (3, .cell (.own 5 9 1 t3)), (4, .cell (.val (.int t4)))] []
noncomputable def F33_3 (run : List Item → St → Option AV) (t0 : List UInt8) (t3 : List AV) (t4 : Int) : Option AV := run K33_3 (S33_3 t0 t3 t4)
noncomputable def X33 (call : Nat → List AV → Option AV) (run : List Item → St → Option AV) (x0 : List UInt8) : Option AV :=
  F33_3 run x0 (([.s [], .s [116, 101, 120, 116, 97, 114, 101, 97], .s [116, 105, 116, 108, 101], .s [115, 99, 114, 105, 112, 116], .s [115, 116, 121, 108, 101]] : List AV)) 1
theorem text33 (call : Nat → List AV → Option AV) (run : List Item → St → Option AV) (x0 : List UInt8) : unr C call run 33 Try.f33 400 [.code body33] (initSt [.s x0]) = X33 call run x0 := by
  kernel_rfl
theorem c33 (x0 : List UInt8) {r : AV} (h : X33 (semCall C Try.prog) (semRun C Try.prog 33 Try.f33) x0 = some r) : semCall C Try.prog 33 [.s x0] = some r :=
  semCall_unr (fn := Try.f33) (c := body33) (by kernel_rfl) (by kernel_rfl) 400 (by kernel_rfl) ((text33 _ _ x0).trans h)
noncomputable def X33_3 (call : Nat → List AV → Option AV) (run : List Item → St → Option AV) (t0 : List UInt8) (t3 : List AV) (t4 : Int) : Option AV :=
  condM (.b (decide (t4 < 5)))
  ((inN t3.length (.int t4)).bind fun v1 => (binS .eql (AV.cell (t3.getD v1 .un) 0) (.s t0)).bind fun v2 => condM (v2)
  (some (.int t4))
  (F33_3 run t0 t3 (w64 (t4 + 1))))
  (some (.int 0))
theorem text33_3 (call : Nat → List AV → Option AV) (run : List Item → St → Option AV) (t0 : List UInt8) (t3 : List AV) (t4 : Int) : step C call 33 Try.f33 (unr C call run 33 Try.f33 400) K33_3 (S33_3 t0 t3 t4) = X33_3 call run t0 t3 t4 := by
  kernel_rfl
theorem r33_3 (t0 : List UInt8) (t3 : List AV) (t4 : Int) {r : AV} (h : X33_3 (semCall C Try.prog) (semRun C Try.prog 33 Try.f33) t0 t3 t4 = some r) : F33_3 (semRun C Try.prog 33 Try.f33) t0 t3 t4 = some r :=
  semRun_unr 400 ((text33_3 _ _ t0 t3 t4).trans h)
end R1

namespace R1
open Go Go.Proofs Sx
noncomputable def body34 : Code := (Try.f34.body).getD .skip
noncomputable def K34_13 : List Item := (kAt 13 body34 []).getD []
def S34_13  : St := St.ofL [] []
noncomputable def F34_13 (run : List Item → St → Option AV)  : Option AV := run K34_13 (S34_13 )
noncomputable def K34_14 : List Item := (kAt 14 body34 []).getD []
def S34_14 (t0 : List UInt8) (t3 : List UInt8) : St := St.ofL [(0, .cell (.val (.s t0))), (3, .cell (.val (.s t3)))] []
noncomputable def F34_14 (run : List Item → St → Option AV) (t0 : List UInt8) (t3 : List UInt8) : Option AV := run K34_14 (S34_14 t0 t3)
noncomputable def K34_21 : List Item := (kAt 21 body34 []).getD []
def S34_21  : St := St.ofL [] []
noncomputable def F34_21 (run : List Item → St → Option AV)  : Option AV := run K34_21 (S34_21 )
noncomputable def K34_22 : List Item := (kAt 22 body34 []).getD []
def S34_22 (t0 : List UInt8) : St := St.ofL [(0, .cell (.val (.s t0)))] []
noncomputable def F34_22 (run : List Item → St → Option AV) (t0 : List UInt8) : Option AV := run K34_22 (S34_22 t0)
noncomputable def X34 (call : Nat → List AV → Option AV) (run : List Item → St → Option AV) (x0 : List UInt8) : Option AV :=
  condM (.b (x0 == [97, 99, 116, 105, 111, 110]))
  (F34_13 run)
  (condM (.b (x0 == [98, 97, 99, 107, 103, 114, 111, 117, 110, 100]))
  (F34_13 run)
  (condM (.b (x0 == [99, 105, 116, 101]))
  (F34_13 run)
  (condM (.b (x0 == [100, 97, 116, 97]))
  (F34_13 run)
  (condM (.b (x0 == [102, 111, 114, 109, 97, 99, 116, 105, 111, 110]))
  (F34_13 run)
  (condM (.b (x0 == [104, 114, 101, 102]))
  (F34_13 run)
  (condM (.b (x0 == [108, 111, 110, 103, 100, 101, 115, 99]))
  (F34_13 run)
  (condM (.b (x0 == [109, 97, 110, 105, 102, 101, 115, 116]))
  (F34_13 run)
  (condM (.b (x0 == [112, 111, 115, 116, 101, 114]))
  (F34_13 run)
  (condM (.b (x0 == [115, 114, 99]))
  (F34_13 run)
  (condM (.b (x0 == [120, 108, 105, 110, 107, 58, 104, 114, 101, 102]))
  (F34_13 run)
  (F34_14 run x0 x0)))))))))))
theorem text34 (call : Nat → List AV → Option AV) (run : List Item → St → Option AV) (x0 : List UInt8) : unr C call run 34 Try.f34 400 [.code body34] (initSt [.s x0]) = X34 call run x0 := by
  kernel_rfl
theorem c34 (x0 : List UInt8) {r : AV} (h : X34 (semCall C Try.prog) (semRun C Try.prog 34 Try.f34) x0 = some r) : semCall C Try.prog 34 [.s x0] = some r :=
  semCall_unr (fn := Try.f34) (c := body34) (by kernel_rfl) (by kernel_rfl) 400 (by kernel_rfl) ((text34 _ _ x0).trans h)
noncomputable def X34_13 (call : Nat → List AV → Option AV) (run : List Item → St → Option AV)  : Option AV :=
  some (.u8 1)
theorem text34_13 (call : Nat → List AV → Option AV) (run : List Item → St → Option AV)  : step C call 34 Try.f34 (unr C call run 34 Try.f34 400) K34_13 (S34_13 ) = X34_13 call run  := by
  kernel_rfl
noncomputable def X34_14 (call : Nat → List AV → Option AV) (run : List Item → St → Option AV) (t0 : List UInt8) (t3 : List UInt8) : Option AV :=
  condM (.b (t3 == [115, 116, 121, 108, 101]))
  (some (.u8 3))
  (condM (.b (t3 == [115, 114, 99, 100, 111, 99]))
  (F34_21 run)
  (condM (.b (t3 == [115, 114, 99, 115, 101, 116]))
  (F34_21 run)
  (condM (.b (t3 == [105, 109, 97, 103, 101, 115, 114, 99, 115, 101, 116]))
  (F34_21 run)
  (condM (.b (t3 == [99, 111, 110, 116, 101, 110, 116]))
  (F34_21 run)
  (condM (.b (t3 == [104, 116, 116, 112, 45, 101, 113, 117, 105, 118]))
  (F34_21 run)
  (F34_22 run t0))))))
theorem text34_14 (call : Nat → List AV → Option AV) (run : List Item → St → Option AV) (t0 : List UInt8) (t3 : List UInt8) : step C call 34 Try.f34 (unr C call run 34 Try.f34 400) K34_14 (S34_14 t0 t3) = X34_14 call run t0 t3 := by
  kernel_rfl
noncomputable def X34_21 (call : Nat → List AV → Option AV) (run : List Item → St → Option AV)  : Option AV :=
  some (.u8 4)
theorem text34_21 (call : Nat → List AV → Option AV) (run : List Item → St → Option AV)  : step C call 34 Try.f34 (unr C call run 34 Try.f34 400) K34_21 (S34_21 ) = X34_21 call run  := by
  kernel_rfl
noncomputable def X34_22 (call : Nat → List AV → Option AV) (run : List Item → St → Option AV) (t0 : List UInt8) : Option AV :=
  (selW (.b (decide (((t0.length : Int)) > 2))) true ((call 46 [.s t0, .s [111, 110]]).bind fun v1 => some (v1)) (.b false)).bind fun v2 => condM (v2)
  (some (.u8 2))
  (some (.u8 0))
theorem text34_22 (call : Nat → List AV → Option AV) (run : List Item → St → Option AV) (t0 : List UInt8) : step C call 34 Try.f34 (unr C call run 34 Try.f34 400) K34_22 (S34_22 t0) = X34_22 call run t0 := by
  kernel_rfl
theorem r34_13  {r : AV} (h : X34_13 (semCall C Try.prog) (semRun C Try.prog 34 Try.f34)  = some r) : F34_13 (semRun C Try.prog 34 Try.f34)  = some r :=
  semRun_unr 400 ((text34_13 _ _ ).trans h)
theorem r34_14 (t0 : List UInt8) (t3 : List UInt8) {r : AV} (h : X34_14 (semCall C Try.prog) (semRun C Try.prog 34 Try.f34) t0 t3 = some r) : F34_14 (semRun C Try.prog 34 Try.f34) t0 t3 = some r :=
  semRun_unr 400 ((text34_14 _ _ t0 t3).trans h)
theorem r34_21  {r : AV} (h : X34_21 (semCall C Try.prog) (semRun C Try.prog 34 Try.f34)  = some r) : F34_21 (semRun C Try.prog 34 Try.f34)  = some r :=
  semRun_unr 400 ((text34_21 _ _ ).trans h)
theorem r34_22 (t0 : List UInt8) {r : AV} (h : X34_22 (semCall C Try.prog) (semRun C Try.prog 34 Try.f34) t0 = some r) : F34_22 (semRun C Try.prog 34 Try.f34) t0 = some r :=
  semRun_unr 400 ((text34_22 _ _ t0).trans h)
end R1

namespace R1
open Go Go.Proofs Sx
noncomputable def body35 : Code := (Try.f35.body).getD .skip
noncomputable def K35_3 : List Item := (kAt 3 body35 []).getD []
def S35_3 (t0 : List UInt8) (t3 : List AV) (t4 : Int) : St := St.ofL [(0, .cell (.val (.s t0))), (3, .cell (.own 7 9 1 t3)), (4, .cell (.val (.int t4)))] []
noncomputable def F35_3 (run : List Item → St → Option AV) (t0 : List UInt8) (t3 : List AV) (t4 : Int) : Option AV := run K35_3 (S35_3 t0 t3 t4)
noncomputable def K35_9 : List Item := (kAt 9 body35 []).getD []
def S35_9 (t0 : List UInt8) (t5 : List AV) (t6 : Int) : St := St.ofL [(0, .cell (.val (.s t0))), (5, .cell (.own 20 9 1 t5)), (6, .cell (.val (.int t6)))] []
noncomputable def F35_9 (run : List Item → St → Option AV) (t0 : List UInt8) (t5 : List AV) (t6 : Int) : Option AV := run K35_9 (S35_9 t0 t5 t6)
noncomputable def X35 (call : Nat → List AV → Option AV) (run : List Item → St → Option AV) (x0 : List UInt8) : Option AV :=
  F35_3 run x0 (([.s [97, 99, 116, 105, 111, 110], .s [98, 97, 99, 107, 103, 114, 111, 117, 110, 100], .s [99, 105, 116, 101], .s [100, 97, 116, 97], .s [102, 111, 114, 109, 97, 99, 116, 105, 111, 110], .s [104, 114, 101, 102], .s [108, 111, 110, 103, 100, 101, 115, 99], .s [109, 97, 110, 105, 102, 101, 115, 116], .s [112, 111, 115, 116, 101, 114], .s [115, 114, 99], .s [120, 108, 105, 110, 107, 58, 104, 114, 101, 102]] : List AV)) 0
theorem text35 (call : Nat → List AV → Option AV) (run : List Item → St → Option AV) (x0 : List UInt8) : unr C call run 35 Try.f35 400 [.code body35] (initSt [.s x0]) = X35 call run x0 := by
  kernel_rfl
theorem c35 (x0 : List UInt8) {r : AV} (h : X35 (semCall C Try.prog) (semRun C Try.prog 35 Try.f35) x0 = some r) : semCall C Try.prog 35 [.s x0] = some r :=
  semCall_unr (fn := Try.f35) (c := body35) (by kernel_rfl) (by kernel_rfl) 400 (by kernel_rfl) ((text35 _ _ x0).trans h)
noncomputable def X35_3 (call : Nat → List AV → Option AV) (run : List Item → St → Option AV) (t0 : List UInt8) (t3 : List AV) (t4 : Int) : Option AV :=
  condM (.b (decide (t4 < ((t3.length : Int)))))
  ((inN t3.length (.int t4)).bind fun v1 => (binS .eql (AV.cell (t3.getD v1 .un) 0) (.s t0)).bind fun v2 => condM (v2)
  (some (.int 1))
  (F35_3 run t0 t3 (w64 (t4 + 1))))
  (F35_9 run t0 (([.s [115, 114, 99, 100, 111, 99], .s [115, 114, 99, 115, 101, 116], .s [105, 109, 97, 103, 101, 115, 114, 99, 115, 101, 116], .s [99, 111, 110, 116, 101, 110, 116], .s [104, 116, 116, 112, 45, 101, 113, 117, 105, 118]] : List AV)) 0)
theorem text35_3 (call : Nat → List AV → Option AV) (run : List Item → St → Option AV) (t0 : List UInt8) (t3 : List AV) (t4 : Int) : step C call 35 Try.f35 (unr C call run 35 Try.f35 400) K35_3 (S35_3 t0 t3 t4) = X35_3 call run t0 t3 t4 := by
  kernel_rfl
noncomputable def X35_9 (call : Nat → List AV → Option AV) (run : List Item → St → Option AV) (t0 : List UInt8) (t5 : List AV) (t6 : Int) : Option AV :=
  condM (.b (decide (t6 < ((t5.length : Int)))))
  ((inN t5.length (.int t6)).bind fun v1 => (binS .eql (AV.cell (t5.getD v1 .un) 0) (.s t0)).bind fun v2 => condM (v2)
  (some (.int 4))
  (F35_9 run t0 t5 (w64 (t6 + 1))))
  (condM (.b (t0 == [115, 116, 121, 108, 101]))
  (some (.int 3))
  ((selW (.b (decide (((t0.length : Int)) ≥ 3))) true ((idxS (.s t0) (.int 0)).bind fun v3 => (binI .eql (v3) (.u8 111)).bind fun v4 => some (v4)) (.b false)).bind fun v5 => (selW (v5) true ((idxS (.s t0) (.int 1)).bind fun v6 => (binI .eql (v6) (.u8 110)).bind fun v7 => some (v7)) (.b false)).bind fun v8 => condM (v8)
  (some (.int 2))
  (some (.int 0))))
theorem text35_9 (call : Nat → List AV → Option AV) (run : List Item → St → Option AV) (t0 : List UInt8) (t5 : List AV) (t6 : Int) : step C call 35 Try.f35 (unr C call run 35 Try.f35 400) K35_9 (S35_9 t0 t5 t6) = X35_9 call run t0 t5 t6 := by
  kernel_rfl
theorem r35_3 (t0 : List UInt8) (t3 : List AV) (t4 : Int) {r : AV} (h : X35_3 (semCall C Try.prog) (semRun C Try.prog 35 Try.f35) t0 t3 t4 = some r) : F35_3 (semRun C Try.prog 35 Try.f35) t0 t3 t4 = some r :=
  semRun_unr 400 ((text35_3 _ _ t0 t3 t4).trans h)
theorem r35_9 (t0 : List UInt8) (t5 : List AV) (t6 : Int) {r : AV} (h : X35_9 (semCall C Try.prog) (semRun C Try.prog 35 Try.f35) t0 t5 t6 = some r) : F35_9 (semRun C Try.prog 35 Try.f35) t0 t5 t6 = some r :=
  semRun_unr 400 ((text35_9 _ _ t0 t5 t6).trans h)
end R1

namespace R1
open Go Go.Proofs Sx
noncomputable def body36 : Code := (Try.f36.body).getD .skip
noncomputable def X36 (call : Nat → List AV → Option AV) (run : List Item → St → Option AV) (x0 : UInt8) : Option AV :=
  condM (.b (ueq x0 1))
  (some (.s [116, 101, 120, 116, 97, 114, 101, 97]))
  (condM (.b (ueq x0 2))
  (some (.s [116, 105, 116, 108, 101]))
  (condM (.b (ueq x0 3))
  (some (.s [115, 99, 114, 105, 112, 116]))
  (condM (.b (ueq x0 4))
  (some (.s [115, 116, 121, 108, 101]))
  (some (.s [])))))
theorem text36 (call : Nat → List AV → Option AV) (run : List Item → St → Option AV) (x0 : UInt8) : unr C call run 36 Try.f36 400 [.code body36] (initSt [.u8 x0]) = X36 call run x0 := by
  kernel_rfl
theorem c36 (x0 : UInt8) {r : AV} (h : X36 (semCall C Try.prog) (semRun C Try.prog 36 Try.f36) x0 = some r) : semCall C Try.prog 36 [.u8 x0] = some r :=
  semCall_unr (fn := Try.f36) (c := body36) (by kernel_rfl) (by kernel_rfl) 400 (by kernel_rfl) ((text36 _ _ x0).trans h)
end R1

namespace R1
open Go Go.Proofs Sx
noncomputable def body37 : Code := (Try.f37.body).getD .skip
noncomputable def X37 (call : Nat → List AV → Option AV) (run : List Item → St → Option AV) (x0 : Int) : Option AV :=
  (selW (.b (decide (x0 < 0))) false (some (.b (decide (x0 > 4)))) (.b true)).bind fun v1 => condM (v1)
  (some (.s []))
  ((inN (([.s [], .s [116, 101, 120, 116, 97, 114, 101, 97], .s [116, 105, 116, 108, 101], .s [115, 99, 114, 105, 112, 116], .s [115, 116, 121, 108, 101]] : List AV)).length (.int x0)).bind fun v2 => some (AV.cell ((([.s [], .s [116, 101, 120, 116, 97, 114, 101, 97], .s [116, 105, 116, 108, 101], .s [115, 99, 114, 105, 112, 116], .s [115, 116, 121, 108, 101]] : List AV)).getD v2 .un) 0))
theorem text37 (call : Nat → List AV → Option AV) (run : List Item → St → Option AV) (x0 : Int) : unr C call run 37 Try.f37 400 [.code body37] (initSt [.int x0]) = X37 call run x0 := by
  kernel_rfl
theorem c37 (x0 : Int) {r : AV} (h : X37 (semCall C Try.prog) (semRun C Try.prog 37 Try.f37) x0 = some r) : semCall C Try.prog 37 [.int x0] = some r :=
  semCall_unr (fn := Try.f37) (c := body37) (by kernel_rfl) (by kernel_rfl) 400 (by kernel_rfl) ((text37 _ _ x0).trans h)
end R1

namespace R1
open Go Go.Proofs Sx
noncomputable def body41 : Code := (Try.f41.body).getD .skip
noncomputable def K41_2 : List Item := (kAt 2 body41 []).getD []
def S41_2 (t0 : List UInt8) (t1 : Int) (t7 : Int) (t8 : Int) : St := St.ofL [(0, .cell (.val (.s t0))), (1, .cell (.val (.int t1))), (7, .cell (.val (.int t7))), (8, .cell (.val (.int t8)))] []
noncomputable def F41_2 (run : List Item → St → Option AV) (t0 : List UInt8) (t1 : Int) (t7 : Int) (t8 : Int) : Option AV := run K41_2 (S41_2 t0 t1 t7 t8)
noncomputable def X41 (call : Nat → List AV → Option AV) (run : List Item → St → Option AV) (x0 : List UInt8) (x1 : Int) : Option AV :=
  F41_2 run x0 x1 ((x0.length : Int)) 0
theorem text41 (call : Nat → List AV → Option AV) (run : List Item → St → Option AV) (x0 : List UInt8) (x1 : Int) : unr C call run 41 Try.f41 400 [.code body41] (initSt [.s x0, .int x1]) = X41 call run x0 x1 := by
  kernel_rfl
theorem c41 (x0 : List UInt8) (x1 : Int) {r : AV} (h : X41 (semCall C Try.prog) (semRun C Try.prog 41 Try.f41) x0 x1 = some r) : semCall C Try.prog 41 [.s x0, .int x1] = some r :=
  semCall_unr (fn := Try.f41) (c := body41) (by kernel_rfl) (by kernel_rfl) 400 (by kernel_rfl) ((text41 _ _ x0 x1).trans h)
noncomputable def X41_2 (call : Nat → List AV → Option AV) (run : List Item → St → Option AV) (t0 : List UInt8) (t1 : Int) (t7 : Int) (t8 : Int) : Option AV :=
  condM (.b (decide (t8 < t7)))
  ((idxS (.s t0) (.int t8)).bind fun v1 => (binI .geq (v1) (.u8 65)).bind fun v2 => (selW (v2) true ((idxS (.s t0) (.int t8)).bind fun v3 => (binI .leq (v3) (.u8 90)).bind fun v4 => some (v4)) (.b false)).bind fun v5 => condM (v5)
  (some (.b false))
  (F41_2 run t0 t1 t7 (w64 (t8 + 1))))
  ((selW (.b (decide (((t0.length : Int)) ≥ 1))) true (some (.b (decide (((t0.length : Int)) ≤ t1)))) (.b false)).bind fun v6 => some (v6))
theorem text41_2 (call : Nat → List AV → Option AV) (run : List Item → St → Option AV) (t0 : List UInt8) (t1 : Int) (t7 : Int) (t8 : Int) : step C call 41 Try.f41 (unr C call run 41 Try.f41 400) K41_2 (S41_2 t0 t1 t7 t8) = X41_2 call run t0 t1 t7 t8 := by
  kernel_rfl
theorem r41_2 (t0 : List UInt8) (t1 : Int) (t7 : Int) (t8 : Int) {r : AV} (h : X41_2 (semCall C Try.prog) (semRun C Try.prog 41 Try.f41) t0 t1 t7 t8 = some r) : F41_2 (semRun C Try.prog 41 Try.f41) t0 t1 t7 t8 = some r :=
  semRun_unr 400 ((text41_2 _ _ t0 t1 t7 t8).trans h)
end R1

namespace R1
open Go Go.Proofs Sx
noncomputable def body42 : Code := (Try.f42.body).getD .skip
noncomputable def K42_14 : List Item := (kAt 14 body42 []).getD []
def S42_14 (m2_0 : UInt8) (m2_1 : UInt8) (m2_2 : Bool) (m2_3 : UInt8) (m2_4 : UInt8) (m2_5 : UInt8) (m2_6 : UInt8) (m2_7 : Bool) (m2_8 : UInt8) (m2_9 : List UInt8) (m3_0 : UInt8) (m3_1 : UInt8) (m3_2 : Bool) (m3_3 : UInt8) (m3_4 : UInt8) (m3_5 : UInt8) (m3_6 : UInt8) (m3_7 : Bool) (m3_8 : UInt8) (m3_9 : List UInt8) : St := St.ofL [(2, .cell (.ptr 2 0)), (3, .cell (.ptr 3 0))] [(2, some [.val (.u8 m2_0), .val (.u8 m2_1), .val (.b m2_2), .val (.u8 m2_3), .val (.u8 m2_4), .val (.u8 m2_5), .val (.u8 m2_6), .val (.b m2_7), .val (.u8 m2_8), .val (.s m2_9)]), (3, some [.val (.u8 m3_0), .val (.u8 m3_1), .val (.b m3_2), .val (.u8 m3_3), .val (.u8 m3_4), .val (.u8 m3_5), .val (.u8 m3_6), .val (.b m3_7), .val (.u8 m3_8), .val (.s m3_9)])]
noncomputable def F42_14 (run : List Item → St → Option AV) (m2_0 : UInt8) (m2_1 : UInt8) (m2_2 : Bool) (m2_3 : UInt8) (m2_4 : UInt8) (m2_5 : UInt8) (m2_6 : UInt8) (m2_7 : Bool) (m2_8 : UInt8) (m2_9 : List UInt8) (m3_0 : UInt8) (m3_1 : UInt8) (m3_2 : Bool) (m3_3 : UInt8) (m3_4 : UInt8) (m3_5 : UInt8) (m3_6 : UInt8) (m3_7 : Bool) (m3_8 : UInt8) (m3_9 : List UInt8) : Option AV := run K42_14 (S42_14 m2_0 m2_1 m2_2 m2_3 m2_4 m2_5 m2_6 m2_7 m2_8 m2_9 m3_0 m3_1 m3_2 m3_3 m3_4 m3_5 m3_6 m3_7 m3_8 m3_9)
noncomputable def K42_12 : List Item := (kAt 12 body42 []).getD []
def S42_12 (m2_0 : UInt8) (m2_1 : UInt8) (m2_2 : Bool) (m2_3 : UInt8) (m2_4 : UInt8) (m2_5 : UInt8) (m2_6 : UInt8) (m2_7 : Bool) (m2_8 : UInt8) (m2_9 : List UInt8) (m3_0 : UInt8) (m3_1 : UInt8) (m3_2 : Bool) (m3_3 : UInt8) (m3_4 : UInt8) (m3_5 : UInt8) (m3_6 : UInt8) (m3_7 : Bool) (m3_8 : UInt8) (m3_9 : List UInt8) : St := St.ofL [(2, .cell (.ptr 2 0)), (3, .cell (.ptr 3 0))] [(2, some [.val (.u8 m2_0), .val (.u8 m2_1), .val (.b m2_2), .val (.u8 m2_3), .val (.u8 m2_4), .val (.u8 m2_5), .val (.u8 m2_6), .val (.b m2_7), .val (.u8 m2_8), .val (.s m2_9)]), (3, some [.val (.u8 m3_0), .val (.u8 m3_1), .val (.b m3_2), .val (.u8 m3_3), .val (.u8 m3_4), .val (.u8 m3_5), .val (.u8 m3_6), .val (.b m3_7), .val (.u8 m3_8), .val (.s m3_9)])]
noncomputable def F42_12 (run : List Item → St → Option AV) (m2_0 : UInt8) (m2_1 : UInt8) (m2_2 : Bool) (m2_3 : UInt8) (m2_4 : UInt8) (m2_5 : UInt8) (m2_6 : UInt8) (m2_7 : Bool) (m2_8 : UInt8) (m2_9 : List UInt8) (m3_0 : UInt8) (m3_1 : UInt8) (m3_2 : Bool) (m3_3 : UInt8) (m3_4 : UInt8) (m3_5 : UInt8) (m3_6 : UInt8) (m3_7 : Bool) (m3_8 : UInt8) (m3_9 : List UInt8) : Option AV := run K42_12 (S42_12 m2_0 m2_1 m2_2 m2_3 m2_4 m2_5 m2_6 m2_7 m2_8 m2_9 m3_0 m3_1 m3_2 m3_3 m3_4 m3_5 m3_6 m3_7 m3_8 m3_9)
noncomputable def X42 (call : Nat → List AV → Option AV) (run : List Item → St → Option AV) (x0_0 : UInt8) (x0_1 : UInt8) (x0_2 : Bool) (x0_3 : UInt8) (x0_4 : UInt8) (x0_5 : UInt8) (x0_6 : UInt8) (x0_7 : Bool) (x0_8 : UInt8) (x0_9 : List UInt8) (x1_0 : UInt8) (x1_1 : UInt8) (x1_2 : Bool) (x1_3 : UInt8) (x1_4 : UInt8) (x1_5 : UInt8) (x1_6 : UInt8) (x1_7 : Bool) (x1_8 : UInt8) (x1_9 : List UInt8) : Option AV :=
  (selW (.b (une x0_4 0)) true (some (.b (une x0_4 34))) (.b false)).bind fun v1 => (selW (v1) true (some (.b (une x0_4 39))) (.b false)).bind fun v2 => condM (v2)
  (some (.b false))
  (condM (.b (ueq x0_3 1))
  (condM (.b (ueq x0_5 1))
  ((selW (.b ((x0_0 == x1_0 && (x0_1 == x1_1 && (x0_2 == x1_2 && (x0_3 == x0_3 && (x0_4 == x0_4 && (x0_5 == x0_5 && (x0_6 == x1_6 && (x0_7 == x1_7 && (x0_8 == x1_8 && (x0_9 == x0_9 && true)))))))))))) true ((call 41 [.s x0_9, .int 16]).bind fun v3 => some (v3)) (.b false)).bind fun v4 => some (v4))
  (F42_14 run x0_0 x0_1 x0_2 x0_3 x0_4 x0_5 x0_6 x0_7 x0_8 x0_9 x1_0 x1_1 x1_2 x0_3 x0_4 x0_5 x1_6 x1_7 x1_8 x1_9))
  (condM (.b (ueq x0_3 2))
  (F42_12 run x0_0 x0_1 x0_2 x0_3 x0_4 x0_5 x0_6 x0_7 x0_8 x0_9 x1_0 x1_1 x1_2 x0_3 x0_4 x1_5 x1_6 x1_7 x1_8 x1_9)
  (condM (.b (ueq x0_3 3))
  (F42_12 run x0_0 x0_1 x0_2 x0_3 x0_4 x0_5 x0_6 x0_7 x0_8 x0_9 x1_0 x1_1 x1_2 x0_3 x0_4 x1_5 x1_6 x1_7 x1_8 x1_9)
  (F42_14 run x0_0 x0_1 x0_2 x0_3 x0_4 x0_5 x0_6 x0_7 x0_8 x0_9 x1_0 x1_1 x1_2 x0_3 x0_4 x1_5 x1_6 x1_7 x1_8 x1_9))))
theorem text42 (call : Nat → List AV → Option AV) (run : List Item → St → Option AV) (x0_0 : UInt8) (x0_1 : UInt8) (x0_2 : Bool) (x0_3 : UInt8) (x0_4 : UInt8) (x0_5 : UInt8) (x0_6 : UInt8) (x0_7 : Bool) (x0_8 : UInt8) (x0_9 : List UInt8) (x1_0 : UInt8) (x1_1 : UInt8) (x1_2 : Bool) (x1_3 : UInt8) (x1_4 : UInt8) (x1_5 : UInt8) (x1_6 : UInt8) (x1_7 : Bool) (x1_8 : UInt8) (x1_9 : List UInt8) : unr C call run 42 Try.f42 400 [.code body42] (initSt [.ag [.u8 x0_0, .u8 x0_1, .b x0_2, .u8 x0_3, .u8 x0_4, .u8 x0_5, .u8 x0_6, .b x0_7, .u8 x0_8, .s x0_9], .ag [.u8 x1_0, .u8 x1_1, .b x1_2, .u8 x1_3, .u8 x1_4, .u8 x1_5, .u8 x1_6, .b x1_7, .u8 x1_8, .s x1_9]]) = X42 call run x0_0 x0_1 x0_2 x0_3 x0_4 x0_5 x0_6 x0_7 x0_8 x0_9 x1_0 x1_1 x1_2 x1_3 x1_4 x1_5 x1_6 x1_7 x1_8 x1_9 := by
  kernel_rfl
theorem c42 (x0_0 : UInt8) (x0_1 : UInt8) (x0_2 : Bool) (x0_3 : UInt8) (x0_4 : UInt8) (x0_5 : UInt8) (x0_6 : UInt8) (x0_7 : Bool) (x0_8 : UInt8) (x0_9 : List UInt8) (x1_0 : UInt8) (x1_1 : UInt8) (x1_2 : Bool) (x1_3 : UInt8) (x1_4 : UInt8) (x1_5 : UInt8) (x1_6 : UInt8) (x1_7 : Bool) (x1_8 : UInt8) (x1_9 : List UInt8) {r : AV} (h : X42 (semCall C Try.prog) (semRun C Try.prog 42 Try.f42) x0_0 x0_1 x0_2 x0_3 x0_4 x0_5 x0_6 x0_7 x0_8 x0_9 x1_0 x1_1 x1_2 x1_3 x1_4 x1_5 x1_6 x1_7 x1_8 x1_9 = some r) : semCall C Try.prog 42 [.ag [.u8 x0_0, .u8 x0_1, .b x0_2, .u8 x0_3, .u8 x0_4, .u8 x0_5, .u8 x0_6, .b x0_7, .u8 x0_8, .s x0_9], .ag [.u8 x1_0, .u8 x1_1, .b x1_2, .u8 x1_3, .u8 x1_4, .u8 x1_5, .u8 x1_6, .b x1_7, .u8 x1_8, .s x1_9]] = some r :=
  semCall_unr (fn := Try.f42) (c := body42) (by kernel_rfl) (by kernel_rfl) 400 (by kernel_rfl) ((text42 _ _ x0_0 x0_1 x0_2 x0_3 x0_4 x0_5 x0_6 x0_7 x0_8 x0_9 x1_0 x1_1 x1_2 x1_3 x1_4 x1_5 x1_6 x1_7 x1_8 x1_9).trans h)
noncomputable def X42_14 (call : Nat → List AV → Option AV) (run : List Item → St → Option AV) (m2_0 : UInt8) (m2_1 : UInt8) (m2_2 : Bool) (m2_3 : UInt8) (m2_4 : UInt8) (m2_5 : UInt8) (m2_6 : UInt8) (m2_7 : Bool) (m2_8 : UInt8) (m2_9 : List UInt8) (m3_0 : UInt8) (m3_1 : UInt8) (m3_2 : Bool) (m3_3 : UInt8) (m3_4 : UInt8) (m3_5 : UInt8) (m3_6 : UInt8) (m3_7 : Bool) (m3_8 : UInt8) (m3_9 : List UInt8) : Option AV :=
  some (.b ((m2_0 == m3_0 && (m2_1 == m3_1 && (m2_2 == m3_2 && (m2_3 == m3_3 && (m2_4 == m3_4 && (m2_5 == m3_5 && (m2_6 == m3_6 && (m2_7 == m3_7 && (m2_8 == m3_8 && (m2_9 == m3_9 && true))))))))))))
theorem text42_14 (call : Nat → List AV → Option AV) (run : List Item → St → Option AV) (m2_0 : UInt8) (m2_1 : UInt8) (m2_2 : Bool) (m2_3 : UInt8) (m2_4 : UInt8) (m2_5 : UInt8) (m2_6 : UInt8) (m2_7 : Bool) (m2_8 : UInt8) (m2_9 : List UInt8) (m3_0 : UInt8) (m3_1 : UInt8) (m3_2 : Bool) (m3_3 : UInt8) (m3_4 : UInt8) (m3_5 : UInt8) (m3_6 : UInt8) (m3_7 : Bool) (m3_8 : UInt8) (m3_9 : List UInt8) : step C call 42 Try.f42 (unr C call run 42 Try.f42 400) K42_14 (S42_14 m2_0 m2_1 m2_2 m2_3 m2_4 m2_5 m2_6 m2_7 m2_8 m2_9 m3_0 m3_1 m3_2 m3_3 m3_4 m3_5 m3_6 m3_7 m3_8 m3_9) = X42_14 call run m2_0 m2_1 m2_2 m2_3 m2_4 m2_5 m2_6 m2_7 m2_8 m2_9 m3_0 m3_1 m3_2 m3_3 m3_4 m3_5 m3_6 m3_7 m3_8 m3_9 := by
  kernel_rfl
noncomputable def X42_12 (call : Nat → List AV → Option AV) (run : List Item → St → Option AV) (m2_0 : UInt8) (m2_1 : UInt8) (m2_2 : Bool) (m2_3 : UInt8) (m2_4 : UInt8) (m2_5 : UInt8) (m2_6 : UInt8) (m2_7 : Bool) (m2_8 : UInt8) (m2_9 : List UInt8) (m3_0 : UInt8) (m3_1 : UInt8) (m3_2 : Bool) (m3_3 : UInt8) (m3_4 : UInt8) (m3_5 : UInt8) (m3_6 : UInt8) (m3_7 : Bool) (m3_8 : UInt8) (m3_9 : List UInt8) : Option AV :=
  (selW (.b ((m2_0 == m3_0 && (m2_1 == m3_1 && (m2_2 == m3_2 && (m2_3 == m3_3 && (m2_4 == m3_4 && (m2_5 == m3_5 && (m2_6 == m2_6 && (m2_7 == m2_7 && (m2_8 == m3_8 && (m2_9 == m3_9 && true)))))))))))) true ((call 48 [.ag [.u8 m2_0, .u8 m2_1, .b m2_2, .u8 m2_3, .u8 m2_4, .u8 m2_5, .u8 m2_6, .b m2_7, .u8 m2_8, .s m2_9], .b (ueq m2_3 2)]).bind fun v1 => some (v1)) (.b false)).bind fun v2 => some (v2)
theorem text42_12 (call : Nat → List AV → Option AV) (run : List Item → St → Option AV) (m2_0 : UInt8) (m2_1 : UInt8) (m2_2 : Bool) (m2_3 : UInt8) (m2_4 : UInt8) (m2_5 : UInt8) (m2_6 : UInt8) (m2_7 : Bool) (m2_8 : UInt8) (m2_9 : List UInt8) (m3_0 : UInt8) (m3_1 : UInt8) (m3_2 : Bool) (m3_3 : UInt8) (m3_4 : UInt8) (m3_5 : UInt8) (m3_6 : UInt8) (m3_7 : Bool) (m3_8 : UInt8) (m3_9 : List UInt8) : step C call 42 Try.f42 (unr C call run 42 Try.f42 400) K42_12 (S42_12 m2_0 m2_1 m2_2 m2_3 m2_4 m2_5 m2_6 m2_7 m2_8 m2_9 m3_0 m3_1 m3_2 m3_3 m3_4 m3_5 m3_6 m3_7 m3_8 m3_9) = X42_12 call run m2_0 m2_1 m2_2 m2_3 m2_4 m2_5 m2_6 m2_7 m2_8 m2_9 m3_0 m3_1 m3_2 m3_3 m3_4 m3_5 m3_6 m3_7 m3_8 m3_9 := by
  kernel_rfl
theorem r42_14 (m2_0 : UInt8) (m2_1 : UInt8) (m2_2 : Bool) (m2_3 : UInt8) (m2_4 : UInt8) (m2_5 : UInt8) (m2_6 : UInt8) (m2_7 : Bool) (m2_8 : UInt8) (m2_9 : List UInt8) (m3_0 : UInt8) (m3_1 : UInt8) (m3_2 : Bool) (m3_3 : UInt8) (m3_4 : UInt8) (m3_5 : UInt8) (m3_6 : UInt8) (m3_7 : Bool) (m3_8 : UInt8) (m3_9 : List UInt8) {r : AV} (h : X42_14 (semCall C Try.prog) (semRun C Try.prog 42 Try.f42) m2_0 m2_1 m2_2 m2_3 m2_4 m2_5 m2_6 m2_7 m2_8 m2_9 m3_0 m3_1 m3_2 m3_3 m3_4 m3_5 m3_6 m3_7 m3_8 m3_9 = some r) : F42_14 (semRun C Try.prog 42 Try.f42) m2_0 m2_1 m2_2 m2_3 m2_4 m2_5 m2_6 m2_7 m2_8 m2_9 m3_0 m3_1 m3_2 m3_3 m3_4 m3_5 m3_6 m3_7 m3_8 m3_9 = some r :=
  semRun_unr 400 ((text42_14 _ _ m2_0 m2_1 m2_2 m2_3 m2_4 m2_5 m2_6 m2_7 m2_8 m2_9 m3_0 m3_1 m3_2 m3_3 m3_4 m3_5 m3_6 m3_7 m3_8 m3_9).trans h)
theorem r42_12 (m2_0 : UInt8) (m2_1 : UInt8) (m2_2 : Bool) (m2_3 : UInt8) (m2_4 : UInt8) (m2_5 : UInt8) (m2_6 : UInt8) (m2_7 : Bool) (m2_8 : UInt8) (m2_9 : List UInt8) (m3_0 : UInt8) (m3_1 : UInt8) (m3_2 : Bool) (m3_3 : UInt8) (m3_4 : UInt8) (m3_5 : UInt8) (m3_6 : UInt8) (m3_7 : Bool) (m3_8 : UInt8) (m3_9 : List UInt8) {r : AV} (h : X42_12 (semCall C Try.prog) (semRun C Try.prog 42 Try.f42) m2_0 m2_1 m2_2 m2_3 m2_4 m2_5 m2_6 m2_7 m2_8 m2_9 m3_0 m3_1 m3_2 m3_3 m3_4 m3_5 m3_6 m3_7 m3_8 m3_9 = some r) : F42_12 (semRun C Try.prog 42 Try.f42) m2_0 m2_1 m2_2 m2_3 m2_4 m2_5 m2_6 m2_7 m2_8 m2_9 m3_0 m3_1 m3_2 m3_3 m3_4 m3_5 m3_6 m3_7 m3_8 m3_9 = some r :=
  semRun_unr 400 ((text42_12 _ _ m2_0 m2_1 m2_2 m2_3 m2_4 m2_5 m2_6 m2_7 m2_8 m2_9 m3_0 m3_1 m3_2 m3_3 m3_4 m3_5 m3_6 m3_7 m3_8 m3_9).trans h)
end R1

namespace R1
open Go Go.Proofs Sx
noncomputable def body43 : Code := (Try.f43.body).getD .skip
noncomputable def K43_4 : List Item := (kAt 4 body43 []).getD []
def S43_4 (m1_0 : UInt8) (m1_1 : UInt8) (m1_2 : Bool) (m1_3 : UInt8) (m1_4 : UInt8) (m1_5 : UInt8) (m1_6 : UInt8) (m1_7 : Bool) (m1_8 : UInt8) (m1_9 : List UInt8) (m3_0 : UInt8) (m3_1 : UInt8) (m3_2 : Bool) (m3_3 : UInt8) (m3_4 : UInt8) (m3_5 : UInt8) (m3_6 : UInt8) (m3_7 : Bool) (m3_8 : UInt8) (m3_9 : List UInt8) : St := St.ofL [(1, .cell (.ptr 1 0)), (3, .cell (.ptr 3 0))] [(1, some [.val (.u8 m1_0), .val (.u8 m1_1), .val (.b m1_2), .val (.u8 m1_3), .val (.u8 m1_4), .val (.u8 m1_5), .val (.u8 m1_6), .val (.b m1_7), .val (.u8 m1_8), .val (.s m1_9)]), (3, some [.val (.u8 m3_0), .val (.u8 m3_1), .val (.b m3_2), .val (.u8 m3_3), .val (.u8 m3_4), .val (.u8 m3_5), .val (.u8 m3_6), .val (.b m3_7), .val (.u8 m3_8), .val (.s m3_9)])]
noncomputable def F43_4 (run : List Item → St → Option AV) (m1_0 : UInt8) (m1_1 : UInt8) (m1_2 : Bool) (m1_3 : UInt8) (m1_4 : UInt8) (m1_5 : UInt8) (m1_6 : UInt8) (m1_7 : Bool) (m1_8 : UInt8) (m1_9 : List UInt8) (m3_0 : UInt8) (m3_1 : UInt8) (m3_2 : Bool) (m3_3 : UInt8) (m3_4 : UInt8) (m3_5 : UInt8) (m3_6 : UInt8) (m3_7 : Bool) (m3_8 : UInt8) (m3_9 : List UInt8) : Option AV := run K43_4 (S43_4 m1_0 m1_1 m1_2 m1_3 m1_4 m1_5 m1_6 m1_7 m1_8 m1_9 m3_0 m3_1 m3_2 m3_3 m3_4 m3_5 m3_6 m3_7 m3_8 m3_9)
noncomputable def K43_6 : List Item := (kAt 6 body43 []).getD []
def S43_6 (m1_0 : UInt8) (m1_1 : UInt8) (m1_2 : Bool) (m1_3 : UInt8) (m1_4 : UInt8) (m1_5 : UInt8) (m1_6 : UInt8) (m1_7 : Bool) (m1_8 : UInt8) (m1_9 : List UInt8) (m3_0 : UInt8) (m3_1 : UInt8) (m3_2 : Bool) (m3_3 : UInt8) (m3_4 : UInt8) (m3_5 : UInt8) (m3_6 : UInt8) (m3_7 : Bool) (m3_8 : UInt8) (m3_9 : List UInt8) : St := St.ofL [(1, .cell (.ptr 1 0)), (3, .cell (.ptr 3 0))] [(1, some [.val (.u8 m1_0), .val (.u8 m1_1), .val (.b m1_2), .val (.u8 m1_3), .val (.u8 m1_4), .val (.u8 m1_5), .val (.u8 m1_6), .val (.b m1_7), .val (.u8 m1_8), .val (.s m1_9)]), (3, some [.val (.u8 m3_0), .val (.u8 m3_1), .val (.b m3_2), .val (.u8 m3_3), .val (.u8 m3_4), .val (.u8 m3_5), .val (.u8 m3_6), .val (.b m3_7), .val (.u8 m3_8), .val (.s m3_9)])]
noncomputable def F43_6 (run : List Item → St → Option AV) (m1_0 : UInt8) (m1_1 : UInt8) (m1_2 : Bool) (m1_3 : UInt8) (m1_4 : UInt8) (m1_5 : UInt8) (m1_6 : UInt8) (m1_7 : Bool) (m1_8 : UInt8) (m1_9 : List UInt8) (m3_0 : UInt8) (m3_1 : UInt8) (m3_2 : Bool) (m3_3 : UInt8) (m3_4 : UInt8) (m3_5 : UInt8) (m3_6 : UInt8) (m3_7 : Bool) (m3_8 : UInt8) (m3_9 : List UInt8) : Option AV := run K43_6 (S43_6 m1_0 m1_1 m1_2 m1_3 m1_4 m1_5 m1_6 m1_7 m1_8 m1_9 m3_0 m3_1 m3_2 m3_3 m3_4 m3_5 m3_6 m3_7 m3_8 m3_9)
noncomputable def X43 (call : Nat → List AV → Option AV) (run : List Item → St → Option AV) (x0_0 : UInt8) (x0_1 : UInt8) (x0_2 : Bool) (x0_3 : UInt8) (x0_4 : UInt8) (x0_5 : UInt8) (x0_6 : UInt8) (x0_7 : Bool) (x0_8 : UInt8) (x0_9 : List UInt8) : Option AV :=
  condM (.b (ueq x0_0 19))
  (F43_4 run x0_0 x0_1 x0_2 x0_3 x0_4 x0_5 x0_6 x0_7 x0_8 x0_9 x0_0 x0_1 false 0 0 0 0 false 0 x0_9)
  (F43_4 run x0_0 x0_1 x0_2 x0_3 x0_4 x0_5 x0_6 x0_7 x0_8 x0_9 x0_0 x0_1 false 0 0 0 0 false 0 [])
theorem text43 (call : Nat → List AV → Option AV) (run : List Item → St → Option AV) (x0_0 : UInt8) (x0_1 : UInt8) (x0_2 : Bool) (x0_3 : UInt8) (x0_4 : UInt8) (x0_5 : UInt8) (x0_6 : UInt8) (x0_7 : Bool) (x0_8 : UInt8) (x0_9 : List UInt8) : unr C call run 43 Try.f43 400 [.code body43] (initSt [.ag [.u8 x0_0, .u8 x0_1, .b x0_2, .u8 x0_3, .u8 x0_4, .u8 x0_5, .u8 x0_6, .b x0_7, .u8 x0_8, .s x0_9]]) = X43 call run x0_0 x0_1 x0_2 x0_3 x0_4 x0_5 x0_6 x0_7 x0_8 x0_9 := by
  kernel_rfl
theorem c43 (x0_0 : UInt8) (x0_1 : UInt8) (x0_2 : Bool) (x0_3 : UInt8) (x0_4 : UInt8) (x0_5 : UInt8) (x0_6 : UInt8) (x0_7 : Bool) (x0_8 : UInt8) (x0_9 : List UInt8) {r : AV} (h : X43 (semCall C Try.prog) (semRun C Try.prog 43 Try.f43) x0_0 x0_1 x0_2 x0_3 x0_4 x0_5 x0_6 x0_7 x0_8 x0_9 = some r) : semCall C Try.prog 43 [.ag [.u8 x0_0, .u8 x0_1, .b x0_2, .u8 x0_3, .u8 x0_4, .u8 x0_5, .u8 x0_6, .b x0_7, .u8 x0_8, .s x0_9]] = some r :=
  semCall_unr (fn := Try.f43) (c := body43) (by kernel_rfl) (by kernel_rfl) 400 (by kernel_rfl) ((text43 _ _ x0_0 x0_1 x0_2 x0_3 x0_4 x0_5 x0_6 x0_7 x0_8 x0_9).trans h)
noncomputable def X43_4 (call : Nat → List AV → Option AV) (run : List Item → St → Option AV) (m1_0 : UInt8) (m1_1 : UInt8) (m1_2 : Bool) (m1_3 : UInt8) (m1_4 : UInt8) (m1_5 : UInt8) (m1_6 : UInt8) (m1_7 : Bool) (m1_8 : UInt8) (m1_9 : List UInt8) (m3_0 : UInt8) (m3_1 : UInt8) (m3_2 : Bool) (m3_3 : UInt8) (m3_4 : UInt8) (m3_5 : UInt8) (m3_6 : UInt8) (m3_7 : Bool) (m3_8 : UInt8) (m3_9 : List UInt8) : Option AV :=
  (selW (.b (ueq m1_1 3)) false (some (.b (ueq m1_1 4))) (.b true)).bind fun v1 => condM (v1)
  (F43_6 run m1_0 m1_1 m1_2 m1_3 m1_4 m1_5 m1_6 m1_7 m1_8 m1_9 m3_0 m3_1 m3_2 m3_3 m3_4 m3_5 m1_6 m1_7 m3_8 m3_9)
  (F43_6 run m1_0 m1_1 m1_2 m1_3 m1_4 m1_5 m1_6 m1_7 m1_8 m1_9 m3_0 m3_1 m3_2 m3_3 m3_4 m3_5 m3_6 m3_7 m3_8 m3_9)
theorem text43_4 (call : Nat → List AV → Option AV) (run : List Item → St → Option AV) (m1_0 : UInt8) (m1_1 : UInt8) (m1_2 : Bool) (m1_3 : UInt8) (m1_4 : UInt8) (m1_5 : UInt8) (m1_6 : UInt8) (m1_7 : Bool) (m1_8 : UInt8) (m1_9 : List UInt8) (m3_0 : UInt8) (m3_1 : UInt8) (m3_2 : Bool) (m3_3 : UInt8) (m3_4 : UInt8) (m3_5 : UInt8) (m3_6 : UInt8) (m3_7 : Bool) (m3_8 : UInt8) (m3_9 : List UInt8) : step C call 43 Try.f43 (unr C call run 43 Try.f43 400) K43_4 (S43_4 m1_0 m1_1 m1_2 m1_3 m1_4 m1_5 m1_6 m1_7 m1_8 m1_9 m3_0 m3_1 m3_2 m3_3 m3_4 m3_5 m3_6 m3_7 m3_8 m3_9) = X43_4 call run m1_0 m1_1 m1_2 m1_3 m1_4 m1_5 m1_6 m1_7 m1_8 m1_9 m3_0 m3_1 m3_2 m3_3 m3_4 m3_5 m3_6 m3_7 m3_8 m3_9 := by
  kernel_rfl
noncomputable def X43_6 (call : Nat → List AV → Option AV) (run : List Item → St → Option AV) (m1_0 : UInt8) (m1_1 : UInt8) (m1_2 : Bool) (m1_3 : UInt8) (m1_4 : UInt8) (m1_5 : UInt8) (m1_6 : UInt8) (m1_7 : Bool) (m1_8 : UInt8) (m1_9 : List UInt8) (m3_0 : UInt8) (m3_1 : UInt8) (m3_2 : Bool) (m3_3 : UInt8) (m3_4 : UInt8) (m3_5 : UInt8) (m3_6 : UInt8) (m3_7 : Bool) (m3_8 : UInt8) (m3_9 : List UInt8) : Option AV :=
  (selW (.b ((m1_0 == m3_0 && (m1_1 == m3_1 && (m1_2 == m3_2 && (m1_3 == m3_3 && (m1_4 == m3_4 && (m1_5 == m3_5 && (m1_6 == m3_6 && (m1_7 == m3_7 && (m1_8 == m3_8 && (m1_9 == m3_9 && true)))))))))))) true (some (.b (une m1_1 0))) (.b false)).bind fun v1 => (selW (v1) true ((call 36 [.u8 m1_1]).bind fun v2 => (call 46 [v2, .s m1_9]).bind fun v3 => some (v3)) (.b false)).bind fun v4 => (selW (v4) true ((call 48 [.ag [.u8 m1_0, .u8 m1_1, .b m1_2, .u8 m1_3, .u8 m1_4, .u8 m1_5, .u8 m1_6, .b m1_7, .u8 m1_8, .s m1_9], .b (ueq m1_1 3)]).bind fun v5 => some (v5)) (.b false)).bind fun v6 => some (v6)
theorem text43_6 (call : Nat → List AV → Option AV) (run : List Item → St → Option AV) (m1_0 : UInt8) (m1_1 : UInt8) (m1_2 : Bool) (m1_3 : UInt8) (m1_4 : UInt8) (m1_5 : UInt8) (m1_6 : UInt8) (m1_7 : Bool) (m1_8 : UInt8) (m1_9 : List UInt8) (m3_0 : UInt8) (m3_1 : UInt8) (m3_2 : Bool) (m3_3 : UInt8) (m3_4 : UInt8) (m3_5 : UInt8) (m3_6 : UInt8) (m3_7 : Bool) (m3_8 : UInt8) (m3_9 : List UInt8) : step C call 43 Try.f43 (unr C call run 43 Try.f43 400) K43_6 (S43_6 m1_0 m1_1 m1_2 m1_3 m1_4 m1_5 m1_6 m1_7 m1_8 m1_9 m3_0 m3_1 m3_2 m3_3 m3_4 m3_5 m3_6 m3_7 m3_8 m3_9) = X43_6 call run m1_0 m1_1 m1_2 m1_3 m1_4 m1_5 m1_6 m1_7 m1_8 m1_9 m3_0 m3_1 m3_2 m3_3 m3_4 m3_5 m3_6 m3_7 m3_8 m3_9 := by
  kernel_rfl
theorem r43_4 (m1_0 : UInt8) (m1_1 : UInt8) (m1_2 : Bool) (m1_3 : UInt8) (m1_4 : UInt8) (m1_5 : UInt8) (m1_6 : UInt8) (m1_7 : Bool) (m1_8 : UInt8) (m1_9 : List UInt8) (m3_0 : UInt8) (m3_1 : UInt8) (m3_2 : Bool) (m3_3 : UInt8) (m3_4 : UInt8) (m3_5 : UInt8) (m3_6 : UInt8) (m3_7 : Bool) (m3_8 : UInt8) (m3_9 : List UInt8) {r : AV} (h : X43_4 (semCall C Try.prog) (semRun C Try.prog 43 Try.f43) m1_0 m1_1 m1_2 m1_3 m1_4 m1_5 m1_6 m1_7 m1_8 m1_9 m3_0 m3_1 m3_2 m3_3 m3_4 m3_5 m3_6 m3_7 m3_8 m3_9 = some r) : F43_4 (semRun C Try.prog 43 Try.f43) m1_0 m1_1 m1_2 m1_3 m1_4 m1_5 m1_6 m1_7 m1_8 m1_9 m3_0 m3_1 m3_2 m3_3 m3_4 m3_5 m3_6 m3_7 m3_8 m3_9 = some r :=
  semRun_unr 400 ((text43_4 _ _ m1_0 m1_1 m1_2 m1_3 m1_4 m1_5 m1_6 m1_7 m1_8 m1_9 m3_0 m3_1 m3_2 m3_3 m3_4 m3_5 m3_6 m3_7 m3_8 m3_9).trans h)
theorem r43_6 (m1_0 : UInt8) (m1_1 : UInt8) (m1_2 : Bool) (m1_3 : UInt8) (m1_4 : UInt8) (m1_5 : UInt8) (m1_6 : UInt8) (m1_7 : Bool) (m1_8 : UInt8) (m1_9 : List UInt8) (m3_0 : UInt8) (m3_1 : UInt8) (m3_2 : Bool) (m3_3 : UInt8) (m3_4 : UInt8) (m3_5 : UInt8) (m3_6 : UInt8) (m3_7 : Bool) (m3_8 : UInt8) (m3_9 : List UInt8) {r : AV} (h : X43_6 (semCall C Try.prog) (semRun C Try.prog 43 Try.f43) m1_0 m1_1 m1_2 m1_3 m1_4 m1_5 m1_6 m1_7 m1_8 m1_9 m3_0 m3_1 m3_2 m3_3 m3_4 m3_5 m3_6 m3_7 m3_8 m3_9 = some r) : F43_6 (semRun C Try.prog 43 Try.f43) m1_0 m1_1 m1_2 m1_3 m1_4 m1_5 m1_6 m1_7 m1_8 m1_9 m3_0 m3_1 m3_2 m3_3 m3_4 m3_5 m3_6 m3_7 m3_8 m3_9 = some r :=
  semRun_unr 400 ((text43_6 _ _ m1_0 m1_1 m1_2 m1_3 m1_4 m1_5 m1_6 m1_7 m1_8 m1_9 m3_0 m3_1 m3_2 m3_3 m3_4 m3_5 m3_6 m3_7 m3_8 m3_9).trans h)
end R1

namespace R1
open Go Go.Proofs Sx
noncomputable def body44 : Code := (Try.f44.body).getD .skip
noncomputable def K44_2 : List Item := (kAt 2 body44 []).getD []
def S44_2 (t0 : List UInt8) (t1 : Int) (t5 : Int) : St := St.ofL [(0, .cell (.val (.s t0))), (1, .cell (.val (.int t1))), (5, .cell (.val (.int t5)))] []
noncomputable def F44_2 (run : List Item → St → Option AV) (t0 : List UInt8) (t1 : Int) (t5 : Int) : Option AV := run K44_2 (S44_2 t0 t1 t5)
noncomputable def X44 (call : Nat → List AV → Option AV) (run : List Item → St → Option AV) (x0 : List UInt8) (x1 : Int) : Option AV :=
  F44_2 run x0 x1 0
theorem text44 (call : Nat → List AV → Option AV) (run : List Item → St → Option AV) (x0 : List UInt8) (x1 : Int) : unr C call run 44 Try.f44 400 [.code body44] (initSt [.s x0, .int x1]) = X44 call run x0 x1 := by
  kernel_rfl
theorem c44 (x0 : List UInt8) (x1 : Int) {r : AV} (h : X44 (semCall C Try.prog) (semRun C Try.prog 44 Try.f44) x0 x1 = some r) : semCall C Try.prog 44 [.s x0, .int x1] = some r :=
  semCall_unr (fn := Try.f44) (c := body44) (by kernel_rfl) (by kernel_rfl) 400 (by kernel_rfl) ((text44 _ _ x0 x1).trans h)
noncomputable def X44_2 (call : Nat → List AV → Option AV) (run : List Item → St → Option AV) (t0 : List UInt8) (t1 : Int) (t5 : Int) : Option AV :=
  condM (.b (decide (t5 < ((t0.length : Int)))))
  ((idxS (.s t0) (.int t5)).bind fun v1 => (binI .geq (v1) (.u8 65)).bind fun v2 => (selW (v2) true ((idxS (.s t0) (.int t5)).bind fun v3 => (binI .leq (v3) (.u8 90)).bind fun v4 => some (v4)) (.b false)).bind fun v5 => condM (v5)
  (some (.b false))
  (F44_2 run t0 t1 (w64 (t5 + 1))))
  ((selW (.b (decide (((t0.length : Int)) > 0))) true (some (.b (decide (((t0.length : Int)) ≤ t1)))) (.b false)).bind fun v6 => some (v6))
theorem text44_2 (call : Nat → List AV → Option AV) (run : List Item → St → Option AV) (t0 : List UInt8) (t1 : Int) (t5 : Int) : step C call 44 Try.f44 (unr C call run 44 Try.f44 400) K44_2 (S44_2 t0 t1 t5) = X44_2 call run t0 t1 t5 := by
  kernel_rfl
theorem r44_2 (t0 : List UInt8) (t1 : Int) (t5 : Int) {r : AV} (h : X44_2 (semCall C Try.prog) (semRun C Try.prog 44 Try.f44) t0 t1 t5 = some r) : F44_2 (semRun C Try.prog 44 Try.f44) t0 t1 t5 = some r :=
  semRun_unr 400 ((text44_2 _ _ t0 t1 t5).trans h)
end R1

namespace R1
open Go Go.Proofs Sx
noncomputable def body45 : Code := (Try.f45.body).getD .skip
noncomputable def X45 (call : Nat → List AV → Option AV) (run : List Item → St → Option AV) (x0_0 : UInt8) (x0_1 : UInt8) (x0_2 : Bool) (x0_3 : UInt8) (x0_4 : UInt8) (x0_5 : UInt8) (x0_6 : UInt8) (x0_7 : Bool) (x0_8 : UInt8) (x0_9 : List UInt8) : Option AV :=
  (selW (.b (ueq x0_6 1)) false (some (.b (ueq x0_6 2))) (.b true)).bind fun v1 => (selW (v1) true (some (.b (!x0_7))) (.b false)).bind fun v2 => some (v2)
theorem text45 (call : Nat → List AV → Option AV) (run : List Item → St → Option AV) (x0_0 : UInt8) (x0_1 : UInt8) (x0_2 : Bool) (x0_3 : UInt8) (x0_4 : UInt8) (x0_5 : UInt8) (x0_6 : UInt8) (x0_7 : Bool) (x0_8 : UInt8) (x0_9 : List UInt8) : unr C call run 45 Try.f45 400 [.code body45] (initSt [.ag [.u8 x0_0, .u8 x0_1, .b x0_2, .u8 x0_3, .u8 x0_4, .u8 x0_5, .u8 x0_6, .b x0_7, .u8 x0_8, .s x0_9]]) = X45 call run x0_0 x0_1 x0_2 x0_3 x0_4 x0_5 x0_6 x0_7 x0_8 x0_9 := by
  kernel_rfl
theorem c45 (x0_0 : UInt8) (x0_1 : UInt8) (x0_2 : Bool) (x0_3 : UInt8) (x0_4 : UInt8) (x0_5 : UInt8) (x0_6 : UInt8) (x0_7 : Bool) (x0_8 : UInt8) (x0_9 : List UInt8) {r : AV} (h : X45 (semCall C Try.prog) (semRun C Try.prog 45 Try.f45) x0_0 x0_1 x0_2 x0_3 x0_4 x0_5 x0_6 x0_7 x0_8 x0_9 = some r) : semCall C Try.prog 45 [.ag [.u8 x0_0, .u8 x0_1, .b x0_2, .u8 x0_3, .u8 x0_4, .u8 x0_5, .u8 x0_6, .b x0_7, .u8 x0_8, .s x0_9]] = some r :=
  semCall_unr (fn := Try.f45) (c := body45) (by kernel_rfl) (by kernel_rfl) 400 (by kernel_rfl) ((text45 _ _ x0_0 x0_1 x0_2 x0_3 x0_4 x0_5 x0_6 x0_7 x0_8 x0_9).trans h)
end R1

namespace R1
open Go Go.Proofs Sx
noncomputable def body46 : Code := (Try.f46.body).getD .skip
noncomputable def X46 (call : Nat → List AV → Option AV) (run : List Item → St → Option AV) (x0 : List UInt8) (x1 : List UInt8) : Option AV :=
  (call 49 [.s x0, .s x1]).bind fun v1 => some (v1)
theorem text46 (call : Nat → List AV → Option AV) (run : List Item → St → Option AV) (x0 : List UInt8) (x1 : List UInt8) : unr C call run 46 Try.f46 400 [.code body46] (initSt [.s x0, .s x1]) = X46 call run x0 x1 := by
  kernel_rfl
theorem c46 (x0 : List UInt8) (x1 : List UInt8) {r : AV} (h : X46 (semCall C Try.prog) (semRun C Try.prog 46 Try.f46) x0 x1 = some r) : semCall C Try.prog 46 [.s x0, .s x1] = some r :=
  semCall_unr (fn := Try.f46) (c := body46) (by kernel_rfl) (by kernel_rfl) 400 (by kernel_rfl) ((text46 _ _ x0 x1).trans h)
end R1

namespace R1
open Go Go.Proofs Sx
noncomputable def body48 : Code := (Try.f48.body).getD .skip
noncomputable def X48 (call : Nat → List AV → Option AV) (run : List Item → St → Option AV) (x0_0 : UInt8) (x0_1 : UInt8) (x0_2 : Bool) (x0_3 : UInt8) (x0_4 : UInt8) (x0_5 : UInt8) (x0_6 : UInt8) (x0_7 : Bool) (x0_8 : UInt8) (x0_9 : List UInt8) (x1 : Bool) : Option AV :=
  (selW (.b (!x1)) true (some (.b (ueq x0_6 4))) (.b false)).bind fun v1 => condM (v1)
  (some (.b false))
  ((selW (.b (!x0_7)) false (some (.b (ueq x0_6 1))) (.b true)).bind fun v2 => (selW (v2) false (some (.b (ueq x0_6 2))) (.b true)).bind fun v3 => some (v3))
theorem text48 (call : Nat → List AV → Option AV) (run : List Item → St → Option AV) (x0_0 : UInt8) (x0_1 : UInt8) (x0_2 : Bool) (x0_3 : UInt8) (x0_4 : UInt8) (x0_5 : UInt8) (x0_6 : UInt8) (x0_7 : Bool) (x0_8 : UInt8) (x0_9 : List UInt8) (x1 : Bool) : unr C call run 48 Try.f48 400 [.code body48] (initSt [.ag [.u8 x0_0, .u8 x0_1, .b x0_2, .u8 x0_3, .u8 x0_4, .u8 x0_5, .u8 x0_6, .b x0_7, .u8 x0_8, .s x0_9], .b x1]) = X48 call run x0_0 x0_1 x0_2 x0_3 x0_4 x0_5 x0_6 x0_7 x0_8 x0_9 x1 := by
  kernel_rfl
theorem c48 (x0_0 : UInt8) (x0_1 : UInt8) (x0_2 : Bool) (x0_3 : UInt8) (x0_4 : UInt8) (x0_5 : UInt8) (x0_6 : UInt8) (x0_7 : Bool) (x0_8 : UInt8) (x0_9 : List UInt8) (x1 : Bool) {r : AV} (h : X48 (semCall C Try.prog) (semRun C Try.prog 48 Try.f48) x0_0 x0_1 x0_2 x0_3 x0_4 x0_5 x0_6 x0_7 x0_8 x0_9 x1 = some r) : semCall C Try.prog 48 [.ag [.u8 x0_0, .u8 x0_1, .b x0_2, .u8 x0_3, .u8 x0_4, .u8 x0_5, .u8 x0_6, .b x0_7, .u8 x0_8, .s x0_9], .b x1] = some r :=
  semCall_unr (fn := Try.f48) (c := body48) (by kernel_rfl) (by kernel_rfl) 400 (by kernel_rfl) ((text48 _ _ x0_0 x0_1 x0_2 x0_3 x0_4 x0_5 x0_6 x0_7 x0_8 x0_9 x1).trans h)
end R1

namespace R1
open Go Go.Proofs Sx
noncomputable def body49 : Code := (Try.f49.body).getD .skip
noncomputable def X49 (call : Nat → List AV → Option AV) (run : List Item → St → Option AV) (x0 : List UInt8) (x1 : List UInt8) : Option AV :=
  (selW (.b (decide (((x0.length : Int)) ≥ ((x1.length : Int))))) true ((slS (.s x0) none (some (.int ((x1.length : Int))))).bind fun v1 => (binS .eql (v1) (.s x1)).bind fun v2 => some (v2)) (.b false)).bind fun v3 => some (v3)
theorem text49 (call : Nat → List AV → Option AV) (run : List Item → St → Option AV) (x0 : List UInt8) (x1 : List UInt8) : unr C call run 49 Try.f49 400 [.code body49] (initSt [.s x0, .s x1]) = X49 call run x0 x1 := by
  kernel_rfl
theorem c49 (x0 : List UInt8) (x1 : List UInt8) {r : AV} (h : X49 (semCall C Try.prog) (semRun C Try.prog 49 Try.f49) x0 x1 = some r) : semCall C Try.prog 49 [.s x0, .s x1] = some r :=
  semCall_unr (fn := Try.f49) (c := body49) (by kernel_rfl) (by kernel_rfl) 400 (by kernel_rfl) ((text49 _ _ x0 x1).trans h)
end R1
