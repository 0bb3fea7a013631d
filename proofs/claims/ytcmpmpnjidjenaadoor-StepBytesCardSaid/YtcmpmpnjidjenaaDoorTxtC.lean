/-
  What functions of this seat come to, step by step.
-/
import Derived.Test.YtcmpmpnjidjenaaDoorTab
import Derived.Test.YtcmpmpnjidjenaaDoorProg
set_option linter.unusedVariables false
set_option linter.unusedSimpArgs false
set_option linter.unusedSectionVars false
set_option linter.unnecessarySimpa false
namespace R2
open Go Go.Proofs Sx
noncomputable def body97 : Code := (Tryd.f97.body).getD .skip
noncomputable def K97_4 : List Item := (kAt 4 body97 []).getD []
def S97_4 (t1 : List UInt8) (t5 : Int) (m2_0 : AV) (m2_1 : AV) (m2_2 : AV) (m2_3 : AV) (m2_4 : AV) (m2_5 : AV) (m2_6 : AV) (m2_7 : AV) (m2_8 : AV) (m2_9 : AV) (m4_0 : UInt8) (m4_1 : UInt8) (m4_2 : Bool) (m4_3 : UInt8) (m4_4 : UInt8) (m4_5 : UInt8) (m4_6 : UInt8) (m4_7 : Bool) (m4_8 : UInt8) (m4_9 : List UInt8) : St := St.ofL [(1, .cell (.val (.s t1))), (2, .cell (.ptr 2 0)), (4, .cell (.ptr 4 0)), (5, .cell (.val (.int t5)))] [(2, some [.val (m2_0), .val (m2_1), .val (m2_2), .val (m2_3), .val (m2_4), .val (m2_5), .val (m2_6), .val (m2_7), .val (m2_8), .val (m2_9)]), (4, some [.val (.u8 m4_0), .val (.u8 m4_1), .val (.b m4_2), .val (.u8 m4_3), .val (.u8 m4_4), .val (.u8 m4_5), .val (.u8 m4_6), .val (.b m4_7), .val (.u8 m4_8), .val (.s m4_9)])]
noncomputable def F97_4 (run : List Item → St → Option AV) (t1 : List UInt8) (t5 : Int) (m2_0 : AV) (m2_1 : AV) (m2_2 : AV) (m2_3 : AV) (m2_4 : AV) (m2_5 : AV) (m2_6 : AV) (m2_7 : AV) (m2_8 : AV) (m2_9 : AV) (m4_0 : UInt8) (m4_1 : UInt8) (m4_2 : Bool) (m4_3 : UInt8) (m4_4 : UInt8) (m4_5 : UInt8) (m4_6 : UInt8) (m4_7 : Bool) (m4_8 : UInt8) (m4_9 : List UInt8) : Option AV := run K97_4 (S97_4 t1 t5 m2_0 m2_1 m2_2 m2_3 m2_4 m2_5 m2_6 m2_7 m2_8 m2_9 m4_0 m4_1 m4_2 m4_3 m4_4 m4_5 m4_6 m4_7 m4_8 m4_9)
noncomputable def X97 (call : Nat → List AV → Option AV) (run : List Item → St → Option AV) (x0_0 : UInt8) (x0_1 : UInt8) (x0_2 : Bool) (x0_3 : UInt8) (x0_4 : UInt8) (x0_5 : UInt8) (x0_6 : UInt8) (x0_7 : Bool) (x0_8 : UInt8) (x0_9 : List UInt8) (x1 : List UInt8) : Option AV :=
  F97_4 run x1 0 (.u8 17) (.u8 x0_1) (.b x0_2) (.u8 x0_3) (.u8 x0_4) (.u8 x0_5) (.u8 x0_6) (.b x0_7) (.u8 x0_8) (.s []) 0 0 false 0 0 0 0 false 0 []
theorem text97 (call : Nat → List AV → Option AV) (run : List Item → St → Option AV) (x0_0 : UInt8) (x0_1 : UInt8) (x0_2 : Bool) (x0_3 : UInt8) (x0_4 : UInt8) (x0_5 : UInt8) (x0_6 : UInt8) (x0_7 : Bool) (x0_8 : UInt8) (x0_9 : List UInt8) (x1 : List UInt8) : unr C call run 97 Tryd.f97 400 [.code body97] (initSt [.ag [.u8 x0_0, .u8 x0_1, .b x0_2, .u8 x0_3, .u8 x0_4, .u8 x0_5, .u8 x0_6, .b x0_7, .u8 x0_8, .s x0_9], .s x1]) = X97 call run x0_0 x0_1 x0_2 x0_3 x0_4 x0_5 x0_6 x0_7 x0_8 x0_9 x1 := by
  kernel_rfl
theorem c97 (x0_0 : UInt8) (x0_1 : UInt8) (x0_2 : Bool) (x0_3 : UInt8) (x0_4 : UInt8) (x0_5 : UInt8) (x0_6 : UInt8) (x0_7 : Bool) (x0_8 : UInt8) (x0_9 : List UInt8) (x1 : List UInt8) {r : AV} (h : X97 (semCall C Tryd.prog) (semRun C Tryd.prog 97 Tryd.f97) x0_0 x0_1 x0_2 x0_3 x0_4 x0_5 x0_6 x0_7 x0_8 x0_9 x1 = some r) : semCall C Tryd.prog 97 [.ag [.u8 x0_0, .u8 x0_1, .b x0_2, .u8 x0_3, .u8 x0_4, .u8 x0_5, .u8 x0_6, .b x0_7, .u8 x0_8, .s x0_9], .s x1] = some r :=
  semCall_unr (fn := Tryd.f97) (c := body97) (by kernel_rfl) (by kernel_rfl) 400 (by kernel_rfl) ((text97 _ _ x0_0 x0_1 x0_2 x0_3 x0_4 x0_5 x0_6 x0_7 x0_8 x0_9 x1).trans h)
noncomputable def X97_4 (call : Nat → List AV → Option AV) (run : List Item → St → Option AV) (t1 : List UInt8) (t5 : Int) (m2_0 : AV) (m2_1 : AV) (m2_2 : AV) (m2_3 : AV) (m2_4 : AV) (m2_5 : AV) (m2_6 : AV) (m2_7 : AV) (m2_8 : AV) (m2_9 : AV) (m4_0 : UInt8) (m4_1 : UInt8) (m4_2 : Bool) (m4_3 : UInt8) (m4_4 : UInt8) (m4_5 : UInt8) (m4_6 : UInt8) (m4_7 : Bool) (m4_8 : UInt8) (m4_9 : List UInt8) : Option AV :=
  (selW (.b (decide (t5 < ((t1.length : Int))))) true ((binI .eql (m2_1) (.u8 3)).bind fun v1 => (selW (v1) false ((binI .eql (m2_1) (.u8 4)).bind fun v2 => some (v2)) (.b true)).bind fun v3 => some (v3)) (.b false)).bind fun v4 => (selW (v4) true ((conv .i64 (m2_0)).bind fun v5 => (binI .eql (v5) (.int 17)).bind fun v6 => some (v6)) (.b false)).bind fun v7 => condM (v7)
  ((idxS (.s t1) (.int t5)).bind fun v8 => (binI .eql (m2_1) (.u8 3)).bind fun v9 => (call 96 [.ag [m2_0, m2_1, m2_2, m2_3, m2_4, m2_5, m2_6, m2_7, m2_8, m2_9], v8, v9]).bind fun v10 => (AV.asAg 10 (v10)).bind fun v11 => F97_4 run t1 (w64 (t5 + 1)) (v11.getD 0 .un) (v11.getD 1 .un) (v11.getD 2 .un) (v11.getD 3 .un) (v11.getD 4 .un) (v11.getD 5 .un) (v11.getD 6 .un) (v11.getD 7 .un) (v11.getD 8 .un) (v11.getD 9 .un) m4_0 m4_1 m4_2 m4_3 m4_4 m4_5 m4_6 m4_7 m4_8 m4_9)
  (some (.ag [m2_0, m2_1, m2_2, m2_3, m2_4, m2_5, m2_6, m2_7, m2_8, m2_9]))
theorem text97_4 (call : Nat → List AV → Option AV) (run : List Item → St → Option AV) (t1 : List UInt8) (t5 : Int) (m2_0 : AV) (m2_1 : AV) (m2_2 : AV) (m2_3 : AV) (m2_4 : AV) (m2_5 : AV) (m2_6 : AV) (m2_7 : AV) (m2_8 : AV) (m2_9 : AV) (m4_0 : UInt8) (m4_1 : UInt8) (m4_2 : Bool) (m4_3 : UInt8) (m4_4 : UInt8) (m4_5 : UInt8) (m4_6 : UInt8) (m4_7 : Bool) (m4_8 : UInt8) (m4_9 : List UInt8) : step C call 97 Tryd.f97 (unr C call run 97 Tryd.f97 400) K97_4 (S97_4 t1 t5 m2_0 m2_1 m2_2 m2_3 m2_4 m2_5 m2_6 m2_7 m2_8 m2_9 m4_0 m4_1 m4_2 m4_3 m4_4 m4_5 m4_6 m4_7 m4_8 m4_9) = X97_4 call run t1 t5 m2_0 m2_1 m2_2 m2_3 m2_4 m2_5 m2_6 m2_7 m2_8 m2_9 m4_0 m4_1 m4_2 m4_3 m4_4 m4_5 m4_6 m4_7 m4_8 m4_9 := by
  kernel_rfl
theorem r97_4 (t1 : List UInt8) (t5 : Int) (m2_0 : AV) (m2_1 : AV) (m2_2 : AV) (m2_3 : AV) (m2_4 : AV) (m2_5 : AV) (m2_6 : AV) (m2_7 : AV) (m2_8 : AV) (m2_9 : AV) (m4_0 : UInt8) (m4_1 : UInt8) (m4_2 : Bool) (m4_3 : UInt8) (m4_4 : UInt8) (m4_5 : UInt8) (m4_6 : UInt8) (m4_7 : Bool) (m4_8 : UInt8) (m4_9 : List UInt8) {r : AV} (h : X97_4 (semCall C Tryd.prog) (semRun C Tryd.prog 97 Tryd.f97) t1 t5 m2_0 m2_1 m2_2 m2_3 m2_4 m2_5 m2_6 m2_7 m2_8 m2_9 m4_0 m4_1 m4_2 m4_3 m4_4 m4_5 m4_6 m4_7 m4_8 m4_9 = some r) : F97_4 (semRun C Tryd.prog 97 Tryd.f97) t1 t5 m2_0 m2_1 m2_2 m2_3 m2_4 m2_5 m2_6 m2_7 m2_8 m2_9 m4_0 m4_1 m4_2 m4_3 m4_4 m4_5 m4_6 m4_7 m4_8 m4_9 = some r :=
  semRun_unr 400 ((text97_4 _ _ t1 t5 m2_0 m2_1 m2_2 m2_3 m2_4 m2_5 m2_6 m2_7 m2_8 m2_9 m4_0 m4_1 m4_2 m4_3 m4_4 m4_5 m4_6 m4_7 m4_8 m4_9).trans h)
end R2

namespace R2
open Go Go.Proofs Sx
noncomputable def body98 : Code := (Tryd.f98.body).getD .skip
noncomputable def X98 (call : Nat → List AV → Option AV) (run : List Item → St → Option AV) (x0 : List UInt8) (x1 : List UInt8) : Option AV :=
  (selW (.b (decide (((x0.length : Int)) ≥ ((x1.length : Int))))) true ((slS (.s x0) none (some (.int ((x1.length : Int))))).bind fun v1 => (binS .eql (v1) (.s x1)).bind fun v2 => some (v2)) (.b false)).bind fun v3 => some (v3)
theorem text98 (call : Nat → List AV → Option AV) (run : List Item → St → Option AV) (x0 : List UInt8) (x1 : List UInt8) : unr C call run 98 Tryd.f98 400 [.code body98] (initSt [.s x0, .s x1]) = X98 call run x0 x1 := by
  kernel_rfl
theorem c98 (x0 : List UInt8) (x1 : List UInt8) {r : AV} (h : X98 (semCall C Tryd.prog) (semRun C Tryd.prog 98 Tryd.f98) x0 x1 = some r) : semCall C Tryd.prog 98 [.s x0, .s x1] = some r :=
  semCall_unr (fn := Tryd.f98) (c := body98) (by kernel_rfl) (by kernel_rfl) 400 (by kernel_rfl) ((text98 _ _ x0 x1).trans h)
end R2

namespace R2
open Go Go.Proofs Sx
noncomputable def body105 : Code := (Tryd.f105.body).getD .skip
noncomputable def K105_13 : List Item := (kAt 13 body105 []).getD []
def S105_13  : St := St.ofL [] []
noncomputable def F105_13 (run : List Item → St → Option AV)  : Option AV := run K105_13 (S105_13 )
noncomputable def K105_14 : List Item := (kAt 14 body105 []).getD []
def S105_14 (t0 : List UInt8) (t3 : List UInt8) : St := St.ofL [(0, .cell (.val (.s t0))), (3, .cell (.val (.s t3)))] []
noncomputable def F105_14 (run : List Item → St → Option AV) (t0 : List UInt8) (t3 : List UInt8) : Option AV := run K105_14 (S105_14 t0 t3)
noncomputable def K105_21 : List Item := (kAt 21 body105 []).getD []
def S105_21  : St := St.ofL [] []
noncomputable def F105_21 (run : List Item → St → Option AV)  : Option AV := run K105_21 (S105_21 )
noncomputable def K105_22 : List Item := (kAt 22 body105 []).getD []
def S105_22 (t0 : List UInt8) : St := St.ofL [(0, .cell (.val (.s t0)))] []
noncomputable def F105_22 (run : List Item → St → Option AV) (t0 : List UInt8) : Option AV := run K105_22 (S105_22 t0)
noncomputable def X105 (call : Nat → List AV → Option AV) (run : List Item → St → Option AV) (x0 : List UInt8) : Option AV :=
  condM (.b (x0 == [97, 99, 116, 105, 111, 110]))
  (F105_13 run)
  (condM (.b (x0 == [98, 97, 99, 107, 103, 114, 111, 117, 110, 100]))
  (F105_13 run)
  (condM (.b (x0 == [99, 105, 116, 101]))
  (F105_13 run)
  (condM (.b (x0 == [100, 97, 116, 97]))
  (F105_13 run)
  (condM (.b (x0 == [102, 111, 114, 109, 97, 99, 116, 105, 111, 110]))
  (F105_13 run)
  (condM (.b (x0 == [104, 114, 101, 102]))
  (F105_13 run)
  (condM (.b (x0 == [108, 111, 110, 103, 100, 101, 115, 99]))
  (F105_13 run)
  (condM (.b (x0 == [109, 97, 110, 105, 102, 101, 115, 116]))
  (F105_13 run)
  (condM (.b (x0 == [112, 111, 115, 116, 101, 114]))
  (F105_13 run)
  (condM (.b (x0 == [115, 114, 99]))
  (F105_13 run)
  (condM (.b (x0 == [120, 108, 105, 110, 107, 58, 104, 114, 101, 102]))
  (F105_13 run)
  (F105_14 run x0 x0)))))))))))
theorem text105 (call : Nat → List AV → Option AV) (run : List Item → St → Option AV) (x0 : List UInt8) : unr C call run 105 Tryd.f105 400 [.code body105] (initSt [.s x0]) = X105 call run x0 := by
  kernel_rfl
theorem c105 (x0 : List UInt8) {r : AV} (h : X105 (semCall C Tryd.prog) (semRun C Tryd.prog 105 Tryd.f105) x0 = some r) : semCall C Tryd.prog 105 [.s x0] = some r :=
  semCall_unr (fn := Tryd.f105) (c := body105) (by kernel_rfl) (by kernel_rfl) 400 (by kernel_rfl) ((text105 _ _ x0).trans h)
noncomputable def X105_13 (call : Nat → List AV → Option AV) (run : List Item → St → Option AV)  : Option AV :=
  some (.u8 1)
theorem text105_13 (call : Nat → List AV → Option AV) (run : List Item → St → Option AV)  : step C call 105 Tryd.f105 (unr C call run 105 Tryd.f105 400) K105_13 (S105_13 ) = X105_13 call run  := by
  kernel_rfl
noncomputable def X105_14 (call : Nat → List AV → Option AV) (run : List Item → St → Option AV) (t0 : List UInt8) (t3 : List UInt8) : Option AV :=
  condM (.b (t3 == [115, 116, 121, 108, 101]))
  (some (.u8 3))
  (condM (.b (t3 == [115, 114, 99, 100, 111, 99]))
  (F105_21 run)
  (condM (.b (t3 == [115, 114, 99, 115, 101, 116]))
  (F105_21 run)
  (condM (.b (t3 == [105, 109, 97, 103, 101, 115, 114, 99, 115, 101, 116]))
  (F105_21 run)
  (condM (.b (t3 == [99, 111, 110, 116, 101, 110, 116]))
  (F105_21 run)
  (condM (.b (t3 == [104, 116, 116, 112, 45, 101, 113, 117, 105, 118]))
  (F105_21 run)
  (F105_22 run t0))))))
theorem text105_14 (call : Nat → List AV → Option AV) (run : List Item → St → Option AV) (t0 : List UInt8) (t3 : List UInt8) : step C call 105 Tryd.f105 (unr C call run 105 Tryd.f105 400) K105_14 (S105_14 t0 t3) = X105_14 call run t0 t3 := by
  kernel_rfl
noncomputable def X105_21 (call : Nat → List AV → Option AV) (run : List Item → St → Option AV)  : Option AV :=
  some (.u8 4)
theorem text105_21 (call : Nat → List AV → Option AV) (run : List Item → St → Option AV)  : step C call 105 Tryd.f105 (unr C call run 105 Tryd.f105 400) K105_21 (S105_21 ) = X105_21 call run  := by
  kernel_rfl
noncomputable def X105_22 (call : Nat → List AV → Option AV) (run : List Item → St → Option AV) (t0 : List UInt8) : Option AV :=
  (selW (.b (decide (((t0.length : Int)) > 2))) true ((call 76 [.s t0, .s [111, 110]]).bind fun v1 => some (v1)) (.b false)).bind fun v2 => condM (v2)
  (some (.u8 2))
  (some (.u8 0))
theorem text105_22 (call : Nat → List AV → Option AV) (run : List Item → St → Option AV) (t0 : List UInt8) : step C call 105 Tryd.f105 (unr C call run 105 Tryd.f105 400) K105_22 (S105_22 t0) = X105_22 call run t0 := by
  kernel_rfl
theorem r105_13  {r : AV} (h : X105_13 (semCall C Tryd.prog) (semRun C Tryd.prog 105 Tryd.f105)  = some r) : F105_13 (semRun C Tryd.prog 105 Tryd.f105)  = some r :=
  semRun_unr 400 ((text105_13 _ _ ).trans h)
theorem r105_14 (t0 : List UInt8) (t3 : List UInt8) {r : AV} (h : X105_14 (semCall C Tryd.prog) (semRun C Tryd.prog 105 Tryd.f105) t0 t3 = some r) : F105_14 (semRun C Tryd.prog 105 Tryd.f105) t0 t3 = some r :=
  semRun_unr 400 ((text105_14 _ _ t0 t3).trans h)
theorem r105_21  {r : AV} (h : X105_21 (semCall C Tryd.prog) (semRun C Tryd.prog 105 Tryd.f105)  = some r) : F105_21 (semRun C Tryd.prog 105 Tryd.f105)  = some r :=
  semRun_unr 400 ((text105_21 _ _ ).trans h)
theorem r105_22 (t0 : List UInt8) {r : AV} (h : X105_22 (semCall C Tryd.prog) (semRun C Tryd.prog 105 Tryd.f105) t0 = some r) : F105_22 (semRun C Tryd.prog 105 Tryd.f105) t0 = some r :=
  semRun_unr 400 ((text105_22 _ _ t0).trans h)
end R2

namespace R2
open Go Go.Proofs Sx
noncomputable def body106 : Code := (Tryd.f106.body).getD .skip
noncomputable def X106 (call : Nat → List AV → Option AV) (run : List Item → St → Option AV) (x0 : List UInt8) (x1 : UInt8) : Option AV :=
  (call 112 [.s x0, .u8 x1]).bind fun v1 => some (v1)
theorem text106 (call : Nat → List AV → Option AV) (run : List Item → St → Option AV) (x0 : List UInt8) (x1 : UInt8) : unr C call run 106 Tryd.f106 400 [.code body106] (initSt [.s x0, .u8 x1]) = X106 call run x0 x1 := by
  kernel_rfl
theorem c106 (x0 : List UInt8) (x1 : UInt8) {r : AV} (h : X106 (semCall C Tryd.prog) (semRun C Tryd.prog 106 Tryd.f106) x0 x1 = some r) : semCall C Tryd.prog 106 [.s x0, .u8 x1] = some r :=
  semCall_unr (fn := Tryd.f106) (c := body106) (by kernel_rfl) (by kernel_rfl) 400 (by kernel_rfl) ((text106 _ _ x0 x1).trans h)
end R2

namespace R2
open Go Go.Proofs Sx
noncomputable def body107 : Code := (Tryd.f107.body).getD .skip
noncomputable def K107_9 : List Item := (kAt 9 body107 []).getD []
def S107_9 (m2_0 : UInt8) (m2_1 : UInt8) (m2_2 : Bool) (m2_3 : UInt8) (m2_4 : UInt8) (m2_5 : UInt8) (m2_6 : UInt8) (m2_7 : Bool) (m2_8 : UInt8) (m2_9 : List UInt8) (m4_0 : UInt8) (m4_1 : UInt8) (m4_2 : Bool) (m4_3 : UInt8) (m4_4 : UInt8) (m4_5 : UInt8) (m4_6 : UInt8) (m4_7 : Bool) (m4_8 : UInt8) (m4_9 : List UInt8) : St := St.ofL [(2, .cell (.ptr 2 0)), (4, .cell (.ptr 4 0))] [(2, some [.val (.u8 m2_0), .val (.u8 m2_1), .val (.b m2_2), .val (.u8 m2_3), .val (.u8 m2_4), .val (.u8 m2_5), .val (.u8 m2_6), .val (.b m2_7), .val (.u8 m2_8), .val (.s m2_9)]), (4, some [.val (.u8 m4_0), .val (.u8 m4_1), .val (.b m4_2), .val (.u8 m4_3), .val (.u8 m4_4), .val (.u8 m4_5), .val (.u8 m4_6), .val (.b m4_7), .val (.u8 m4_8), .val (.s m4_9)])]
noncomputable def F107_9 (run : List Item → St → Option AV) (m2_0 : UInt8) (m2_1 : UInt8) (m2_2 : Bool) (m2_3 : UInt8) (m2_4 : UInt8) (m2_5 : UInt8) (m2_6 : UInt8) (m2_7 : Bool) (m2_8 : UInt8) (m2_9 : List UInt8) (m4_0 : UInt8) (m4_1 : UInt8) (m4_2 : Bool) (m4_3 : UInt8) (m4_4 : UInt8) (m4_5 : UInt8) (m4_6 : UInt8) (m4_7 : Bool) (m4_8 : UInt8) (m4_9 : List UInt8) : Option AV := run K107_9 (S107_9 m2_0 m2_1 m2_2 m2_3 m2_4 m2_5 m2_6 m2_7 m2_8 m2_9 m4_0 m4_1 m4_2 m4_3 m4_4 m4_5 m4_6 m4_7 m4_8 m4_9)
noncomputable def X107 (call : Nat → List AV → Option AV) (run : List Item → St → Option AV) (x0_0 : UInt8) (x0_1 : UInt8) (x0_2 : Bool) (x0_3 : UInt8) (x0_4 : UInt8) (x0_5 : UInt8) (x0_6 : UInt8) (x0_7 : Bool) (x0_8 : UInt8) (x0_9 : List UInt8) (x1 : UInt8) : Option AV :=
  condM (.b x0_7)
  (F107_9 run x0_0 x0_1 x0_2 x0_3 x0_4 x0_5 x0_6 false x0_8 x0_9 0 0 false 0 0 0 0 false 0 [])
  (condM (.b (ueq x1 92))
  (F107_9 run x0_0 x0_1 x0_2 x0_3 x0_4 x0_5 x0_6 true x0_8 x0_9 0 0 false 0 0 0 0 false 0 [])
  ((selW (.b (ueq x1 10)) false (some (.b (ueq x1 13))) (.b true)).bind fun v1 => condM (v1)
  (some (.ag [.u8 20, .u8 0, .b false, .u8 0, .u8 0, .u8 0, .u8 0, .b false, .u8 0, .s []]))
  ((selW (.b (ueq x1 34)) true (some (.b (ueq x0_6 1))) (.b false)).bind fun v2 => (selW (v2) false ((selW (.b (ueq x1 39)) true (some (.b (ueq x0_6 2))) (.b false)).bind fun v3 => some (v3)) (.b true)).bind fun v4 => condM (v4)
  (F107_9 run x0_0 x0_1 x0_2 x0_3 x0_4 x0_5 0 x0_7 x0_8 x0_9 0 0 false 0 0 0 0 false 0 [])
  (F107_9 run x0_0 x0_1 x0_2 x0_3 x0_4 x0_5 x0_6 x0_7 x0_8 x0_9 0 0 false 0 0 0 0 false 0 []))))
theorem text107 (call : Nat → List AV → Option AV) (run : List Item → St → Option AV) (x0_0 : UInt8) (x0_1 : UInt8) (x0_2 : Bool) (x0_3 : UInt8) (x0_4 : UInt8) (x0_5 : UInt8) (x0_6 : UInt8) (x0_7 : Bool) (x0_8 : UInt8) (x0_9 : List UInt8) (x1 : UInt8) : unr C call run 107 Tryd.f107 400 [.code body107] (initSt [.ag [.u8 x0_0, .u8 x0_1, .b x0_2, .u8 x0_3, .u8 x0_4, .u8 x0_5, .u8 x0_6, .b x0_7, .u8 x0_8, .s x0_9], .u8 x1]) = X107 call run x0_0 x0_1 x0_2 x0_3 x0_4 x0_5 x0_6 x0_7 x0_8 x0_9 x1 := by
  kernel_rfl
theorem c107 (x0_0 : UInt8) (x0_1 : UInt8) (x0_2 : Bool) (x0_3 : UInt8) (x0_4 : UInt8) (x0_5 : UInt8) (x0_6 : UInt8) (x0_7 : Bool) (x0_8 : UInt8) (x0_9 : List UInt8) (x1 : UInt8) {r : AV} (h : X107 (semCall C Tryd.prog) (semRun C Tryd.prog 107 Tryd.f107) x0_0 x0_1 x0_2 x0_3 x0_4 x0_5 x0_6 x0_7 x0_8 x0_9 x1 = some r) : semCall C Tryd.prog 107 [.ag [.u8 x0_0, .u8 x0_1, .b x0_2, .u8 x0_3, .u8 x0_4, .u8 x0_5, .u8 x0_6, .b x0_7, .u8 x0_8, .s x0_9], .u8 x1] = some r :=
  semCall_unr (fn := Tryd.f107) (c := body107) (by kernel_rfl) (by kernel_rfl) 400 (by kernel_rfl) ((text107 _ _ x0_0 x0_1 x0_2 x0_3 x0_4 x0_5 x0_6 x0_7 x0_8 x0_9 x1).trans h)
noncomputable def X107_9 (call : Nat → List AV → Option AV) (run : List Item → St → Option AV) (m2_0 : UInt8) (m2_1 : UInt8) (m2_2 : Bool) (m2_3 : UInt8) (m2_4 : UInt8) (m2_5 : UInt8) (m2_6 : UInt8) (m2_7 : Bool) (m2_8 : UInt8) (m2_9 : List UInt8) (m4_0 : UInt8) (m4_1 : UInt8) (m4_2 : Bool) (m4_3 : UInt8) (m4_4 : UInt8) (m4_5 : UInt8) (m4_6 : UInt8) (m4_7 : Bool) (m4_8 : UInt8) (m4_9 : List UInt8) : Option AV :=
  some (.ag [.u8 m2_0, .u8 m2_1, .b m2_2, .u8 m2_3, .u8 m2_4, .u8 m2_5, .u8 m2_6, .b m2_7, .u8 m2_8, .s m2_9])
theorem text107_9 (call : Nat → List AV → Option AV) (run : List Item → St → Option AV) (m2_0 : UInt8) (m2_1 : UInt8) (m2_2 : Bool) (m2_3 : UInt8) (m2_4 : UInt8) (m2_5 : UInt8) (m2_6 : UInt8) (m2_7 : Bool) (m2_8 : UInt8) (m2_9 : List UInt8) (m4_0 : UInt8) (m4_1 : UInt8) (m4_2 : Bool) (m4_3 : UInt8) (m4_4 : UInt8) (m4_5 : UInt8) (m4_6 : UInt8) (m4_7 : Bool) (m4_8 : UInt8) (m4_9 : List UInt8) : step C call 107 Tryd.f107 (unr C call run 107 Tryd.f107 400) K107_9 (S107_9 m2_0 m2_1 m2_2 m2_3 m2_4 m2_5 m2_6 m2_7 m2_8 m2_9 m4_0 m4_1 m4_2 m4_3 m4_4 m4_5 m4_6 m4_7 m4_8 m4_9) = X107_9 call run m2_0 m2_1 m2_2 m2_3 m2_4 m2_5 m2_6 m2_7 m2_8 m2_9 m4_0 m4_1 m4_2 m4_3 m4_4 m4_5 m4_6 m4_7 m4_8 m4_9 := by
  kernel_rfl
theorem r107_9 (m2_0 : UInt8) (m2_1 : UInt8) (m2_2 : Bool) (m2_3 : UInt8) (m2_4 : UInt8) (m2_5 : UInt8) (m2_6 : UInt8) (m2_7 : Bool) (m2_8 : UInt8) (m2_9 : List UInt8) (m4_0 : UInt8) (m4_1 : UInt8) (m4_2 : Bool) (m4_3 : UInt8) (m4_4 : UInt8) (m4_5 : UInt8) (m4_6 : UInt8) (m4_7 : Bool) (m4_8 : UInt8) (m4_9 : List UInt8) {r : AV} (h : X107_9 (semCall C Tryd.prog) (semRun C Tryd.prog 107 Tryd.f107) m2_0 m2_1 m2_2 m2_3 m2_4 m2_5 m2_6 m2_7 m2_8 m2_9 m4_0 m4_1 m4_2 m4_3 m4_4 m4_5 m4_6 m4_7 m4_8 m4_9 = some r) : F107_9 (semRun C Tryd.prog 107 Tryd.f107) m2_0 m2_1 m2_2 m2_3 m2_4 m2_5 m2_6 m2_7 m2_8 m2_9 m4_0 m4_1 m4_2 m4_3 m4_4 m4_5 m4_6 m4_7 m4_8 m4_9 = some r :=
  semRun_unr 400 ((text107_9 _ _ m2_0 m2_1 m2_2 m2_3 m2_4 m2_5 m2_6 m2_7 m2_8 m2_9 m4_0 m4_1 m4_2 m4_3 m4_4 m4_5 m4_6 m4_7 m4_8 m4_9).trans h)
end R2

namespace R2
open Go Go.Proofs Sx
noncomputable def body108 : Code := (Tryd.f108.body).getD .skip
noncomputable def K108_7 : List Item := (kAt 7 body108 []).getD []
def S108_7 (m1_0 : UInt8) (m1_1 : UInt8) (m1_2 : Bool) (m1_3 : UInt8) (m1_4 : UInt8) (m1_5 : UInt8) (m1_6 : UInt8) (m1_7 : Bool) (m1_8 : UInt8) (m1_9 : List UInt8) : St := St.ofL [(1, .cell (.ptr 1 0))] [(1, some [.val (.u8 m1_0), .val (.u8 m1_1), .val (.b m1_2), .val (.u8 m1_3), .val (.u8 m1_4), .val (.u8 m1_5), .val (.u8 m1_6), .val (.b m1_7), .val (.u8 m1_8), .val (.s m1_9)])]
noncomputable def F108_7 (run : List Item → St → Option AV) (m1_0 : UInt8) (m1_1 : UInt8) (m1_2 : Bool) (m1_3 : UInt8) (m1_4 : UInt8) (m1_5 : UInt8) (m1_6 : UInt8) (m1_7 : Bool) (m1_8 : UInt8) (m1_9 : List UInt8) : Option AV := run K108_7 (S108_7 m1_0 m1_1 m1_2 m1_3 m1_4 m1_5 m1_6 m1_7 m1_8 m1_9)
noncomputable def K108_8 : List Item := (kAt 8 body108 []).getD []
def S108_8  : St := St.ofL [] []
noncomputable def F108_8 (run : List Item → St → Option AV)  : Option AV := run K108_8 (S108_8 )
noncomputable def X108 (call : Nat → List AV → Option AV) (run : List Item → St → Option AV) (x0_0 : UInt8) (x0_1 : UInt8) (x0_2 : Bool) (x0_3 : UInt8) (x0_4 : UInt8) (x0_5 : UInt8) (x0_6 : UInt8) (x0_7 : Bool) (x0_8 : UInt8) (x0_9 : List UInt8) : Option AV :=
  condM (.b (ueq x0_0 8))
  ((selW (.b (ueq x0_3 2)) false (some (.b (ueq x0_3 3))) (.b true)).bind fun v1 => some (v1))
  (condM (.b (ueq x0_0 17))
  (F108_7 run x0_0 x0_1 x0_2 x0_3 x0_4 x0_5 x0_6 x0_7 x0_8 x0_9)
  (condM (.b (ueq x0_0 18))
  (F108_7 run x0_0 x0_1 x0_2 x0_3 x0_4 x0_5 x0_6 x0_7 x0_8 x0_9)
  (condM (.b (ueq x0_0 19))
  (F108_7 run x0_0 x0_1 x0_2 x0_3 x0_4 x0_5 x0_6 x0_7 x0_8 x0_9)
  (F108_8 run))))
theorem text108 (call : Nat → List AV → Option AV) (run : List Item → St → Option AV) (x0_0 : UInt8) (x0_1 : UInt8) (x0_2 : Bool) (x0_3 : UInt8) (x0_4 : UInt8) (x0_5 : UInt8) (x0_6 : UInt8) (x0_7 : Bool) (x0_8 : UInt8) (x0_9 : List UInt8) : unr C call run 108 Tryd.f108 400 [.code body108] (initSt [.ag [.u8 x0_0, .u8 x0_1, .b x0_2, .u8 x0_3, .u8 x0_4, .u8 x0_5, .u8 x0_6, .b x0_7, .u8 x0_8, .s x0_9]]) = X108 call run x0_0 x0_1 x0_2 x0_3 x0_4 x0_5 x0_6 x0_7 x0_8 x0_9 := by
  kernel_rfl
theorem c108 (x0_0 : UInt8) (x0_1 : UInt8) (x0_2 : Bool) (x0_3 : UInt8) (x0_4 : UInt8) (x0_5 : UInt8) (x0_6 : UInt8) (x0_7 : Bool) (x0_8 : UInt8) (x0_9 : List UInt8) {r : AV} (h : X108 (semCall C Tryd.prog) (semRun C Tryd.prog 108 Tryd.f108) x0_0 x0_1 x0_2 x0_3 x0_4 x0_5 x0_6 x0_7 x0_8 x0_9 = some r) : semCall C Tryd.prog 108 [.ag [.u8 x0_0, .u8 x0_1, .b x0_2, .u8 x0_3, .u8 x0_4, .u8 x0_5, .u8 x0_6, .b x0_7, .u8 x0_8, .s x0_9]] = some r :=
  semCall_unr (fn := Tryd.f108) (c := body108) (by kernel_rfl) (by kernel_rfl) 400 (by kernel_rfl) ((text108 _ _ x0_0 x0_1 x0_2 x0_3 x0_4 x0_5 x0_6 x0_7 x0_8 x0_9).trans h)
noncomputable def X108_7 (call : Nat → List AV → Option AV) (run : List Item → St → Option AV) (m1_0 : UInt8) (m1_1 : UInt8) (m1_2 : Bool) (m1_3 : UInt8) (m1_4 : UInt8) (m1_5 : UInt8) (m1_6 : UInt8) (m1_7 : Bool) (m1_8 : UInt8) (m1_9 : List UInt8) : Option AV :=
  (selW (.b (ueq m1_1 3)) false (some (.b (ueq m1_1 4))) (.b true)).bind fun v1 => some (v1)
theorem text108_7 (call : Nat → List AV → Option AV) (run : List Item → St → Option AV) (m1_0 : UInt8) (m1_1 : UInt8) (m1_2 : Bool) (m1_3 : UInt8) (m1_4 : UInt8) (m1_5 : UInt8) (m1_6 : UInt8) (m1_7 : Bool) (m1_8 : UInt8) (m1_9 : List UInt8) : step C call 108 Tryd.f108 (unr C call run 108 Tryd.f108 400) K108_7 (S108_7 m1_0 m1_1 m1_2 m1_3 m1_4 m1_5 m1_6 m1_7 m1_8 m1_9) = X108_7 call run m1_0 m1_1 m1_2 m1_3 m1_4 m1_5 m1_6 m1_7 m1_8 m1_9 := by
  kernel_rfl
noncomputable def X108_8 (call : Nat → List AV → Option AV) (run : List Item → St → Option AV)  : Option AV :=
  some (.b false)
theorem text108_8 (call : Nat → List AV → Option AV) (run : List Item → St → Option AV)  : step C call 108 Tryd.f108 (unr C call run 108 Tryd.f108 400) K108_8 (S108_8 ) = X108_8 call run  := by
  kernel_rfl
theorem r108_7 (m1_0 : UInt8) (m1_1 : UInt8) (m1_2 : Bool) (m1_3 : UInt8) (m1_4 : UInt8) (m1_5 : UInt8) (m1_6 : UInt8) (m1_7 : Bool) (m1_8 : UInt8) (m1_9 : List UInt8) {r : AV} (h : X108_7 (semCall C Tryd.prog) (semRun C Tryd.prog 108 Tryd.f108) m1_0 m1_1 m1_2 m1_3 m1_4 m1_5 m1_6 m1_7 m1_8 m1_9 = some r) : F108_7 (semRun C Tryd.prog 108 Tryd.f108) m1_0 m1_1 m1_2 m1_3 m1_4 m1_5 m1_6 m1_7 m1_8 m1_9 = some r :=
  semRun_unr 400 ((text108_7 _ _ m1_0 m1_1 m1_2 m1_3 m1_4 m1_5 m1_6 m1_7 m1_8 m1_9).trans h)
theorem r108_8  {r : AV} (h : X108_8 (semCall C Tryd.prog) (semRun C Tryd.prog 108 Tryd.f108)  = some r) : F108_8 (semRun C Tryd.prog 108 Tryd.f108)  = some r :=
  semRun_unr 400 ((text108_8 _ _ ).trans h)
end R2
