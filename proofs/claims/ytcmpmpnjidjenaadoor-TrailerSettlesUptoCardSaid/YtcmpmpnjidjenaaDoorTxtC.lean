/-
  What functions of this seat come to, step by step.
-/
import Derived.Test.YtcmpmpnjidjenaaDoorTab
import Derived.Test.YtcmpmpnjidjenaaDoorProg
set_option linter.unusedVariables false
set_option linter.unusedSimpArgs false
set_option linter.unusedSectionVars false
set_option linter.unnecessarySimpa false
namespace R2
open Go Go.Proofs Sx
noncomputable def body70 : Code := (Tryd.f70.body).getD .skip
noncomputable def X70 (call : Nat → List AV → Option AV) (run : List Item → St → Option AV) (x0_0 : UInt8) (x0_1 : UInt8) (x0_2 : Bool) (x0_3 : UInt8) (x0_4 : UInt8) (x0_5 : UInt8) (x0_6 : UInt8) (x0_7 : Bool) (x0_8 : UInt8) (x0_9 : List UInt8) : Option AV :=
  condM (.b (ueq x0_1 0))
  ((call 67 [.int 0]).bind fun v1 => (AV.asAg 10 (v1)).bind fun v2 => some (.ag [v2.getD 0 .un, v2.getD 1 .un, v2.getD 2 .un, v2.getD 3 .un, v2.getD 4 .un, v2.getD 5 .un, v2.getD 6 .un, v2.getD 7 .un, v2.getD 8 .un, v2.getD 9 .un]))
  (some (.ag [.u8 17, .u8 x0_1, .b false, .u8 0, .u8 0, .u8 0, .u8 0, .b false, .u8 0, .s []]))
theorem text70 (call : Nat → List AV → Option AV) (run : List Item → St → Option AV) (x0_0 : UInt8) (x0_1 : UInt8) (x0_2 : Bool) (x0_3 : UInt8) (x0_4 : UInt8) (x0_5 : UInt8) (x0_6 : UInt8) (x0_7 : Bool) (x0_8 : UInt8) (x0_9 : List UInt8) : unr C call run 70 Tryd.f70 400 [.code body70] (initSt [.ag [.u8 x0_0, .u8 x0_1, .b x0_2, .u8 x0_3, .u8 x0_4, .u8 x0_5, .u8 x0_6, .b x0_7, .u8 x0_8, .s x0_9]]) = X70 call run x0_0 x0_1 x0_2 x0_3 x0_4 x0_5 x0_6 x0_7 x0_8 x0_9 := by
  kernel_rfl
theorem c70 (x0_0 : UInt8) (x0_1 : UInt8) (x0_2 : Bool) (x0_3 : UInt8) (x0_4 : UInt8) (x0_5 : UInt8) (x0_6 : UInt8) (x0_7 : Bool) (x0_8 : UInt8) (x0_9 : List UInt8) {r : AV} (h : X70 (semCall C Tryd.prog) (semRun C Tryd.prog 70 Tryd.f70) x0_0 x0_1 x0_2 x0_3 x0_4 x0_5 x0_6 x0_7 x0_8 x0_9 = some r) : semCall C Tryd.prog 70 [.ag [.u8 x0_0, .u8 x0_1, .b x0_2, .u8 x0_3, .u8 x0_4, .u8 x0_5, .u8 x0_6, .b x0_7, .u8 x0_8, .s x0_9]] = some r :=
  semCall_unr (fn := Tryd.f70) (c := body70) (by kernel_rfl) (by kernel_rfl) 400 (by kernel_rfl) ((text70 _ _ x0_0 x0_1 x0_2 x0_3 x0_4 x0_5 x0_6 x0_7 x0_8 x0_9).trans h)
end R2

namespace R2
open Go Go.Proofs Sx
noncomputable def body71 : Code := (Tryd.f71.body).getD .skip
noncomputable def X71 (call : Nat → List AV → Option AV) (run : List Item → St → Option AV) (x0_0 : UInt8) (x0_1 : UInt8) (x0_2 : Bool) (x0_3 : UInt8) (x0_4 : UInt8) (x0_5 : UInt8) (x0_6 : UInt8) (x0_7 : Bool) (x0_8 : UInt8) (x0_9 : List UInt8) (x1_0 : UInt8) (x1_1 : UInt8) (x1_2 : Bool) (x1_3 : UInt8) (x1_4 : UInt8) (x1_5 : UInt8) (x1_6 : UInt8) (x1_7 : Bool) (x1_8 : UInt8) (x1_9 : List UInt8) (x2 : UInt8) : Option AV :=
  condM (.b (ueq x2 61))
  ((call 94 [.s x0_9]).bind fun v1 => (conv .u8 (v1)).bind fun v2 => (AV.one (v2)).bind fun v3 => some (.ag [.u8 7, .u8 x1_1, .b x1_2, v3, .u8 x1_4, .u8 x1_5, .u8 x1_6, .b x1_7, .u8 x1_8, .s x1_9]))
  ((selW (.b (ueq x2 47)) false (some (.b (ueq x2 62))) (.b true)).bind fun v4 => condM (v4)
  ((call 42 [.ag [.u8 9, .u8 x1_1, .b x1_2, .u8 x1_3, .u8 x1_4, .u8 x1_5, .u8 x1_6, .b x1_7, .u8 x1_8, .s x1_9], .u8 x2]).bind fun v5 => (AV.asAg 10 (v5)).bind fun v6 => some (.ag [v6.getD 0 .un, v6.getD 1 .un, v6.getD 2 .un, v6.getD 3 .un, v6.getD 4 .un, v6.getD 5 .un, v6.getD 6 .un, v6.getD 7 .un, v6.getD 8 .un, v6.getD 9 .un]))
  ((call 50 [.u8 x2]).bind fun v7 => condM (v7)
  (some (.ag [.u8 6, .u8 x0_1, .b x0_2, .u8 x0_3, .u8 x0_4, .u8 x0_5, .u8 x0_6, .b x0_7, .u8 x0_8, .s x0_9]))
  (condM (.b ((w64 (x0_0.toNat : Int)) == 6))
  ((call 42 [.ag [.u8 4, .u8 x1_1, .b x1_2, .u8 x1_3, .u8 x1_4, .u8 x1_5, .u8 x1_6, .b x1_7, .u8 x1_8, .s x1_9], .u8 x2]).bind fun v8 => (AV.asAg 10 (v8)).bind fun v9 => some (.ag [v9.getD 0 .un, v9.getD 1 .un, v9.getD 2 .un, v9.getD 3 .un, v9.getD 4 .un, v9.getD 5 .un, v9.getD 6 .un, v9.getD 7 .un, v9.getD 8 .un, v9.getD 9 .un]))
  ((selW (.b (ueq x2 34)) false (some (.b (ueq x2 39))) (.b true)).bind fun v10 => (selW (v10) false (some (.b (ueq x2 60))) (.b true)).bind fun v11 => condM (v11)
  ((call 41 []).bind fun v12 => (AV.asAg 10 (v12)).bind fun v13 => some (.ag [v13.getD 0 .un, v13.getD 1 .un, v13.getD 2 .un, v13.getD 3 .un, v13.getD 4 .un, v13.getD 5 .un, v13.getD 6 .un, v13.getD 7 .un, v13.getD 8 .un, v13.getD 9 .un]))
  ((call 69 [.ag [.u8 x0_0, .u8 x0_1, .b x0_2, .u8 x0_3, .u8 x0_4, .u8 x0_5, .u8 x0_6, .b x0_7, .u8 x0_8, .s x0_9], .u8 x2]).bind fun v14 => (AV.asAg 10 (v14)).bind fun v15 => some (.ag [v15.getD 0 .un, v15.getD 1 .un, v15.getD 2 .un, v15.getD 3 .un, v15.getD 4 .un, v15.getD 5 .un, v15.getD 6 .un, v15.getD 7 .un, v15.getD 8 .un, v15.getD 9 .un]))))))
theorem text71 (call : Nat → List AV → Option AV) (run : List Item → St → Option AV) (x0_0 : UInt8) (x0_1 : UInt8) (x0_2 : Bool) (x0_3 : UInt8) (x0_4 : UInt8) (x0_5 : UInt8) (x0_6 : UInt8) (x0_7 : Bool) (x0_8 : UInt8) (x0_9 : List UInt8) (x1_0 : UInt8) (x1_1 : UInt8) (x1_2 : Bool) (x1_3 : UInt8) (x1_4 : UInt8) (x1_5 : UInt8) (x1_6 : UInt8) (x1_7 : Bool) (x1_8 : UInt8) (x1_9 : List UInt8) (x2 : UInt8) : unr C call run 71 Tryd.f71 400 [.code body71] (initSt [.ag [.u8 x0_0, .u8 x0_1, .b x0_2, .u8 x0_3, .u8 x0_4, .u8 x0_5, .u8 x0_6, .b x0_7, .u8 x0_8, .s x0_9], .ag [.u8 x1_0, .u8 x1_1, .b x1_2, .u8 x1_3, .u8 x1_4, .u8 x1_5, .u8 x1_6, .b x1_7, .u8 x1_8, .s x1_9], .u8 x2]) = X71 call run x0_0 x0_1 x0_2 x0_3 x0_4 x0_5 x0_6 x0_7 x0_8 x0_9 x1_0 x1_1 x1_2 x1_3 x1_4 x1_5 x1_6 x1_7 x1_8 x1_9 x2 := by
  kernel_rfl
theorem c71 (x0_0 : UInt8) (x0_1 : UInt8) (x0_2 : Bool) (x0_3 : UInt8) (x0_4 : UInt8) (x0_5 : UInt8) (x0_6 : UInt8) (x0_7 : Bool) (x0_8 : UInt8) (x0_9 : List UInt8) (x1_0 : UInt8) (x1_1 : UInt8) (x1_2 : Bool) (x1_3 : UInt8) (x1_4 : UInt8) (x1_5 : UInt8) (x1_6 : UInt8) (x1_7 : Bool) (x1_8 : UInt8) (x1_9 : List UInt8) (x2 : UInt8) {r : AV} (h : X71 (semCall C Tryd.prog) (semRun C Tryd.prog 71 Tryd.f71) x0_0 x0_1 x0_2 x0_3 x0_4 x0_5 x0_6 x0_7 x0_8 x0_9 x1_0 x1_1 x1_2 x1_3 x1_4 x1_5 x1_6 x1_7 x1_8 x1_9 x2 = some r) : semCall C Tryd.prog 71 [.ag [.u8 x0_0, .u8 x0_1, .b x0_2, .u8 x0_3, .u8 x0_4, .u8 x0_5, .u8 x0_6, .b x0_7, .u8 x0_8, .s x0_9], .ag [.u8 x1_0, .u8 x1_1, .b x1_2, .u8 x1_3, .u8 x1_4, .u8 x1_5, .u8 x1_6, .b x1_7, .u8 x1_8, .s x1_9], .u8 x2] = some r :=
  semCall_unr (fn := Tryd.f71) (c := body71) (by kernel_rfl) (by kernel_rfl) 400 (by kernel_rfl) ((text71 _ _ x0_0 x0_1 x0_2 x0_3 x0_4 x0_5 x0_6 x0_7 x0_8 x0_9 x1_0 x1_1 x1_2 x1_3 x1_4 x1_5 x1_6 x1_7 x1_8 x1_9 x2).trans h)
end R2

namespace R2
open Go Go.Proofs Sx
noncomputable def body72 : Code := (Tryd.f72.body).getD .skip
noncomputable def K72_17 : List Item := (kAt 17 body72 []).getD []
def S72_17 (t2 : UInt8) (m3_0 : UInt8) (m3_1 : UInt8) (m3_2 : Bool) (m3_3 : UInt8) (m3_4 : UInt8) (m3_5 : UInt8) (m3_6 : UInt8) (m3_7 : Bool) (m3_8 : UInt8) (m3_9 : List UInt8) (m6_0 : UInt8) (m6_1 : UInt8) (m6_2 : Bool) (m6_3 : UInt8) (m6_4 : UInt8) (m6_5 : UInt8) (m6_6 : UInt8) (m6_7 : Bool) (m6_8 : UInt8) (m6_9 : List UInt8) : St := St.ofL [(2, .cell (.val (.u8 t2))), (3, .cell (.ptr 3 0)), (6, .cell (.ptr 6 0))] [(3, some [.val (.u8 m3_0), .val (.u8 m3_1), .val (.b m3_2), .val (.u8 m3_3), .val (.u8 m3_4), .val (.u8 m3_5), .val (.u8 m3_6), .val (.b m3_7), .val (.u8 m3_8), .val (.s m3_9)]), (6, some [.val (.u8 m6_0), .val (.u8 m6_1), .val (.b m6_2), .val (.u8 m6_3), .val (.u8 m6_4), .val (.u8 m6_5), .val (.u8 m6_6), .val (.b m6_7), .val (.u8 m6_8), .val (.s m6_9)])]
noncomputable def F72_17 (run : List Item → St → Option AV) (t2 : UInt8) (m3_0 : UInt8) (m3_1 : UInt8) (m3_2 : Bool) (m3_3 : UInt8) (m3_4 : UInt8) (m3_5 : UInt8) (m3_6 : UInt8) (m3_7 : Bool) (m3_8 : UInt8) (m3_9 : List UInt8) (m6_0 : UInt8) (m6_1 : UInt8) (m6_2 : Bool) (m6_3 : UInt8) (m6_4 : UInt8) (m6_5 : UInt8) (m6_6 : UInt8) (m6_7 : Bool) (m6_8 : UInt8) (m6_9 : List UInt8) : Option AV := run K72_17 (S72_17 t2 m3_0 m3_1 m3_2 m3_3 m3_4 m3_5 m3_6 m3_7 m3_8 m3_9 m6_0 m6_1 m6_2 m6_3 m6_4 m6_5 m6_6 m6_7 m6_8 m6_9)
noncomputable def K72_22 : List Item := (kAt 22 body72 []).getD []
def S72_22 (t2 : UInt8) (m3_0 : UInt8) (m3_1 : UInt8) (m3_2 : Bool) (m3_3 : UInt8) (m3_4 : UInt8) (m3_5 : UInt8) (m3_6 : UInt8) (m3_7 : Bool) (m3_8 : UInt8) (m3_9 : List UInt8) (m6_0 : UInt8) (m6_1 : UInt8) (m6_2 : Bool) (m6_3 : UInt8) (m6_4 : UInt8) (m6_5 : UInt8) (m6_6 : UInt8) (m6_7 : Bool) (m6_8 : UInt8) (m6_9 : List UInt8) : St := St.ofL [(2, .cell (.val (.u8 t2))), (3, .cell (.ptr 3 0)), (6, .cell (.ptr 6 0))] [(3, some [.val (.u8 m3_0), .val (.u8 m3_1), .val (.b m3_2), .val (.u8 m3_3), .val (.u8 m3_4), .val (.u8 m3_5), .val (.u8 m3_6), .val (.b m3_7), .val (.u8 m3_8), .val (.s m3_9)]), (6, some [.val (.u8 m6_0), .val (.u8 m6_1), .val (.b m6_2), .val (.u8 m6_3), .val (.u8 m6_4), .val (.u8 m6_5), .val (.u8 m6_6), .val (.b m6_7), .val (.u8 m6_8), .val (.s m6_9)])]
noncomputable def F72_22 (run : List Item → St → Option AV) (t2 : UInt8) (m3_0 : UInt8) (m3_1 : UInt8) (m3_2 : Bool) (m3_3 : UInt8) (m3_4 : UInt8) (m3_5 : UInt8) (m3_6 : UInt8) (m3_7 : Bool) (m3_8 : UInt8) (m3_9 : List UInt8) (m6_0 : UInt8) (m6_1 : UInt8) (m6_2 : Bool) (m6_3 : UInt8) (m6_4 : UInt8) (m6_5 : UInt8) (m6_6 : UInt8) (m6_7 : Bool) (m6_8 : UInt8) (m6_9 : List UInt8) : Option AV := run K72_22 (S72_22 t2 m3_0 m3_1 m3_2 m3_3 m3_4 m3_5 m3_6 m3_7 m3_8 m3_9 m6_0 m6_1 m6_2 m6_3 m6_4 m6_5 m6_6 m6_7 m6_8 m6_9)
noncomputable def K72_25 : List Item := (kAt 25 body72 []).getD []
def S72_25 (m3_0 : UInt8) (m3_1 : UInt8) (m3_2 : Bool) (m3_3 : UInt8) (m3_4 : UInt8) (m3_5 : UInt8) (m3_6 : UInt8) (m3_7 : Bool) (m3_8 : UInt8) (m3_9 : List UInt8) (m6_0 : UInt8) (m6_1 : UInt8) (m6_2 : Bool) (m6_3 : UInt8) (m6_4 : UInt8) (m6_5 : UInt8) (m6_6 : UInt8) (m6_7 : Bool) (m6_8 : UInt8) (m6_9 : List UInt8) : St := St.ofL [(3, .cell (.ptr 3 0)), (6, .cell (.ptr 6 0))] [(3, some [.val (.u8 m3_0), .val (.u8 m3_1), .val (.b m3_2), .val (.u8 m3_3), .val (.u8 m3_4), .val (.u8 m3_5), .val (.u8 m3_6), .val (.b m3_7), .val (.u8 m3_8), .val (.s m3_9)]), (6, some [.val (.u8 m6_0), .val (.u8 m6_1), .val (.b m6_2), .val (.u8 m6_3), .val (.u8 m6_4), .val (.u8 m6_5), .val (.u8 m6_6), .val (.b m6_7), .val (.u8 m6_8), .val (.s m6_9)])]
noncomputable def F72_25 (run : List Item → St → Option AV) (m3_0 : UInt8) (m3_1 : UInt8) (m3_2 : Bool) (m3_3 : UInt8) (m3_4 : UInt8) (m3_5 : UInt8) (m3_6 : UInt8) (m3_7 : Bool) (m3_8 : UInt8) (m3_9 : List UInt8) (m6_0 : UInt8) (m6_1 : UInt8) (m6_2 : Bool) (m6_3 : UInt8) (m6_4 : UInt8) (m6_5 : UInt8) (m6_6 : UInt8) (m6_7 : Bool) (m6_8 : UInt8) (m6_9 : List UInt8) : Option AV := run K72_25 (S72_25 m3_0 m3_1 m3_2 m3_3 m3_4 m3_5 m3_6 m3_7 m3_8 m3_9 m6_0 m6_1 m6_2 m6_3 m6_4 m6_5 m6_6 m6_7 m6_8 m6_9)
noncomputable def X72 (call : Nat → List AV → Option AV) (run : List Item → St → Option AV) (x0_0 : UInt8) (x0_1 : UInt8) (x0_2 : Bool) (x0_3 : UInt8) (x0_4 : UInt8) (x0_5 : UInt8) (x0_6 : UInt8) (x0_7 : Bool) (x0_8 : UInt8) (x0_9 : List UInt8) (x1_0 : UInt8) (x1_1 : UInt8) (x1_2 : Bool) (x1_3 : UInt8) (x1_4 : UInt8) (x1_5 : UInt8) (x1_6 : UInt8) (x1_7 : Bool) (x1_8 : UInt8) (x1_9 : List UInt8) (x2 : UInt8) : Option AV :=
  (selW (.b (ueq x0_6 0)) false (some (.b (ueq x0_6 4))) (.b true)).bind fun v1 => (selW (.b (une x0_4 0)) true (some (.b (ueq x2 x0_4))) (.b false)).bind fun v2 => condM (v2)
  ((unop .not (v1)).bind fun v3 => condM (v3)
  ((call 41 []).bind fun v4 => (AV.asAg 10 (v4)).bind fun v5 => some (.ag [v5.getD 0 .un, v5.getD 1 .un, v5.getD 2 .un, v5.getD 3 .un, v5.getD 4 .un, v5.getD 5 .un, v5.getD 6 .un, v5.getD 7 .un, v5.getD 8 .un, v5.getD 9 .un]))
  (some (.ag [.u8 9, .u8 x1_1, .b x1_2, .u8 x1_3, .u8 x1_4, .u8 x1_5, .u8 x1_6, .b x1_7, .u8 x1_8, .s x1_9])))
  (condM (.b (ueq x0_4 0))
  ((call 50 [.u8 x2]).bind fun v6 => (selW (v6) false (some (.b (ueq x2 62))) (.b true)).bind fun v7 => condM (v7)
  ((unop .not (v1)).bind fun v8 => condM (v8)
  ((call 41 []).bind fun v9 => (AV.asAg 10 (v9)).bind fun v10 => some (.ag [v10.getD 0 .un, v10.getD 1 .un, v10.getD 2 .un, v10.getD 3 .un, v10.getD 4 .un, v10.getD 5 .un, v10.getD 6 .un, v10.getD 7 .un, v10.getD 8 .un, v10.getD 9 .un]))
  (condM (.b (ueq x2 62))
  ((call 70 [.ag [.u8 x0_0, .u8 x0_1, .b x0_2, .u8 x0_3, .u8 x0_4, .u8 x0_5, .u8 x0_6, .b x0_7, .u8 x0_8, .s x0_9]]).bind fun v11 => (AV.asAg 10 (v11)).bind fun v12 => some (.ag [v12.getD 0 .un, v12.getD 1 .un, v12.getD 2 .un, v12.getD 3 .un, v12.getD 4 .un, v12.getD 5 .un, v12.getD 6 .un, v12.getD 7 .un, v12.getD 8 .un, v12.getD 9 .un]))
  (some (.ag [.u8 4, .u8 x1_1, .b x1_2, .u8 x1_3, .u8 x1_4, .u8 x1_5, .u8 x1_6, .b x1_7, .u8 x1_8, .s x1_9]))))
  ((selW (.b (ueq x2 34)) false (some (.b (ueq x2 39))) (.b true)).bind fun v13 => (selW (v13) false (some (.b (ueq x2 60))) (.b true)).bind fun v14 => (selW (v14) false (some (.b (ueq x2 61))) (.b true)).bind fun v15 => (selW (v15) false (some (.b (ueq x2 96))) (.b true)).bind fun v16 => condM (v16)
  ((call 41 []).bind fun v17 => (AV.asAg 10 (v17)).bind fun v18 => some (.ag [v18.getD 0 .un, v18.getD 1 .un, v18.getD 2 .un, v18.getD 3 .un, v18.getD 4 .un, v18.getD 5 .un, v18.getD 6 .un, v18.getD 7 .un, v18.getD 8 .un, v18.getD 9 .un]))
  (F72_17 run x2 x0_0 x0_1 x0_2 x0_3 x0_4 x0_5 x0_6 x0_7 x0_8 x0_9 0 0 false 0 0 0 0 false 0 [])))
  (F72_17 run x2 x0_0 x0_1 x0_2 x0_3 x0_4 x0_5 x0_6 x0_7 x0_8 x0_9 0 0 false 0 0 0 0 false 0 []))
theorem text72 (call : Nat → List AV → Option AV) (run : List Item → St → Option AV) (x0_0 : UInt8) (x0_1 : UInt8) (x0_2 : Bool) (x0_3 : UInt8) (x0_4 : UInt8) (x0_5 : UInt8) (x0_6 : UInt8) (x0_7 : Bool) (x0_8 : UInt8) (x0_9 : List UInt8) (x1_0 : UInt8) (x1_1 : UInt8) (x1_2 : Bool) (x1_3 : UInt8) (x1_4 : UInt8) (x1_5 : UInt8) (x1_6 : UInt8) (x1_7 : Bool) (x1_8 : UInt8) (x1_9 : List UInt8) (x2 : UInt8) : unr C call run 72 Tryd.f72 400 [.code body72] (initSt [.ag [.u8 x0_0, .u8 x0_1, .b x0_2, .u8 x0_3, .u8 x0_4, .u8 x0_5, .u8 x0_6, .b x0_7, .u8 x0_8, .s x0_9], .ag [.u8 x1_0, .u8 x1_1, .b x1_2, .u8 x1_3, .u8 x1_4, .u8 x1_5, .u8 x1_6, .b x1_7, .u8 x1_8, .s x1_9], .u8 x2]) = X72 call run x0_0 x0_1 x0_2 x0_3 x0_4 x0_5 x0_6 x0_7 x0_8 x0_9 x1_0 x1_1 x1_2 x1_3 x1_4 x1_5 x1_6 x1_7 x1_8 x1_9 x2 := by
  kernel_rfl
theorem c72 (x0_0 : UInt8) (x0_1 : UInt8) (x0_2 : Bool) (x0_3 : UInt8) (x0_4 : UInt8) (x0_5 : UInt8) (x0_6 : UInt8) (x0_7 : Bool) (x0_8 : UInt8) (x0_9 : List UInt8) (x1_0 : UInt8) (x1_1 : UInt8) (x1_2 : Bool) (x1_3 : UInt8) (x1_4 : UInt8) (x1_5 : UInt8) (x1_6 : UInt8) (x1_7 : Bool) (x1_8 : UInt8) (x1_9 : List UInt8) (x2 : UInt8) {r : AV} (h : X72 (semCall C Tryd.prog) (semRun C Tryd.prog 72 Tryd.f72) x0_0 x0_1 x0_2 x0_3 x0_4 x0_5 x0_6 x0_7 x0_8 x0_9 x1_0 x1_1 x1_2 x1_3 x1_4 x1_5 x1_6 x1_7 x1_8 x1_9 x2 = some r) : semCall C Tryd.prog 72 [.ag [.u8 x0_0, .u8 x0_1, .b x0_2, .u8 x0_3, .u8 x0_4, .u8 x0_5, .u8 x0_6, .b x0_7, .u8 x0_8, .s x0_9], .ag [.u8 x1_0, .u8 x1_1, .b x1_2, .u8 x1_3, .u8 x1_4, .u8 x1_5, .u8 x1_6, .b x1_7, .u8 x1_8, .s x1_9], .u8 x2] = some r :=
  semCall_unr (fn := Tryd.f72) (c := body72) (by kernel_rfl) (by kernel_rfl) 400 (by kernel_rfl) ((text72 _ _ x0_0 x0_1 x0_2 x0_3 x0_4 x0_5 x0_6 x0_7 x0_8 x0_9 x1_0 x1_1 x1_2 x1_3 x1_4 x1_5 x1_6 x1_7 x1_8 x1_9 x2).trans h)
noncomputable def X72_17 (call : Nat → List AV → Option AV) (run : List Item → St → Option AV) (t2 : UInt8) (m3_0 : UInt8) (m3_1 : UInt8) (m3_2 : Bool) (m3_3 : UInt8) (m3_4 : UInt8) (m3_5 : UInt8) (m3_6 : UInt8) (m3_7 : Bool) (m3_8 : UInt8) (m3_9 : List UInt8) (m6_0 : UInt8) (m6_1 : UInt8) (m6_2 : Bool) (m6_3 : UInt8) (m6_4 : UInt8) (m6_5 : UInt8) (m6_6 : UInt8) (m6_7 : Bool) (m6_8 : UInt8) (m6_9 : List UInt8) : Option AV :=
  condM (.b (ueq m3_3 1))
  ((call 95 [.ag [.u8 m3_0, .u8 m3_1, .b m3_2, .u8 m3_3, .u8 m3_4, .u8 m3_5, .u8 m3_6, .b m3_7, .u8 m3_8, .s m3_9], .u8 t2]).bind fun v1 => (AV.asAg 10 (v1)).bind fun v2 => some (.ag [v2.getD 0 .un, v2.getD 1 .un, v2.getD 2 .un, v2.getD 3 .un, v2.getD 4 .un, v2.getD 5 .un, v2.getD 6 .un, v2.getD 7 .un, v2.getD 8 .un, v2.getD 9 .un]))
  (condM (.b (ueq m3_3 2))
  (F72_22 run t2 m3_0 m3_1 m3_2 m3_3 m3_4 m3_5 m3_6 m3_7 m3_8 m3_9 m6_0 m6_1 m6_2 m6_3 m6_4 m6_5 m6_6 m6_7 m6_8 m6_9)
  (condM (.b (ueq m3_3 3))
  (F72_22 run t2 m3_0 m3_1 m3_2 m3_3 m3_4 m3_5 m3_6 m3_7 m3_8 m3_9 m6_0 m6_1 m6_2 m6_3 m6_4 m6_5 m6_6 m6_7 m6_8 m6_9)
  (F72_25 run m3_0 m3_1 m3_2 m3_3 m3_4 m3_5 m3_6 m3_7 m3_8 m3_9 m6_0 m6_1 m6_2 m6_3 m6_4 m6_5 m6_6 m6_7 m6_8 m6_9)))
theorem text72_17 (call : Nat → List AV → Option AV) (run : List Item → St → Option AV) (t2 : UInt8) (m3_0 : UInt8) (m3_1 : UInt8) (m3_2 : Bool) (m3_3 : UInt8) (m3_4 : UInt8) (m3_5 : UInt8) (m3_6 : UInt8) (m3_7 : Bool) (m3_8 : UInt8) (m3_9 : List UInt8) (m6_0 : UInt8) (m6_1 : UInt8) (m6_2 : Bool) (m6_3 : UInt8) (m6_4 : UInt8) (m6_5 : UInt8) (m6_6 : UInt8) (m6_7 : Bool) (m6_8 : UInt8) (m6_9 : List UInt8) : step C call 72 Tryd.f72 (unr C call run 72 Tryd.f72 400) K72_17 (S72_17 t2 m3_0 m3_1 m3_2 m3_3 m3_4 m3_5 m3_6 m3_7 m3_8 m3_9 m6_0 m6_1 m6_2 m6_3 m6_4 m6_5 m6_6 m6_7 m6_8 m6_9) = X72_17 call run t2 m3_0 m3_1 m3_2 m3_3 m3_4 m3_5 m3_6 m3_7 m3_8 m3_9 m6_0 m6_1 m6_2 m6_3 m6_4 m6_5 m6_6 m6_7 m6_8 m6_9 := by
  kernel_rfl
noncomputable def X72_22 (call : Nat → List AV → Option AV) (run : List Item → St → Option AV) (t2 : UInt8) (m3_0 : UInt8) (m3_1 : UInt8) (m3_2 : Bool) (m3_3 : UInt8) (m3_4 : UInt8) (m3_5 : UInt8) (m3_6 : UInt8) (m3_7 : Bool) (m3_8 : UInt8) (m3_9 : List UInt8) (m6_0 : UInt8) (m6_1 : UInt8) (m6_2 : Bool) (m6_3 : UInt8) (m6_4 : UInt8) (m6_5 : UInt8) (m6_6 : UInt8) (m6_7 : Bool) (m6_8 : UInt8) (m6_9 : List UInt8) : Option AV :=
  condM (.b (ueq t2 38))
  ((call 41 []).bind fun v1 => (AV.asAg 10 (v1)).bind fun v2 => some (.ag [v2.getD 0 .un, v2.getD 1 .un, v2.getD 2 .un, v2.getD 3 .un, v2.getD 4 .un, v2.getD 5 .un, v2.getD 6 .un, v2.getD 7 .un, v2.getD 8 .un, v2.getD 9 .un]))
  ((call 96 [.ag [.u8 m3_0, .u8 m3_1, .b m3_2, .u8 m3_3, .u8 m3_4, .u8 m3_5, .u8 m3_6, .b m3_7, .u8 m3_8, .s m3_9], .u8 t2, .b (ueq m3_3 2)]).bind fun v3 => (AV.asAg 10 (v3)).bind fun v4 => some (.ag [v4.getD 0 .un, v4.getD 1 .un, v4.getD 2 .un, v4.getD 3 .un, v4.getD 4 .un, v4.getD 5 .un, v4.getD 6 .un, v4.getD 7 .un, v4.getD 8 .un, v4.getD 9 .un]))
theorem text72_22 (call : Nat → List AV → Option AV) (run : List Item → St → Option AV) (t2 : UInt8) (m3_0 : UInt8) (m3_1 : UInt8) (m3_2 : Bool) (m3_3 : UInt8) (m3_4 : UInt8) (m3_5 : UInt8) (m3_6 : UInt8) (m3_7 : Bool) (m3_8 : UInt8) (m3_9 : List UInt8) (m6_0 : UInt8) (m6_1 : UInt8) (m6_2 : Bool) (m6_3 : UInt8) (m6_4 : UInt8) (m6_5 : UInt8) (m6_6 : UInt8) (m6_7 : Bool) (m6_8 : UInt8) (m6_9 : List UInt8) : step C call 72 Tryd.f72 (unr C call run 72 Tryd.f72 400) K72_22 (S72_22 t2 m3_0 m3_1 m3_2 m3_3 m3_4 m3_5 m3_6 m3_7 m3_8 m3_9 m6_0 m6_1 m6_2 m6_3 m6_4 m6_5 m6_6 m6_7 m6_8 m6_9) = X72_22 call run t2 m3_0 m3_1 m3_2 m3_3 m3_4 m3_5 m3_6 m3_7 m3_8 m3_9 m6_0 m6_1 m6_2 m6_3 m6_4 m6_5 m6_6 m6_7 m6_8 m6_9 := by
  kernel_rfl
noncomputable def X72_25 (call : Nat → List AV → Option AV) (run : List Item → St → Option AV) (m3_0 : UInt8) (m3_1 : UInt8) (m3_2 : Bool) (m3_3 : UInt8) (m3_4 : UInt8) (m3_5 : UInt8) (m3_6 : UInt8) (m3_7 : Bool) (m3_8 : UInt8) (m3_9 : List UInt8) (m6_0 : UInt8) (m6_1 : UInt8) (m6_2 : Bool) (m6_3 : UInt8) (m6_4 : UInt8) (m6_5 : UInt8) (m6_6 : UInt8) (m6_7 : Bool) (m6_8 : UInt8) (m6_9 : List UInt8) : Option AV :=
  some (.ag [.u8 m3_0, .u8 m3_1, .b m3_2, .u8 m3_3, .u8 m3_4, .u8 m3_5, .u8 m3_6, .b m3_7, .u8 m3_8, .s m3_9])
theorem text72_25 (call : Nat → List AV → Option AV) (run : List Item → St → Option AV) (m3_0 : UInt8) (m3_1 : UInt8) (m3_2 : Bool) (m3_3 : UInt8) (m3_4 : UInt8) (m3_5 : UInt8) (m3_6 : UInt8) (m3_7 : Bool) (m3_8 : UInt8) (m3_9 : List UInt8) (m6_0 : UInt8) (m6_1 : UInt8) (m6_2 : Bool) (m6_3 : UInt8) (m6_4 : UInt8) (m6_5 : UInt8) (m6_6 : UInt8) (m6_7 : Bool) (m6_8 : UInt8) (m6_9 : List UInt8) : step C call 72 Tryd.f72 (unr C call run 72 Tryd.f72 400) K72_25 (S72_25 m3_0 m3_1 m3_2 m3_3 m3_4 m3_5 m3_6 m3_7 m3_8 m3_9 m6_0 m6_1 m6_2 m6_3 m6_4 m6_5 m6_6 m6_7 m6_8 m6_9) = X72_25 call run m3_0 m3_1 m3_2 m3_3 m3_4 m3_5 m3_6 m3_7 m3_8 m3_9 m6_0 m6_1 m6_2 m6_3 m6_4 m6_5 m6_6 m6_7 m6_8 m6_9 := by
  kernel_rfl
theorem r72_17 (t2 : UInt8) (m3_0 : UInt8) (m3_1 : UInt8) (m3_2 : Bool) (m3_3 : UInt8) (m3_4 : UInt8) (m3_5 : UInt8) (m3_6 : UInt8) (m3_7 : Bool) (m3_8 : UInt8) (m3_9 : List UInt8) (m6_0 : UInt8) (m6_1 : UInt8) (m6_2 : Bool) (m6_3 : UInt8) (m6_4 : UInt8) (m6_5 : UInt8) (m6_6 : UInt8) (m6_7 : Bool) (m6_8 : UInt8) (m6_9 : List UInt8) {r : AV} (h : X72_17 (semCall C Tryd.prog) (semRun C Tryd.prog 72 Tryd.f72) t2 m3_0 m3_1 m3_2 m3_3 m3_4 m3_5 m3_6 m3_7 m3_8 m3_9 m6_0 m6_1 m6_2 m6_3 m6_4 m6_5 m6_6 m6_7 m6_8 m6_9 = some r) : F72_17 (semRun C Tryd.prog 72 Tryd.f72) t2 m3_0 m3_1 m3_2 m3_3 m3_4 m3_5 m3_6 m3_7 m3_8 m3_9 m6_0 m6_1 m6_2 m6_3 m6_4 m6_5 m6_6 m6_7 m6_8 m6_9 = some r :=
  semRun_unr 400 ((text72_17 _ _ t2 m3_0 m3_1 m3_2 m3_3 m3_4 m3_5 m3_6 m3_7 m3_8 m3_9 m6_0 m6_1 m6_2 m6_3 m6_4 m6_5 m6_6 m6_7 m6_8 m6_9).trans h)
theorem r72_22 (t2 : UInt8) (m3_0 : UInt8) (m3_1 : UInt8) (m3_2 : Bool) (m3_3 : UInt8) (m3_4 : UInt8) (m3_5 : UInt8) (m3_6 : UInt8) (m3_7 : Bool) (m3_8 : UInt8) (m3_9 : List UInt8) (m6_0 : UInt8) (m6_1 : UInt8) (m6_2 : Bool) (m6_3 : UInt8) (m6_4 : UInt8) (m6_5 : UInt8) (m6_6 : UInt8) (m6_7 : Bool) (m6_8 : UInt8) (m6_9 : List UInt8) {r : AV} (h : X72_22 (semCall C Tryd.prog) (semRun C Tryd.prog 72 Tryd.f72) t2 m3_0 m3_1 m3_2 m3_3 m3_4 m3_5 m3_6 m3_7 m3_8 m3_9 m6_0 m6_1 m6_2 m6_3 m6_4 m6_5 m6_6 m6_7 m6_8 m6_9 = some r) : F72_22 (semRun C Tryd.prog 72 Tryd.f72) t2 m3_0 m3_1 m3_2 m3_3 m3_4 m3_5 m3_6 m3_7 m3_8 m3_9 m6_0 m6_1 m6_2 m6_3 m6_4 m6_5 m6_6 m6_7 m6_8 m6_9 = some r :=
  semRun_unr 400 ((text72_22 _ _ t2 m3_0 m3_1 m3_2 m3_3 m3_4 m3_5 m3_6 m3_7 m3_8 m3_9 m6_0 m6_1 m6_2 m6_3 m6_4 m6_5 m6_6 m6_7 m6_8 m6_9).trans h)
theorem r72_25 (m3_0 : UInt8) (m3_1 : UInt8) (m3_2 : Bool) (m3_3 : UInt8) (m3_4 : UInt8) (m3_5 : UInt8) (m3_6 : UInt8) (m3_7 : Bool) (m3_8 : UInt8) (m3_9 : List UInt8) (m6_0 : UInt8) (m6_1 : UInt8) (m6_2 : Bool) (m6_3 : UInt8) (m6_4 : UInt8) (m6_5 : UInt8) (m6_6 : UInt8) (m6_7 : Bool) (m6_8 : UInt8) (m6_9 : List UInt8) {r : AV} (h : X72_25 (semCall C Tryd.prog) (semRun C Tryd.prog 72 Tryd.f72) m3_0 m3_1 m3_2 m3_3 m3_4 m3_5 m3_6 m3_7 m3_8 m3_9 m6_0 m6_1 m6_2 m6_3 m6_4 m6_5 m6_6 m6_7 m6_8 m6_9 = some r) : F72_25 (semRun C Tryd.prog 72 Tryd.f72) m3_0 m3_1 m3_2 m3_3 m3_4 m3_5 m3_6 m3_7 m3_8 m3_9 m6_0 m6_1 m6_2 m6_3 m6_4 m6_5 m6_6 m6_7 m6_8 m6_9 = some r :=
  semRun_unr 400 ((text72_25 _ _ m3_0 m3_1 m3_2 m3_3 m3_4 m3_5 m3_6 m3_7 m3_8 m3_9 m6_0 m6_1 m6_2 m6_3 m6_4 m6_5 m6_6 m6_7 m6_8 m6_9).trans h)
end R2

namespace R2
open Go Go.Proofs Sx
noncomputable def body73 : Code := (Tryd.f73.body).getD .skip
noncomputable def K73_8 : List Item := (kAt 8 body73 []).getD []
def S73_8 (t1 : UInt8) (t5 : AV) (m2_0 : UInt8) (m2_1 : UInt8) (m2_2 : Bool) (m2_3 : UInt8) (m2_4 : UInt8) (m2_5 : UInt8) (m2_6 : UInt8) (m2_7 : Bool) (m2_8 : UInt8) (m2_9 : List UInt8) (m4_0 : UInt8) (m4_1 : UInt8) (m4_2 : Bool) (m4_3 : UInt8) (m4_4 : UInt8) (m4_5 : UInt8) (m4_6 : UInt8) (m4_7 : Bool) (m4_8 : UInt8) (m4_9 : List UInt8) : St := St.ofL [(1, .cell (.val (.u8 t1))), (2, .cell (.ptr 2 0)), (4, .cell (.ptr 4 0)), (5, .cell (.val (t5)))] [(2, some [.val (.u8 m2_0), .val (.u8 m2_1), .val (.b m2_2), .val (.u8 m2_3), .val (.u8 m2_4), .val (.u8 m2_5), .val (.u8 m2_6), .val (.b m2_7), .val (.u8 m2_8), .val (.s m2_9)]), (4, some [.val (.u8 m4_0), .val (.u8 m4_1), .val (.b m4_2), .val (.u8 m4_3), .val (.u8 m4_4), .val (.u8 m4_5), .val (.u8 m4_6), .val (.b m4_7), .val (.u8 m4_8), .val (.s m4_9)])]
noncomputable def F73_8 (run : List Item → St → Option AV) (t1 : UInt8) (t5 : AV) (m2_0 : UInt8) (m2_1 : UInt8) (m2_2 : Bool) (m2_3 : UInt8) (m2_4 : UInt8) (m2_5 : UInt8) (m2_6 : UInt8) (m2_7 : Bool) (m2_8 : UInt8) (m2_9 : List UInt8) (m4_0 : UInt8) (m4_1 : UInt8) (m4_2 : Bool) (m4_3 : UInt8) (m4_4 : UInt8) (m4_5 : UInt8) (m4_6 : UInt8) (m4_7 : Bool) (m4_8 : UInt8) (m4_9 : List UInt8) : Option AV := run K73_8 (S73_8 t1 t5 m2_0 m2_1 m2_2 m2_3 m2_4 m2_5 m2_6 m2_7 m2_8 m2_9 m4_0 m4_1 m4_2 m4_3 m4_4 m4_5 m4_6 m4_7 m4_8 m4_9)
noncomputable def K73_20 : List Item := (kAt 20 body73 []).getD []
def S73_20 (t1 : UInt8) (m2_0 : AV) (m2_1 : AV) (m2_2 : AV) (m2_3 : AV) (m2_4 : AV) (m2_5 : AV) (m2_6 : AV) (m2_7 : AV) (m2_8 : AV) (m2_9 : AV) (m4_0 : UInt8) (m4_1 : UInt8) (m4_2 : Bool) (m4_3 : UInt8) (m4_4 : UInt8) (m4_5 : UInt8) (m4_6 : UInt8) (m4_7 : Bool) (m4_8 : UInt8) (m4_9 : List UInt8) : St := St.ofL [(1, .cell (.val (.u8 t1))), (2, .cell (.ptr 2 0)), (4, .cell (.ptr 4 0))] [(2, some [.val (m2_0), .val (m2_1), .val (m2_2), .val (m2_3), .val (m2_4), .val (m2_5), .val (m2_6), .val (m2_7), .val (m2_8), .val (m2_9)]), (4, some [.val (.u8 m4_0), .val (.u8 m4_1), .val (.b m4_2), .val (.u8 m4_3), .val (.u8 m4_4), .val (.u8 m4_5), .val (.u8 m4_6), .val (.b m4_7), .val (.u8 m4_8), .val (.s m4_9)])]
noncomputable def F73_20 (run : List Item → St → Option AV) (t1 : UInt8) (m2_0 : AV) (m2_1 : AV) (m2_2 : AV) (m2_3 : AV) (m2_4 : AV) (m2_5 : AV) (m2_6 : AV) (m2_7 : AV) (m2_8 : AV) (m2_9 : AV) (m4_0 : UInt8) (m4_1 : UInt8) (m4_2 : Bool) (m4_3 : UInt8) (m4_4 : UInt8) (m4_5 : UInt8) (m4_6 : UInt8) (m4_7 : Bool) (m4_8 : UInt8) (m4_9 : List UInt8) : Option AV := run K73_20 (S73_20 t1 m2_0 m2_1 m2_2 m2_3 m2_4 m2_5 m2_6 m2_7 m2_8 m2_9 m4_0 m4_1 m4_2 m4_3 m4_4 m4_5 m4_6 m4_7 m4_8 m4_9)
noncomputable def K73_23 : List Item := (kAt 23 body73 []).getD []
def S73_23 (m2_0 : AV) (m2_1 : AV) (m2_2 : AV) (m2_3 : AV) (m2_4 : AV) (m2_5 : AV) (m2_6 : AV) (m2_7 : AV) (m2_8 : AV) (m2_9 : AV) (m4_0 : UInt8) (m4_1 : UInt8) (m4_2 : Bool) (m4_3 : UInt8) (m4_4 : UInt8) (m4_5 : UInt8) (m4_6 : UInt8) (m4_7 : Bool) (m4_8 : UInt8) (m4_9 : List UInt8) : St := St.ofL [(2, .cell (.ptr 2 0)), (4, .cell (.ptr 4 0))] [(2, some [.val (m2_0), .val (m2_1), .val (m2_2), .val (m2_3), .val (m2_4), .val (m2_5), .val (m2_6), .val (m2_7), .val (m2_8), .val (m2_9)]), (4, some [.val (.u8 m4_0), .val (.u8 m4_1), .val (.b m4_2), .val (.u8 m4_3), .val (.u8 m4_4), .val (.u8 m4_5), .val (.u8 m4_6), .val (.b m4_7), .val (.u8 m4_8), .val (.s m4_9)])]
noncomputable def F73_23 (run : List Item → St → Option AV) (m2_0 : AV) (m2_1 : AV) (m2_2 : AV) (m2_3 : AV) (m2_4 : AV) (m2_5 : AV) (m2_6 : AV) (m2_7 : AV) (m2_8 : AV) (m2_9 : AV) (m4_0 : UInt8) (m4_1 : UInt8) (m4_2 : Bool) (m4_3 : UInt8) (m4_4 : UInt8) (m4_5 : UInt8) (m4_6 : UInt8) (m4_7 : Bool) (m4_8 : UInt8) (m4_9 : List UInt8) : Option AV := run K73_23 (S73_23 m2_0 m2_1 m2_2 m2_3 m2_4 m2_5 m2_6 m2_7 m2_8 m2_9 m4_0 m4_1 m4_2 m4_3 m4_4 m4_5 m4_6 m4_7 m4_8 m4_9)
noncomputable def X73 (call : Nat → List AV → Option AV) (run : List Item → St → Option AV) (x0_0 : UInt8) (x0_1 : UInt8) (x0_2 : Bool) (x0_3 : UInt8) (x0_4 : UInt8) (x0_5 : UInt8) (x0_6 : UInt8) (x0_7 : Bool) (x0_8 : UInt8) (x0_9 : List UInt8) (x1 : UInt8) : Option AV :=
  (call 48 [.int (w64 (x0_1.toNat : Int))]).bind fun v1 => condM (.b ((w64 (x0_0.toNat : Int)) == 18))
  (condM (.b (ueq x1 47))
  (some (.ag [.u8 19, .u8 x0_1, .b x0_2, .u8 x0_3, .u8 x0_4, .u8 x0_5, .u8 x0_6, .b x0_7, .u8 x0_8, .s x0_9]))
  ((selW (.b (ueq x1 33)) true (some (.b (ueq x0_1 3))) (.b false)).bind fun v2 => condM (v2)
  ((call 41 []).bind fun v3 => (AV.asAg 10 (v3)).bind fun v4 => some (.ag [v4.getD 0 .un, v4.getD 1 .un, v4.getD 2 .un, v4.getD 3 .un, v4.getD 4 .un, v4.getD 5 .un, v4.getD 6 .un, v4.getD 7 .un, v4.getD 8 .un, v4.getD 9 .un]))
  (F73_8 run x1 (v1) x0_0 x0_1 x0_2 x0_3 x0_4 x0_5 x0_6 x0_7 x0_8 x0_9 0 0 false 0 0 0 0 false 0 [])))
  (F73_8 run x1 (v1) x0_0 x0_1 x0_2 x0_3 x0_4 x0_5 x0_6 x0_7 x0_8 x0_9 0 0 false 0 0 0 0 false 0 [])
theorem text73 (call : Nat → List AV → Option AV) (run : List Item → St → Option AV) (x0_0 : UInt8) (x0_1 : UInt8) (x0_2 : Bool) (x0_3 : UInt8) (x0_4 : UInt8) (x0_5 : UInt8) (x0_6 : UInt8) (x0_7 : Bool) (x0_8 : UInt8) (x0_9 : List UInt8) (x1 : UInt8) : unr C call run 73 Tryd.f73 400 [.code body73] (initSt [.ag [.u8 x0_0, .u8 x0_1, .b x0_2, .u8 x0_3, .u8 x0_4, .u8 x0_5, .u8 x0_6, .b x0_7, .u8 x0_8, .s x0_9], .u8 x1]) = X73 call run x0_0 x0_1 x0_2 x0_3 x0_4 x0_5 x0_6 x0_7 x0_8 x0_9 x1 := by
  kernel_rfl
theorem c73 (x0_0 : UInt8) (x0_1 : UInt8) (x0_2 : Bool) (x0_3 : UInt8) (x0_4 : UInt8) (x0_5 : UInt8) (x0_6 : UInt8) (x0_7 : Bool) (x0_8 : UInt8) (x0_9 : List UInt8) (x1 : UInt8) {r : AV} (h : X73 (semCall C Tryd.prog) (semRun C Tryd.prog 73 Tryd.f73) x0_0 x0_1 x0_2 x0_3 x0_4 x0_5 x0_6 x0_7 x0_8 x0_9 x1 = some r) : semCall C Tryd.prog 73 [.ag [.u8 x0_0, .u8 x0_1, .b x0_2, .u8 x0_3, .u8 x0_4, .u8 x0_5, .u8 x0_6, .b x0_7, .u8 x0_8, .s x0_9], .u8 x1] = some r :=
  semCall_unr (fn := Tryd.f73) (c := body73) (by kernel_rfl) (by kernel_rfl) 400 (by kernel_rfl) ((text73 _ _ x0_0 x0_1 x0_2 x0_3 x0_4 x0_5 x0_6 x0_7 x0_8 x0_9 x1).trans h)
noncomputable def X73_8 (call : Nat → List AV → Option AV) (run : List Item → St → Option AV) (t1 : UInt8) (t5 : AV) (m2_0 : UInt8) (m2_1 : UInt8) (m2_2 : Bool) (m2_3 : UInt8) (m2_4 : UInt8) (m2_5 : UInt8) (m2_6 : UInt8) (m2_7 : Bool) (m2_8 : UInt8) (m2_9 : List UInt8) (m4_0 : UInt8) (m4_1 : UInt8) (m4_2 : Bool) (m4_3 : UInt8) (m4_4 : UInt8) (m4_5 : UInt8) (m4_6 : UInt8) (m4_7 : Bool) (m4_8 : UInt8) (m4_9 : List UInt8) : Option AV :=
  condM (.b ((w64 (m2_0.toNat : Int)) == 19))
  ((binS .eql (.s m2_9) (t5)).bind fun v1 => (selW (v1) true ((call 50 [.u8 t1]).bind fun v2 => (selW (v2) false (some (.b (ueq t1 47))) (.b true)).bind fun v3 => (selW (v3) false (some (.b (ueq t1 62))) (.b true)).bind fun v4 => some (v4)) (.b false)).bind fun v5 => condM (v5)
  ((selW (.b (une m2_6 0)) true (some (.b (une m2_6 4))) (.b false)).bind fun v6 => condM (v6)
  ((call 41 []).bind fun v7 => (AV.asAg 10 (v7)).bind fun v8 => some (.ag [v8.getD 0 .un, v8.getD 1 .un, v8.getD 2 .un, v8.getD 3 .un, v8.getD 4 .un, v8.getD 5 .un, v8.getD 6 .un, v8.getD 7 .un, v8.getD 8 .un, v8.getD 9 .un]))
  ((call 42 [.ag [.u8 9, .u8 0, .b true, .u8 0, .u8 0, .u8 0, .u8 0, .b false, .u8 0, .s []], .u8 t1]).bind fun v9 => (AV.asAg 10 (v9)).bind fun v10 => some (.ag [v10.getD 0 .un, v10.getD 1 .un, v10.getD 2 .un, v10.getD 3 .un, v10.getD 4 .un, v10.getD 5 .un, v10.getD 6 .un, v10.getD 7 .un, v10.getD 8 .un, v10.getD 9 .un])))
  ((call 51 [.u8 t1]).bind fun v11 => (binS .add (.s m2_9) (v11)).bind fun v12 => (lenS (v12)).bind fun v13 => (lenS (t5)).bind fun v14 => (binI .leq (v13) (v14)).bind fun v15 => (selW (v15) true ((lenS (v12)).bind fun v16 => (slS (t5) none (some (v16))).bind fun v17 => (binS .eql (v17) (v12)).bind fun v18 => some (v18)) (.b false)).bind fun v19 => condM (v19)
  ((AV.one (v12)).bind fun v20 => some (.ag [.u8 m2_0, .u8 m2_1, .b m2_2, .u8 m2_3, .u8 m2_4, .u8 m2_5, .u8 m2_6, .b m2_7, .u8 m2_8, v20]))
  ((binS .add (.s [47]) (.s m2_9)).bind fun v21 => (call 97 [.ag [.u8 m2_0, .u8 m2_1, .b m2_2, .u8 m2_3, .u8 m2_4, .u8 m2_5, .u8 m2_6, .b m2_7, .u8 m2_8, .s m2_9], v21]).bind fun v22 => (AV.asAg 10 (v22)).bind fun v23 => (conv .i64 (v23.getD 0 .un)).bind fun v24 => (binI .eql (v24) (.int 20)).bind fun v25 => condM (v25)
  ((call 41 []).bind fun v26 => (AV.asAg 10 (v26)).bind fun v27 => some (.ag [v27.getD 0 .un, v27.getD 1 .un, v27.getD 2 .un, v27.getD 3 .un, v27.getD 4 .un, v27.getD 5 .un, v27.getD 6 .un, v27.getD 7 .un, v27.getD 8 .un, v27.getD 9 .un]))
  (F73_20 run t1 (v23.getD 0 .un) (v23.getD 1 .un) (v23.getD 2 .un) (v23.getD 3 .un) (v23.getD 4 .un) (v23.getD 5 .un) (v23.getD 6 .un) (v23.getD 7 .un) (v23.getD 8 .un) (v23.getD 9 .un) m4_0 m4_1 m4_2 m4_3 m4_4 m4_5 m4_6 m4_7 m4_8 m4_9))))
  (F73_20 run t1 (.u8 m2_0) (.u8 m2_1) (.b m2_2) (.u8 m2_3) (.u8 m2_4) (.u8 m2_5) (.u8 m2_6) (.b m2_7) (.u8 m2_8) (.s m2_9) m4_0 m4_1 m4_2 m4_3 m4_4 m4_5 m4_6 m4_7 m4_8 m4_9)
theorem text73_8 (call : Nat → List AV → Option AV) (run : List Item → St → Option AV) (t1 : UInt8) (t5 : AV) (m2_0 : UInt8) (m2_1 : UInt8) (m2_2 : Bool) (m2_3 : UInt8) (m2_4 : UInt8) (m2_5 : UInt8) (m2_6 : UInt8) (m2_7 : Bool) (m2_8 : UInt8) (m2_9 : List UInt8) (m4_0 : UInt8) (m4_1 : UInt8) (m4_2 : Bool) (m4_3 : UInt8) (m4_4 : UInt8) (m4_5 : UInt8) (m4_6 : UInt8) (m4_7 : Bool) (m4_8 : UInt8) (m4_9 : List UInt8) : step C call 73 Tryd.f73 (unr C call run 73 Tryd.f73 400) K73_8 (S73_8 t1 t5 m2_0 m2_1 m2_2 m2_3 m2_4 m2_5 m2_6 m2_7 m2_8 m2_9 m4_0 m4_1 m4_2 m4_3 m4_4 m4_5 m4_6 m4_7 m4_8 m4_9) = X73_8 call run t1 t5 m2_0 m2_1 m2_2 m2_3 m2_4 m2_5 m2_6 m2_7 m2_8 m2_9 m4_0 m4_1 m4_2 m4_3 m4_4 m4_5 m4_6 m4_7 m4_8 m4_9 := by
  kernel_rfl
noncomputable def X73_20 (call : Nat → List AV → Option AV) (run : List Item → St → Option AV) (t1 : UInt8) (m2_0 : AV) (m2_1 : AV) (m2_2 : AV) (m2_3 : AV) (m2_4 : AV) (m2_5 : AV) (m2_6 : AV) (m2_7 : AV) (m2_8 : AV) (m2_9 : AV) (m4_0 : UInt8) (m4_1 : UInt8) (m4_2 : Bool) (m4_3 : UInt8) (m4_4 : UInt8) (m4_5 : UInt8) (m4_6 : UInt8) (m4_7 : Bool) (m4_8 : UInt8) (m4_9 : List UInt8) : Option AV :=
  (b2s (.ro 1 (([.u8 t1] : List AV)))).bind fun v1 => (call 97 [.ag [m2_0, m2_1, m2_2, m2_3, m2_4, m2_5, m2_6, m2_7, m2_8, m2_9], v1]).bind fun v2 => (AV.asAg 10 (v2)).bind fun v3 => (conv .i64 (v3.getD 0 .un)).bind fun v4 => (binI .eql (v4) (.int 17)).bind fun v5 => (selW (v5) true (some (.b (ueq t1 60))) (.b false)).bind fun v6 => condM (v6)
  (F73_23 run (.u8 18) (v3.getD 1 .un) (v3.getD 2 .un) (v3.getD 3 .un) (v3.getD 4 .un) (v3.getD 5 .un) (v3.getD 6 .un) (v3.getD 7 .un) (v3.getD 8 .un) (v3.getD 9 .un) m4_0 m4_1 m4_2 m4_3 m4_4 m4_5 m4_6 m4_7 m4_8 m4_9)
  (F73_23 run (v3.getD 0 .un) (v3.getD 1 .un) (v3.getD 2 .un) (v3.getD 3 .un) (v3.getD 4 .un) (v3.getD 5 .un) (v3.getD 6 .un) (v3.getD 7 .un) (v3.getD 8 .un) (v3.getD 9 .un) m4_0 m4_1 m4_2 m4_3 m4_4 m4_5 m4_6 m4_7 m4_8 m4_9)
theorem text73_20 (call : Nat → List AV → Option AV) (run : List Item → St → Option AV) (t1 : UInt8) (m2_0 : AV) (m2_1 : AV) (m2_2 : AV) (m2_3 : AV) (m2_4 : AV) (m2_5 : AV) (m2_6 : AV) (m2_7 : AV) (m2_8 : AV) (m2_9 : AV) (m4_0 : UInt8) (m4_1 : UInt8) (m4_2 : Bool) (m4_3 : UInt8) (m4_4 : UInt8) (m4_5 : UInt8) (m4_6 : UInt8) (m4_7 : Bool) (m4_8 : UInt8) (m4_9 : List UInt8) : step C call 73 Tryd.f73 (unr C call run 73 Tryd.f73 400) K73_20 (S73_20 t1 m2_0 m2_1 m2_2 m2_3 m2_4 m2_5 m2_6 m2_7 m2_8 m2_9 m4_0 m4_1 m4_2 m4_3 m4_4 m4_5 m4_6 m4_7 m4_8 m4_9) = X73_20 call run t1 m2_0 m2_1 m2_2 m2_3 m2_4 m2_5 m2_6 m2_7 m2_8 m2_9 m4_0 m4_1 m4_2 m4_3 m4_4 m4_5 m4_6 m4_7 m4_8 m4_9 := by
  kernel_rfl
noncomputable def X73_23 (call : Nat → List AV → Option AV) (run : List Item → St → Option AV) (m2_0 : AV) (m2_1 : AV) (m2_2 : AV) (m2_3 : AV) (m2_4 : AV) (m2_5 : AV) (m2_6 : AV) (m2_7 : AV) (m2_8 : AV) (m2_9 : AV) (m4_0 : UInt8) (m4_1 : UInt8) (m4_2 : Bool) (m4_3 : UInt8) (m4_4 : UInt8) (m4_5 : UInt8) (m4_6 : UInt8) (m4_7 : Bool) (m4_8 : UInt8) (m4_9 : List UInt8) : Option AV :=
  some (.ag [m2_0, m2_1, m2_2, m2_3, m2_4, m2_5, m2_6, m2_7, m2_8, m2_9])
theorem text73_23 (call : Nat → List AV → Option AV) (run : List Item → St → Option AV) (m2_0 : AV) (m2_1 : AV) (m2_2 : AV) (m2_3 : AV) (m2_4 : AV) (m2_5 : AV) (m2_6 : AV) (m2_7 : AV) (m2_8 : AV) (m2_9 : AV) (m4_0 : UInt8) (m4_1 : UInt8) (m4_2 : Bool) (m4_3 : UInt8) (m4_4 : UInt8) (m4_5 : UInt8) (m4_6 : UInt8) (m4_7 : Bool) (m4_8 : UInt8) (m4_9 : List UInt8) : step C call 73 Tryd.f73 (unr C call run 73 Tryd.f73 400) K73_23 (S73_23 m2_0 m2_1 m2_2 m2_3 m2_4 m2_5 m2_6 m2_7 m2_8 m2_9 m4_0 m4_1 m4_2 m4_3 m4_4 m4_5 m4_6 m4_7 m4_8 m4_9) = X73_23 call run m2_0 m2_1 m2_2 m2_3 m2_4 m2_5 m2_6 m2_7 m2_8 m2_9 m4_0 m4_1 m4_2 m4_3 m4_4 m4_5 m4_6 m4_7 m4_8 m4_9 := by
  kernel_rfl
theorem r73_8 (t1 : UInt8) (t5 : AV) (m2_0 : UInt8) (m2_1 : UInt8) (m2_2 : Bool) (m2_3 : UInt8) (m2_4 : UInt8) (m2_5 : UInt8) (m2_6 : UInt8) (m2_7 : Bool) (m2_8 : UInt8) (m2_9 : List UInt8) (m4_0 : UInt8) (m4_1 : UInt8) (m4_2 : Bool) (m4_3 : UInt8) (m4_4 : UInt8) (m4_5 : UInt8) (m4_6 : UInt8) (m4_7 : Bool) (m4_8 : UInt8) (m4_9 : List UInt8) {r : AV} (h : X73_8 (semCall C Tryd.prog) (semRun C Tryd.prog 73 Tryd.f73) t1 t5 m2_0 m2_1 m2_2 m2_3 m2_4 m2_5 m2_6 m2_7 m2_8 m2_9 m4_0 m4_1 m4_2 m4_3 m4_4 m4_5 m4_6 m4_7 m4_8 m4_9 = some r) : F73_8 (semRun C Tryd.prog 73 Tryd.f73) t1 t5 m2_0 m2_1 m2_2 m2_3 m2_4 m2_5 m2_6 m2_7 m2_8 m2_9 m4_0 m4_1 m4_2 m4_3 m4_4 m4_5 m4_6 m4_7 m4_8 m4_9 = some r :=
  semRun_unr 400 ((text73_8 _ _ t1 t5 m2_0 m2_1 m2_2 m2_3 m2_4 m2_5 m2_6 m2_7 m2_8 m2_9 m4_0 m4_1 m4_2 m4_3 m4_4 m4_5 m4_6 m4_7 m4_8 m4_9).trans h)
theorem r73_20 (t1 : UInt8) (m2_0 : AV) (m2_1 : AV) (m2_2 : AV) (m2_3 : AV) (m2_4 : AV) (m2_5 : AV) (m2_6 : AV) (m2_7 : AV) (m2_8 : AV) (m2_9 : AV) (m4_0 : UInt8) (m4_1 : UInt8) (m4_2 : Bool) (m4_3 : UInt8) (m4_4 : UInt8) (m4_5 : UInt8) (m4_6 : UInt8) (m4_7 : Bool) (m4_8 : UInt8) (m4_9 : List UInt8) {r : AV} (h : X73_20 (semCall C Tryd.prog) (semRun C Tryd.prog 73 Tryd.f73) t1 m2_0 m2_1 m2_2 m2_3 m2_4 m2_5 m2_6 m2_7 m2_8 m2_9 m4_0 m4_1 m4_2 m4_3 m4_4 m4_5 m4_6 m4_7 m4_8 m4_9 = some r) : F73_20 (semRun C Tryd.prog 73 Tryd.f73) t1 m2_0 m2_1 m2_2 m2_3 m2_4 m2_5 m2_6 m2_7 m2_8 m2_9 m4_0 m4_1 m4_2 m4_3 m4_4 m4_5 m4_6 m4_7 m4_8 m4_9 = some r :=
  semRun_unr 400 ((text73_20 _ _ t1 m2_0 m2_1 m2_2 m2_3 m2_4 m2_5 m2_6 m2_7 m2_8 m2_9 m4_0 m4_1 m4_2 m4_3 m4_4 m4_5 m4_6 m4_7 m4_8 m4_9).trans h)
theorem r73_23 (m2_0 : AV) (m2_1 : AV) (m2_2 : AV) (m2_3 : AV) (m2_4 : AV) (m2_5 : AV) (m2_6 : AV) (m2_7 : AV) (m2_8 : AV) (m2_9 : AV) (m4_0 : UInt8) (m4_1 : UInt8) (m4_2 : Bool) (m4_3 : UInt8) (m4_4 : UInt8) (m4_5 : UInt8) (m4_6 : UInt8) (m4_7 : Bool) (m4_8 : UInt8) (m4_9 : List UInt8) {r : AV} (h : X73_23 (semCall C Tryd.prog) (semRun C Tryd.prog 73 Tryd.f73) m2_0 m2_1 m2_2 m2_3 m2_4 m2_5 m2_6 m2_7 m2_8 m2_9 m4_0 m4_1 m4_2 m4_3 m4_4 m4_5 m4_6 m4_7 m4_8 m4_9 = some r) : F73_23 (semRun C Tryd.prog 73 Tryd.f73) m2_0 m2_1 m2_2 m2_3 m2_4 m2_5 m2_6 m2_7 m2_8 m2_9 m4_0 m4_1 m4_2 m4_3 m4_4 m4_5 m4_6 m4_7 m4_8 m4_9 = some r :=
  semRun_unr 400 ((text73_23 _ _ m2_0 m2_1 m2_2 m2_3 m2_4 m2_5 m2_6 m2_7 m2_8 m2_9 m4_0 m4_1 m4_2 m4_3 m4_4 m4_5 m4_6 m4_7 m4_8 m4_9).trans h)
end R2

namespace R2
open Go Go.Proofs Sx
noncomputable def body74 : Code := (Tryd.f74.body).getD .skip
noncomputable def K74_4 : List Item := (kAt 4 body74 []).getD []
def S74_4 (t1 : UInt8) (m2_0 : UInt8) (m2_1 : UInt8) (m2_2 : Bool) (m2_3 : UInt8) (m2_4 : UInt8) (m2_5 : UInt8) (m2_6 : UInt8) (m2_7 : Bool) (m2_8 : UInt8) (m2_9 : List UInt8) (m4_0 : UInt8) (m4_1 : UInt8) (m4_2 : Bool) (m4_3 : UInt8) (m4_4 : UInt8) (m4_5 : UInt8) (m4_6 : UInt8) (m4_7 : Bool) (m4_8 : UInt8) (m4_9 : List UInt8) : St := St.ofL [(1, .cell (.val (.u8 t1))), (2, .cell (.ptr 2 0)), (4, .cell (.ptr 4 0))] [(2, some [.val (.u8 m2_0), .val (.u8 m2_1), .val (.b m2_2), .val (.u8 m2_3), .val (.u8 m2_4), .val (.u8 m2_5), .val (.u8 m2_6), .val (.b m2_7), .val (.u8 m2_8), .val (.s m2_9)]), (4, some [.val (.u8 m4_0), .val (.u8 m4_1), .val (.b m4_2), .val (.u8 m4_3), .val (.u8 m4_4), .val (.u8 m4_5), .val (.u8 m4_6), .val (.b m4_7), .val (.u8 m4_8), .val (.s m4_9)])]
noncomputable def F74_4 (run : List Item → St → Option AV) (t1 : UInt8) (m2_0 : UInt8) (m2_1 : UInt8) (m2_2 : Bool) (m2_3 : UInt8) (m2_4 : UInt8) (m2_5 : UInt8) (m2_6 : UInt8) (m2_7 : Bool) (m2_8 : UInt8) (m2_9 : List UInt8) (m4_0 : UInt8) (m4_1 : UInt8) (m4_2 : Bool) (m4_3 : UInt8) (m4_4 : UInt8) (m4_5 : UInt8) (m4_6 : UInt8) (m4_7 : Bool) (m4_8 : UInt8) (m4_9 : List UInt8) : Option AV := run K74_4 (S74_4 t1 m2_0 m2_1 m2_2 m2_3 m2_4 m2_5 m2_6 m2_7 m2_8 m2_9 m4_0 m4_1 m4_2 m4_3 m4_4 m4_5 m4_6 m4_7 m4_8 m4_9)
noncomputable def K74_11 : List Item := (kAt 11 body74 []).getD []
def S74_11 (t1 : UInt8) (t7 : Int) (m2_0 : UInt8) (m2_1 : UInt8) (m2_2 : Bool) (m2_3 : UInt8) (m2_4 : UInt8) (m2_5 : UInt8) (m2_6 : UInt8) (m2_7 : Bool) (m2_8 : UInt8) (m2_9 : List UInt8) (m4_0 : UInt8) (m4_1 : UInt8) (m4_2 : Bool) (m4_3 : UInt8) (m4_4 : UInt8) (m4_5 : UInt8) (m4_6 : UInt8) (m4_7 : Bool) (m4_8 : UInt8) (m4_9 : List UInt8) : St := St.ofL [(1, .cell (.val (.u8 t1))), (2, .cell (.ptr 2 0)), (4, .cell (.ptr 4 0)), (7, .cell (.val (.int t7)))] [(2, some [.val (.u8 m2_0), .val (.u8 m2_1), .val (.b m2_2), .val (.u8 m2_3), .val (.u8 m2_4), .val (.u8 m2_5), .val (.u8 m2_6), .val (.b m2_7), .val (.u8 m2_8), .val (.s m2_9)]), (4, some [.val (.u8 m4_0), .val (.u8 m4_1), .val (.b m4_2), .val (.u8 m4_3), .val (.u8 m4_4), .val (.u8 m4_5), .val (.u8 m4_6), .val (.b m4_7), .val (.u8 m4_8), .val (.s m4_9)])]
noncomputable def F74_11 (run : List Item → St → Option AV) (t1 : UInt8) (t7 : Int) (m2_0 : UInt8) (m2_1 : UInt8) (m2_2 : Bool) (m2_3 : UInt8) (m2_4 : UInt8) (m2_5 : UInt8) (m2_6 : UInt8) (m2_7 : Bool) (m2_8 : UInt8) (m2_9 : List UInt8) (m4_0 : UInt8) (m4_1 : UInt8) (m4_2 : Bool) (m4_3 : UInt8) (m4_4 : UInt8) (m4_5 : UInt8) (m4_6 : UInt8) (m4_7 : Bool) (m4_8 : UInt8) (m4_9 : List UInt8) : Option AV := run K74_11 (S74_11 t1 t7 m2_0 m2_1 m2_2 m2_3 m2_4 m2_5 m2_6 m2_7 m2_8 m2_9 m4_0 m4_1 m4_2 m4_3 m4_4 m4_5 m4_6 m4_7 m4_8 m4_9)
noncomputable def K74_13 : List Item := (kAt 13 body74 []).getD []
def S74_13 (t1 : UInt8) (m2_0 : UInt8) (m2_1 : UInt8) (m2_2 : Bool) (m2_3 : UInt8) (m2_4 : UInt8) (m2_5 : UInt8) (m2_6 : UInt8) (m2_7 : Bool) (m2_8 : UInt8) (m2_9 : List UInt8) (m4_0 : UInt8) (m4_1 : UInt8) (m4_2 : Bool) (m4_3 : UInt8) (m4_4 : UInt8) (m4_5 : UInt8) (m4_6 : UInt8) (m4_7 : Bool) (m4_8 : UInt8) (m4_9 : List UInt8) : St := St.ofL [(1, .cell (.val (.u8 t1))), (2, .cell (.ptr 2 0)), (4, .cell (.ptr 4 0))] [(2, some [.val (.u8 m2_0), .val (.u8 m2_1), .val (.b m2_2), .val (.u8 m2_3), .val (.u8 m2_4), .val (.u8 m2_5), .val (.u8 m2_6), .val (.b m2_7), .val (.u8 m2_8), .val (.s m2_9)]), (4, some [.val (.u8 m4_0), .val (.u8 m4_1), .val (.b m4_2), .val (.u8 m4_3), .val (.u8 m4_4), .val (.u8 m4_5), .val (.u8 m4_6), .val (.b m4_7), .val (.u8 m4_8), .val (.s m4_9)])]
noncomputable def F74_13 (run : List Item → St → Option AV) (t1 : UInt8) (m2_0 : UInt8) (m2_1 : UInt8) (m2_2 : Bool) (m2_3 : UInt8) (m2_4 : UInt8) (m2_5 : UInt8) (m2_6 : UInt8) (m2_7 : Bool) (m2_8 : UInt8) (m2_9 : List UInt8) (m4_0 : UInt8) (m4_1 : UInt8) (m4_2 : Bool) (m4_3 : UInt8) (m4_4 : UInt8) (m4_5 : UInt8) (m4_6 : UInt8) (m4_7 : Bool) (m4_8 : UInt8) (m4_9 : List UInt8) : Option AV := run K74_13 (S74_13 t1 m2_0 m2_1 m2_2 m2_3 m2_4 m2_5 m2_6 m2_7 m2_8 m2_9 m4_0 m4_1 m4_2 m4_3 m4_4 m4_5 m4_6 m4_7 m4_8 m4_9)
noncomputable def K74_20 : List Item := (kAt 20 body74 []).getD []
def S74_20 (t1 : UInt8) (t7 : Int) (m2_0 : UInt8) (m2_1 : UInt8) (m2_2 : Bool) (m2_3 : UInt8) (m2_4 : UInt8) (m2_5 : UInt8) (m2_6 : UInt8) (m2_7 : Bool) (m2_8 : UInt8) (m2_9 : List UInt8) (m4_0 : UInt8) (m4_1 : UInt8) (m4_2 : Bool) (m4_3 : UInt8) (m4_4 : UInt8) (m4_5 : UInt8) (m4_6 : UInt8) (m4_7 : Bool) (m4_8 : UInt8) (m4_9 : List UInt8) : St := St.ofL [(1, .cell (.val (.u8 t1))), (2, .cell (.ptr 2 0)), (4, .cell (.ptr 4 0)), (7, .cell (.val (.int t7)))] [(2, some [.val (.u8 m2_0), .val (.u8 m2_1), .val (.b m2_2), .val (.u8 m2_3), .val (.u8 m2_4), .val (.u8 m2_5), .val (.u8 m2_6), .val (.b m2_7), .val (.u8 m2_8), .val (.s m2_9)]), (4, some [.val (.u8 m4_0), .val (.u8 m4_1), .val (.b m4_2), .val (.u8 m4_3), .val (.u8 m4_4), .val (.u8 m4_5), .val (.u8 m4_6), .val (.b m4_7), .val (.u8 m4_8), .val (.s m4_9)])]
noncomputable def F74_20 (run : List Item → St → Option AV) (t1 : UInt8) (t7 : Int) (m2_0 : UInt8) (m2_1 : UInt8) (m2_2 : Bool) (m2_3 : UInt8) (m2_4 : UInt8) (m2_5 : UInt8) (m2_6 : UInt8) (m2_7 : Bool) (m2_8 : UInt8) (m2_9 : List UInt8) (m4_0 : UInt8) (m4_1 : UInt8) (m4_2 : Bool) (m4_3 : UInt8) (m4_4 : UInt8) (m4_5 : UInt8) (m4_6 : UInt8) (m4_7 : Bool) (m4_8 : UInt8) (m4_9 : List UInt8) : Option AV := run K74_20 (S74_20 t1 t7 m2_0 m2_1 m2_2 m2_3 m2_4 m2_5 m2_6 m2_7 m2_8 m2_9 m4_0 m4_1 m4_2 m4_3 m4_4 m4_5 m4_6 m4_7 m4_8 m4_9)
noncomputable def K74_24 : List Item := (kAt 24 body74 []).getD []
def S74_24 (m2_0 : UInt8) (m2_1 : UInt8) (m2_2 : Bool) (m2_3 : UInt8) (m2_4 : UInt8) (m2_5 : UInt8) (m2_6 : UInt8) (m2_7 : Bool) (m2_8 : AV) (m2_9 : List UInt8) (m4_0 : UInt8) (m4_1 : UInt8) (m4_2 : Bool) (m4_3 : UInt8) (m4_4 : UInt8) (m4_5 : UInt8) (m4_6 : UInt8) (m4_7 : Bool) (m4_8 : UInt8) (m4_9 : List UInt8) : St := St.ofL [(2, .cell (.ptr 2 0)), (4, .cell (.ptr 4 0))] [(2, some [.val (.u8 m2_0), .val (.u8 m2_1), .val (.b m2_2), .val (.u8 m2_3), .val (.u8 m2_4), .val (.u8 m2_5), .val (.u8 m2_6), .val (.b m2_7), .val (m2_8), .val (.s m2_9)]), (4, some [.val (.u8 m4_0), .val (.u8 m4_1), .val (.b m4_2), .val (.u8 m4_3), .val (.u8 m4_4), .val (.u8 m4_5), .val (.u8 m4_6), .val (.b m4_7), .val (.u8 m4_8), .val (.s m4_9)])]
noncomputable def F74_24 (run : List Item → St → Option AV) (m2_0 : UInt8) (m2_1 : UInt8) (m2_2 : Bool) (m2_3 : UInt8) (m2_4 : UInt8) (m2_5 : UInt8) (m2_6 : UInt8) (m2_7 : Bool) (m2_8 : AV) (m2_9 : List UInt8) (m4_0 : UInt8) (m4_1 : UInt8) (m4_2 : Bool) (m4_3 : UInt8) (m4_4 : UInt8) (m4_5 : UInt8) (m4_6 : UInt8) (m4_7 : Bool) (m4_8 : UInt8) (m4_9 : List UInt8) : Option AV := run K74_24 (S74_24 m2_0 m2_1 m2_2 m2_3 m2_4 m2_5 m2_6 m2_7 m2_8 m2_9 m4_0 m4_1 m4_2 m4_3 m4_4 m4_5 m4_6 m4_7 m4_8 m4_9)
noncomputable def K74_33 : List Item := (kAt 33 body74 []).getD []
def S74_33 (m2_0 : UInt8) (m2_1 : UInt8) (m2_2 : Bool) (m2_3 : UInt8) (m2_4 : UInt8) (m2_5 : UInt8) (m2_6 : UInt8) (m2_7 : Bool) (m2_8 : UInt8) (m2_9 : List UInt8) (m4_0 : UInt8) (m4_1 : UInt8) (m4_2 : Bool) (m4_3 : UInt8) (m4_4 : UInt8) (m4_5 : UInt8) (m4_6 : UInt8) (m4_7 : Bool) (m4_8 : UInt8) (m4_9 : List UInt8) : St := St.ofL [(2, .cell (.ptr 2 0)), (4, .cell (.ptr 4 0))] [(2, some [.val (.u8 m2_0), .val (.u8 m2_1), .val (.b m2_2), .val (.u8 m2_3), .val (.u8 m2_4), .val (.u8 m2_5), .val (.u8 m2_6), .val (.b m2_7), .val (.u8 m2_8), .val (.s m2_9)]), (4, some [.val (.u8 m4_0), .val (.u8 m4_1), .val (.b m4_2), .val (.u8 m4_3), .val (.u8 m4_4), .val (.u8 m4_5), .val (.u8 m4_6), .val (.b m4_7), .val (.u8 m4_8), .val (.s m4_9)])]
noncomputable def F74_33 (run : List Item → St → Option AV) (m2_0 : UInt8) (m2_1 : UInt8) (m2_2 : Bool) (m2_3 : UInt8) (m2_4 : UInt8) (m2_5 : UInt8) (m2_6 : UInt8) (m2_7 : Bool) (m2_8 : UInt8) (m2_9 : List UInt8) (m4_0 : UInt8) (m4_1 : UInt8) (m4_2 : Bool) (m4_3 : UInt8) (m4_4 : UInt8) (m4_5 : UInt8) (m4_6 : UInt8) (m4_7 : Bool) (m4_8 : UInt8) (m4_9 : List UInt8) : Option AV := run K74_33 (S74_33 m2_0 m2_1 m2_2 m2_3 m2_4 m2_5 m2_6 m2_7 m2_8 m2_9 m4_0 m4_1 m4_2 m4_3 m4_4 m4_5 m4_6 m4_7 m4_8 m4_9)
noncomputable def X74 (call : Nat → List AV → Option AV) (run : List Item → St → Option AV) (x0_0 : UInt8) (x0_1 : UInt8) (x0_2 : Bool) (x0_3 : UInt8) (x0_4 : UInt8) (x0_5 : UInt8) (x0_6 : UInt8) (x0_7 : Bool) (x0_8 : UInt8) (x0_9 : List UInt8) (x1 : UInt8) : Option AV :=
  condM (.b ((w64 (x0_0.toNat : Int)) == 11))
  (F74_4 run x1 x0_0 x0_1 x0_2 x0_3 x0_4 x0_5 x0_6 x0_7 x0_8 x0_9 0 0 false 0 0 0 0 false 0 [])
  (condM (.b ((w64 (x0_0.toNat : Int)) == 12))
  (F74_4 run x1 x0_0 x0_1 x0_2 x0_3 x0_4 x0_5 x0_6 x0_7 x0_8 x0_9 0 0 false 0 0 0 0 false 0 [])
  (F74_11 run x1 (w64 (x0_0.toNat : Int)) x0_0 x0_1 x0_2 x0_3 x0_4 x0_5 x0_6 x0_7 x0_8 x0_9 0 0 false 0 0 0 0 false 0 []))
theorem text74 (call : Nat → List AV → Option AV) (run : List Item → St → Option AV) (x0_0 : UInt8) (x0_1 : UInt8) (x0_2 : Bool) (x0_3 : UInt8) (x0_4 : UInt8) (x0_5 : UInt8) (x0_6 : UInt8) (x0_7 : Bool) (x0_8 : UInt8) (x0_9 : List UInt8) (x1 : UInt8) : unr C call run 74 Tryd.f74 400 [.code body74] (initSt [.ag [.u8 x0_0, .u8 x0_1, .b x0_2, .u8 x0_3, .u8 x0_4, .u8 x0_5, .u8 x0_6, .b x0_7, .u8 x0_8, .s x0_9], .u8 x1]) = X74 call run x0_0 x0_1 x0_2 x0_3 x0_4 x0_5 x0_6 x0_7 x0_8 x0_9 x1 := by
  kernel_rfl
theorem c74 (x0_0 : UInt8) (x0_1 : UInt8) (x0_2 : Bool) (x0_3 : UInt8) (x0_4 : UInt8) (x0_5 : UInt8) (x0_6 : UInt8) (x0_7 : Bool) (x0_8 : UInt8) (x0_9 : List UInt8) (x1 : UInt8) {r : AV} (h : X74 (semCall C Tryd.prog) (semRun C Tryd.prog 74 Tryd.f74) x0_0 x0_1 x0_2 x0_3 x0_4 x0_5 x0_6 x0_7 x0_8 x0_9 x1 = some r) : semCall C Tryd.prog 74 [.ag [.u8 x0_0, .u8 x0_1, .b x0_2, .u8 x0_3, .u8 x0_4, .u8 x0_5, .u8 x0_6, .b x0_7, .u8 x0_8, .s x0_9], .u8 x1] = some r :=
  semCall_unr (fn := Tryd.f74) (c := body74) (by kernel_rfl) (by kernel_rfl) 400 (by kernel_rfl) ((text74 _ _ x0_0 x0_1 x0_2 x0_3 x0_4 x0_5 x0_6 x0_7 x0_8 x0_9 x1).trans h)
noncomputable def X74_4 (call : Nat → List AV → Option AV) (run : List Item → St → Option AV) (t1 : UInt8) (m2_0 : UInt8) (m2_1 : UInt8) (m2_2 : Bool) (m2_3 : UInt8) (m2_4 : UInt8) (m2_5 : UInt8) (m2_6 : UInt8) (m2_7 : Bool) (m2_8 : UInt8) (m2_9 : List UInt8) (m4_0 : UInt8) (m4_1 : UInt8) (m4_2 : Bool) (m4_3 : UInt8) (m4_4 : UInt8) (m4_5 : UInt8) (m4_6 : UInt8) (m4_7 : Bool) (m4_8 : UInt8) (m4_9 : List UInt8) : Option AV :=
  condM (.b (ueq t1 62))
  ((call 67 [.int 0]).bind fun v1 => (AV.asAg 10 (v1)).bind fun v2 => some (.ag [v2.getD 0 .un, v2.getD 1 .un, v2.getD 2 .un, v2.getD 3 .un, v2.getD 4 .un, v2.getD 5 .un, v2.getD 6 .un, v2.getD 7 .un, v2.getD 8 .un, v2.getD 9 .un]))
  (condM (.b (ueq t1 45))
  (condM (.b ((w64 (m2_0.toNat : Int)) == 11))
  ((call 67 [.int 12]).bind fun v3 => (AV.asAg 10 (v3)).bind fun v4 => some (.ag [v4.getD 0 .un, v4.getD 1 .un, v4.getD 2 .un, v4.getD 3 .un, v4.getD 4 .un, v4.getD 5 .un, v4.getD 6 .un, v4.getD 7 .un, v4.getD 8 .un, v4.getD 9 .un]))
  ((call 67 [.int 13]).bind fun v5 => (AV.asAg 10 (v5)).bind fun v6 => some (.ag [v6.getD 0 .un, v6.getD 1 .un, v6.getD 2 .un, v6.getD 3 .un, v6.getD 4 .un, v6.getD 5 .un, v6.getD 6 .un, v6.getD 7 .un, v6.getD 8 .un, v6.getD 9 .un])))
  ((call 67 [.int 16]).bind fun v7 => (AV.asAg 10 (v7)).bind fun v8 => some (.ag [v8.getD 0 .un, v8.getD 1 .un, v8.getD 2 .un, v8.getD 3 .un, v8.getD 4 .un, v8.getD 5 .un, v8.getD 6 .un, v8.getD 7 .un, v8.getD 8 .un, v8.getD 9 .un])))
theorem text74_4 (call : Nat → List AV → Option AV) (run : List Item → St → Option AV) (t1 : UInt8) (m2_0 : UInt8) (m2_1 : UInt8) (m2_2 : Bool) (m2_3 : UInt8) (m2_4 : UInt8) (m2_5 : UInt8) (m2_6 : UInt8) (m2_7 : Bool) (m2_8 : UInt8) (m2_9 : List UInt8) (m4_0 : UInt8) (m4_1 : UInt8) (m4_2 : Bool) (m4_3 : UInt8) (m4_4 : UInt8) (m4_5 : UInt8) (m4_6 : UInt8) (m4_7 : Bool) (m4_8 : UInt8) (m4_9 : List UInt8) : step C call 74 Tryd.f74 (unr C call run 74 Tryd.f74 400) K74_4 (S74_4 t1 m2_0 m2_1 m2_2 m2_3 m2_4 m2_5 m2_6 m2_7 m2_8 m2_9 m4_0 m4_1 m4_2 m4_3 m4_4 m4_5 m4_6 m4_7 m4_8 m4_9) = X74_4 call run t1 m2_0 m2_1 m2_2 m2_3 m2_4 m2_5 m2_6 m2_7 m2_8 m2_9 m4_0 m4_1 m4_2 m4_3 m4_4 m4_5 m4_6 m4_7 m4_8 m4_9 := by
  kernel_rfl
noncomputable def X74_11 (call : Nat → List AV → Option AV) (run : List Item → St → Option AV) (t1 : UInt8) (t7 : Int) (m2_0 : UInt8) (m2_1 : UInt8) (m2_2 : Bool) (m2_3 : UInt8) (m2_4 : UInt8) (m2_5 : UInt8) (m2_6 : UInt8) (m2_7 : Bool) (m2_8 : UInt8) (m2_9 : List UInt8) (m4_0 : UInt8) (m4_1 : UInt8) (m4_2 : Bool) (m4_3 : UInt8) (m4_4 : UInt8) (m4_5 : UInt8) (m4_6 : UInt8) (m4_7 : Bool) (m4_8 : UInt8) (m4_9 : List UInt8) : Option AV :=
  condM (.b (t7 == 13))
  (F74_13 run t1 m2_0 m2_1 m2_2 m2_3 m2_4 m2_5 m2_6 m2_7 m2_8 m2_9 m4_0 m4_1 m4_2 m4_3 m4_4 m4_5 m4_6 m4_7 m4_8 m4_9)
  (condM (.b (t7 == 14))
  (F74_13 run t1 m2_0 m2_1 m2_2 m2_3 m2_4 m2_5 m2_6 m2_7 m2_8 m2_9 m4_0 m4_1 m4_2 m4_3 m4_4 m4_5 m4_6 m4_7 m4_8 m4_9)
  (F74_20 run t1 t7 m2_0 m2_1 m2_2 m2_3 m2_4 m2_5 m2_6 m2_7 m2_8 m2_9 m4_0 m4_1 m4_2 m4_3 m4_4 m4_5 m4_6 m4_7 m4_8 m4_9))
theorem text74_11 (call : Nat → List AV → Option AV) (run : List Item → St → Option AV) (t1 : UInt8) (t7 : Int) (m2_0 : UInt8) (m2_1 : UInt8) (m2_2 : Bool) (m2_3 : UInt8) (m2_4 : UInt8) (m2_5 : UInt8) (m2_6 : UInt8) (m2_7 : Bool) (m2_8 : UInt8) (m2_9 : List UInt8) (m4_0 : UInt8) (m4_1 : UInt8) (m4_2 : Bool) (m4_3 : UInt8) (m4_4 : UInt8) (m4_5 : UInt8) (m4_6 : UInt8) (m4_7 : Bool) (m4_8 : UInt8) (m4_9 : List UInt8) : step C call 74 Tryd.f74 (unr C call run 74 Tryd.f74 400) K74_11 (S74_11 t1 t7 m2_0 m2_1 m2_2 m2_3 m2_4 m2_5 m2_6 m2_7 m2_8 m2_9 m4_0 m4_1 m4_2 m4_3 m4_4 m4_5 m4_6 m4_7 m4_8 m4_9) = X74_11 call run t1 t7 m2_0 m2_1 m2_2 m2_3 m2_4 m2_5 m2_6 m2_7 m2_8 m2_9 m4_0 m4_1 m4_2 m4_3 m4_4 m4_5 m4_6 m4_7 m4_8 m4_9 := by
  kernel_rfl
noncomputable def X74_13 (call : Nat → List AV → Option AV) (run : List Item → St → Option AV) (t1 : UInt8) (m2_0 : UInt8) (m2_1 : UInt8) (m2_2 : Bool) (m2_3 : UInt8) (m2_4 : UInt8) (m2_5 : UInt8) (m2_6 : UInt8) (m2_7 : Bool) (m2_8 : UInt8) (m2_9 : List UInt8) (m4_0 : UInt8) (m4_1 : UInt8) (m4_2 : Bool) (m4_3 : UInt8) (m4_4 : UInt8) (m4_5 : UInt8) (m4_6 : UInt8) (m4_7 : Bool) (m4_8 : UInt8) (m4_9 : List UInt8) : Option AV :=
  condM (.b (ueq t1 62))
  ((call 41 []).bind fun v1 => (AV.asAg 10 (v1)).bind fun v2 => some (.ag [v2.getD 0 .un, v2.getD 1 .un, v2.getD 2 .un, v2.getD 3 .un, v2.getD 4 .un, v2.getD 5 .un, v2.getD 6 .un, v2.getD 7 .un, v2.getD 8 .un, v2.getD 9 .un]))
  (condM (.b (une t1 45))
  ((call 67 [.int 15]).bind fun v3 => (AV.asAg 10 (v3)).bind fun v4 => some (.ag [v4.getD 0 .un, v4.getD 1 .un, v4.getD 2 .un, v4.getD 3 .un, v4.getD 4 .un, v4.getD 5 .un, v4.getD 6 .un, v4.getD 7 .un, v4.getD 8 .un, v4.getD 9 .un]))
  (condM (.b ((w64 (m2_0.toNat : Int)) == 13))
  ((call 67 [.int 14]).bind fun v5 => (AV.asAg 10 (v5)).bind fun v6 => some (.ag [v6.getD 0 .un, v6.getD 1 .un, v6.getD 2 .un, v6.getD 3 .un, v6.getD 4 .un, v6.getD 5 .un, v6.getD 6 .un, v6.getD 7 .un, v6.getD 8 .un, v6.getD 9 .un]))
  (some (.ag [.u8 15, .u8 0, .b false, .u8 0, .u8 0, .u8 0, .u8 0, .b false, .u8 2, .s []]))))
theorem text74_13 (call : Nat → List AV → Option AV) (run : List Item → St → Option AV) (t1 : UInt8) (m2_0 : UInt8) (m2_1 : UInt8) (m2_2 : Bool) (m2_3 : UInt8) (m2_4 : UInt8) (m2_5 : UInt8) (m2_6 : UInt8) (m2_7 : Bool) (m2_8 : UInt8) (m2_9 : List UInt8) (m4_0 : UInt8) (m4_1 : UInt8) (m4_2 : Bool) (m4_3 : UInt8) (m4_4 : UInt8) (m4_5 : UInt8) (m4_6 : UInt8) (m4_7 : Bool) (m4_8 : UInt8) (m4_9 : List UInt8) : step C call 74 Tryd.f74 (unr C call run 74 Tryd.f74 400) K74_13 (S74_13 t1 m2_0 m2_1 m2_2 m2_3 m2_4 m2_5 m2_6 m2_7 m2_8 m2_9 m4_0 m4_1 m4_2 m4_3 m4_4 m4_5 m4_6 m4_7 m4_8 m4_9) = X74_13 call run t1 m2_0 m2_1 m2_2 m2_3 m2_4 m2_5 m2_6 m2_7 m2_8 m2_9 m4_0 m4_1 m4_2 m4_3 m4_4 m4_5 m4_6 m4_7 m4_8 m4_9 := by
  kernel_rfl
noncomputable def X74_20 (call : Nat → List AV → Option AV) (run : List Item → St → Option AV) (t1 : UInt8) (t7 : Int) (m2_0 : UInt8) (m2_1 : UInt8) (m2_2 : Bool) (m2_3 : UInt8) (m2_4 : UInt8) (m2_5 : UInt8) (m2_6 : UInt8) (m2_7 : Bool) (m2_8 : UInt8) (m2_9 : List UInt8) (m4_0 : UInt8) (m4_1 : UInt8) (m4_2 : Bool) (m4_3 : UInt8) (m4_4 : UInt8) (m4_5 : UInt8) (m4_6 : UInt8) (m4_7 : Bool) (m4_8 : UInt8) (m4_9 : List UInt8) : Option AV :=
  condM (.b (t7 == 15))
  (condM (.b (ueq t1 45))
  (condM (.b (ult m2_8 2))
  ((binI .add (.u8 m2_8) (.u8 1)).bind fun v1 => (AV.one (v1)).bind fun v2 => F74_24 run m2_0 m2_1 m2_2 m2_3 m2_4 m2_5 m2_6 m2_7 (v2) m2_9 m4_0 m4_1 m4_2 m4_3 m4_4 m4_5 m4_6 m4_7 m4_8 m4_9)
  (F74_24 run m2_0 m2_1 m2_2 m2_3 m2_4 m2_5 m2_6 m2_7 (.u8 m2_8) m2_9 m4_0 m4_1 m4_2 m4_3 m4_4 m4_5 m4_6 m4_7 m4_8 m4_9))
  ((selW (.b (ueq m2_8 2)) true (some (.b (ueq t1 62))) (.b false)).bind fun v3 => condM (v3)
  ((call 67 [.int 0]).bind fun v4 => (AV.asAg 10 (v4)).bind fun v5 => some (.ag [v5.getD 0 .un, v5.getD 1 .un, v5.getD 2 .un, v5.getD 3 .un, v5.getD 4 .un, v5.getD 5 .un, v5.getD 6 .un, v5.getD 7 .un, v5.getD 8 .un, v5.getD 9 .un]))
  ((selW (.b (ueq m2_8 2)) true (some (.b (ueq t1 33))) (.b false)).bind fun v6 => condM (v6)
  ((call 41 []).bind fun v7 => (AV.asAg 10 (v7)).bind fun v8 => some (.ag [v8.getD 0 .un, v8.getD 1 .un, v8.getD 2 .un, v8.getD 3 .un, v8.getD 4 .un, v8.getD 5 .un, v8.getD 6 .un, v8.getD 7 .un, v8.getD 8 .un, v8.getD 9 .un]))
  ((call 67 [.int 15]).bind fun v9 => (AV.asAg 10 (v9)).bind fun v10 => some (.ag [v10.getD 0 .un, v10.getD 1 .un, v10.getD 2 .un, v10.getD 3 .un, v10.getD 4 .un, v10.getD 5 .un, v10.getD 6 .un, v10.getD 7 .un, v10.getD 8 .un, v10.getD 9 .un])))))
  (condM (.b (t7 == 16))
  (condM (.b (ueq t1 62))
  ((call 67 [.int 0]).bind fun v11 => (AV.asAg 10 (v11)).bind fun v12 => some (.ag [v12.getD 0 .un, v12.getD 1 .un, v12.getD 2 .un, v12.getD 3 .un, v12.getD 4 .un, v12.getD 5 .un, v12.getD 6 .un, v12.getD 7 .un, v12.getD 8 .un, v12.getD 9 .un]))
  (F74_33 run m2_0 m2_1 m2_2 m2_3 m2_4 m2_5 m2_6 m2_7 m2_8 m2_9 m4_0 m4_1 m4_2 m4_3 m4_4 m4_5 m4_6 m4_7 m4_8 m4_9))
  (F74_33 run m2_0 m2_1 m2_2 m2_3 m2_4 m2_5 m2_6 m2_7 m2_8 m2_9 m4_0 m4_1 m4_2 m4_3 m4_4 m4_5 m4_6 m4_7 m4_8 m4_9))
theorem text74_20 (call : Nat → List AV → Option AV) (run : List Item → St → Option AV) (t1 : UInt8) (t7 : Int) (m2_0 : UInt8) (m2_1 : UInt8) (m2_2 : Bool) (m2_3 : UInt8) (m2_4 : UInt8) (m2_5 : UInt8) (m2_6 : UInt8) (m2_7 : Bool) (m2_8 : UInt8) (m2_9 : List UInt8) (m4_0 : UInt8) (m4_1 : UInt8) (m4_2 : Bool) (m4_3 : UInt8) (m4_4 : UInt8) (m4_5 : UInt8) (m4_6 : UInt8) (m4_7 : Bool) (m4_8 : UInt8) (m4_9 : List UInt8) : step C call 74 Tryd.f74 (unr C call run 74 Tryd.f74 400) K74_20 (S74_20 t1 t7 m2_0 m2_1 m2_2 m2_3 m2_4 m2_5 m2_6 m2_7 m2_8 m2_9 m4_0 m4_1 m4_2 m4_3 m4_4 m4_5 m4_6 m4_7 m4_8 m4_9) = X74_20 call run t1 t7 m2_0 m2_1 m2_2 m2_3 m2_4 m2_5 m2_6 m2_7 m2_8 m2_9 m4_0 m4_1 m4_2 m4_3 m4_4 m4_5 m4_6 m4_7 m4_8 m4_9 := by
  kernel_rfl
noncomputable def X74_24 (call : Nat → List AV → Option AV) (run : List Item → St → Option AV) (m2_0 : UInt8) (m2_1 : UInt8) (m2_2 : Bool) (m2_3 : UInt8) (m2_4 : UInt8) (m2_5 : UInt8) (m2_6 : UInt8) (m2_7 : Bool) (m2_8 : AV) (m2_9 : List UInt8) (m4_0 : UInt8) (m4_1 : UInt8) (m4_2 : Bool) (m4_3 : UInt8) (m4_4 : UInt8) (m4_5 : UInt8) (m4_6 : UInt8) (m4_7 : Bool) (m4_8 : UInt8) (m4_9 : List UInt8) : Option AV :=
  some (.ag [.u8 m2_0, .u8 m2_1, .b m2_2, .u8 m2_3, .u8 m2_4, .u8 m2_5, .u8 m2_6, .b m2_7, m2_8, .s m2_9])
theorem text74_24 (call : Nat → List AV → Option AV) (run : List Item → St → Option AV) (m2_0 : UInt8) (m2_1 : UInt8) (m2_2 : Bool) (m2_3 : UInt8) (m2_4 : UInt8) (m2_5 : UInt8) (m2_6 : UInt8) (m2_7 : Bool) (m2_8 : AV) (m2_9 : List UInt8) (m4_0 : UInt8) (m4_1 : UInt8) (m4_2 : Bool) (m4_3 : UInt8) (m4_4 : UInt8) (m4_5 : UInt8) (m4_6 : UInt8) (m4_7 : Bool) (m4_8 : UInt8) (m4_9 : List UInt8) : step C call 74 Tryd.f74 (unr C call run 74 Tryd.f74 400) K74_24 (S74_24 m2_0 m2_1 m2_2 m2_3 m2_4 m2_5 m2_6 m2_7 m2_8 m2_9 m4_0 m4_1 m4_2 m4_3 m4_4 m4_5 m4_6 m4_7 m4_8 m4_9) = X74_24 call run m2_0 m2_1 m2_2 m2_3 m2_4 m2_5 m2_6 m2_7 m2_8 m2_9 m4_0 m4_1 m4_2 m4_3 m4_4 m4_5 m4_6 m4_7 m4_8 m4_9 := by
  kernel_rfl
noncomputable def X74_33 (call : Nat → List AV → Option AV) (run : List Item → St → Option AV) (m2_0 : UInt8) (m2_1 : UInt8) (m2_2 : Bool) (m2_3 : UInt8) (m2_4 : UInt8) (m2_5 : UInt8) (m2_6 : UInt8) (m2_7 : Bool) (m2_8 : UInt8) (m2_9 : List UInt8) (m4_0 : UInt8) (m4_1 : UInt8) (m4_2 : Bool) (m4_3 : UInt8) (m4_4 : UInt8) (m4_5 : UInt8) (m4_6 : UInt8) (m4_7 : Bool) (m4_8 : UInt8) (m4_9 : List UInt8) : Option AV :=
  some (.ag [.u8 m2_0, .u8 m2_1, .b m2_2, .u8 m2_3, .u8 m2_4, .u8 m2_5, .u8 m2_6, .b m2_7, .u8 m2_8, .s m2_9])
theorem text74_33 (call : Nat → List AV → Option AV) (run : List Item → St → Option AV) (m2_0 : UInt8) (m2_1 : UInt8) (m2_2 : Bool) (m2_3 : UInt8) (m2_4 : UInt8) (m2_5 : UInt8) (m2_6 : UInt8) (m2_7 : Bool) (m2_8 : UInt8) (m2_9 : List UInt8) (m4_0 : UInt8) (m4_1 : UInt8) (m4_2 : Bool) (m4_3 : UInt8) (m4_4 : UInt8) (m4_5 : UInt8) (m4_6 : UInt8) (m4_7 : Bool) (m4_8 : UInt8) (m4_9 : List UInt8) : step C call 74 Tryd.f74 (unr C call run 74 Tryd.f74 400) K74_33 (S74_33 m2_0 m2_1 m2_2 m2_3 m2_4 m2_5 m2_6 m2_7 m2_8 m2_9 m4_0 m4_1 m4_2 m4_3 m4_4 m4_5 m4_6 m4_7 m4_8 m4_9) = X74_33 call run m2_0 m2_1 m2_2 m2_3 m2_4 m2_5 m2_6 m2_7 m2_8 m2_9 m4_0 m4_1 m4_2 m4_3 m4_4 m4_5 m4_6 m4_7 m4_8 m4_9 := by
  kernel_rfl
theorem r74_4 (t1 : UInt8) (m2_0 : UInt8) (m2_1 : UInt8) (m2_2 : Bool) (m2_3 : UInt8) (m2_4 : UInt8) (m2_5 : UInt8) (m2_6 : UInt8) (m2_7 : Bool) (m2_8 : UInt8) (m2_9 : List UInt8) (m4_0 : UInt8) (m4_1 : UInt8) (m4_2 : Bool) (m4_3 : UInt8) (m4_4 : UInt8) (m4_5 : UInt8) (m4_6 : UInt8) (m4_7 : Bool) (m4_8 : UInt8) (m4_9 : List UInt8) {r : AV} (h : X74_4 (semCall C Tryd.prog) (semRun C Tryd.prog 74 Tryd.f74) t1 m2_0 m2_1 m2_2 m2_3 m2_4 m2_5 m2_6 m2_7 m2_8 m2_9 m4_0 m4_1 m4_2 m4_3 m4_4 m4_5 m4_6 m4_7 m4_8 m4_9 = some r) : F74_4 (semRun C Tryd.prog 74 Tryd.f74) t1 m2_0 m2_1 m2_2 m2_3 m2_4 m2_5 m2_6 m2_7 m2_8 m2_9 m4_0 m4_1 m4_2 m4_3 m4_4 m4_5 m4_6 m4_7 m4_8 m4_9 = some r :=
  semRun_unr 400 ((text74_4 _ _ t1 m2_0 m2_1 m2_2 m2_3 m2_4 m2_5 m2_6 m2_7 m2_8 m2_9 m4_0 m4_1 m4_2 m4_3 m4_4 m4_5 m4_6 m4_7 m4_8 m4_9).trans h)
theorem r74_11 (t1 : UInt8) (t7 : Int) (m2_0 : UInt8) (m2_1 : UInt8) (m2_2 : Bool) (m2_3 : UInt8) (m2_4 : UInt8) (m2_5 : UInt8) (m2_6 : UInt8) (m2_7 : Bool) (m2_8 : UInt8) (m2_9 : List UInt8) (m4_0 : UInt8) (m4_1 : UInt8) (m4_2 : Bool) (m4_3 : UInt8) (m4_4 : UInt8) (m4_5 : UInt8) (m4_6 : UInt8) (m4_7 : Bool) (m4_8 : UInt8) (m4_9 : List UInt8) {r : AV} (h : X74_11 (semCall C Tryd.prog) (semRun C Tryd.prog 74 Tryd.f74) t1 t7 m2_0 m2_1 m2_2 m2_3 m2_4 m2_5 m2_6 m2_7 m2_8 m2_9 m4_0 m4_1 m4_2 m4_3 m4_4 m4_5 m4_6 m4_7 m4_8 m4_9 = some r) : F74_11 (semRun C Tryd.prog 74 Tryd.f74) t1 t7 m2_0 m2_1 m2_2 m2_3 m2_4 m2_5 m2_6 m2_7 m2_8 m2_9 m4_0 m4_1 m4_2 m4_3 m4_4 m4_5 m4_6 m4_7 m4_8 m4_9 = some r :=
  semRun_unr 400 ((text74_11 _ _ t1 t7 m2_0 m2_1 m2_2 m2_3 m2_4 m2_5 m2_6 m2_7 m2_8 m2_9 m4_0 m4_1 m4_2 m4_3 m4_4 m4_5 m4_6 m4_7 m4_8 m4_9).trans h)
theorem r74_13 (t1 : UInt8) (m2_0 : UInt8) (m2_1 : UInt8) (m2_2 : Bool) (m2_3 : UInt8) (m2_4 : UInt8) (m2_5 : UInt8) (m2_6 : UInt8) (m2_7 : Bool) (m2_8 : UInt8) (m2_9 : List UInt8) (m4_0 : UInt8) (m4_1 : UInt8) (m4_2 : Bool) (m4_3 : UInt8) (m4_4 : UInt8) (m4_5 : UInt8) (m4_6 : UInt8) (m4_7 : Bool) (m4_8 : UInt8) (m4_9 : List UInt8) {r : AV} (h : X74_13 (semCall C Tryd.prog) (semRun C Tryd.prog 74 Tryd.f74) t1 m2_0 m2_1 m2_2 m2_3 m2_4 m2_5 m2_6 m2_7 m2_8 m2_9 m4_0 m4_1 m4_2 m4_3 m4_4 m4_5 m4_6 m4_7 m4_8 m4_9 = some r) : F74_13 (semRun C Tryd.prog 74 Tryd.f74) t1 m2_0 m2_1 m2_2 m2_3 m2_4 m2_5 m2_6 m2_7 m2_8 m2_9 m4_0 m4_1 m4_2 m4_3 m4_4 m4_5 m4_6 m4_7 m4_8 m4_9 = some r :=
  semRun_unr 400 ((text74_13 _ _ t1 m2_0 m2_1 m2_2 m2_3 m2_4 m2_5 m2_6 m2_7 m2_8 m2_9 m4_0 m4_1 m4_2 m4_3 m4_4 m4_5 m4_6 m4_7 m4_8 m4_9).trans h)
theorem r74_20 (t1 : UInt8) (t7 : Int) (m2_0 : UInt8) (m2_1 : UInt8) (m2_2 : Bool) (m2_3 : UInt8) (m2_4 : UInt8) (m2_5 : UInt8) (m2_6 : UInt8) (m2_7 : Bool) (m2_8 : UInt8) (m2_9 : List UInt8) (m4_0 : UInt8) (m4_1 : UInt8) (m4_2 : Bool) (m4_3 : UInt8) (m4_4 : UInt8) (m4_5 : UInt8) (m4_6 : UInt8) (m4_7 : Bool) (m4_8 : UInt8) (m4_9 : List UInt8) {r : AV} (h : X74_20 (semCall C Tryd.prog) (semRun C Tryd.prog 74 Tryd.f74) t1 t7 m2_0 m2_1 m2_2 m2_3 m2_4 m2_5 m2_6 m2_7 m2_8 m2_9 m4_0 m4_1 m4_2 m4_3 m4_4 m4_5 m4_6 m4_7 m4_8 m4_9 = some r) : F74_20 (semRun C Tryd.prog 74 Tryd.f74) t1 t7 m2_0 m2_1 m2_2 m2_3 m2_4 m2_5 m2_6 m2_7 m2_8 m2_9 m4_0 m4_1 m4_2 m4_3 m4_4 m4_5 m4_6 m4_7 m4_8 m4_9 = some r :=
  semRun_unr 400 ((text74_20 _ _ t1 t7 m2_0 m2_1 m2_2 m2_3 m2_4 m2_5 m2_6 m2_7 m2_8 m2_9 m4_0 m4_1 m4_2 m4_3 m4_4 m4_5 m4_6 m4_7 m4_8 m4_9).trans h)
theorem r74_24 (m2_0 : UInt8) (m2_1 : UInt8) (m2_2 : Bool) (m2_3 : UInt8) (m2_4 : UInt8) (m2_5 : UInt8) (m2_6 : UInt8) (m2_7 : Bool) (m2_8 : AV) (m2_9 : List UInt8) (m4_0 : UInt8) (m4_1 : UInt8) (m4_2 : Bool) (m4_3 : UInt8) (m4_4 : UInt8) (m4_5 : UInt8) (m4_6 : UInt8) (m4_7 : Bool) (m4_8 : UInt8) (m4_9 : List UInt8) {r : AV} (h : X74_24 (semCall C Tryd.prog) (semRun C Tryd.prog 74 Tryd.f74) m2_0 m2_1 m2_2 m2_3 m2_4 m2_5 m2_6 m2_7 m2_8 m2_9 m4_0 m4_1 m4_2 m4_3 m4_4 m4_5 m4_6 m4_7 m4_8 m4_9 = some r) : F74_24 (semRun C Tryd.prog 74 Tryd.f74) m2_0 m2_1 m2_2 m2_3 m2_4 m2_5 m2_6 m2_7 m2_8 m2_9 m4_0 m4_1 m4_2 m4_3 m4_4 m4_5 m4_6 m4_7 m4_8 m4_9 = some r :=
  semRun_unr 400 ((text74_24 _ _ m2_0 m2_1 m2_2 m2_3 m2_4 m2_5 m2_6 m2_7 m2_8 m2_9 m4_0 m4_1 m4_2 m4_3 m4_4 m4_5 m4_6 m4_7 m4_8 m4_9).trans h)
theorem r74_33 (m2_0 : UInt8) (m2_1 : UInt8) (m2_2 : Bool) (m2_3 : UInt8) (m2_4 : UInt8) (m2_5 : UInt8) (m2_6 : UInt8) (m2_7 : Bool) (m2_8 : UInt8) (m2_9 : List UInt8) (m4_0 : UInt8) (m4_1 : UInt8) (m4_2 : Bool) (m4_3 : UInt8) (m4_4 : UInt8) (m4_5 : UInt8) (m4_6 : UInt8) (m4_7 : Bool) (m4_8 : UInt8) (m4_9 : List UInt8) {r : AV} (h : X74_33 (semCall C Tryd.prog) (semRun C Tryd.prog 74 Tryd.f74) m2_0 m2_1 m2_2 m2_3 m2_4 m2_5 m2_6 m2_7 m2_8 m2_9 m4_0 m4_1 m4_2 m4_3 m4_4 m4_5 m4_6 m4_7 m4_8 m4_9 = some r) : F74_33 (semRun C Tryd.prog 74 Tryd.f74) m2_0 m2_1 m2_2 m2_3 m2_4 m2_5 m2_6 m2_7 m2_8 m2_9 m4_0 m4_1 m4_2 m4_3 m4_4 m4_5 m4_6 m4_7 m4_8 m4_9 = some r :=
  semRun_unr 400 ((text74_33 _ _ m2_0 m2_1 m2_2 m2_3 m2_4 m2_5 m2_6 m2_7 m2_8 m2_9 m4_0 m4_1 m4_2 m4_3 m4_4 m4_5 m4_6 m4_7 m4_8 m4_9).trans h)
end R2

namespace R2
open Go Go.Proofs Sx
noncomputable def body75 : Code := (Tryd.f75.body).getD .skip
noncomputable def X75 (call : Nat → List AV → Option AV) (run : List Item → St → Option AV) (x0_0 : UInt8) (x0_1 : UInt8) (x0_2 : Bool) (x0_3 : UInt8) (x0_4 : UInt8) (x0_5 : UInt8) (x0_6 : UInt8) (x0_7 : Bool) (x0_8 : UInt8) (x0_9 : List UInt8) (x1 : Bool) : Option AV :=
  (selW (.b (!x1)) true (some (.b (ueq x0_6 4))) (.b false)).bind fun v1 => condM (v1)
  (some (.b false))
  ((selW (.b (!x0_7)) false (some (.b (ueq x0_6 1))) (.b true)).bind fun v2 => (selW (v2) false (some (.b (ueq x0_6 2))) (.b true)).bind fun v3 => some (v3))
theorem text75 (call : Nat → List AV → Option AV) (run : List Item → St → Option AV) (x0_0 : UInt8) (x0_1 : UInt8) (x0_2 : Bool) (x0_3 : UInt8) (x0_4 : UInt8) (x0_5 : UInt8) (x0_6 : UInt8) (x0_7 : Bool) (x0_8 : UInt8) (x0_9 : List UInt8) (x1 : Bool) : unr C call run 75 Tryd.f75 400 [.code body75] (initSt [.ag [.u8 x0_0, .u8 x0_1, .b x0_2, .u8 x0_3, .u8 x0_4, .u8 x0_5, .u8 x0_6, .b x0_7, .u8 x0_8, .s x0_9], .b x1]) = X75 call run x0_0 x0_1 x0_2 x0_3 x0_4 x0_5 x0_6 x0_7 x0_8 x0_9 x1 := by
  kernel_rfl
theorem c75 (x0_0 : UInt8) (x0_1 : UInt8) (x0_2 : Bool) (x0_3 : UInt8) (x0_4 : UInt8) (x0_5 : UInt8) (x0_6 : UInt8) (x0_7 : Bool) (x0_8 : UInt8) (x0_9 : List UInt8) (x1 : Bool) {r : AV} (h : X75 (semCall C Tryd.prog) (semRun C Tryd.prog 75 Tryd.f75) x0_0 x0_1 x0_2 x0_3 x0_4 x0_5 x0_6 x0_7 x0_8 x0_9 x1 = some r) : semCall C Tryd.prog 75 [.ag [.u8 x0_0, .u8 x0_1, .b x0_2, .u8 x0_3, .u8 x0_4, .u8 x0_5, .u8 x0_6, .b x0_7, .u8 x0_8, .s x0_9], .b x1] = some r :=
  semCall_unr (fn := Tryd.f75) (c := body75) (by kernel_rfl) (by kernel_rfl) 400 (by kernel_rfl) ((text75 _ _ x0_0 x0_1 x0_2 x0_3 x0_4 x0_5 x0_6 x0_7 x0_8 x0_9 x1).trans h)
end R2

namespace R2
open Go Go.Proofs Sx
noncomputable def body76 : Code := (Tryd.f76.body).getD .skip
noncomputable def X76 (call : Nat → List AV → Option AV) (run : List Item → St → Option AV) (x0 : List UInt8) (x1 : List UInt8) : Option AV :=
  (call 98 [.s x0, .s x1]).bind fun v1 => some (v1)
theorem text76 (call : Nat → List AV → Option AV) (run : List Item → St → Option AV) (x0 : List UInt8) (x1 : List UInt8) : unr C call run 76 Tryd.f76 400 [.code body76] (initSt [.s x0, .s x1]) = X76 call run x0 x1 := by
  kernel_rfl
theorem c76 (x0 : List UInt8) (x1 : List UInt8) {r : AV} (h : X76 (semCall C Tryd.prog) (semRun C Tryd.prog 76 Tryd.f76) x0 x1 = some r) : semCall C Tryd.prog 76 [.s x0, .s x1] = some r :=
  semCall_unr (fn := Tryd.f76) (c := body76) (by kernel_rfl) (by kernel_rfl) 400 (by kernel_rfl) ((text76 _ _ x0 x1).trans h)
end R2

namespace R2
open Go Go.Proofs Sx
noncomputable def body77 : Code := (Tryd.f77.body).getD .skip
noncomputable def X77 (call : Nat → List AV → Option AV) (run : List Item → St → Option AV) (x0 : UInt8) : Option AV :=
  condM (.b (ueq x0 1))
  (some (.s [116, 101, 120, 116, 97, 114, 101, 97]))
  (condM (.b (ueq x0 2))
  (some (.s [116, 105, 116, 108, 101]))
  (condM (.b (ueq x0 3))
  (some (.s [115, 99, 114, 105, 112, 116]))
  (condM (.b (ueq x0 4))
  (some (.s [115, 116, 121, 108, 101]))
  (some (.s [])))))
theorem text77 (call : Nat → List AV → Option AV) (run : List Item → St → Option AV) (x0 : UInt8) : unr C call run 77 Tryd.f77 400 [.code body77] (initSt [.u8 x0]) = X77 call run x0 := by
  kernel_rfl
theorem c77 (x0 : UInt8) {r : AV} (h : X77 (semCall C Tryd.prog) (semRun C Tryd.prog 77 Tryd.f77) x0 = some r) : semCall C Tryd.prog 77 [.u8 x0] = some r :=
  semCall_unr (fn := Tryd.f77) (c := body77) (by kernel_rfl) (by kernel_rfl) 400 (by kernel_rfl) ((text77 _ _ x0).trans h)
end R2

namespace R2
open Go Go.Proofs Sx
noncomputable def body78 : Code := (Tryd.f78.body).getD .skip
noncomputable def X78 (call : Nat → List AV → Option AV) (run : List Item → St → Option AV) (x0 : List UInt8) (x1 : List UInt8) : Option AV :=
  (call 99 [.s x0, .s x1]).bind fun v1 => some (v1)
theorem text78 (call : Nat → List AV → Option AV) (run : List Item → St → Option AV) (x0 : List UInt8) (x1 : List UInt8) : unr C call run 78 Tryd.f78 400 [.code body78] (initSt [.s x0, .s x1]) = X78 call run x0 x1 := by
  kernel_rfl
theorem c78 (x0 : List UInt8) (x1 : List UInt8) {r : AV} (h : X78 (semCall C Tryd.prog) (semRun C Tryd.prog 78 Tryd.f78) x0 x1 = some r) : semCall C Tryd.prog 78 [.s x0, .s x1] = some r :=
  semCall_unr (fn := Tryd.f78) (c := body78) (by kernel_rfl) (by kernel_rfl) 400 (by kernel_rfl) ((text78 _ _ x0 x1).trans h)
end R2

namespace R2
open Go Go.Proofs Sx
noncomputable def body81 : Code := (Tryd.f81.body).getD .skip
noncomputable def X81 (call : Nat → List AV → Option AV) (run : List Item → St → Option AV) (x0 : UInt8) : Option AV :=
  (selW (.b (uge x0 97)) true (some (.b (ule x0 122))) (.b false)).bind fun v1 => (selW (v1) false ((selW (.b (uge x0 65)) true (some (.b (ule x0 90))) (.b false)).bind fun v2 => some (v2)) (.b true)).bind fun v3 => some (v3)
theorem text81 (call : Nat → List AV → Option AV) (run : List Item → St → Option AV) (x0 : UInt8) : unr C call run 81 Tryd.f81 400 [.code body81] (initSt [.u8 x0]) = X81 call run x0 := by
  kernel_rfl
theorem c81 (x0 : UInt8) {r : AV} (h : X81 (semCall C Tryd.prog) (semRun C Tryd.prog 81 Tryd.f81) x0 = some r) : semCall C Tryd.prog 81 [.u8 x0] = some r :=
  semCall_unr (fn := Tryd.f81) (c := body81) (by kernel_rfl) (by kernel_rfl) 400 (by kernel_rfl) ((text81 _ _ x0).trans h)
end R2

namespace R2
open Go Go.Proofs Sx
noncomputable def body82 : Code := (Tryd.f82.body).getD .skip
noncomputable def X82 (call : Nat → List AV → Option AV) (run : List Item → St → Option AV) (x0 : UInt8) : Option AV :=
  (selW (.b (uge x0 65)) true (some (.b (ule x0 90))) (.b false)).bind fun v1 => condM (v1)
  ((binI .add (.u8 x0) (.u8 97)).bind fun v2 => (binI .sub (v2) (.u8 65)).bind fun v3 => some (v3))
  (some (.u8 x0))
theorem text82 (call : Nat → List AV → Option AV) (run : List Item → St → Option AV) (x0 : UInt8) : unr C call run 82 Tryd.f82 400 [.code body82] (initSt [.u8 x0]) = X82 call run x0 := by
  kernel_rfl
theorem c82 (x0 : UInt8) {r : AV} (h : X82 (semCall C Tryd.prog) (semRun C Tryd.prog 82 Tryd.f82) x0 = some r) : semCall C Tryd.prog 82 [.u8 x0] = some r :=
  semCall_unr (fn := Tryd.f82) (c := body82) (by kernel_rfl) (by kernel_rfl) 400 (by kernel_rfl) ((text82 _ _ x0).trans h)
end R2

namespace R2
open Go Go.Proofs Sx
noncomputable def body83 : Code := (Tryd.f83.body).getD .skip
noncomputable def X83 (call : Nat → List AV → Option AV) (run : List Item → St → Option AV) (x0 : UInt8) : Option AV :=
  (selW (.b (ueq x0 32)) false (some (.b (ueq x0 9))) (.b true)).bind fun v1 => (selW (v1) false (some (.b (ueq x0 10))) (.b true)).bind fun v2 => (selW (v2) false (some (.b (ueq x0 12))) (.b true)).bind fun v3 => (selW (v3) false (some (.b (ueq x0 13))) (.b true)).bind fun v4 => some (v4)
theorem text83 (call : Nat → List AV → Option AV) (run : List Item → St → Option AV) (x0 : UInt8) : unr C call run 83 Tryd.f83 400 [.code body83] (initSt [.u8 x0]) = X83 call run x0 := by
  kernel_rfl
theorem c83 (x0 : UInt8) {r : AV} (h : X83 (semCall C Tryd.prog) (semRun C Tryd.prog 83 Tryd.f83) x0 = some r) : semCall C Tryd.prog 83 [.u8 x0] = some r :=
  semCall_unr (fn := Tryd.f83) (c := body83) (by kernel_rfl) (by kernel_rfl) 400 (by kernel_rfl) ((text83 _ _ x0).trans h)
end R2

namespace R2
open Go Go.Proofs Sx
noncomputable def body84 : Code := (Tryd.f84.body).getD .skip
noncomputable def X84 (call : Nat → List AV → Option AV) (run : List Item → St → Option AV) (x0_0 : UInt8) (x0_1 : UInt8) (x0_2 : Bool) (x0_3 : UInt8) (x0_4 : UInt8) (x0_5 : UInt8) (x0_6 : UInt8) (x0_7 : Bool) (x0_8 : UInt8) (x0_9 : List UInt8) (x1 : UInt8) : Option AV :=
  condM (.b (decide (((x0_9.length : Int)) ≥ 32)))
  (some (.ag [.u8 20, .u8 0, .b false, .u8 0, .u8 0, .u8 0, .u8 0, .b false, .u8 0, .s []]))
  ((call 82 [.u8 x1]).bind fun v1 => (AV.one (v1)).bind fun v2 => (b2s (.ro 1 (([v2] : List AV)))).bind fun v3 => (binS .add (.s x0_9) (v3)).bind fun v4 => (AV.one (v4)).bind fun v5 => some (.ag [.u8 x0_0, .u8 x0_1, .b x0_2, .u8 x0_3, .u8 x0_4, .u8 x0_5, .u8 x0_6, .b x0_7, .u8 x0_8, v5]))
theorem text84 (call : Nat → List AV → Option AV) (run : List Item → St → Option AV) (x0_0 : UInt8) (x0_1 : UInt8) (x0_2 : Bool) (x0_3 : UInt8) (x0_4 : UInt8) (x0_5 : UInt8) (x0_6 : UInt8) (x0_7 : Bool) (x0_8 : UInt8) (x0_9 : List UInt8) (x1 : UInt8) : unr C call run 84 Tryd.f84 400 [.code body84] (initSt [.ag [.u8 x0_0, .u8 x0_1, .b x0_2, .u8 x0_3, .u8 x0_4, .u8 x0_5, .u8 x0_6, .b x0_7, .u8 x0_8, .s x0_9], .u8 x1]) = X84 call run x0_0 x0_1 x0_2 x0_3 x0_4 x0_5 x0_6 x0_7 x0_8 x0_9 x1 := by
  kernel_rfl
theorem c84 (x0_0 : UInt8) (x0_1 : UInt8) (x0_2 : Bool) (x0_3 : UInt8) (x0_4 : UInt8) (x0_5 : UInt8) (x0_6 : UInt8) (x0_7 : Bool) (x0_8 : UInt8) (x0_9 : List UInt8) (x1 : UInt8) {r : AV} (h : X84 (semCall C Tryd.prog) (semRun C Tryd.prog 84 Tryd.f84) x0_0 x0_1 x0_2 x0_3 x0_4 x0_5 x0_6 x0_7 x0_8 x0_9 x1 = some r) : semCall C Tryd.prog 84 [.ag [.u8 x0_0, .u8 x0_1, .b x0_2, .u8 x0_3, .u8 x0_4, .u8 x0_5, .u8 x0_6, .b x0_7, .u8 x0_8, .s x0_9], .u8 x1] = some r :=
  semCall_unr (fn := Tryd.f84) (c := body84) (by kernel_rfl) (by kernel_rfl) 400 (by kernel_rfl) ((text84 _ _ x0_0 x0_1 x0_2 x0_3 x0_4 x0_5 x0_6 x0_7 x0_8 x0_9 x1).trans h)
end R2

namespace R2
open Go Go.Proofs Sx
noncomputable def body85 : Code := (Tryd.f85.body).getD .skip
noncomputable def X85 (call : Nat → List AV → Option AV) (run : List Item → St → Option AV) (x0_0 : UInt8) (x0_1 : UInt8) (x0_2 : Bool) (x0_3 : UInt8) (x0_4 : UInt8) (x0_5 : UInt8) (x0_6 : UInt8) (x0_7 : Bool) (x0_8 : UInt8) (x0_9 : List UInt8) (x1 : UInt8) : Option AV :=
  some (.ag [.u8 x1, .u8 x0_1, .b x0_2, .u8 0, .u8 0, .u8 0, .u8 0, .b false, .u8 0, .s []])
theorem text85 (call : Nat → List AV → Option AV) (run : List Item → St → Option AV) (x0_0 : UInt8) (x0_1 : UInt8) (x0_2 : Bool) (x0_3 : UInt8) (x0_4 : UInt8) (x0_5 : UInt8) (x0_6 : UInt8) (x0_7 : Bool) (x0_8 : UInt8) (x0_9 : List UInt8) (x1 : UInt8) : unr C call run 85 Tryd.f85 400 [.code body85] (initSt [.ag [.u8 x0_0, .u8 x0_1, .b x0_2, .u8 x0_3, .u8 x0_4, .u8 x0_5, .u8 x0_6, .b x0_7, .u8 x0_8, .s x0_9], .u8 x1]) = X85 call run x0_0 x0_1 x0_2 x0_3 x0_4 x0_5 x0_6 x0_7 x0_8 x0_9 x1 := by
  kernel_rfl
theorem c85 (x0_0 : UInt8) (x0_1 : UInt8) (x0_2 : Bool) (x0_3 : UInt8) (x0_4 : UInt8) (x0_5 : UInt8) (x0_6 : UInt8) (x0_7 : Bool) (x0_8 : UInt8) (x0_9 : List UInt8) (x1 : UInt8) {r : AV} (h : X85 (semCall C Tryd.prog) (semRun C Tryd.prog 85 Tryd.f85) x0_0 x0_1 x0_2 x0_3 x0_4 x0_5 x0_6 x0_7 x0_8 x0_9 x1 = some r) : semCall C Tryd.prog 85 [.ag [.u8 x0_0, .u8 x0_1, .b x0_2, .u8 x0_3, .u8 x0_4, .u8 x0_5, .u8 x0_6, .b x0_7, .u8 x0_8, .s x0_9], .u8 x1] = some r :=
  semCall_unr (fn := Tryd.f85) (c := body85) (by kernel_rfl) (by kernel_rfl) 400 (by kernel_rfl) ((text85 _ _ x0_0 x0_1 x0_2 x0_3 x0_4 x0_5 x0_6 x0_7 x0_8 x0_9 x1).trans h)
end R2

namespace R2
open Go Go.Proofs Sx
noncomputable def body86 : Code := (Tryd.f86.body).getD .skip
noncomputable def X86 (call : Nat → List AV → Option AV) (run : List Item → St → Option AV) (x0 : UInt8) : Option AV :=
  condM (.b (une x0 0))
  (some (.ag [.u8 17, .u8 x0, .b false, .u8 0, .u8 0, .u8 0, .u8 0, .b false, .u8 0, .s []]))
  (some (.ag [.u8 0, .u8 0, .b false, .u8 0, .u8 0, .u8 0, .u8 0, .b false, .u8 0, .s []]))
theorem text86 (call : Nat → List AV → Option AV) (run : List Item → St → Option AV) (x0 : UInt8) : unr C call run 86 Tryd.f86 400 [.code body86] (initSt [.u8 x0]) = X86 call run x0 := by
  kernel_rfl
theorem c86 (x0 : UInt8) {r : AV} (h : X86 (semCall C Tryd.prog) (semRun C Tryd.prog 86 Tryd.f86) x0 = some r) : semCall C Tryd.prog 86 [.u8 x0] = some r :=
  semCall_unr (fn := Tryd.f86) (c := body86) (by kernel_rfl) (by kernel_rfl) 400 (by kernel_rfl) ((text86 _ _ x0).trans h)
end R2

namespace R2
open Go Go.Proofs Sx
noncomputable def body87 : Code := (Tryd.f87.body).getD .skip
noncomputable def X87 (call : Nat → List AV → Option AV) (run : List Item → St → Option AV) (x0_0 : UInt8) (x0_1 : UInt8) (x0_2 : Bool) (x0_3 : UInt8) (x0_4 : UInt8) (x0_5 : UInt8) (x0_6 : UInt8) (x0_7 : Bool) (x0_8 : UInt8) (x0_9 : List UInt8) (x1 : UInt8) : Option AV :=
  (call 83 [.u8 x1]).bind fun v1 => condM (v1)
  (some (.tu [.ag [.u8 x0_0, .u8 x0_1, .b x0_2, .u8 x0_3, .u8 x0_4, .u8 x0_5, .u8 x0_6, .b x0_7, .u8 x0_8, .s x0_9], .b false]))
  (condM (.b (ueq x1 62))
  (some (.tu [.ag [.u8 20, .u8 0, .b false, .u8 0, .u8 0, .u8 0, .u8 0, .b false, .u8 0, .s []], .b false]))
  ((selW (.b (ueq x1 34)) false (some (.b (ueq x1 39))) (.b true)).bind fun v2 => condM (v2)
  (some (.tu [.ag [.u8 8, .u8 x0_1, .b x0_2, .u8 x0_3, .u8 x1, .u8 x0_5, .u8 x0_6, .b x0_7, .u8 x0_8, .s x0_9], .b false]))
  (some (.tu [.ag [.u8 8, .u8 x0_1, .b x0_2, .u8 x0_3, .u8 x0_4, .u8 x0_5, .u8 x0_6, .b x0_7, .u8 x0_8, .s x0_9], .b true]))))
theorem text87 (call : Nat → List AV → Option AV) (run : List Item → St → Option AV) (x0_0 : UInt8) (x0_1 : UInt8) (x0_2 : Bool) (x0_3 : UInt8) (x0_4 : UInt8) (x0_5 : UInt8) (x0_6 : UInt8) (x0_7 : Bool) (x0_8 : UInt8) (x0_9 : List UInt8) (x1 : UInt8) : unr C call run 87 Tryd.f87 400 [.code body87] (initSt [.ag [.u8 x0_0, .u8 x0_1, .b x0_2, .u8 x0_3, .u8 x0_4, .u8 x0_5, .u8 x0_6, .b x0_7, .u8 x0_8, .s x0_9], .u8 x1]) = X87 call run x0_0 x0_1 x0_2 x0_3 x0_4 x0_5 x0_6 x0_7 x0_8 x0_9 x1 := by
  kernel_rfl
theorem c87 (x0_0 : UInt8) (x0_1 : UInt8) (x0_2 : Bool) (x0_3 : UInt8) (x0_4 : UInt8) (x0_5 : UInt8) (x0_6 : UInt8) (x0_7 : Bool) (x0_8 : UInt8) (x0_9 : List UInt8) (x1 : UInt8) {r : AV} (h : X87 (semCall C Tryd.prog) (semRun C Tryd.prog 87 Tryd.f87) x0_0 x0_1 x0_2 x0_3 x0_4 x0_5 x0_6 x0_7 x0_8 x0_9 x1 = some r) : semCall C Tryd.prog 87 [.ag [.u8 x0_0, .u8 x0_1, .b x0_2, .u8 x0_3, .u8 x0_4, .u8 x0_5, .u8 x0_6, .b x0_7, .u8 x0_8, .s x0_9], .u8 x1] = some r :=
  semCall_unr (fn := Tryd.f87) (c := body87) (by kernel_rfl) (by kernel_rfl) 400 (by kernel_rfl) ((text87 _ _ x0_0 x0_1 x0_2 x0_3 x0_4 x0_5 x0_6 x0_7 x0_8 x0_9 x1).trans h)
end R2

namespace R2
open Go Go.Proofs Sx
noncomputable def body88 : Code := (Tryd.f88.body).getD .skip
noncomputable def X88 (call : Nat → List AV → Option AV) (run : List Item → St → Option AV) (x0_0 : UInt8) (x0_1 : UInt8) (x0_2 : Bool) (x0_3 : UInt8) (x0_4 : UInt8) (x0_5 : UInt8) (x0_6 : UInt8) (x0_7 : Bool) (x0_8 : UInt8) (x0_9 : List UInt8) (x1 : UInt8) : Option AV :=
  (selW (.b (ueq x1 61)) true (some (.b (x0_9 != []))) (.b false)).bind fun v1 => condM (v1)
  ((call 85 [.ag [.u8 x0_0, .u8 x0_1, .b x0_2, .u8 x0_3, .u8 x0_4, .u8 x0_5, .u8 x0_6, .b x0_7, .u8 x0_8, .s x0_9], .u8 7]).bind fun v2 => (AV.asAg 10 (v2)).bind fun v3 => (call 105 [.s x0_9]).bind fun v4 => (AV.one (v4)).bind fun v5 => some (.tu [.ag [v3.getD 0 .un, v3.getD 1 .un, v3.getD 2 .un, v5, v3.getD 4 .un, v3.getD 5 .un, v3.getD 6 .un, v3.getD 7 .un, v3.getD 8 .un, v3.getD 9 .un], .b false]))
  ((selW (.b (ueq x1 47)) false (some (.b (ueq x1 62))) (.b true)).bind fun v6 => condM (v6)
  ((call 85 [.ag [.u8 x0_0, .u8 x0_1, .b x0_2, .u8 x0_3, .u8 x0_4, .u8 x0_5, .u8 x0_6, .b x0_7, .u8 x0_8, .s x0_9], .u8 9]).bind fun v7 => (AV.asAg 10 (v7)).bind fun v8 => some (.tu [.ag [v8.getD 0 .un, v8.getD 1 .un, v8.getD 2 .un, v8.getD 3 .un, v8.getD 4 .un, v8.getD 5 .un, v8.getD 6 .un, v8.getD 7 .un, v8.getD 8 .un, v8.getD 9 .un], .b true]))
  ((call 83 [.u8 x1]).bind fun v9 => condM (v9)
  (some (.tu [.ag [.u8 6, .u8 x0_1, .b x0_2, .u8 x0_3, .u8 x0_4, .u8 x0_5, .u8 x0_6, .b x0_7, .u8 x0_8, .s x0_9], .b false]))
  (condM (.b (ueq x0_0 6))
  ((call 85 [.ag [.u8 x0_0, .u8 x0_1, .b x0_2, .u8 x0_3, .u8 x0_4, .u8 x0_5, .u8 x0_6, .b x0_7, .u8 x0_8, .s x0_9], .u8 4]).bind fun v10 => (AV.asAg 10 (v10)).bind fun v11 => some (.tu [.ag [v11.getD 0 .un, v11.getD 1 .un, v11.getD 2 .un, v11.getD 3 .un, v11.getD 4 .un, v11.getD 5 .un, v11.getD 6 .un, v11.getD 7 .un, v11.getD 8 .un, v11.getD 9 .un], .b true]))
  ((selW (.b (ueq x1 34)) false (some (.b (ueq x1 39))) (.b true)).bind fun v12 => (selW (v12) false (some (.b (ueq x1 60))) (.b true)).bind fun v13 => condM (v13)
  (some (.tu [.ag [.u8 20, .u8 0, .b false, .u8 0, .u8 0, .u8 0, .u8 0, .b false, .u8 0, .s []], .b false]))
  ((call 84 [.ag [.u8 x0_0, .u8 x0_1, .b x0_2, .u8 x0_3, .u8 x0_4, .u8 x0_5, .u8 x0_6, .b x0_7, .u8 x0_8, .s x0_9], .u8 x1]).bind fun v14 => (AV.asAg 10 (v14)).bind fun v15 => some (.tu [.ag [v15.getD 0 .un, v15.getD 1 .un, v15.getD 2 .un, v15.getD 3 .un, v15.getD 4 .un, v15.getD 5 .un, v15.getD 6 .un, v15.getD 7 .un, v15.getD 8 .un, v15.getD 9 .un], .b false]))))))
theorem text88 (call : Nat → List AV → Option AV) (run : List Item → St → Option AV) (x0_0 : UInt8) (x0_1 : UInt8) (x0_2 : Bool) (x0_3 : UInt8) (x0_4 : UInt8) (x0_5 : UInt8) (x0_6 : UInt8) (x0_7 : Bool) (x0_8 : UInt8) (x0_9 : List UInt8) (x1 : UInt8) : unr C call run 88 Tryd.f88 400 [.code body88] (initSt [.ag [.u8 x0_0, .u8 x0_1, .b x0_2, .u8 x0_3, .u8 x0_4, .u8 x0_5, .u8 x0_6, .b x0_7, .u8 x0_8, .s x0_9], .u8 x1]) = X88 call run x0_0 x0_1 x0_2 x0_3 x0_4 x0_5 x0_6 x0_7 x0_8 x0_9 x1 := by
  kernel_rfl
theorem c88 (x0_0 : UInt8) (x0_1 : UInt8) (x0_2 : Bool) (x0_3 : UInt8) (x0_4 : UInt8) (x0_5 : UInt8) (x0_6 : UInt8) (x0_7 : Bool) (x0_8 : UInt8) (x0_9 : List UInt8) (x1 : UInt8) {r : AV} (h : X88 (semCall C Tryd.prog) (semRun C Tryd.prog 88 Tryd.f88) x0_0 x0_1 x0_2 x0_3 x0_4 x0_5 x0_6 x0_7 x0_8 x0_9 x1 = some r) : semCall C Tryd.prog 88 [.ag [.u8 x0_0, .u8 x0_1, .b x0_2, .u8 x0_3, .u8 x0_4, .u8 x0_5, .u8 x0_6, .b x0_7, .u8 x0_8, .s x0_9], .u8 x1] = some r :=
  semCall_unr (fn := Tryd.f88) (c := body88) (by kernel_rfl) (by kernel_rfl) 400 (by kernel_rfl) ((text88 _ _ x0_0 x0_1 x0_2 x0_3 x0_4 x0_5 x0_6 x0_7 x0_8 x0_9 x1).trans h)
end R2

namespace R2
open Go Go.Proofs Sx
noncomputable def body89 : Code := (Tryd.f89.body).getD .skip
noncomputable def X89 (call : Nat → List AV → Option AV) (run : List Item → St → Option AV) (x0_0 : UInt8) (x0_1 : UInt8) (x0_2 : Bool) (x0_3 : UInt8) (x0_4 : UInt8) (x0_5 : UInt8) (x0_6 : UInt8) (x0_7 : Bool) (x0_8 : UInt8) (x0_9 : List UInt8) : Option AV :=
  (selW (.b (ueq x0_6 0)) false (some (.b (ueq x0_6 4))) (.b true)).bind fun v1 => some (v1)
theorem text89 (call : Nat → List AV → Option AV) (run : List Item → St → Option AV) (x0_0 : UInt8) (x0_1 : UInt8) (x0_2 : Bool) (x0_3 : UInt8) (x0_4 : UInt8) (x0_5 : UInt8) (x0_6 : UInt8) (x0_7 : Bool) (x0_8 : UInt8) (x0_9 : List UInt8) : unr C call run 89 Tryd.f89 400 [.code body89] (initSt [.ag [.u8 x0_0, .u8 x0_1, .b x0_2, .u8 x0_3, .u8 x0_4, .u8 x0_5, .u8 x0_6, .b x0_7, .u8 x0_8, .s x0_9]]) = X89 call run x0_0 x0_1 x0_2 x0_3 x0_4 x0_5 x0_6 x0_7 x0_8 x0_9 := by
  kernel_rfl
theorem c89 (x0_0 : UInt8) (x0_1 : UInt8) (x0_2 : Bool) (x0_3 : UInt8) (x0_4 : UInt8) (x0_5 : UInt8) (x0_6 : UInt8) (x0_7 : Bool) (x0_8 : UInt8) (x0_9 : List UInt8) {r : AV} (h : X89 (semCall C Tryd.prog) (semRun C Tryd.prog 89 Tryd.f89) x0_0 x0_1 x0_2 x0_3 x0_4 x0_5 x0_6 x0_7 x0_8 x0_9 = some r) : semCall C Tryd.prog 89 [.ag [.u8 x0_0, .u8 x0_1, .b x0_2, .u8 x0_3, .u8 x0_4, .u8 x0_5, .u8 x0_6, .b x0_7, .u8 x0_8, .s x0_9]] = some r :=
  semCall_unr (fn := Tryd.f89) (c := body89) (by kernel_rfl) (by kernel_rfl) 400 (by kernel_rfl) ((text89 _ _ x0_0 x0_1 x0_2 x0_3 x0_4 x0_5 x0_6 x0_7 x0_8 x0_9).trans h)
end R2

namespace R2
open Go Go.Proofs Sx
noncomputable def body90 : Code := (Tryd.f90.body).getD .skip
noncomputable def X90 (call : Nat → List AV → Option AV) (run : List Item → St → Option AV) (x0 : List UInt8) (x1 : UInt8) : Option AV :=
  (call 106 [.s x0, .u8 x1]).bind fun v1 => some (v1)
theorem text90 (call : Nat → List AV → Option AV) (run : List Item → St → Option AV) (x0 : List UInt8) (x1 : UInt8) : unr C call run 90 Tryd.f90 400 [.code body90] (initSt [.s x0, .u8 x1]) = X90 call run x0 x1 := by
  kernel_rfl
theorem c90 (x0 : List UInt8) (x1 : UInt8) {r : AV} (h : X90 (semCall C Tryd.prog) (semRun C Tryd.prog 90 Tryd.f90) x0 x1 = some r) : semCall C Tryd.prog 90 [.s x0, .u8 x1] = some r :=
  semCall_unr (fn := Tryd.f90) (c := body90) (by kernel_rfl) (by kernel_rfl) 400 (by kernel_rfl) ((text90 _ _ x0 x1).trans h)
end R2

namespace R2
open Go Go.Proofs Sx
noncomputable def body91 : Code := (Tryd.f91.body).getD .skip
noncomputable def K91_24 : List Item := (kAt 24 body91 []).getD []
def S91_24 (m2_0 : UInt8) (m2_1 : UInt8) (m2_2 : Bool) (m2_3 : UInt8) (m2_4 : UInt8) (m2_5 : UInt8) (m2_6 : UInt8) (m2_7 : Bool) (m2_8 : UInt8) (m2_9 : AV) (m4_0 : UInt8) (m4_1 : UInt8) (m4_2 : Bool) (m4_3 : UInt8) (m4_4 : UInt8) (m4_5 : UInt8) (m4_6 : UInt8) (m4_7 : Bool) (m4_8 : UInt8) (m4_9 : List UInt8) : St := St.ofL [(2, .cell (.ptr 2 0)), (4, .cell (.ptr 4 0))] [(2, some [.val (.u8 m2_0), .val (.u8 m2_1), .val (.b m2_2), .val (.u8 m2_3), .val (.u8 m2_4), .val (.u8 m2_5), .val (.u8 m2_6), .val (.b m2_7), .val (.u8 m2_8), .val (m2_9)]), (4, some [.val (.u8 m4_0), .val (.u8 m4_1), .val (.b m4_2), .val (.u8 m4_3), .val (.u8 m4_4), .val (.u8 m4_5), .val (.u8 m4_6), .val (.b m4_7), .val (.u8 m4_8), .val (.s m4_9)])]
noncomputable def F91_24 (run : List Item → St → Option AV) (m2_0 : UInt8) (m2_1 : UInt8) (m2_2 : Bool) (m2_3 : UInt8) (m2_4 : UInt8) (m2_5 : UInt8) (m2_6 : UInt8) (m2_7 : Bool) (m2_8 : UInt8) (m2_9 : AV) (m4_0 : UInt8) (m4_1 : UInt8) (m4_2 : Bool) (m4_3 : UInt8) (m4_4 : UInt8) (m4_5 : UInt8) (m4_6 : UInt8) (m4_7 : Bool) (m4_8 : UInt8) (m4_9 : List UInt8) : Option AV := run K91_24 (S91_24 m2_0 m2_1 m2_2 m2_3 m2_4 m2_5 m2_6 m2_7 m2_8 m2_9 m4_0 m4_1 m4_2 m4_3 m4_4 m4_5 m4_6 m4_7 m4_8 m4_9)
noncomputable def X91 (call : Nat → List AV → Option AV) (run : List Item → St → Option AV) (x0_0 : UInt8) (x0_1 : UInt8) (x0_2 : Bool) (x0_3 : UInt8) (x0_4 : UInt8) (x0_5 : UInt8) (x0_6 : UInt8) (x0_7 : Bool) (x0_8 : UInt8) (x0_9 : List UInt8) (x1 : UInt8) : Option AV :=
  (selW (.b (ueq x0_5 4)) false (some (.b (ueq x0_5 5))) (.b true)).bind fun v1 => condM (v1)
  (some (.ag [.u8 x0_0, .u8 x0_1, .b x0_2, .u8 x0_3, .u8 x0_4, .u8 x0_5, .u8 x0_6, .b x0_7, .u8 x0_8, .s []]))
  (condM (.b (ueq x1 38))
  (some (.ag [.u8 20, .u8 0, .b false, .u8 0, .u8 0, .u8 0, .u8 0, .b false, .u8 0, .s []]))
  ((selW (.b (ueq x1 63)) false (some (.b (ueq x1 35))) (.b true)).bind fun v2 => condM (v2)
  (F91_24 run x0_0 x0_1 x0_2 x0_3 x0_4 4 x0_6 x0_7 x0_8 (.s []) 0 0 false 0 0 0 0 false 0 [])
  (condM (.b (ueq x0_5 3))
  (some (.ag [.u8 x0_0, .u8 x0_1, .b x0_2, .u8 x0_3, .u8 x0_4, .u8 x0_5, .u8 x0_6, .b x0_7, .u8 x0_8, .s []]))
  (condM (.b (ueq x1 47))
  (F91_24 run x0_0 x0_1 x0_2 x0_3 x0_4 3 x0_6 x0_7 x0_8 (.s []) 0 0 false 0 0 0 0 false 0 [])
  ((selW (.b (ueq x1 58)) true (some (.b (ueq x0_5 2))) (.b false)).bind fun v3 => condM (v3)
  (some (.ag [.u8 20, .u8 0, .b false, .u8 0, .u8 0, .u8 0, .u8 0, .b false, .u8 0, .s []]))
  (condM (.b (ueq x1 58))
  ((selW (.b (x0_9 == [104, 116, 116, 112])) false (some (.b (x0_9 == [104, 116, 116, 112, 115]))) (.b true)).bind fun v4 => (selW (v4) false (some (.b (x0_9 == [109, 97, 105, 108, 116, 111]))) (.b true)).bind fun v5 => condM (v5)
  (F91_24 run x0_0 x0_1 x0_2 x0_3 x0_4 3 x0_6 x0_7 x0_8 (.s []) 0 0 false 0 0 0 0 false 0 [])
  (F91_24 run x0_0 x0_1 x0_2 x0_3 x0_4 5 x0_6 x0_7 x0_8 (.s []) 0 0 false 0 0 0 0 false 0 []))
  (condM (.b (ueq x0_5 2))
  (some (.ag [.u8 x0_0, .u8 x0_1, .b x0_2, .u8 x0_3, .u8 x0_4, .u8 x0_5, .u8 x0_6, .b x0_7, .u8 x0_8, .s []]))
  (condM (.b (decide (((x0_9.length : Int)) ≥ 16)))
  (F91_24 run x0_0 x0_1 x0_2 x0_3 x0_4 1 x0_6 x0_7 x0_8 (.s x0_9) 0 0 false 0 0 0 0 false 0 [])
  ((call 82 [.u8 x1]).bind fun v6 => same ((AV.one (v6)).bind fun v7 => (b2s (.ro 1 (([v7] : List AV)))).bind fun v8 => (binS .add (.s x0_9) (v8)).bind fun v9 => (AV.one (v9)).bind fun v10 => F91_24 run x0_0 x0_1 x0_2 x0_3 x0_4 1 x0_6 x0_7 x0_8 (v10) 0 0 false 0 0 0 0 false 0 []))))))))))
theorem text91 (call : Nat → List AV → Option AV) (run : List Item → St → Option AV) (x0_0 : UInt8) (x0_1 : UInt8) (x0_2 : Bool) (x0_3 : UInt8) (x0_4 : UInt8) (x0_5 : UInt8) (x0_6 : UInt8) (x0_7 : Bool) (x0_8 : UInt8) (x0_9 : List UInt8) (x1 : UInt8) : unr C call run 91 Tryd.f91 400 [.code body91] (initSt [.ag [.u8 x0_0, .u8 x0_1, .b x0_2, .u8 x0_3, .u8 x0_4, .u8 x0_5, .u8 x0_6, .b x0_7, .u8 x0_8, .s x0_9], .u8 x1]) = X91 call run x0_0 x0_1 x0_2 x0_3 x0_4 x0_5 x0_6 x0_7 x0_8 x0_9 x1 := by
  kernel_rfl
theorem c91 (x0_0 : UInt8) (x0_1 : UInt8) (x0_2 : Bool) (x0_3 : UInt8) (x0_4 : UInt8) (x0_5 : UInt8) (x0_6 : UInt8) (x0_7 : Bool) (x0_8 : UInt8) (x0_9 : List UInt8) (x1 : UInt8) {r : AV} (h : X91 (semCall C Tryd.prog) (semRun C Tryd.prog 91 Tryd.f91) x0_0 x0_1 x0_2 x0_3 x0_4 x0_5 x0_6 x0_7 x0_8 x0_9 x1 = some r) : semCall C Tryd.prog 91 [.ag [.u8 x0_0, .u8 x0_1, .b x0_2, .u8 x0_3, .u8 x0_4, .u8 x0_5, .u8 x0_6, .b x0_7, .u8 x0_8, .s x0_9], .u8 x1] = some r :=
  semCall_unr (fn := Tryd.f91) (c := body91) (by kernel_rfl) (by kernel_rfl) 400 (by kernel_rfl) ((text91 _ _ x0_0 x0_1 x0_2 x0_3 x0_4 x0_5 x0_6 x0_7 x0_8 x0_9 x1).trans h)
noncomputable def X91_24 (call : Nat → List AV → Option AV) (run : List Item → St → Option AV) (m2_0 : UInt8) (m2_1 : UInt8) (m2_2 : Bool) (m2_3 : UInt8) (m2_4 : UInt8) (m2_5 : UInt8) (m2_6 : UInt8) (m2_7 : Bool) (m2_8 : UInt8) (m2_9 : AV) (m4_0 : UInt8) (m4_1 : UInt8) (m4_2 : Bool) (m4_3 : UInt8) (m4_4 : UInt8) (m4_5 : UInt8) (m4_6 : UInt8) (m4_7 : Bool) (m4_8 : UInt8) (m4_9 : List UInt8) : Option AV :=
  some (.ag [.u8 m2_0, .u8 m2_1, .b m2_2, .u8 m2_3, .u8 m2_4, .u8 m2_5, .u8 m2_6, .b m2_7, .u8 m2_8, m2_9])
theorem text91_24 (call : Nat → List AV → Option AV) (run : List Item → St → Option AV) (m2_0 : UInt8) (m2_1 : UInt8) (m2_2 : Bool) (m2_3 : UInt8) (m2_4 : UInt8) (m2_5 : UInt8) (m2_6 : UInt8) (m2_7 : Bool) (m2_8 : UInt8) (m2_9 : AV) (m4_0 : UInt8) (m4_1 : UInt8) (m4_2 : Bool) (m4_3 : UInt8) (m4_4 : UInt8) (m4_5 : UInt8) (m4_6 : UInt8) (m4_7 : Bool) (m4_8 : UInt8) (m4_9 : List UInt8) : step C call 91 Tryd.f91 (unr C call run 91 Tryd.f91 400) K91_24 (S91_24 m2_0 m2_1 m2_2 m2_3 m2_4 m2_5 m2_6 m2_7 m2_8 m2_9 m4_0 m4_1 m4_2 m4_3 m4_4 m4_5 m4_6 m4_7 m4_8 m4_9) = X91_24 call run m2_0 m2_1 m2_2 m2_3 m2_4 m2_5 m2_6 m2_7 m2_8 m2_9 m4_0 m4_1 m4_2 m4_3 m4_4 m4_5 m4_6 m4_7 m4_8 m4_9 := by
  kernel_rfl
theorem r91_24 (m2_0 : UInt8) (m2_1 : UInt8) (m2_2 : Bool) (m2_3 : UInt8) (m2_4 : UInt8) (m2_5 : UInt8) (m2_6 : UInt8) (m2_7 : Bool) (m2_8 : UInt8) (m2_9 : AV) (m4_0 : UInt8) (m4_1 : UInt8) (m4_2 : Bool) (m4_3 : UInt8) (m4_4 : UInt8) (m4_5 : UInt8) (m4_6 : UInt8) (m4_7 : Bool) (m4_8 : UInt8) (m4_9 : List UInt8) {r : AV} (h : X91_24 (semCall C Tryd.prog) (semRun C Tryd.prog 91 Tryd.f91) m2_0 m2_1 m2_2 m2_3 m2_4 m2_5 m2_6 m2_7 m2_8 m2_9 m4_0 m4_1 m4_2 m4_3 m4_4 m4_5 m4_6 m4_7 m4_8 m4_9 = some r) : F91_24 (semRun C Tryd.prog 91 Tryd.f91) m2_0 m2_1 m2_2 m2_3 m2_4 m2_5 m2_6 m2_7 m2_8 m2_9 m4_0 m4_1 m4_2 m4_3 m4_4 m4_5 m4_6 m4_7 m4_8 m4_9 = some r :=
  semRun_unr 400 ((text91_24 _ _ m2_0 m2_1 m2_2 m2_3 m2_4 m2_5 m2_6 m2_7 m2_8 m2_9 m4_0 m4_1 m4_2 m4_3 m4_4 m4_5 m4_6 m4_7 m4_8 m4_9).trans h)
end R2

namespace R2
open Go Go.Proofs Sx
noncomputable def body92 : Code := (Tryd.f92.body).getD .skip
noncomputable def K92_36 : List Item := (kAt 36 body92 []).getD []
def S92_36 (m3_0 : UInt8) (m3_1 : UInt8) (m3_2 : Bool) (m3_3 : UInt8) (m3_4 : UInt8) (m3_5 : UInt8) (m3_6 : UInt8) (m3_7 : Bool) (m3_8 : UInt8) (m3_9 : List UInt8) (m6_0 : UInt8) (m6_1 : UInt8) (m6_2 : Bool) (m6_3 : UInt8) (m6_4 : UInt8) (m6_5 : UInt8) (m6_6 : UInt8) (m6_7 : Bool) (m6_8 : UInt8) (m6_9 : List UInt8) : St := St.ofL [(3, .cell (.ptr 3 0)), (6, .cell (.ptr 6 0))] [(3, some [.val (.u8 m3_0), .val (.u8 m3_1), .val (.b m3_2), .val (.u8 m3_3), .val (.u8 m3_4), .val (.u8 m3_5), .val (.u8 m3_6), .val (.b m3_7), .val (.u8 m3_8), .val (.s m3_9)]), (6, some [.val (.u8 m6_0), .val (.u8 m6_1), .val (.b m6_2), .val (.u8 m6_3), .val (.u8 m6_4), .val (.u8 m6_5), .val (.u8 m6_6), .val (.b m6_7), .val (.u8 m6_8), .val (.s m6_9)])]
noncomputable def F92_36 (run : List Item → St → Option AV) (m3_0 : UInt8) (m3_1 : UInt8) (m3_2 : Bool) (m3_3 : UInt8) (m3_4 : UInt8) (m3_5 : UInt8) (m3_6 : UInt8) (m3_7 : Bool) (m3_8 : UInt8) (m3_9 : List UInt8) (m6_0 : UInt8) (m6_1 : UInt8) (m6_2 : Bool) (m6_3 : UInt8) (m6_4 : UInt8) (m6_5 : UInt8) (m6_6 : UInt8) (m6_7 : Bool) (m6_8 : UInt8) (m6_9 : List UInt8) : Option AV := run K92_36 (S92_36 m3_0 m3_1 m3_2 m3_3 m3_4 m3_5 m3_6 m3_7 m3_8 m3_9 m6_0 m6_1 m6_2 m6_3 m6_4 m6_5 m6_6 m6_7 m6_8 m6_9)
noncomputable def K92_11 : List Item := (kAt 11 body92 []).getD []
def S92_11 (m6_0 : UInt8) (m6_1 : UInt8) (m6_2 : Bool) (m6_3 : UInt8) (m6_4 : UInt8) (m6_5 : UInt8) (m6_6 : UInt8) (m6_7 : Bool) (m6_8 : UInt8) (m6_9 : List UInt8) : St := St.ofL [(6, .cell (.ptr 6 0))] [(6, some [.val (.u8 m6_0), .val (.u8 m6_1), .val (.b m6_2), .val (.u8 m6_3), .val (.u8 m6_4), .val (.u8 m6_5), .val (.u8 m6_6), .val (.b m6_7), .val (.u8 m6_8), .val (.s m6_9)])]
noncomputable def F92_11 (run : List Item → St → Option AV) (m6_0 : UInt8) (m6_1 : UInt8) (m6_2 : Bool) (m6_3 : UInt8) (m6_4 : UInt8) (m6_5 : UInt8) (m6_6 : UInt8) (m6_7 : Bool) (m6_8 : UInt8) (m6_9 : List UInt8) : Option AV := run K92_11 (S92_11 m6_0 m6_1 m6_2 m6_3 m6_4 m6_5 m6_6 m6_7 m6_8 m6_9)
noncomputable def K92_23 : List Item := (kAt 23 body92 []).getD []
def S92_23 (t1 : UInt8) (m3_0 : UInt8) (m3_1 : UInt8) (m3_2 : Bool) (m3_3 : UInt8) (m3_4 : UInt8) (m3_5 : UInt8) (m3_6 : UInt8) (m3_7 : Bool) (m3_8 : UInt8) (m3_9 : List UInt8) (m6_0 : UInt8) (m6_1 : UInt8) (m6_2 : Bool) (m6_3 : UInt8) (m6_4 : UInt8) (m6_5 : UInt8) (m6_6 : UInt8) (m6_7 : Bool) (m6_8 : UInt8) (m6_9 : List UInt8) : St := St.ofL [(1, .cell (.val (.u8 t1))), (3, .cell (.ptr 3 0)), (6, .cell (.ptr 6 0))] [(3, some [.val (.u8 m3_0), .val (.u8 m3_1), .val (.b m3_2), .val (.u8 m3_3), .val (.u8 m3_4), .val (.u8 m3_5), .val (.u8 m3_6), .val (.b m3_7), .val (.u8 m3_8), .val (.s m3_9)]), (6, some [.val (.u8 m6_0), .val (.u8 m6_1), .val (.b m6_2), .val (.u8 m6_3), .val (.u8 m6_4), .val (.u8 m6_5), .val (.u8 m6_6), .val (.b m6_7), .val (.u8 m6_8), .val (.s m6_9)])]
noncomputable def F92_23 (run : List Item → St → Option AV) (t1 : UInt8) (m3_0 : UInt8) (m3_1 : UInt8) (m3_2 : Bool) (m3_3 : UInt8) (m3_4 : UInt8) (m3_5 : UInt8) (m3_6 : UInt8) (m3_7 : Bool) (m3_8 : UInt8) (m3_9 : List UInt8) (m6_0 : UInt8) (m6_1 : UInt8) (m6_2 : Bool) (m6_3 : UInt8) (m6_4 : UInt8) (m6_5 : UInt8) (m6_6 : UInt8) (m6_7 : Bool) (m6_8 : UInt8) (m6_9 : List UInt8) : Option AV := run K92_23 (S92_23 t1 m3_0 m3_1 m3_2 m3_3 m3_4 m3_5 m3_6 m3_7 m3_8 m3_9 m6_0 m6_1 m6_2 m6_3 m6_4 m6_5 m6_6 m6_7 m6_8 m6_9)
noncomputable def K92_24 : List Item := (kAt 24 body92 []).getD []
def S92_24 (t1 : UInt8) (t8 : UInt8) (m3_0 : UInt8) (m3_1 : UInt8) (m3_2 : Bool) (m3_3 : UInt8) (m3_4 : UInt8) (m3_5 : UInt8) (m3_6 : UInt8) (m3_7 : Bool) (m3_8 : UInt8) (m3_9 : List UInt8) (m6_0 : UInt8) (m6_1 : UInt8) (m6_2 : Bool) (m6_3 : UInt8) (m6_4 : UInt8) (m6_5 : UInt8) (m6_6 : UInt8) (m6_7 : Bool) (m6_8 : UInt8) (m6_9 : List UInt8) : St := St.ofL [(1, .cell (.val (.u8 t1))), (3, .cell (.ptr 3 0)), (6, .cell (.ptr 6 0)), (8, .cell (.val (.u8 t8)))] [(3, some [.val (.u8 m3_0), .val (.u8 m3_1), .val (.b m3_2), .val (.u8 m3_3), .val (.u8 m3_4), .val (.u8 m3_5), .val (.u8 m3_6), .val (.b m3_7), .val (.u8 m3_8), .val (.s m3_9)]), (6, some [.val (.u8 m6_0), .val (.u8 m6_1), .val (.b m6_2), .val (.u8 m6_3), .val (.u8 m6_4), .val (.u8 m6_5), .val (.u8 m6_6), .val (.b m6_7), .val (.u8 m6_8), .val (.s m6_9)])]
noncomputable def F92_24 (run : List Item → St → Option AV) (t1 : UInt8) (t8 : UInt8) (m3_0 : UInt8) (m3_1 : UInt8) (m3_2 : Bool) (m3_3 : UInt8) (m3_4 : UInt8) (m3_5 : UInt8) (m3_6 : UInt8) (m3_7 : Bool) (m3_8 : UInt8) (m3_9 : List UInt8) (m6_0 : UInt8) (m6_1 : UInt8) (m6_2 : Bool) (m6_3 : UInt8) (m6_4 : UInt8) (m6_5 : UInt8) (m6_6 : UInt8) (m6_7 : Bool) (m6_8 : UInt8) (m6_9 : List UInt8) : Option AV := run K92_24 (S92_24 t1 t8 m3_0 m3_1 m3_2 m3_3 m3_4 m3_5 m3_6 m3_7 m3_8 m3_9 m6_0 m6_1 m6_2 m6_3 m6_4 m6_5 m6_6 m6_7 m6_8 m6_9)
noncomputable def X92 (call : Nat → List AV → Option AV) (run : List Item → St → Option AV) (x0_0 : UInt8) (x0_1 : UInt8) (x0_2 : Bool) (x0_3 : UInt8) (x0_4 : UInt8) (x0_5 : UInt8) (x0_6 : UInt8) (x0_7 : Bool) (x0_8 : UInt8) (x0_9 : List UInt8) (x1 : UInt8) (x2 : Bool) : Option AV :=
  condM (.b (ueq x0_6 0))
  (condM (.b (ueq x1 34))
  (F92_36 run x0_0 x0_1 x0_2 x0_3 x0_4 x0_5 1 x0_7 x0_8 x0_9 0 0 false 0 0 0 0 false 0 [])
  (condM (.b (ueq x1 39))
  (F92_36 run x0_0 x0_1 x0_2 x0_3 x0_4 x0_5 2 x0_7 x0_8 x0_9 0 0 false 0 0 0 0 false 0 [])
  (condM (.b (ueq x1 47))
  (F92_36 run x0_0 x0_1 x0_2 x0_3 x0_4 x0_5 3 x0_7 x0_8 x0_9 0 0 false 0 0 0 0 false 0 [])
  ((selW (.b x2) true (some (.b (ueq x1 96))) (.b false)).bind fun v1 => condM (v1)
  (F92_11 run 0 0 false 0 0 0 0 false 0 [])
  ((selW (.b (!x2)) true ((selW (.b (ueq x1 40)) false (some (.b (ueq x1 92))) (.b true)).bind fun v2 => some (v2)) (.b false)).bind fun v3 => condM (v3)
  (F92_11 run 0 0 false 0 0 0 0 false 0 [])
  (F92_36 run x0_0 x0_1 x0_2 x0_3 x0_4 x0_5 x0_6 x0_7 x0_8 x0_9 0 0 false 0 0 0 0 false 0 []))))))
  (condM (.b (ueq x0_6 3))
  (condM (.b (ueq x1 42))
  (F92_36 run x0_0 x0_1 x0_2 x0_3 x0_4 x0_5 5 x0_7 x0_8 x0_9 0 0 false 0 0 0 0 false 0 [])
  ((selW (.b x2) true (some (.b (ueq x1 47))) (.b false)).bind fun v4 => condM (v4)
  (F92_36 run x0_0 x0_1 x0_2 x0_3 x0_4 x0_5 4 x0_7 x0_8 x0_9 0 0 false 0 0 0 0 false 0 [])
  (condM (.b x2)
  (some (.ag [.u8 20, .u8 0, .b false, .u8 0, .u8 0, .u8 0, .u8 0, .b false, .u8 0, .s []]))
  ((call 92 [.ag [.u8 x0_0, .u8 x0_1, .b x0_2, .u8 x0_3, .u8 x0_4, .u8 x0_5, .u8 0, .b x0_7, .u8 x0_8, .s x0_9], .u8 x1, .b x2]).bind fun v5 => (AV.asAg 10 (v5)).bind fun v6 => some (.ag [v6.getD 0 .un, v6.getD 1 .un, v6.getD 2 .un, v6.getD 3 .un, v6.getD 4 .un, v6.getD 5 .un, v6.getD 6 .un, v6.getD 7 .un, v6.getD 8 .un, v6.getD 9 .un])))))
  (condM (.b (ueq x0_6 1))
  (F92_23 run x1 x0_0 x0_1 x0_2 x0_3 x0_4 x0_5 x0_6 x0_7 x0_8 x0_9 0 0 false 0 0 0 0 false 0 [])
  (condM (.b (ueq x0_6 2))
  (F92_23 run x1 x0_0 x0_1 x0_2 x0_3 x0_4 x0_5 x0_6 x0_7 x0_8 x0_9 0 0 false 0 0 0 0 false 0 [])
  (F92_24 run x1 x0_6 x0_0 x0_1 x0_2 x0_3 x0_4 x0_5 x0_6 x0_7 x0_8 x0_9 0 0 false 0 0 0 0 false 0 []))))
theorem text92 (call : Nat → List AV → Option AV) (run : List Item → St → Option AV) (x0_0 : UInt8) (x0_1 : UInt8) (x0_2 : Bool) (x0_3 : UInt8) (x0_4 : UInt8) (x0_5 : UInt8) (x0_6 : UInt8) (x0_7 : Bool) (x0_8 : UInt8) (x0_9 : List UInt8) (x1 : UInt8) (x2 : Bool) : unr C call run 92 Tryd.f92 400 [.code body92] (initSt [.ag [.u8 x0_0, .u8 x0_1, .b x0_2, .u8 x0_3, .u8 x0_4, .u8 x0_5, .u8 x0_6, .b x0_7, .u8 x0_8, .s x0_9], .u8 x1, .b x2]) = X92 call run x0_0 x0_1 x0_2 x0_3 x0_4 x0_5 x0_6 x0_7 x0_8 x0_9 x1 x2 := by
  kernel_rfl
theorem c92 (x0_0 : UInt8) (x0_1 : UInt8) (x0_2 : Bool) (x0_3 : UInt8) (x0_4 : UInt8) (x0_5 : UInt8) (x0_6 : UInt8) (x0_7 : Bool) (x0_8 : UInt8) (x0_9 : List UInt8) (x1 : UInt8) (x2 : Bool) {r : AV} (h : X92 (semCall C Tryd.prog) (semRun C Tryd.prog 92 Tryd.f92) x0_0 x0_1 x0_2 x0_3 x0_4 x0_5 x0_6 x0_7 x0_8 x0_9 x1 x2 = some r) : semCall C Tryd.prog 92 [.ag [.u8 x0_0, .u8 x0_1, .b x0_2, .u8 x0_3, .u8 x0_4, .u8 x0_5, .u8 x0_6, .b x0_7, .u8 x0_8, .s x0_9], .u8 x1, .b x2] = some r :=
  semCall_unr (fn := Tryd.f92) (c := body92) (by kernel_rfl) (by kernel_rfl) 400 (by kernel_rfl) ((text92 _ _ x0_0 x0_1 x0_2 x0_3 x0_4 x0_5 x0_6 x0_7 x0_8 x0_9 x1 x2).trans h)
noncomputable def X92_36 (call : Nat → List AV → Option AV) (run : List Item → St → Option AV) (m3_0 : UInt8) (m3_1 : UInt8) (m3_2 : Bool) (m3_3 : UInt8) (m3_4 : UInt8) (m3_5 : UInt8) (m3_6 : UInt8) (m3_7 : Bool) (m3_8 : UInt8) (m3_9 : List UInt8) (m6_0 : UInt8) (m6_1 : UInt8) (m6_2 : Bool) (m6_3 : UInt8) (m6_4 : UInt8) (m6_5 : UInt8) (m6_6 : UInt8) (m6_7 : Bool) (m6_8 : UInt8) (m6_9 : List UInt8) : Option AV :=
  some (.ag [.u8 m3_0, .u8 m3_1, .b m3_2, .u8 m3_3, .u8 m3_4, .u8 m3_5, .u8 m3_6, .b m3_7, .u8 m3_8, .s m3_9])
theorem text92_36 (call : Nat → List AV → Option AV) (run : List Item → St → Option AV) (m3_0 : UInt8) (m3_1 : UInt8) (m3_2 : Bool) (m3_3 : UInt8) (m3_4 : UInt8) (m3_5 : UInt8) (m3_6 : UInt8) (m3_7 : Bool) (m3_8 : UInt8) (m3_9 : List UInt8) (m6_0 : UInt8) (m6_1 : UInt8) (m6_2 : Bool) (m6_3 : UInt8) (m6_4 : UInt8) (m6_5 : UInt8) (m6_6 : UInt8) (m6_7 : Bool) (m6_8 : UInt8) (m6_9 : List UInt8) : step C call 92 Tryd.f92 (unr C call run 92 Tryd.f92 400) K92_36 (S92_36 m3_0 m3_1 m3_2 m3_3 m3_4 m3_5 m3_6 m3_7 m3_8 m3_9 m6_0 m6_1 m6_2 m6_3 m6_4 m6_5 m6_6 m6_7 m6_8 m6_9) = X92_36 call run m3_0 m3_1 m3_2 m3_3 m3_4 m3_5 m3_6 m3_7 m3_8 m3_9 m6_0 m6_1 m6_2 m6_3 m6_4 m6_5 m6_6 m6_7 m6_8 m6_9 := by
  kernel_rfl
noncomputable def X92_11 (call : Nat → List AV → Option AV) (run : List Item → St → Option AV) (m6_0 : UInt8) (m6_1 : UInt8) (m6_2 : Bool) (m6_3 : UInt8) (m6_4 : UInt8) (m6_5 : UInt8) (m6_6 : UInt8) (m6_7 : Bool) (m6_8 : UInt8) (m6_9 : List UInt8) : Option AV :=
  some (.ag [.u8 20, .u8 0, .b false, .u8 0, .u8 0, .u8 0, .u8 0, .b false, .u8 0, .s []])
theorem text92_11 (call : Nat → List AV → Option AV) (run : List Item → St → Option AV) (m6_0 : UInt8) (m6_1 : UInt8) (m6_2 : Bool) (m6_3 : UInt8) (m6_4 : UInt8) (m6_5 : UInt8) (m6_6 : UInt8) (m6_7 : Bool) (m6_8 : UInt8) (m6_9 : List UInt8) : step C call 92 Tryd.f92 (unr C call run 92 Tryd.f92 400) K92_11 (S92_11 m6_0 m6_1 m6_2 m6_3 m6_4 m6_5 m6_6 m6_7 m6_8 m6_9) = X92_11 call run m6_0 m6_1 m6_2 m6_3 m6_4 m6_5 m6_6 m6_7 m6_8 m6_9 := by
  kernel_rfl
noncomputable def X92_23 (call : Nat → List AV → Option AV) (run : List Item → St → Option AV) (t1 : UInt8) (m3_0 : UInt8) (m3_1 : UInt8) (m3_2 : Bool) (m3_3 : UInt8) (m3_4 : UInt8) (m3_5 : UInt8) (m3_6 : UInt8) (m3_7 : Bool) (m3_8 : UInt8) (m3_9 : List UInt8) (m6_0 : UInt8) (m6_1 : UInt8) (m6_2 : Bool) (m6_3 : UInt8) (m6_4 : UInt8) (m6_5 : UInt8) (m6_6 : UInt8) (m6_7 : Bool) (m6_8 : UInt8) (m6_9 : List UInt8) : Option AV :=
  (call 107 [.ag [.u8 m3_0, .u8 m3_1, .b m3_2, .u8 m3_3, .u8 m3_4, .u8 m3_5, .u8 m3_6, .b m3_7, .u8 m3_8, .s m3_9], .u8 t1]).bind fun v1 => (AV.asAg 10 (v1)).bind fun v2 => some (.ag [v2.getD 0 .un, v2.getD 1 .un, v2.getD 2 .un, v2.getD 3 .un, v2.getD 4 .un, v2.getD 5 .un, v2.getD 6 .un, v2.getD 7 .un, v2.getD 8 .un, v2.getD 9 .un])
theorem text92_23 (call : Nat → List AV → Option AV) (run : List Item → St → Option AV) (t1 : UInt8) (m3_0 : UInt8) (m3_1 : UInt8) (m3_2 : Bool) (m3_3 : UInt8) (m3_4 : UInt8) (m3_5 : UInt8) (m3_6 : UInt8) (m3_7 : Bool) (m3_8 : UInt8) (m3_9 : List UInt8) (m6_0 : UInt8) (m6_1 : UInt8) (m6_2 : Bool) (m6_3 : UInt8) (m6_4 : UInt8) (m6_5 : UInt8) (m6_6 : UInt8) (m6_7 : Bool) (m6_8 : UInt8) (m6_9 : List UInt8) : step C call 92 Tryd.f92 (unr C call run 92 Tryd.f92 400) K92_23 (S92_23 t1 m3_0 m3_1 m3_2 m3_3 m3_4 m3_5 m3_6 m3_7 m3_8 m3_9 m6_0 m6_1 m6_2 m6_3 m6_4 m6_5 m6_6 m6_7 m6_8 m6_9) = X92_23 call run t1 m3_0 m3_1 m3_2 m3_3 m3_4 m3_5 m3_6 m3_7 m3_8 m3_9 m6_0 m6_1 m6_2 m6_3 m6_4 m6_5 m6_6 m6_7 m6_8 m6_9 := by
  kernel_rfl
noncomputable def X92_24 (call : Nat → List AV → Option AV) (run : List Item → St → Option AV) (t1 : UInt8) (t8 : UInt8) (m3_0 : UInt8) (m3_1 : UInt8) (m3_2 : Bool) (m3_3 : UInt8) (m3_4 : UInt8) (m3_5 : UInt8) (m3_6 : UInt8) (m3_7 : Bool) (m3_8 : UInt8) (m3_9 : List UInt8) (m6_0 : UInt8) (m6_1 : UInt8) (m6_2 : Bool) (m6_3 : UInt8) (m6_4 : UInt8) (m6_5 : UInt8) (m6_6 : UInt8) (m6_7 : Bool) (m6_8 : UInt8) (m6_9 : List UInt8) : Option AV :=
  condM (.b (ueq t8 4))
  ((selW (.b (ueq t1 10)) false (some (.b (ueq t1 13))) (.b true)).bind fun v1 => condM (v1)
  (F92_36 run m3_0 m3_1 m3_2 m3_3 m3_4 m3_5 0 m3_7 m3_8 m3_9 m6_0 m6_1 m6_2 m6_3 m6_4 m6_5 m6_6 m6_7 m6_8 m6_9)
  (F92_36 run m3_0 m3_1 m3_2 m3_3 m3_4 m3_5 m3_6 m3_7 m3_8 m3_9 m6_0 m6_1 m6_2 m6_3 m6_4 m6_5 m6_6 m6_7 m6_8 m6_9))
  (condM (.b (ueq t8 5))
  (condM (.b (ueq t1 42))
  (F92_36 run m3_0 m3_1 m3_2 m3_3 m3_4 m3_5 6 m3_7 m3_8 m3_9 m6_0 m6_1 m6_2 m6_3 m6_4 m6_5 m6_6 m6_7 m6_8 m6_9)
  (F92_36 run m3_0 m3_1 m3_2 m3_3 m3_4 m3_5 m3_6 m3_7 m3_8 m3_9 m6_0 m6_1 m6_2 m6_3 m6_4 m6_5 m6_6 m6_7 m6_8 m6_9))
  (condM (.b (ueq t8 6))
  (condM (.b (ueq t1 47))
  (F92_36 run m3_0 m3_1 m3_2 m3_3 m3_4 m3_5 0 m3_7 m3_8 m3_9 m6_0 m6_1 m6_2 m6_3 m6_4 m6_5 m6_6 m6_7 m6_8 m6_9)
  (condM (.b (ueq t1 42))
  (F92_36 run m3_0 m3_1 m3_2 m3_3 m3_4 m3_5 m3_6 m3_7 m3_8 m3_9 m6_0 m6_1 m6_2 m6_3 m6_4 m6_5 m6_6 m6_7 m6_8 m6_9)
  (F92_36 run m3_0 m3_1 m3_2 m3_3 m3_4 m3_5 5 m3_7 m3_8 m3_9 m6_0 m6_1 m6_2 m6_3 m6_4 m6_5 m6_6 m6_7 m6_8 m6_9)))
  (F92_36 run m3_0 m3_1 m3_2 m3_3 m3_4 m3_5 m3_6 m3_7 m3_8 m3_9 m6_0 m6_1 m6_2 m6_3 m6_4 m6_5 m6_6 m6_7 m6_8 m6_9)))
theorem text92_24 (call : Nat → List AV → Option AV) (run : List Item → St → Option AV) (t1 : UInt8) (t8 : UInt8) (m3_0 : UInt8) (m3_1 : UInt8) (m3_2 : Bool) (m3_3 : UInt8) (m3_4 : UInt8) (m3_5 : UInt8) (m3_6 : UInt8) (m3_7 : Bool) (m3_8 : UInt8) (m3_9 : List UInt8) (m6_0 : UInt8) (m6_1 : UInt8) (m6_2 : Bool) (m6_3 : UInt8) (m6_4 : UInt8) (m6_5 : UInt8) (m6_6 : UInt8) (m6_7 : Bool) (m6_8 : UInt8) (m6_9 : List UInt8) : step C call 92 Tryd.f92 (unr C call run 92 Tryd.f92 400) K92_24 (S92_24 t1 t8 m3_0 m3_1 m3_2 m3_3 m3_4 m3_5 m3_6 m3_7 m3_8 m3_9 m6_0 m6_1 m6_2 m6_3 m6_4 m6_5 m6_6 m6_7 m6_8 m6_9) = X92_24 call run t1 t8 m3_0 m3_1 m3_2 m3_3 m3_4 m3_5 m3_6 m3_7 m3_8 m3_9 m6_0 m6_1 m6_2 m6_3 m6_4 m6_5 m6_6 m6_7 m6_8 m6_9 := by
  kernel_rfl
theorem r92_36 (m3_0 : UInt8) (m3_1 : UInt8) (m3_2 : Bool) (m3_3 : UInt8) (m3_4 : UInt8) (m3_5 : UInt8) (m3_6 : UInt8) (m3_7 : Bool) (m3_8 : UInt8) (m3_9 : List UInt8) (m6_0 : UInt8) (m6_1 : UInt8) (m6_2 : Bool) (m6_3 : UInt8) (m6_4 : UInt8) (m6_5 : UInt8) (m6_6 : UInt8) (m6_7 : Bool) (m6_8 : UInt8) (m6_9 : List UInt8) {r : AV} (h : X92_36 (semCall C Tryd.prog) (semRun C Tryd.prog 92 Tryd.f92) m3_0 m3_1 m3_2 m3_3 m3_4 m3_5 m3_6 m3_7 m3_8 m3_9 m6_0 m6_1 m6_2 m6_3 m6_4 m6_5 m6_6 m6_7 m6_8 m6_9 = some r) : F92_36 (semRun C Tryd.prog 92 Tryd.f92) m3_0 m3_1 m3_2 m3_3 m3_4 m3_5 m3_6 m3_7 m3_8 m3_9 m6_0 m6_1 m6_2 m6_3 m6_4 m6_5 m6_6 m6_7 m6_8 m6_9 = some r :=
  semRun_unr 400 ((text92_36 _ _ m3_0 m3_1 m3_2 m3_3 m3_4 m3_5 m3_6 m3_7 m3_8 m3_9 m6_0 m6_1 m6_2 m6_3 m6_4 m6_5 m6_6 m6_7 m6_8 m6_9).trans h)
theorem r92_11 (m6_0 : UInt8) (m6_1 : UInt8) (m6_2 : Bool) (m6_3 : UInt8) (m6_4 : UInt8) (m6_5 : UInt8) (m6_6 : UInt8) (m6_7 : Bool) (m6_8 : UInt8) (m6_9 : List UInt8) {r : AV} (h : X92_11 (semCall C Tryd.prog) (semRun C Tryd.prog 92 Tryd.f92) m6_0 m6_1 m6_2 m6_3 m6_4 m6_5 m6_6 m6_7 m6_8 m6_9 = some r) : F92_11 (semRun C Tryd.prog 92 Tryd.f92) m6_0 m6_1 m6_2 m6_3 m6_4 m6_5 m6_6 m6_7 m6_8 m6_9 = some r :=
  semRun_unr 400 ((text92_11 _ _ m6_0 m6_1 m6_2 m6_3 m6_4 m6_5 m6_6 m6_7 m6_8 m6_9).trans h)
theorem r92_23 (t1 : UInt8) (m3_0 : UInt8) (m3_1 : UInt8) (m3_2 : Bool) (m3_3 : UInt8) (m3_4 : UInt8) (m3_5 : UInt8) (m3_6 : UInt8) (m3_7 : Bool) (m3_8 : UInt8) (m3_9 : List UInt8) (m6_0 : UInt8) (m6_1 : UInt8) (m6_2 : Bool) (m6_3 : UInt8) (m6_4 : UInt8) (m6_5 : UInt8) (m6_6 : UInt8) (m6_7 : Bool) (m6_8 : UInt8) (m6_9 : List UInt8) {r : AV} (h : X92_23 (semCall C Tryd.prog) (semRun C Tryd.prog 92 Tryd.f92) t1 m3_0 m3_1 m3_2 m3_3 m3_4 m3_5 m3_6 m3_7 m3_8 m3_9 m6_0 m6_1 m6_2 m6_3 m6_4 m6_5 m6_6 m6_7 m6_8 m6_9 = some r) : F92_23 (semRun C Tryd.prog 92 Tryd.f92) t1 m3_0 m3_1 m3_2 m3_3 m3_4 m3_5 m3_6 m3_7 m3_8 m3_9 m6_0 m6_1 m6_2 m6_3 m6_4 m6_5 m6_6 m6_7 m6_8 m6_9 = some r :=
  semRun_unr 400 ((text92_23 _ _ t1 m3_0 m3_1 m3_2 m3_3 m3_4 m3_5 m3_6 m3_7 m3_8 m3_9 m6_0 m6_1 m6_2 m6_3 m6_4 m6_5 m6_6 m6_7 m6_8 m6_9).trans h)
theorem r92_24 (t1 : UInt8) (t8 : UInt8) (m3_0 : UInt8) (m3_1 : UInt8) (m3_2 : Bool) (m3_3 : UInt8) (m3_4 : UInt8) (m3_5 : UInt8) (m3_6 : UInt8) (m3_7 : Bool) (m3_8 : UInt8) (m3_9 : List UInt8) (m6_0 : UInt8) (m6_1 : UInt8) (m6_2 : Bool) (m6_3 : UInt8) (m6_4 : UInt8) (m6_5 : UInt8) (m6_6 : UInt8) (m6_7 : Bool) (m6_8 : UInt8) (m6_9 : List UInt8) {r : AV} (h : X92_24 (semCall C Tryd.prog) (semRun C Tryd.prog 92 Tryd.f92) t1 t8 m3_0 m3_1 m3_2 m3_3 m3_4 m3_5 m3_6 m3_7 m3_8 m3_9 m6_0 m6_1 m6_2 m6_3 m6_4 m6_5 m6_6 m6_7 m6_8 m6_9 = some r) : F92_24 (semRun C Tryd.prog 92 Tryd.f92) t1 t8 m3_0 m3_1 m3_2 m3_3 m3_4 m3_5 m3_6 m3_7 m3_8 m3_9 m6_0 m6_1 m6_2 m6_3 m6_4 m6_5 m6_6 m6_7 m6_8 m6_9 = some r :=
  semRun_unr 400 ((text92_24 _ _ t1 t8 m3_0 m3_1 m3_2 m3_3 m3_4 m3_5 m3_6 m3_7 m3_8 m3_9 m6_0 m6_1 m6_2 m6_3 m6_4 m6_5 m6_6 m6_7 m6_8 m6_9).trans h)
end R2

namespace R2
open Go Go.Proofs Sx
noncomputable def body93 : Code := (Tryd.f93.body).getD .skip
noncomputable def K93_5 : List Item := (kAt 5 body93 []).getD []
def S93_5 (t1 : List UInt8) (t19 : Int) (t20 : Int) (m3_0 : AV) (m3_1 : AV) (m3_2 : AV) (m3_3 : AV) (m3_4 : AV) (m3_5 : AV) (m3_6 : AV) (m3_7 : AV) (m3_8 : AV) (m3_9 : AV) (m6_0 : UInt8) (m6_1 : UInt8) (m6_2 : Bool) (m6_3 : UInt8) (m6_4 : UInt8) (m6_5 : UInt8) (m6_6 : UInt8) (m6_7 : Bool) (m6_8 : UInt8) (m6_9 : List UInt8) : St := St.ofL [(1, .cell (.val (.s t1))), (3, .cell (.ptr 3 0)), (6, .cell (.ptr 6 0)), (19, .cell (.val (.int t19))), (20, .cell (.val (.int t20)))] [(3, some [.val (m3_0), .val (m3_1), .val (m3_2), .val (m3_3), .val (m3_4), .val (m3_5), .val (m3_6), .val (m3_7), .val (m3_8), .val (m3_9)]), (6, some [.val (.u8 m6_0), .val (.u8 m6_1), .val (.b m6_2), .val (.u8 m6_3), .val (.u8 m6_4), .val (.u8 m6_5), .val (.u8 m6_6), .val (.b m6_7), .val (.u8 m6_8), .val (.s m6_9)])]
noncomputable def F93_5 (run : List Item → St → Option AV) (t1 : List UInt8) (t19 : Int) (t20 : Int) (m3_0 : AV) (m3_1 : AV) (m3_2 : AV) (m3_3 : AV) (m3_4 : AV) (m3_5 : AV) (m3_6 : AV) (m3_7 : AV) (m3_8 : AV) (m3_9 : AV) (m6_0 : UInt8) (m6_1 : UInt8) (m6_2 : Bool) (m6_3 : UInt8) (m6_4 : UInt8) (m6_5 : UInt8) (m6_6 : UInt8) (m6_7 : Bool) (m6_8 : UInt8) (m6_9 : List UInt8) : Option AV := run K93_5 (S93_5 t1 t19 t20 m3_0 m3_1 m3_2 m3_3 m3_4 m3_5 m3_6 m3_7 m3_8 m3_9 m6_0 m6_1 m6_2 m6_3 m6_4 m6_5 m6_6 m6_7 m6_8 m6_9)
noncomputable def X93 (call : Nat → List AV → Option AV) (run : List Item → St → Option AV) (x0_0 : UInt8) (x0_1 : UInt8) (x0_2 : Bool) (x0_3 : UInt8) (x0_4 : UInt8) (x0_5 : UInt8) (x0_6 : UInt8) (x0_7 : Bool) (x0_8 : UInt8) (x0_9 : List UInt8) (x1 : List UInt8) (x2 : Bool) : Option AV :=
  (selW (.b (!x2)) false ((call 108 [.ag [.u8 17, .u8 x0_1, .b x0_2, .u8 x0_3, .u8 x0_4, .u8 x0_5, .u8 x0_6, .b x0_7, .u8 x0_8, .s []]]).bind fun v1 => (unop .not (v1)).bind fun v2 => some (v2)) (.b true)).bind fun v3 => condM (v3)
  (some (.ag [.u8 17, .u8 x0_1, .b x0_2, .u8 x0_3, .u8 x0_4, .u8 x0_5, .u8 x0_6, .b x0_7, .u8 x0_8, .s []]))
  (F93_5 run x1 ((x1.length : Int)) 0 (.u8 17) (.u8 x0_1) (.b x0_2) (.u8 x0_3) (.u8 x0_4) (.u8 x0_5) (.u8 x0_6) (.b x0_7) (.u8 x0_8) (.s []) 0 0 false 0 0 0 0 false 0 [])
theorem text93 (call : Nat → List AV → Option AV) (run : List Item → St → Option AV) (x0_0 : UInt8) (x0_1 : UInt8) (x0_2 : Bool) (x0_3 : UInt8) (x0_4 : UInt8) (x0_5 : UInt8) (x0_6 : UInt8) (x0_7 : Bool) (x0_8 : UInt8) (x0_9 : List UInt8) (x1 : List UInt8) (x2 : Bool) : unr C call run 93 Tryd.f93 400 [.code body93] (initSt [.ag [.u8 x0_0, .u8 x0_1, .b x0_2, .u8 x0_3, .u8 x0_4, .u8 x0_5, .u8 x0_6, .b x0_7, .u8 x0_8, .s x0_9], .s x1, .b x2]) = X93 call run x0_0 x0_1 x0_2 x0_3 x0_4 x0_5 x0_6 x0_7 x0_8 x0_9 x1 x2 := by
  kernel_rfl
theorem c93 (x0_0 : UInt8) (x0_1 : UInt8) (x0_2 : Bool) (x0_3 : UInt8) (x0_4 : UInt8) (x0_5 : UInt8) (x0_6 : UInt8) (x0_7 : Bool) (x0_8 : UInt8) (x0_9 : List UInt8) (x1 : List UInt8) (x2 : Bool) {r : AV} (h : X93 (semCall C Tryd.prog) (semRun C Tryd.prog 93 Tryd.f93) x0_0 x0_1 x0_2 x0_3 x0_4 x0_5 x0_6 x0_7 x0_8 x0_9 x1 x2 = some r) : semCall C Tryd.prog 93 [.ag [.u8 x0_0, .u8 x0_1, .b x0_2, .u8 x0_3, .u8 x0_4, .u8 x0_5, .u8 x0_6, .b x0_7, .u8 x0_8, .s x0_9], .s x1, .b x2] = some r :=
  semCall_unr (fn := Tryd.f93) (c := body93) (by kernel_rfl) (by kernel_rfl) 400 (by kernel_rfl) ((text93 _ _ x0_0 x0_1 x0_2 x0_3 x0_4 x0_5 x0_6 x0_7 x0_8 x0_9 x1 x2).trans h)
noncomputable def X93_5 (call : Nat → List AV → Option AV) (run : List Item → St → Option AV) (t1 : List UInt8) (t19 : Int) (t20 : Int) (m3_0 : AV) (m3_1 : AV) (m3_2 : AV) (m3_3 : AV) (m3_4 : AV) (m3_5 : AV) (m3_6 : AV) (m3_7 : AV) (m3_8 : AV) (m3_9 : AV) (m6_0 : UInt8) (m6_1 : UInt8) (m6_2 : Bool) (m6_3 : UInt8) (m6_4 : UInt8) (m6_5 : UInt8) (m6_6 : UInt8) (m6_7 : Bool) (m6_8 : UInt8) (m6_9 : List UInt8) : Option AV :=
  condM (.b (decide (t20 < t19)))
  ((idxS (.s t1) (.int t20)).bind fun v1 => (binI .eql (m3_1) (.u8 3)).bind fun v2 => (call 92 [.ag [m3_0, m3_1, m3_2, m3_3, m3_4, m3_5, m3_6, m3_7, m3_8, m3_9], v1, v2]).bind fun v3 => (AV.asAg 10 (v3)).bind fun v4 => (binI .eql (v4.getD 0 .un) (.u8 20)).bind fun v5 => condM (v5)
  (some (.ag [.u8 20, .u8 0, .b false, .u8 0, .u8 0, .u8 0, .u8 0, .b false, .u8 0, .s []]))
  (F93_5 run t1 t19 (w64 (t20 + 1)) (v4.getD 0 .un) (v4.getD 1 .un) (v4.getD 2 .un) (v4.getD 3 .un) (v4.getD 4 .un) (v4.getD 5 .un) (v4.getD 6 .un) (v4.getD 7 .un) (v4.getD 8 .un) (v4.getD 9 .un) m6_0 m6_1 m6_2 m6_3 m6_4 m6_5 m6_6 m6_7 m6_8 m6_9))
  (some (.ag [m3_0, m3_1, m3_2, m3_3, m3_4, m3_5, m3_6, m3_7, m3_8, m3_9]))
theorem text93_5 (call : Nat → List AV → Option AV) (run : List Item → St → Option AV) (t1 : List UInt8) (t19 : Int) (t20 : Int) (m3_0 : AV) (m3_1 : AV) (m3_2 : AV) (m3_3 : AV) (m3_4 : AV) (m3_5 : AV) (m3_6 : AV) (m3_7 : AV) (m3_8 : AV) (m3_9 : AV) (m6_0 : UInt8) (m6_1 : UInt8) (m6_2 : Bool) (m6_3 : UInt8) (m6_4 : UInt8) (m6_5 : UInt8) (m6_6 : UInt8) (m6_7 : Bool) (m6_8 : UInt8) (m6_9 : List UInt8) : step C call 93 Tryd.f93 (unr C call run 93 Tryd.f93 400) K93_5 (S93_5 t1 t19 t20 m3_0 m3_1 m3_2 m3_3 m3_4 m3_5 m3_6 m3_7 m3_8 m3_9 m6_0 m6_1 m6_2 m6_3 m6_4 m6_5 m6_6 m6_7 m6_8 m6_9) = X93_5 call run t1 t19 t20 m3_0 m3_1 m3_2 m3_3 m3_4 m3_5 m3_6 m3_7 m3_8 m3_9 m6_0 m6_1 m6_2 m6_3 m6_4 m6_5 m6_6 m6_7 m6_8 m6_9 := by
  kernel_rfl
theorem r93_5 (t1 : List UInt8) (t19 : Int) (t20 : Int) (m3_0 : AV) (m3_1 : AV) (m3_2 : AV) (m3_3 : AV) (m3_4 : AV) (m3_5 : AV) (m3_6 : AV) (m3_7 : AV) (m3_8 : AV) (m3_9 : AV) (m6_0 : UInt8) (m6_1 : UInt8) (m6_2 : Bool) (m6_3 : UInt8) (m6_4 : UInt8) (m6_5 : UInt8) (m6_6 : UInt8) (m6_7 : Bool) (m6_8 : UInt8) (m6_9 : List UInt8) {r : AV} (h : X93_5 (semCall C Tryd.prog) (semRun C Tryd.prog 93 Tryd.f93) t1 t19 t20 m3_0 m3_1 m3_2 m3_3 m3_4 m3_5 m3_6 m3_7 m3_8 m3_9 m6_0 m6_1 m6_2 m6_3 m6_4 m6_5 m6_6 m6_7 m6_8 m6_9 = some r) : F93_5 (semRun C Tryd.prog 93 Tryd.f93) t1 t19 t20 m3_0 m3_1 m3_2 m3_3 m3_4 m3_5 m3_6 m3_7 m3_8 m3_9 m6_0 m6_1 m6_2 m6_3 m6_4 m6_5 m6_6 m6_7 m6_8 m6_9 = some r :=
  semRun_unr 400 ((text93_5 _ _ t1 t19 t20 m3_0 m3_1 m3_2 m3_3 m3_4 m3_5 m3_6 m3_7 m3_8 m3_9 m6_0 m6_1 m6_2 m6_3 m6_4 m6_5 m6_6 m6_7 m6_8 m6_9).trans h)
end R2

namespace R2
open Go Go.Proofs Sx
noncomputable def body94 : Code := (Tryd.f94.body).getD .skip
noncomputable def K94_3 : List Item := (kAt 3 body94 []).getD []
def S94_3 (t0 : List UInt8) (t3 : List AV) (t4 : Int) : St := St.ofL [(0, .cell (.val (.s t0))), (3, .cell (.own 7 9 1 t3)), (4, .cell (.val (.int t4)))] []
noncomputable def F94_3 (run : List Item → St → Option AV) (t0 : List UInt8) (t3 : List AV) (t4 : Int) : Option AV := run K94_3 (S94_3 t0 t3 t4)
noncomputable def K94_9 : List Item := (kAt 9 body94 []).getD []
def S94_9 (t0 : List UInt8) (t5 : List AV) (t6 : Int) : St := St.ofL [(0, .cell (.val (.s t0))), (5, .cell (.own 20 9 1 t5)), (6, .cell (.val (.int t6)))] []
noncomputable def F94_9 (run : List Item → St → Option AV) (t0 : List UInt8) (t5 : List AV) (t6 : Int) : Option AV := run K94_9 (S94_9 t0 t5 t6)
noncomputable def X94 (call : Nat → List AV → Option AV) (run : List Item → St → Option AV) (x0 : List UInt8) : Option AV :=
  F94_3 run x0 (([.s [97, 99, 116, 105, 111, 110], .s [98, 97, 99, 107, 103, 114, 111, 117, 110, 100], .s [99, 105, 116, 101], .s [100, 97, 116, 97], .s [102, 111, 114, 109, 97, 99, 116, 105, 111, 110], .s [104, 114, 101, 102], .s [108, 111, 110, 103, 100, 101, 115, 99], .s [109, 97, 110, 105, 102, 101, 115, 116], .s [112, 111, 115, 116, 101, 114], .s [115, 114, 99], .s [120, 108, 105, 110, 107, 58, 104, 114, 101, 102]] : List AV)) 0
theorem text94 (call : Nat → List AV → Option AV) (run : List Item → St → Option AV) (x0 : List UInt8) : unr C call run 94 Tryd.f94 400 [.code body94] (initSt [.s x0]) = X94 call run x0 := by
  kernel_rfl
theorem c94 (x0 : List UInt8) {r : AV} (h : X94 (semCall C Tryd.prog) (semRun C Tryd.prog 94 Tryd.f94) x0 = some r) : semCall C Tryd.prog 94 [.s x0] = some r :=
  semCall_unr (fn := Tryd.f94) (c := body94) (by kernel_rfl) (by kernel_rfl) 400 (by kernel_rfl) ((text94 _ _ x0).trans h)
noncomputable def X94_3 (call : Nat → List AV → Option AV) (run : List Item → St → Option AV) (t0 : List UInt8) (t3 : List AV) (t4 : Int) : Option AV :=
  condM (.b (decide (t4 < ((t3.length : Int)))))
  ((inN t3.length (.int t4)).bind fun v1 => (binS .eql (AV.cell (t3.getD v1 .un) 0) (.s t0)).bind fun v2 => condM (v2)
  (some (.int 1))
  (F94_3 run t0 t3 (w64 (t4 + 1))))
  (F94_9 run t0 (([.s [115, 114, 99, 100, 111, 99], .s [115, 114, 99, 115, 101, 116], .s [105, 109, 97, 103, 101, 115, 114, 99, 115, 101, 116], .s [99, 111, 110, 116, 101, 110, 116], .s [104, 116, 116, 112, 45, 101, 113, 117, 105, 118]] : List AV)) 0)
theorem text94_3 (call : Nat → List AV → Option AV) (run : List Item → St → Option AV) (t0 : List UInt8) (t3 : List AV) (t4 : Int) : step C call 94 Tryd.f94 (unr C call run 94 Tryd.f94 400) K94_3 (S94_3 t0 t3 t4) = X94_3 call run t0 t3 t4 := by
  kernel_rfl
noncomputable def X94_9 (call : Nat → List AV → Option AV) (run : List Item → St → Option AV) (t0 : List UInt8) (t5 : List AV) (t6 : Int) : Option AV :=
  condM (.b (decide (t6 < ((t5.length : Int)))))
  ((inN t5.length (.int t6)).bind fun v1 => (binS .eql (AV.cell (t5.getD v1 .un) 0) (.s t0)).bind fun v2 => condM (v2)
  (some (.int 4))
  (F94_9 run t0 t5 (w64 (t6 + 1))))
  (condM (.b (t0 == [115, 116, 121, 108, 101]))
  (some (.int 3))
  ((selW (.b (decide (((t0.length : Int)) ≥ 3))) true ((idxS (.s t0) (.int 0)).bind fun v3 => (binI .eql (v3) (.u8 111)).bind fun v4 => some (v4)) (.b false)).bind fun v5 => (selW (v5) true ((idxS (.s t0) (.int 1)).bind fun v6 => (binI .eql (v6) (.u8 110)).bind fun v7 => some (v7)) (.b false)).bind fun v8 => condM (v8)
  (some (.int 2))
  (some (.int 0))))
theorem text94_9 (call : Nat → List AV → Option AV) (run : List Item → St → Option AV) (t0 : List UInt8) (t5 : List AV) (t6 : Int) : step C call 94 Tryd.f94 (unr C call run 94 Tryd.f94 400) K94_9 (S94_9 t0 t5 t6) = X94_9 call run t0 t5 t6 := by
  kernel_rfl
theorem r94_3 (t0 : List UInt8) (t3 : List AV) (t4 : Int) {r : AV} (h : X94_3 (semCall C Tryd.prog) (semRun C Tryd.prog 94 Tryd.f94) t0 t3 t4 = some r) : F94_3 (semRun C Tryd.prog 94 Tryd.f94) t0 t3 t4 = some r :=
  semRun_unr 400 ((text94_3 _ _ t0 t3 t4).trans h)
theorem r94_9 (t0 : List UInt8) (t5 : List AV) (t6 : Int) {r : AV} (h : X94_9 (semCall C Tryd.prog) (semRun C Tryd.prog 94 Tryd.f94) t0 t5 t6 = some r) : F94_9 (semRun C Tryd.prog 94 Tryd.f94) t0 t5 t6 = some r :=
  semRun_unr 400 ((text94_9 _ _ t0 t5 t6).trans h)
end R2

namespace R2
open Go Go.Proofs Sx
noncomputable def body95 : Code := (Tryd.f95.body).getD .skip
noncomputable def K95_21 : List Item := (kAt 21 body95 []).getD []
def S95_21 (m4_0 : UInt8) (m4_1 : UInt8) (m4_2 : Bool) (m4_3 : UInt8) (m4_4 : UInt8) (m4_5 : UInt8) (m4_6 : UInt8) (m4_7 : Bool) (m4_8 : UInt8) (m4_9 : List UInt8) (m5_0 : UInt8) (m5_1 : UInt8) (m5_2 : Bool) (m5_3 : UInt8) (m5_4 : UInt8) (m5_5 : UInt8) (m5_6 : UInt8) (m5_7 : Bool) (m5_8 : UInt8) (m5_9 : List UInt8) : St := St.ofL [(4, .cell (.ptr 4 0)), (5, .cell (.ptr 5 0))] [(4, some [.val (.u8 m4_0), .val (.u8 m4_1), .val (.b m4_2), .val (.u8 m4_3), .val (.u8 m4_4), .val (.u8 m4_5), .val (.u8 m4_6), .val (.b m4_7), .val (.u8 m4_8), .val (.s m4_9)]), (5, some [.val (.u8 m5_0), .val (.u8 m5_1), .val (.b m5_2), .val (.u8 m5_3), .val (.u8 m5_4), .val (.u8 m5_5), .val (.u8 m5_6), .val (.b m5_7), .val (.u8 m5_8), .val (.s m5_9)])]
noncomputable def F95_21 (run : List Item → St → Option AV) (m4_0 : UInt8) (m4_1 : UInt8) (m4_2 : Bool) (m4_3 : UInt8) (m4_4 : UInt8) (m4_5 : UInt8) (m4_6 : UInt8) (m4_7 : Bool) (m4_8 : UInt8) (m4_9 : List UInt8) (m5_0 : UInt8) (m5_1 : UInt8) (m5_2 : Bool) (m5_3 : UInt8) (m5_4 : UInt8) (m5_5 : UInt8) (m5_6 : UInt8) (m5_7 : Bool) (m5_8 : UInt8) (m5_9 : List UInt8) : Option AV := run K95_21 (S95_21 m4_0 m4_1 m4_2 m4_3 m4_4 m4_5 m4_6 m4_7 m4_8 m4_9 m5_0 m5_1 m5_2 m5_3 m5_4 m5_5 m5_6 m5_7 m5_8 m5_9)
noncomputable def K95_27 : List Item := (kAt 27 body95 []).getD []
def S95_27 (m2_0 : UInt8) (m2_1 : UInt8) (m2_2 : Bool) (m2_3 : UInt8) (m2_4 : UInt8) (m2_5 : UInt8) (m2_6 : UInt8) (m2_7 : Bool) (m2_8 : UInt8) (m2_9 : AV) (m4_0 : UInt8) (m4_1 : UInt8) (m4_2 : Bool) (m4_3 : UInt8) (m4_4 : UInt8) (m4_5 : UInt8) (m4_6 : UInt8) (m4_7 : Bool) (m4_8 : UInt8) (m4_9 : List UInt8) : St := St.ofL [(2, .cell (.ptr 2 0)), (4, .cell (.ptr 4 0))] [(2, some [.val (.u8 m2_0), .val (.u8 m2_1), .val (.b m2_2), .val (.u8 m2_3), .val (.u8 m2_4), .val (.u8 m2_5), .val (.u8 m2_6), .val (.b m2_7), .val (.u8 m2_8), .val (m2_9)]), (4, some [.val (.u8 m4_0), .val (.u8 m4_1), .val (.b m4_2), .val (.u8 m4_3), .val (.u8 m4_4), .val (.u8 m4_5), .val (.u8 m4_6), .val (.b m4_7), .val (.u8 m4_8), .val (.s m4_9)])]
noncomputable def F95_27 (run : List Item → St → Option AV) (m2_0 : UInt8) (m2_1 : UInt8) (m2_2 : Bool) (m2_3 : UInt8) (m2_4 : UInt8) (m2_5 : UInt8) (m2_6 : UInt8) (m2_7 : Bool) (m2_8 : UInt8) (m2_9 : AV) (m4_0 : UInt8) (m4_1 : UInt8) (m4_2 : Bool) (m4_3 : UInt8) (m4_4 : UInt8) (m4_5 : UInt8) (m4_6 : UInt8) (m4_7 : Bool) (m4_8 : UInt8) (m4_9 : List UInt8) : Option AV := run K95_27 (S95_27 m2_0 m2_1 m2_2 m2_3 m2_4 m2_5 m2_6 m2_7 m2_8 m2_9 m4_0 m4_1 m4_2 m4_3 m4_4 m4_5 m4_6 m4_7 m4_8 m4_9)
noncomputable def X95 (call : Nat → List AV → Option AV) (run : List Item → St → Option AV) (x0_0 : UInt8) (x0_1 : UInt8) (x0_2 : Bool) (x0_3 : UInt8) (x0_4 : UInt8) (x0_5 : UInt8) (x0_6 : UInt8) (x0_7 : Bool) (x0_8 : UInt8) (x0_9 : List UInt8) (x1 : UInt8) : Option AV :=
  condM (.b (uge x0_5 4))
  (some (.ag [.u8 x0_0, .u8 x0_1, .b x0_2, .u8 x0_3, .u8 x0_4, .u8 x0_5, .u8 x0_6, .b x0_7, .u8 x0_8, .s x0_9]))
  (condM (.b (ueq x1 38))
  ((call 41 []).bind fun v1 => (AV.asAg 10 (v1)).bind fun v2 => some (.ag [v2.getD 0 .un, v2.getD 1 .un, v2.getD 2 .un, v2.getD 3 .un, v2.getD 4 .un, v2.getD 5 .un, v2.getD 6 .un, v2.getD 7 .un, v2.getD 8 .un, v2.getD 9 .un]))
  ((selW (.b (ueq x1 63)) false (some (.b (ueq x1 35))) (.b true)).bind fun v3 => condM (v3)
  (some (.ag [.u8 x0_0, .u8 x0_1, .b x0_2, .u8 x0_3, .u8 x0_4, .u8 4, .u8 x0_6, .b x0_7, .u8 x0_8, .s []]))
  (condM (.b (ueq x0_5 3))
  (some (.ag [.u8 x0_0, .u8 x0_1, .b x0_2, .u8 x0_3, .u8 x0_4, .u8 x0_5, .u8 x0_6, .b x0_7, .u8 x0_8, .s x0_9]))
  (condM (.b (ueq x1 47))
  (some (.ag [.u8 x0_0, .u8 x0_1, .b x0_2, .u8 x0_3, .u8 x0_4, .u8 3, .u8 x0_6, .b x0_7, .u8 x0_8, .s []]))
  (condM (.b (ueq x1 58))
  (condM (.b (ueq x0_5 2))
  ((call 41 []).bind fun v4 => (AV.asAg 10 (v4)).bind fun v5 => some (.ag [v5.getD 0 .un, v5.getD 1 .un, v5.getD 2 .un, v5.getD 3 .un, v5.getD 4 .un, v5.getD 5 .un, v5.getD 6 .un, v5.getD 7 .un, v5.getD 8 .un, v5.getD 9 .un]))
  ((selW (.b (x0_9 == [104, 116, 116, 112])) false (some (.b (x0_9 == [104, 116, 116, 112, 115]))) (.b true)).bind fun v6 => (selW (v6) false (some (.b (x0_9 == [109, 97, 105, 108, 116, 111]))) (.b true)).bind fun v7 => condM (v7)
  (F95_21 run 0 0 false 0 0 0 0 false 0 [] x0_0 x0_1 x0_2 x0_3 x0_4 3 x0_6 x0_7 x0_8 [])
  (F95_21 run 0 0 false 0 0 0 0 false 0 [] x0_0 x0_1 x0_2 x0_3 x0_4 5 x0_6 x0_7 x0_8 [])))
  (condM (.b (ueq x0_5 2))
  (some (.ag [.u8 x0_0, .u8 x0_1, .b x0_2, .u8 x0_3, .u8 x0_4, .u8 x0_5, .u8 x0_6, .b x0_7, .u8 x0_8, .s x0_9]))
  (condM (.b (decide (((x0_9.length : Int)) < 16)))
  ((call 51 [.u8 x1]).bind fun v8 => (binS .add (.s x0_9) (v8)).bind fun v9 => (AV.one (v9)).bind fun v10 => F95_27 run x0_0 x0_1 x0_2 x0_3 x0_4 1 x0_6 x0_7 x0_8 (v10) 0 0 false 0 0 0 0 false 0 [])
  (F95_27 run x0_0 x0_1 x0_2 x0_3 x0_4 1 x0_6 x0_7 x0_8 (.s x0_9) 0 0 false 0 0 0 0 false 0 []))))))))
theorem text95 (call : Nat → List AV → Option AV) (run : List Item → St → Option AV) (x0_0 : UInt8) (x0_1 : UInt8) (x0_2 : Bool) (x0_3 : UInt8) (x0_4 : UInt8) (x0_5 : UInt8) (x0_6 : UInt8) (x0_7 : Bool) (x0_8 : UInt8) (x0_9 : List UInt8) (x1 : UInt8) : unr C call run 95 Tryd.f95 400 [.code body95] (initSt [.ag [.u8 x0_0, .u8 x0_1, .b x0_2, .u8 x0_3, .u8 x0_4, .u8 x0_5, .u8 x0_6, .b x0_7, .u8 x0_8, .s x0_9], .u8 x1]) = X95 call run x0_0 x0_1 x0_2 x0_3 x0_4 x0_5 x0_6 x0_7 x0_8 x0_9 x1 := by
  kernel_rfl
theorem c95 (x0_0 : UInt8) (x0_1 : UInt8) (x0_2 : Bool) (x0_3 : UInt8) (x0_4 : UInt8) (x0_5 : UInt8) (x0_6 : UInt8) (x0_7 : Bool) (x0_8 : UInt8) (x0_9 : List UInt8) (x1 : UInt8) {r : AV} (h : X95 (semCall C Tryd.prog) (semRun C Tryd.prog 95 Tryd.f95) x0_0 x0_1 x0_2 x0_3 x0_4 x0_5 x0_6 x0_7 x0_8 x0_9 x1 = some r) : semCall C Tryd.prog 95 [.ag [.u8 x0_0, .u8 x0_1, .b x0_2, .u8 x0_3, .u8 x0_4, .u8 x0_5, .u8 x0_6, .b x0_7, .u8 x0_8, .s x0_9], .u8 x1] = some r :=
  semCall_unr (fn := Tryd.f95) (c := body95) (by kernel_rfl) (by kernel_rfl) 400 (by kernel_rfl) ((text95 _ _ x0_0 x0_1 x0_2 x0_3 x0_4 x0_5 x0_6 x0_7 x0_8 x0_9 x1).trans h)
noncomputable def X95_21 (call : Nat → List AV → Option AV) (run : List Item → St → Option AV) (m4_0 : UInt8) (m4_1 : UInt8) (m4_2 : Bool) (m4_3 : UInt8) (m4_4 : UInt8) (m4_5 : UInt8) (m4_6 : UInt8) (m4_7 : Bool) (m4_8 : UInt8) (m4_9 : List UInt8) (m5_0 : UInt8) (m5_1 : UInt8) (m5_2 : Bool) (m5_3 : UInt8) (m5_4 : UInt8) (m5_5 : UInt8) (m5_6 : UInt8) (m5_7 : Bool) (m5_8 : UInt8) (m5_9 : List UInt8) : Option AV :=
  some (.ag [.u8 m5_0, .u8 m5_1, .b m5_2, .u8 m5_3, .u8 m5_4, .u8 m5_5, .u8 m5_6, .b m5_7, .u8 m5_8, .s m5_9])
theorem text95_21 (call : Nat → List AV → Option AV) (run : List Item → St → Option AV) (m4_0 : UInt8) (m4_1 : UInt8) (m4_2 : Bool) (m4_3 : UInt8) (m4_4 : UInt8) (m4_5 : UInt8) (m4_6 : UInt8) (m4_7 : Bool) (m4_8 : UInt8) (m4_9 : List UInt8) (m5_0 : UInt8) (m5_1 : UInt8) (m5_2 : Bool) (m5_3 : UInt8) (m5_4 : UInt8) (m5_5 : UInt8) (m5_6 : UInt8) (m5_7 : Bool) (m5_8 : UInt8) (m5_9 : List UInt8) : step C call 95 Tryd.f95 (unr C call run 95 Tryd.f95 400) K95_21 (S95_21 m4_0 m4_1 m4_2 m4_3 m4_4 m4_5 m4_6 m4_7 m4_8 m4_9 m5_0 m5_1 m5_2 m5_3 m5_4 m5_5 m5_6 m5_7 m5_8 m5_9) = X95_21 call run m4_0 m4_1 m4_2 m4_3 m4_4 m4_5 m4_6 m4_7 m4_8 m4_9 m5_0 m5_1 m5_2 m5_3 m5_4 m5_5 m5_6 m5_7 m5_8 m5_9 := by
  kernel_rfl
noncomputable def X95_27 (call : Nat → List AV → Option AV) (run : List Item → St → Option AV) (m2_0 : UInt8) (m2_1 : UInt8) (m2_2 : Bool) (m2_3 : UInt8) (m2_4 : UInt8) (m2_5 : UInt8) (m2_6 : UInt8) (m2_7 : Bool) (m2_8 : UInt8) (m2_9 : AV) (m4_0 : UInt8) (m4_1 : UInt8) (m4_2 : Bool) (m4_3 : UInt8) (m4_4 : UInt8) (m4_5 : UInt8) (m4_6 : UInt8) (m4_7 : Bool) (m4_8 : UInt8) (m4_9 : List UInt8) : Option AV :=
  some (.ag [.u8 m2_0, .u8 m2_1, .b m2_2, .u8 m2_3, .u8 m2_4, .u8 m2_5, .u8 m2_6, .b m2_7, .u8 m2_8, m2_9])
theorem text95_27 (call : Nat → List AV → Option AV) (run : List Item → St → Option AV) (m2_0 : UInt8) (m2_1 : UInt8) (m2_2 : Bool) (m2_3 : UInt8) (m2_4 : UInt8) (m2_5 : UInt8) (m2_6 : UInt8) (m2_7 : Bool) (m2_8 : UInt8) (m2_9 : AV) (m4_0 : UInt8) (m4_1 : UInt8) (m4_2 : Bool) (m4_3 : UInt8) (m4_4 : UInt8) (m4_5 : UInt8) (m4_6 : UInt8) (m4_7 : Bool) (m4_8 : UInt8) (m4_9 : List UInt8) : step C call 95 Tryd.f95 (unr C call run 95 Tryd.f95 400) K95_27 (S95_27 m2_0 m2_1 m2_2 m2_3 m2_4 m2_5 m2_6 m2_7 m2_8 m2_9 m4_0 m4_1 m4_2 m4_3 m4_4 m4_5 m4_6 m4_7 m4_8 m4_9) = X95_27 call run m2_0 m2_1 m2_2 m2_3 m2_4 m2_5 m2_6 m2_7 m2_8 m2_9 m4_0 m4_1 m4_2 m4_3 m4_4 m4_5 m4_6 m4_7 m4_8 m4_9 := by
  kernel_rfl
theorem r95_21 (m4_0 : UInt8) (m4_1 : UInt8) (m4_2 : Bool) (m4_3 : UInt8) (m4_4 : UInt8) (m4_5 : UInt8) (m4_6 : UInt8) (m4_7 : Bool) (m4_8 : UInt8) (m4_9 : List UInt8) (m5_0 : UInt8) (m5_1 : UInt8) (m5_2 : Bool) (m5_3 : UInt8) (m5_4 : UInt8) (m5_5 : UInt8) (m5_6 : UInt8) (m5_7 : Bool) (m5_8 : UInt8) (m5_9 : List UInt8) {r : AV} (h : X95_21 (semCall C Tryd.prog) (semRun C Tryd.prog 95 Tryd.f95) m4_0 m4_1 m4_2 m4_3 m4_4 m4_5 m4_6 m4_7 m4_8 m4_9 m5_0 m5_1 m5_2 m5_3 m5_4 m5_5 m5_6 m5_7 m5_8 m5_9 = some r) : F95_21 (semRun C Tryd.prog 95 Tryd.f95) m4_0 m4_1 m4_2 m4_3 m4_4 m4_5 m4_6 m4_7 m4_8 m4_9 m5_0 m5_1 m5_2 m5_3 m5_4 m5_5 m5_6 m5_7 m5_8 m5_9 = some r :=
  semRun_unr 400 ((text95_21 _ _ m4_0 m4_1 m4_2 m4_3 m4_4 m4_5 m4_6 m4_7 m4_8 m4_9 m5_0 m5_1 m5_2 m5_3 m5_4 m5_5 m5_6 m5_7 m5_8 m5_9).trans h)
theorem r95_27 (m2_0 : UInt8) (m2_1 : UInt8) (m2_2 : Bool) (m2_3 : UInt8) (m2_4 : UInt8) (m2_5 : UInt8) (m2_6 : UInt8) (m2_7 : Bool) (m2_8 : UInt8) (m2_9 : AV) (m4_0 : UInt8) (m4_1 : UInt8) (m4_2 : Bool) (m4_3 : UInt8) (m4_4 : UInt8) (m4_5 : UInt8) (m4_6 : UInt8) (m4_7 : Bool) (m4_8 : UInt8) (m4_9 : List UInt8) {r : AV} (h : X95_27 (semCall C Tryd.prog) (semRun C Tryd.prog 95 Tryd.f95) m2_0 m2_1 m2_2 m2_3 m2_4 m2_5 m2_6 m2_7 m2_8 m2_9 m4_0 m4_1 m4_2 m4_3 m4_4 m4_5 m4_6 m4_7 m4_8 m4_9 = some r) : F95_27 (semRun C Tryd.prog 95 Tryd.f95) m2_0 m2_1 m2_2 m2_3 m2_4 m2_5 m2_6 m2_7 m2_8 m2_9 m4_0 m4_1 m4_2 m4_3 m4_4 m4_5 m4_6 m4_7 m4_8 m4_9 = some r :=
  semRun_unr 400 ((text95_27 _ _ m2_0 m2_1 m2_2 m2_3 m2_4 m2_5 m2_6 m2_7 m2_8 m2_9 m4_0 m4_1 m4_2 m4_3 m4_4 m4_5 m4_6 m4_7 m4_8 m4_9).trans h)
end R2

namespace R2
open Go Go.Proofs Sx
noncomputable def body96 : Code := (Tryd.f96.body).getD .skip
noncomputable def K96_8 : List Item := (kAt 8 body96 []).getD []
def S96_8 (t1 : UInt8) (m3_0 : UInt8) (m3_1 : UInt8) (m3_2 : Bool) (m3_3 : UInt8) (m3_4 : UInt8) (m3_5 : UInt8) (m3_6 : UInt8) (m3_7 : Bool) (m3_8 : UInt8) (m3_9 : List UInt8) (m6_0 : UInt8) (m6_1 : UInt8) (m6_2 : Bool) (m6_3 : UInt8) (m6_4 : UInt8) (m6_5 : UInt8) (m6_6 : UInt8) (m6_7 : Bool) (m6_8 : UInt8) (m6_9 : List UInt8) : St := St.ofL [(1, .cell (.val (.u8 t1))), (3, .cell (.ptr 3 0)), (6, .cell (.ptr 6 0))] [(3, some [.val (.u8 m3_0), .val (.u8 m3_1), .val (.b m3_2), .val (.u8 m3_3), .val (.u8 m3_4), .val (.u8 m3_5), .val (.u8 m3_6), .val (.b m3_7), .val (.u8 m3_8), .val (.s m3_9)]), (6, some [.val (.u8 m6_0), .val (.u8 m6_1), .val (.b m6_2), .val (.u8 m6_3), .val (.u8 m6_4), .val (.u8 m6_5), .val (.u8 m6_6), .val (.b m6_7), .val (.u8 m6_8), .val (.s m6_9)])]
noncomputable def F96_8 (run : List Item → St → Option AV) (t1 : UInt8) (m3_0 : UInt8) (m3_1 : UInt8) (m3_2 : Bool) (m3_3 : UInt8) (m3_4 : UInt8) (m3_5 : UInt8) (m3_6 : UInt8) (m3_7 : Bool) (m3_8 : UInt8) (m3_9 : List UInt8) (m6_0 : UInt8) (m6_1 : UInt8) (m6_2 : Bool) (m6_3 : UInt8) (m6_4 : UInt8) (m6_5 : UInt8) (m6_6 : UInt8) (m6_7 : Bool) (m6_8 : UInt8) (m6_9 : List UInt8) : Option AV := run K96_8 (S96_8 t1 m3_0 m3_1 m3_2 m3_3 m3_4 m3_5 m3_6 m3_7 m3_8 m3_9 m6_0 m6_1 m6_2 m6_3 m6_4 m6_5 m6_6 m6_7 m6_8 m6_9)
noncomputable def K96_14 : List Item := (kAt 14 body96 []).getD []
def S96_14 (t1 : UInt8) (t7 : Int) (m3_0 : UInt8) (m3_1 : UInt8) (m3_2 : Bool) (m3_3 : UInt8) (m3_4 : UInt8) (m3_5 : UInt8) (m3_6 : UInt8) (m3_7 : Bool) (m3_8 : UInt8) (m3_9 : List UInt8) (m6_0 : UInt8) (m6_1 : UInt8) (m6_2 : Bool) (m6_3 : UInt8) (m6_4 : UInt8) (m6_5 : UInt8) (m6_6 : UInt8) (m6_7 : Bool) (m6_8 : UInt8) (m6_9 : List UInt8) : St := St.ofL [(1, .cell (.val (.u8 t1))), (3, .cell (.ptr 3 0)), (6, .cell (.ptr 6 0)), (7, .cell (.val (.int t7)))] [(3, some [.val (.u8 m3_0), .val (.u8 m3_1), .val (.b m3_2), .val (.u8 m3_3), .val (.u8 m3_4), .val (.u8 m3_5), .val (.u8 m3_6), .val (.b m3_7), .val (.u8 m3_8), .val (.s m3_9)]), (6, some [.val (.u8 m6_0), .val (.u8 m6_1), .val (.b m6_2), .val (.u8 m6_3), .val (.u8 m6_4), .val (.u8 m6_5), .val (.u8 m6_6), .val (.b m6_7), .val (.u8 m6_8), .val (.s m6_9)])]
noncomputable def F96_14 (run : List Item → St → Option AV) (t1 : UInt8) (t7 : Int) (m3_0 : UInt8) (m3_1 : UInt8) (m3_2 : Bool) (m3_3 : UInt8) (m3_4 : UInt8) (m3_5 : UInt8) (m3_6 : UInt8) (m3_7 : Bool) (m3_8 : UInt8) (m3_9 : List UInt8) (m6_0 : UInt8) (m6_1 : UInt8) (m6_2 : Bool) (m6_3 : UInt8) (m6_4 : UInt8) (m6_5 : UInt8) (m6_6 : UInt8) (m6_7 : Bool) (m6_8 : UInt8) (m6_9 : List UInt8) : Option AV := run K96_14 (S96_14 t1 t7 m3_0 m3_1 m3_2 m3_3 m3_4 m3_5 m3_6 m3_7 m3_8 m3_9 m6_0 m6_1 m6_2 m6_3 m6_4 m6_5 m6_6 m6_7 m6_8 m6_9)
noncomputable def K96_23 : List Item := (kAt 23 body96 []).getD []
def S96_23 (t1 : UInt8) (t2 : Bool) (t11 : Int) (m3_0 : UInt8) (m3_1 : UInt8) (m3_2 : Bool) (m3_3 : UInt8) (m3_4 : UInt8) (m3_5 : UInt8) (m3_6 : UInt8) (m3_7 : Bool) (m3_8 : UInt8) (m3_9 : List UInt8) (m6_0 : UInt8) (m6_1 : UInt8) (m6_2 : Bool) (m6_3 : UInt8) (m6_4 : UInt8) (m6_5 : UInt8) (m6_6 : UInt8) (m6_7 : Bool) (m6_8 : UInt8) (m6_9 : List UInt8) : St := St.ofL [(1, .cell (.val (.u8 t1))), (2, .cell (.val (.b t2))), (3, .cell (.ptr 3 0)), (6, .cell (.ptr 6 0)), (11, .cell (.val (.int t11)))] [(3, some [.val (.u8 m3_0), .val (.u8 m3_1), .val (.b m3_2), .val (.u8 m3_3), .val (.u8 m3_4), .val (.u8 m3_5), .val (.u8 m3_6), .val (.b m3_7), .val (.u8 m3_8), .val (.s m3_9)]), (6, some [.val (.u8 m6_0), .val (.u8 m6_1), .val (.b m6_2), .val (.u8 m6_3), .val (.u8 m6_4), .val (.u8 m6_5), .val (.u8 m6_6), .val (.b m6_7), .val (.u8 m6_8), .val (.s m6_9)])]
noncomputable def F96_23 (run : List Item → St → Option AV) (t1 : UInt8) (t2 : Bool) (t11 : Int) (m3_0 : UInt8) (m3_1 : UInt8) (m3_2 : Bool) (m3_3 : UInt8) (m3_4 : UInt8) (m3_5 : UInt8) (m3_6 : UInt8) (m3_7 : Bool) (m3_8 : UInt8) (m3_9 : List UInt8) (m6_0 : UInt8) (m6_1 : UInt8) (m6_2 : Bool) (m6_3 : UInt8) (m6_4 : UInt8) (m6_5 : UInt8) (m6_6 : UInt8) (m6_7 : Bool) (m6_8 : UInt8) (m6_9 : List UInt8) : Option AV := run K96_23 (S96_23 t1 t2 t11 m3_0 m3_1 m3_2 m3_3 m3_4 m3_5 m3_6 m3_7 m3_8 m3_9 m6_0 m6_1 m6_2 m6_3 m6_4 m6_5 m6_6 m6_7 m6_8 m6_9)
noncomputable def K96_10 : List Item := (kAt 10 body96 []).getD []
def S96_10 (t1 : UInt8) (m3_0 : UInt8) (m3_1 : UInt8) (m3_2 : Bool) (m3_3 : UInt8) (m3_4 : UInt8) (m3_5 : UInt8) (m3_6 : UInt8) (m3_7 : Bool) (m3_8 : UInt8) (m3_9 : List UInt8) (m6_0 : UInt8) (m6_1 : UInt8) (m6_2 : Bool) (m6_3 : UInt8) (m6_4 : UInt8) (m6_5 : UInt8) (m6_6 : UInt8) (m6_7 : Bool) (m6_8 : UInt8) (m6_9 : List UInt8) : St := St.ofL [(1, .cell (.val (.u8 t1))), (3, .cell (.ptr 3 0)), (6, .cell (.ptr 6 0))] [(3, some [.val (.u8 m3_0), .val (.u8 m3_1), .val (.b m3_2), .val (.u8 m3_3), .val (.u8 m3_4), .val (.u8 m3_5), .val (.u8 m3_6), .val (.b m3_7), .val (.u8 m3_8), .val (.s m3_9)]), (6, some [.val (.u8 m6_0), .val (.u8 m6_1), .val (.b m6_2), .val (.u8 m6_3), .val (.u8 m6_4), .val (.u8 m6_5), .val (.u8 m6_6), .val (.b m6_7), .val (.u8 m6_8), .val (.s m6_9)])]
noncomputable def F96_10 (run : List Item → St → Option AV) (t1 : UInt8) (m3_0 : UInt8) (m3_1 : UInt8) (m3_2 : Bool) (m3_3 : UInt8) (m3_4 : UInt8) (m3_5 : UInt8) (m3_6 : UInt8) (m3_7 : Bool) (m3_8 : UInt8) (m3_9 : List UInt8) (m6_0 : UInt8) (m6_1 : UInt8) (m6_2 : Bool) (m6_3 : UInt8) (m6_4 : UInt8) (m6_5 : UInt8) (m6_6 : UInt8) (m6_7 : Bool) (m6_8 : UInt8) (m6_9 : List UInt8) : Option AV := run K96_10 (S96_10 t1 m3_0 m3_1 m3_2 m3_3 m3_4 m3_5 m3_6 m3_7 m3_8 m3_9 m6_0 m6_1 m6_2 m6_3 m6_4 m6_5 m6_6 m6_7 m6_8 m6_9)
noncomputable def K96_19 : List Item := (kAt 19 body96 []).getD []
def S96_19 (t1 : UInt8) (t7 : Int) (m3_0 : UInt8) (m3_1 : UInt8) (m3_2 : Bool) (m3_3 : UInt8) (m3_4 : UInt8) (m3_5 : UInt8) (m3_6 : UInt8) (m3_7 : Bool) (m3_8 : UInt8) (m3_9 : List UInt8) (m6_0 : UInt8) (m6_1 : UInt8) (m6_2 : Bool) (m6_3 : UInt8) (m6_4 : UInt8) (m6_5 : UInt8) (m6_6 : UInt8) (m6_7 : Bool) (m6_8 : UInt8) (m6_9 : List UInt8) : St := St.ofL [(1, .cell (.val (.u8 t1))), (3, .cell (.ptr 3 0)), (6, .cell (.ptr 6 0)), (7, .cell (.val (.int t7)))] [(3, some [.val (.u8 m3_0), .val (.u8 m3_1), .val (.b m3_2), .val (.u8 m3_3), .val (.u8 m3_4), .val (.u8 m3_5), .val (.u8 m3_6), .val (.b m3_7), .val (.u8 m3_8), .val (.s m3_9)]), (6, some [.val (.u8 m6_0), .val (.u8 m6_1), .val (.b m6_2), .val (.u8 m6_3), .val (.u8 m6_4), .val (.u8 m6_5), .val (.u8 m6_6), .val (.b m6_7), .val (.u8 m6_8), .val (.s m6_9)])]
noncomputable def F96_19 (run : List Item → St → Option AV) (t1 : UInt8) (t7 : Int) (m3_0 : UInt8) (m3_1 : UInt8) (m3_2 : Bool) (m3_3 : UInt8) (m3_4 : UInt8) (m3_5 : UInt8) (m3_6 : UInt8) (m3_7 : Bool) (m3_8 : UInt8) (m3_9 : List UInt8) (m6_0 : UInt8) (m6_1 : UInt8) (m6_2 : Bool) (m6_3 : UInt8) (m6_4 : UInt8) (m6_5 : UInt8) (m6_6 : UInt8) (m6_7 : Bool) (m6_8 : UInt8) (m6_9 : List UInt8) : Option AV := run K96_19 (S96_19 t1 t7 m3_0 m3_1 m3_2 m3_3 m3_4 m3_5 m3_6 m3_7 m3_8 m3_9 m6_0 m6_1 m6_2 m6_3 m6_4 m6_5 m6_6 m6_7 m6_8 m6_9)
noncomputable def K96_45 : List Item := (kAt 45 body96 []).getD []
def S96_45 (m3_0 : UInt8) (m3_1 : UInt8) (m3_2 : Bool) (m3_3 : UInt8) (m3_4 : UInt8) (m3_5 : UInt8) (m3_6 : UInt8) (m3_7 : Bool) (m3_8 : UInt8) (m3_9 : List UInt8) (m6_0 : UInt8) (m6_1 : UInt8) (m6_2 : Bool) (m6_3 : UInt8) (m6_4 : UInt8) (m6_5 : UInt8) (m6_6 : UInt8) (m6_7 : Bool) (m6_8 : UInt8) (m6_9 : List UInt8) : St := St.ofL [(3, .cell (.ptr 3 0)), (6, .cell (.ptr 6 0))] [(3, some [.val (.u8 m3_0), .val (.u8 m3_1), .val (.b m3_2), .val (.u8 m3_3), .val (.u8 m3_4), .val (.u8 m3_5), .val (.u8 m3_6), .val (.b m3_7), .val (.u8 m3_8), .val (.s m3_9)]), (6, some [.val (.u8 m6_0), .val (.u8 m6_1), .val (.b m6_2), .val (.u8 m6_3), .val (.u8 m6_4), .val (.u8 m6_5), .val (.u8 m6_6), .val (.b m6_7), .val (.u8 m6_8), .val (.s m6_9)])]
noncomputable def F96_45 (run : List Item → St → Option AV) (m3_0 : UInt8) (m3_1 : UInt8) (m3_2 : Bool) (m3_3 : UInt8) (m3_4 : UInt8) (m3_5 : UInt8) (m3_6 : UInt8) (m3_7 : Bool) (m3_8 : UInt8) (m3_9 : List UInt8) (m6_0 : UInt8) (m6_1 : UInt8) (m6_2 : Bool) (m6_3 : UInt8) (m6_4 : UInt8) (m6_5 : UInt8) (m6_6 : UInt8) (m6_7 : Bool) (m6_8 : UInt8) (m6_9 : List UInt8) : Option AV := run K96_45 (S96_45 m3_0 m3_1 m3_2 m3_3 m3_4 m3_5 m3_6 m3_7 m3_8 m3_9 m6_0 m6_1 m6_2 m6_3 m6_4 m6_5 m6_6 m6_7 m6_8 m6_9)
noncomputable def X96 (call : Nat → List AV → Option AV) (run : List Item → St → Option AV) (x0_0 : UInt8) (x0_1 : UInt8) (x0_2 : Bool) (x0_3 : UInt8) (x0_4 : UInt8) (x0_5 : UInt8) (x0_6 : UInt8) (x0_7 : Bool) (x0_8 : UInt8) (x0_9 : List UInt8) (x1 : UInt8) (x2 : Bool) : Option AV :=
  condM (.b ((w64 (x0_6.toNat : Int)) == 0))
  ((selW (.b x2) true (some (.b (ueq x1 96))) (.b false)).bind fun v1 => (selW (v1) false ((selW (.b (!x2)) true ((selW (.b (ueq x1 40)) false (some (.b (ueq x1 92))) (.b true)).bind fun v2 => some (v2)) (.b false)).bind fun v3 => some (v3)) (.b true)).bind fun v4 => condM (v4)
  ((call 41 []).bind fun v5 => (AV.asAg 10 (v5)).bind fun v6 => some (.ag [v6.getD 0 .un, v6.getD 1 .un, v6.getD 2 .un, v6.getD 3 .un, v6.getD 4 .un, v6.getD 5 .un, v6.getD 6 .un, v6.getD 7 .un, v6.getD 8 .un, v6.getD 9 .un]))
  (condM (.b (ueq x1 34))
  (F96_8 run x1 x0_0 x0_1 x0_2 x0_3 x0_4 x0_5 1 x0_7 x0_8 x0_9 0 0 false 0 0 0 0 false 0 [])
  (F96_8 run x1 x0_0 x0_1 x0_2 x0_3 x0_4 x0_5 x0_6 x0_7 x0_8 x0_9 0 0 false 0 0 0 0 false 0 [])))
  (condM (.b ((w64 (x0_6.toNat : Int)) == 1))
  (F96_14 run x1 (w64 (x0_6.toNat : Int)) x0_0 x0_1 x0_2 x0_3 x0_4 x0_5 x0_6 x0_7 x0_8 x0_9 0 0 false 0 0 0 0 false 0 [])
  (condM (.b ((w64 (x0_6.toNat : Int)) == 2))
  (F96_14 run x1 (w64 (x0_6.toNat : Int)) x0_0 x0_1 x0_2 x0_3 x0_4 x0_5 x0_6 x0_7 x0_8 x0_9 0 0 false 0 0 0 0 false 0 [])
  (F96_23 run x1 x2 (w64 (x0_6.toNat : Int)) x0_0 x0_1 x0_2 x0_3 x0_4 x0_5 x0_6 x0_7 x0_8 x0_9 0 0 false 0 0 0 0 false 0 [])))
theorem text96 (call : Nat → List AV → Option AV) (run : List Item → St → Option AV) (x0_0 : UInt8) (x0_1 : UInt8) (x0_2 : Bool) (x0_3 : UInt8) (x0_4 : UInt8) (x0_5 : UInt8) (x0_6 : UInt8) (x0_7 : Bool) (x0_8 : UInt8) (x0_9 : List UInt8) (x1 : UInt8) (x2 : Bool) : unr C call run 96 Tryd.f96 400 [.code body96] (initSt [.ag [.u8 x0_0, .u8 x0_1, .b x0_2, .u8 x0_3, .u8 x0_4, .u8 x0_5, .u8 x0_6, .b x0_7, .u8 x0_8, .s x0_9], .u8 x1, .b x2]) = X96 call run x0_0 x0_1 x0_2 x0_3 x0_4 x0_5 x0_6 x0_7 x0_8 x0_9 x1 x2 := by
  kernel_rfl
theorem c96 (x0_0 : UInt8) (x0_1 : UInt8) (x0_2 : Bool) (x0_3 : UInt8) (x0_4 : UInt8) (x0_5 : UInt8) (x0_6 : UInt8) (x0_7 : Bool) (x0_8 : UInt8) (x0_9 : List UInt8) (x1 : UInt8) (x2 : Bool) {r : AV} (h : X96 (semCall C Tryd.prog) (semRun C Tryd.prog 96 Tryd.f96) x0_0 x0_1 x0_2 x0_3 x0_4 x0_5 x0_6 x0_7 x0_8 x0_9 x1 x2 = some r) : semCall C Tryd.prog 96 [.ag [.u8 x0_0, .u8 x0_1, .b x0_2, .u8 x0_3, .u8 x0_4, .u8 x0_5, .u8 x0_6, .b x0_7, .u8 x0_8, .s x0_9], .u8 x1, .b x2] = some r :=
  semCall_unr (fn := Tryd.f96) (c := body96) (by kernel_rfl) (by kernel_rfl) 400 (by kernel_rfl) ((text96 _ _ x0_0 x0_1 x0_2 x0_3 x0_4 x0_5 x0_6 x0_7 x0_8 x0_9 x1 x2).trans h)
noncomputable def X96_8 (call : Nat → List AV → Option AV) (run : List Item → St → Option AV) (t1 : UInt8) (m3_0 : UInt8) (m3_1 : UInt8) (m3_2 : Bool) (m3_3 : UInt8) (m3_4 : UInt8) (m3_5 : UInt8) (m3_6 : UInt8) (m3_7 : Bool) (m3_8 : UInt8) (m3_9 : List UInt8) (m6_0 : UInt8) (m6_1 : UInt8) (m6_2 : Bool) (m6_3 : UInt8) (m6_4 : UInt8) (m6_5 : UInt8) (m6_6 : UInt8) (m6_7 : Bool) (m6_8 : UInt8) (m6_9 : List UInt8) : Option AV :=
  condM (.b (ueq t1 39))
  (F96_10 run t1 m3_0 m3_1 m3_2 m3_3 m3_4 m3_5 2 m3_7 m3_8 m3_9 m6_0 m6_1 m6_2 m6_3 m6_4 m6_5 m6_6 m6_7 m6_8 m6_9)
  (F96_10 run t1 m3_0 m3_1 m3_2 m3_3 m3_4 m3_5 m3_6 m3_7 m3_8 m3_9 m6_0 m6_1 m6_2 m6_3 m6_4 m6_5 m6_6 m6_7 m6_8 m6_9)
theorem text96_8 (call : Nat → List AV → Option AV) (run : List Item → St → Option AV) (t1 : UInt8) (m3_0 : UInt8) (m3_1 : UInt8) (m3_2 : Bool) (m3_3 : UInt8) (m3_4 : UInt8) (m3_5 : UInt8) (m3_6 : UInt8) (m3_7 : Bool) (m3_8 : UInt8) (m3_9 : List UInt8) (m6_0 : UInt8) (m6_1 : UInt8) (m6_2 : Bool) (m6_3 : UInt8) (m6_4 : UInt8) (m6_5 : UInt8) (m6_6 : UInt8) (m6_7 : Bool) (m6_8 : UInt8) (m6_9 : List UInt8) : step C call 96 Tryd.f96 (unr C call run 96 Tryd.f96 400) K96_8 (S96_8 t1 m3_0 m3_1 m3_2 m3_3 m3_4 m3_5 m3_6 m3_7 m3_8 m3_9 m6_0 m6_1 m6_2 m6_3 m6_4 m6_5 m6_6 m6_7 m6_8 m6_9) = X96_8 call run t1 m3_0 m3_1 m3_2 m3_3 m3_4 m3_5 m3_6 m3_7 m3_8 m3_9 m6_0 m6_1 m6_2 m6_3 m6_4 m6_5 m6_6 m6_7 m6_8 m6_9 := by
  kernel_rfl
noncomputable def X96_14 (call : Nat → List AV → Option AV) (run : List Item → St → Option AV) (t1 : UInt8) (t7 : Int) (m3_0 : UInt8) (m3_1 : UInt8) (m3_2 : Bool) (m3_3 : UInt8) (m3_4 : UInt8) (m3_5 : UInt8) (m3_6 : UInt8) (m3_7 : Bool) (m3_8 : UInt8) (m3_9 : List UInt8) (m6_0 : UInt8) (m6_1 : UInt8) (m6_2 : Bool) (m6_3 : UInt8) (m6_4 : UInt8) (m6_5 : UInt8) (m6_6 : UInt8) (m6_7 : Bool) (m6_8 : UInt8) (m6_9 : List UInt8) : Option AV :=
  condM (.b m3_7)
  (some (.ag [.u8 m3_0, .u8 m3_1, .b m3_2, .u8 m3_3, .u8 m3_4, .u8 m3_5, .u8 m3_6, .b false, .u8 m3_8, .s m3_9]))
  (condM (.b (ueq t1 92))
  (F96_19 run t1 t7 m3_0 m3_1 m3_2 m3_3 m3_4 m3_5 m3_6 true m3_8 m3_9 m6_0 m6_1 m6_2 m6_3 m6_4 m6_5 m6_6 m6_7 m6_8 m6_9)
  (F96_19 run t1 t7 m3_0 m3_1 m3_2 m3_3 m3_4 m3_5 m3_6 m3_7 m3_8 m3_9 m6_0 m6_1 m6_2 m6_3 m6_4 m6_5 m6_6 m6_7 m6_8 m6_9))
theorem text96_14 (call : Nat → List AV → Option AV) (run : List Item → St → Option AV) (t1 : UInt8) (t7 : Int) (m3_0 : UInt8) (m3_1 : UInt8) (m3_2 : Bool) (m3_3 : UInt8) (m3_4 : UInt8) (m3_5 : UInt8) (m3_6 : UInt8) (m3_7 : Bool) (m3_8 : UInt8) (m3_9 : List UInt8) (m6_0 : UInt8) (m6_1 : UInt8) (m6_2 : Bool) (m6_3 : UInt8) (m6_4 : UInt8) (m6_5 : UInt8) (m6_6 : UInt8) (m6_7 : Bool) (m6_8 : UInt8) (m6_9 : List UInt8) : step C call 96 Tryd.f96 (unr C call run 96 Tryd.f96 400) K96_14 (S96_14 t1 t7 m3_0 m3_1 m3_2 m3_3 m3_4 m3_5 m3_6 m3_7 m3_8 m3_9 m6_0 m6_1 m6_2 m6_3 m6_4 m6_5 m6_6 m6_7 m6_8 m6_9) = X96_14 call run t1 t7 m3_0 m3_1 m3_2 m3_3 m3_4 m3_5 m3_6 m3_7 m3_8 m3_9 m6_0 m6_1 m6_2 m6_3 m6_4 m6_5 m6_6 m6_7 m6_8 m6_9 := by
  kernel_rfl
noncomputable def X96_23 (call : Nat → List AV → Option AV) (run : List Item → St → Option AV) (t1 : UInt8) (t2 : Bool) (t11 : Int) (m3_0 : UInt8) (m3_1 : UInt8) (m3_2 : Bool) (m3_3 : UInt8) (m3_4 : UInt8) (m3_5 : UInt8) (m3_6 : UInt8) (m3_7 : Bool) (m3_8 : UInt8) (m3_9 : List UInt8) (m6_0 : UInt8) (m6_1 : UInt8) (m6_2 : Bool) (m6_3 : UInt8) (m6_4 : UInt8) (m6_5 : UInt8) (m6_6 : UInt8) (m6_7 : Bool) (m6_8 : UInt8) (m6_9 : List UInt8) : Option AV :=
  condM (.b (t11 == 3))
  (condM (.b (ueq t1 42))
  (some (.ag [.u8 m3_0, .u8 m3_1, .b m3_2, .u8 m3_3, .u8 m3_4, .u8 m3_5, .u8 5, .b m3_7, .u8 m3_8, .s m3_9]))
  ((selW (.b t2) true (some (.b (ueq t1 47))) (.b false)).bind fun v1 => condM (v1)
  (some (.ag [.u8 m3_0, .u8 m3_1, .b m3_2, .u8 m3_3, .u8 m3_4, .u8 m3_5, .u8 4, .b m3_7, .u8 m3_8, .s m3_9]))
  (condM (.b t2)
  ((call 41 []).bind fun v2 => (AV.asAg 10 (v2)).bind fun v3 => some (.ag [v3.getD 0 .un, v3.getD 1 .un, v3.getD 2 .un, v3.getD 3 .un, v3.getD 4 .un, v3.getD 5 .un, v3.getD 6 .un, v3.getD 7 .un, v3.getD 8 .un, v3.getD 9 .un]))
  ((call 96 [.ag [.u8 m3_0, .u8 m3_1, .b m3_2, .u8 m3_3, .u8 m3_4, .u8 m3_5, .u8 0, .b m3_7, .u8 m3_8, .s m3_9], .u8 t1, .b t2]).bind fun v4 => (AV.asAg 10 (v4)).bind fun v5 => some (.ag [v5.getD 0 .un, v5.getD 1 .un, v5.getD 2 .un, v5.getD 3 .un, v5.getD 4 .un, v5.getD 5 .un, v5.getD 6 .un, v5.getD 7 .un, v5.getD 8 .un, v5.getD 9 .un])))))
  (condM (.b (t11 == 4))
  ((selW (.b (ueq t1 10)) false (some (.b (ueq t1 13))) (.b true)).bind fun v6 => condM (v6)
  (F96_45 run m3_0 m3_1 m3_2 m3_3 m3_4 m3_5 0 m3_7 m3_8 m3_9 m6_0 m6_1 m6_2 m6_3 m6_4 m6_5 m6_6 m6_7 m6_8 m6_9)
  (F96_45 run m3_0 m3_1 m3_2 m3_3 m3_4 m3_5 m3_6 m3_7 m3_8 m3_9 m6_0 m6_1 m6_2 m6_3 m6_4 m6_5 m6_6 m6_7 m6_8 m6_9))
  (condM (.b (t11 == 5))
  (condM (.b (ueq t1 42))
  (F96_45 run m3_0 m3_1 m3_2 m3_3 m3_4 m3_5 6 m3_7 m3_8 m3_9 m6_0 m6_1 m6_2 m6_3 m6_4 m6_5 m6_6 m6_7 m6_8 m6_9)
  (F96_45 run m3_0 m3_1 m3_2 m3_3 m3_4 m3_5 m3_6 m3_7 m3_8 m3_9 m6_0 m6_1 m6_2 m6_3 m6_4 m6_5 m6_6 m6_7 m6_8 m6_9))
  (condM (.b (t11 == 6))
  (condM (.b (ueq t1 47))
  (F96_45 run m3_0 m3_1 m3_2 m3_3 m3_4 m3_5 0 m3_7 m3_8 m3_9 m6_0 m6_1 m6_2 m6_3 m6_4 m6_5 m6_6 m6_7 m6_8 m6_9)
  (condM (.b (une t1 42))
  (F96_45 run m3_0 m3_1 m3_2 m3_3 m3_4 m3_5 5 m3_7 m3_8 m3_9 m6_0 m6_1 m6_2 m6_3 m6_4 m6_5 m6_6 m6_7 m6_8 m6_9)
  (F96_45 run m3_0 m3_1 m3_2 m3_3 m3_4 m3_5 m3_6 m3_7 m3_8 m3_9 m6_0 m6_1 m6_2 m6_3 m6_4 m6_5 m6_6 m6_7 m6_8 m6_9)))
  (F96_45 run m3_0 m3_1 m3_2 m3_3 m3_4 m3_5 m3_6 m3_7 m3_8 m3_9 m6_0 m6_1 m6_2 m6_3 m6_4 m6_5 m6_6 m6_7 m6_8 m6_9))))
theorem text96_23 (call : Nat → List AV → Option AV) (run : List Item → St → Option AV) (t1 : UInt8) (t2 : Bool) (t11 : Int) (m3_0 : UInt8) (m3_1 : UInt8) (m3_2 : Bool) (m3_3 : UInt8) (m3_4 : UInt8) (m3_5 : UInt8) (m3_6 : UInt8) (m3_7 : Bool) (m3_8 : UInt8) (m3_9 : List UInt8) (m6_0 : UInt8) (m6_1 : UInt8) (m6_2 : Bool) (m6_3 : UInt8) (m6_4 : UInt8) (m6_5 : UInt8) (m6_6 : UInt8) (m6_7 : Bool) (m6_8 : UInt8) (m6_9 : List UInt8) : step C call 96 Tryd.f96 (unr C call run 96 Tryd.f96 400) K96_23 (S96_23 t1 t2 t11 m3_0 m3_1 m3_2 m3_3 m3_4 m3_5 m3_6 m3_7 m3_8 m3_9 m6_0 m6_1 m6_2 m6_3 m6_4 m6_5 m6_6 m6_7 m6_8 m6_9) = X96_23 call run t1 t2 t11 m3_0 m3_1 m3_2 m3_3 m3_4 m3_5 m3_6 m3_7 m3_8 m3_9 m6_0 m6_1 m6_2 m6_3 m6_4 m6_5 m6_6 m6_7 m6_8 m6_9 := by
  kernel_rfl
noncomputable def X96_10 (call : Nat → List AV → Option AV) (run : List Item → St → Option AV) (t1 : UInt8) (m3_0 : UInt8) (m3_1 : UInt8) (m3_2 : Bool) (m3_3 : UInt8) (m3_4 : UInt8) (m3_5 : UInt8) (m3_6 : UInt8) (m3_7 : Bool) (m3_8 : UInt8) (m3_9 : List UInt8) (m6_0 : UInt8) (m6_1 : UInt8) (m6_2 : Bool) (m6_3 : UInt8) (m6_4 : UInt8) (m6_5 : UInt8) (m6_6 : UInt8) (m6_7 : Bool) (m6_8 : UInt8) (m6_9 : List UInt8) : Option AV :=
  condM (.b (ueq t1 47))
  (F96_45 run m3_0 m3_1 m3_2 m3_3 m3_4 m3_5 3 m3_7 m3_8 m3_9 m6_0 m6_1 m6_2 m6_3 m6_4 m6_5 m6_6 m6_7 m6_8 m6_9)
  (F96_45 run m3_0 m3_1 m3_2 m3_3 m3_4 m3_5 m3_6 m3_7 m3_8 m3_9 m6_0 m6_1 m6_2 m6_3 m6_4 m6_5 m6_6 m6_7 m6_8 m6_9)
theorem text96_10 (call : Nat → List AV → Option AV) (run : List Item → St → Option AV) (t1 : UInt8) (m3_0 : UInt8) (m3_1 : UInt8) (m3_2 : Bool) (m3_3 : UInt8) (m3_4 : UInt8) (m3_5 : UInt8) (m3_6 : UInt8) (m3_7 : Bool) (m3_8 : UInt8) (m3_9 : List UInt8) (m6_0 : UInt8) (m6_1 : UInt8) (m6_2 : Bool) (m6_3 : UInt8) (m6_4 : UInt8) (m6_5 : UInt8) (m6_6 : UInt8) (m6_7 : Bool) (m6_8 : UInt8) (m6_9 : List UInt8) : step C call 96 Tryd.f96 (unr C call run 96 Tryd.f96 400) K96_10 (S96_10 t1 m3_0 m3_1 m3_2 m3_3 m3_4 m3_5 m3_6 m3_7 m3_8 m3_9 m6_0 m6_1 m6_2 m6_3 m6_4 m6_5 m6_6 m6_7 m6_8 m6_9) = X96_10 call run t1 m3_0 m3_1 m3_2 m3_3 m3_4 m3_5 m3_6 m3_7 m3_8 m3_9 m6_0 m6_1 m6_2 m6_3 m6_4 m6_5 m6_6 m6_7 m6_8 m6_9 := by
  kernel_rfl
noncomputable def X96_19 (call : Nat → List AV → Option AV) (run : List Item → St → Option AV) (t1 : UInt8) (t7 : Int) (m3_0 : UInt8) (m3_1 : UInt8) (m3_2 : Bool) (m3_3 : UInt8) (m3_4 : UInt8) (m3_5 : UInt8) (m3_6 : UInt8) (m3_7 : Bool) (m3_8 : UInt8) (m3_9 : List UInt8) (m6_0 : UInt8) (m6_1 : UInt8) (m6_2 : Bool) (m6_3 : UInt8) (m6_4 : UInt8) (m6_5 : UInt8) (m6_6 : UInt8) (m6_7 : Bool) (m6_8 : UInt8) (m6_9 : List UInt8) : Option AV :=
  (selW (.b (ueq t1 10)) false (some (.b (ueq t1 13))) (.b true)).bind fun v1 => condM (v1)
  ((call 41 []).bind fun v2 => (AV.asAg 10 (v2)).bind fun v3 => some (.ag [v3.getD 0 .un, v3.getD 1 .un, v3.getD 2 .un, v3.getD 3 .un, v3.getD 4 .un, v3.getD 5 .un, v3.getD 6 .un, v3.getD 7 .un, v3.getD 8 .un, v3.getD 9 .un]))
  ((selW (.b (t7 == 1)) true (some (.b (ueq t1 34))) (.b false)).bind fun v4 => (selW (v4) false ((selW (.b (t7 == 2)) true (some (.b (ueq t1 39))) (.b false)).bind fun v5 => some (v5)) (.b true)).bind fun v6 => condM (v6)
  (F96_45 run m3_0 m3_1 m3_2 m3_3 m3_4 m3_5 0 m3_7 m3_8 m3_9 m6_0 m6_1 m6_2 m6_3 m6_4 m6_5 m6_6 m6_7 m6_8 m6_9)
  (F96_45 run m3_0 m3_1 m3_2 m3_3 m3_4 m3_5 m3_6 m3_7 m3_8 m3_9 m6_0 m6_1 m6_2 m6_3 m6_4 m6_5 m6_6 m6_7 m6_8 m6_9))
theorem text96_19 (call : Nat → List AV → Option AV) (run : List Item → St → Option AV) (t1 : UInt8) (t7 : Int) (m3_0 : UInt8) (m3_1 : UInt8) (m3_2 : Bool) (m3_3 : UInt8) (m3_4 : UInt8) (m3_5 : UInt8) (m3_6 : UInt8) (m3_7 : Bool) (m3_8 : UInt8) (m3_9 : List UInt8) (m6_0 : UInt8) (m6_1 : UInt8) (m6_2 : Bool) (m6_3 : UInt8) (m6_4 : UInt8) (m6_5 : UInt8) (m6_6 : UInt8) (m6_7 : Bool) (m6_8 : UInt8) (m6_9 : List UInt8) : step C call 96 Tryd.f96 (unr C call run 96 Tryd.f96 400) K96_19 (S96_19 t1 t7 m3_0 m3_1 m3_2 m3_3 m3_4 m3_5 m3_6 m3_7 m3_8 m3_9 m6_0 m6_1 m6_2 m6_3 m6_4 m6_5 m6_6 m6_7 m6_8 m6_9) = X96_19 call run t1 t7 m3_0 m3_1 m3_2 m3_3 m3_4 m3_5 m3_6 m3_7 m3_8 m3_9 m6_0 m6_1 m6_2 m6_3 m6_4 m6_5 m6_6 m6_7 m6_8 m6_9 := by
  kernel_rfl
noncomputable def X96_45 (call : Nat → List AV → Option AV) (run : List Item → St → Option AV) (m3_0 : UInt8) (m3_1 : UInt8) (m3_2 : Bool) (m3_3 : UInt8) (m3_4 : UInt8) (m3_5 : UInt8) (m3_6 : UInt8) (m3_7 : Bool) (m3_8 : UInt8) (m3_9 : List UInt8) (m6_0 : UInt8) (m6_1 : UInt8) (m6_2 : Bool) (m6_3 : UInt8) (m6_4 : UInt8) (m6_5 : UInt8) (m6_6 : UInt8) (m6_7 : Bool) (m6_8 : UInt8) (m6_9 : List UInt8) : Option AV :=
  some (.ag [.u8 m3_0, .u8 m3_1, .b m3_2, .u8 m3_3, .u8 m3_4, .u8 m3_5, .u8 m3_6, .b m3_7, .u8 m3_8, .s m3_9])
theorem text96_45 (call : Nat → List AV → Option AV) (run : List Item → St → Option AV) (m3_0 : UInt8) (m3_1 : UInt8) (m3_2 : Bool) (m3_3 : UInt8) (m3_4 : UInt8) (m3_5 : UInt8) (m3_6 : UInt8) (m3_7 : Bool) (m3_8 : UInt8) (m3_9 : List UInt8) (m6_0 : UInt8) (m6_1 : UInt8) (m6_2 : Bool) (m6_3 : UInt8) (m6_4 : UInt8) (m6_5 : UInt8) (m6_6 : UInt8) (m6_7 : Bool) (m6_8 : UInt8) (m6_9 : List UInt8) : step C call 96 Tryd.f96 (unr C call run 96 Tryd.f96 400) K96_45 (S96_45 m3_0 m3_1 m3_2 m3_3 m3_4 m3_5 m3_6 m3_7 m3_8 m3_9 m6_0 m6_1 m6_2 m6_3 m6_4 m6_5 m6_6 m6_7 m6_8 m6_9) = X96_45 call run m3_0 m3_1 m3_2 m3_3 m3_4 m3_5 m3_6 m3_7 m3_8 m3_9 m6_0 m6_1 m6_2 m6_3 m6_4 m6_5 m6_6 m6_7 m6_8 m6_9 := by
  kernel_rfl
theorem r96_8 (t1 : UInt8) (m3_0 : UInt8) (m3_1 : UInt8) (m3_2 : Bool) (m3_3 : UInt8) (m3_4 : UInt8) (m3_5 : UInt8) (m3_6 : UInt8) (m3_7 : Bool) (m3_8 : UInt8) (m3_9 : List UInt8) (m6_0 : UInt8) (m6_1 : UInt8) (m6_2 : Bool) (m6_3 : UInt8) (m6_4 : UInt8) (m6_5 : UInt8) (m6_6 : UInt8) (m6_7 : Bool) (m6_8 : UInt8) (m6_9 : List UInt8) {r : AV} (h : X96_8 (semCall C Tryd.prog) (semRun C Tryd.prog 96 Tryd.f96) t1 m3_0 m3_1 m3_2 m3_3 m3_4 m3_5 m3_6 m3_7 m3_8 m3_9 m6_0 m6_1 m6_2 m6_3 m6_4 m6_5 m6_6 m6_7 m6_8 m6_9 = some r) : F96_8 (semRun C Tryd.prog 96 Tryd.f96) t1 m3_0 m3_1 m3_2 m3_3 m3_4 m3_5 m3_6 m3_7 m3_8 m3_9 m6_0 m6_1 m6_2 m6_3 m6_4 m6_5 m6_6 m6_7 m6_8 m6_9 = some r :=
  semRun_unr 400 ((text96_8 _ _ t1 m3_0 m3_1 m3_2 m3_3 m3_4 m3_5 m3_6 m3_7 m3_8 m3_9 m6_0 m6_1 m6_2 m6_3 m6_4 m6_5 m6_6 m6_7 m6_8 m6_9).trans h)
theorem r96_14 (t1 : UInt8) (t7 : Int) (m3_0 : UInt8) (m3_1 : UInt8) (m3_2 : Bool) (m3_3 : UInt8) (m3_4 : UInt8) (m3_5 : UInt8) (m3_6 : UInt8) (m3_7 : Bool) (m3_8 : UInt8) (m3_9 : List UInt8) (m6_0 : UInt8) (m6_1 : UInt8) (m6_2 : Bool) (m6_3 : UInt8) (m6_4 : UInt8) (m6_5 : UInt8) (m6_6 : UInt8) (m6_7 : Bool) (m6_8 : UInt8) (m6_9 : List UInt8) {r : AV} (h : X96_14 (semCall C Tryd.prog) (semRun C Tryd.prog 96 Tryd.f96) t1 t7 m3_0 m3_1 m3_2 m3_3 m3_4 m3_5 m3_6 m3_7 m3_8 m3_9 m6_0 m6_1 m6_2 m6_3 m6_4 m6_5 m6_6 m6_7 m6_8 m6_9 = some r) : F96_14 (semRun C Tryd.prog 96 Tryd.f96) t1 t7 m3_0 m3_1 m3_2 m3_3 m3_4 m3_5 m3_6 m3_7 m3_8 m3_9 m6_0 m6_1 m6_2 m6_3 m6_4 m6_5 m6_6 m6_7 m6_8 m6_9 = some r :=
  semRun_unr 400 ((text96_14 _ _ t1 t7 m3_0 m3_1 m3_2 m3_3 m3_4 m3_5 m3_6 m3_7 m3_8 m3_9 m6_0 m6_1 m6_2 m6_3 m6_4 m6_5 m6_6 m6_7 m6_8 m6_9).trans h)
theorem r96_23 (t1 : UInt8) (t2 : Bool) (t11 : Int) (m3_0 : UInt8) (m3_1 : UInt8) (m3_2 : Bool) (m3_3 : UInt8) (m3_4 : UInt8) (m3_5 : UInt8) (m3_6 : UInt8) (m3_7 : Bool) (m3_8 : UInt8) (m3_9 : List UInt8) (m6_0 : UInt8) (m6_1 : UInt8) (m6_2 : Bool) (m6_3 : UInt8) (m6_4 : UInt8) (m6_5 : UInt8) (m6_6 : UInt8) (m6_7 : Bool) (m6_8 : UInt8) (m6_9 : List UInt8) {r : AV} (h : X96_23 (semCall C Tryd.prog) (semRun C Tryd.prog 96 Tryd.f96) t1 t2 t11 m3_0 m3_1 m3_2 m3_3 m3_4 m3_5 m3_6 m3_7 m3_8 m3_9 m6_0 m6_1 m6_2 m6_3 m6_4 m6_5 m6_6 m6_7 m6_8 m6_9 = some r) : F96_23 (semRun C Tryd.prog 96 Tryd.f96) t1 t2 t11 m3_0 m3_1 m3_2 m3_3 m3_4 m3_5 m3_6 m3_7 m3_8 m3_9 m6_0 m6_1 m6_2 m6_3 m6_4 m6_5 m6_6 m6_7 m6_8 m6_9 = some r :=
  semRun_unr 400 ((text96_23 _ _ t1 t2 t11 m3_0 m3_1 m3_2 m3_3 m3_4 m3_5 m3_6 m3_7 m3_8 m3_9 m6_0 m6_1 m6_2 m6_3 m6_4 m6_5 m6_6 m6_7 m6_8 m6_9).trans h)
theorem r96_10 (t1 : UInt8) (m3_0 : UInt8) (m3_1 : UInt8) (m3_2 : Bool) (m3_3 : UInt8) (m3_4 : UInt8) (m3_5 : UInt8) (m3_6 : UInt8) (m3_7 : Bool) (m3_8 : UInt8) (m3_9 : List UInt8) (m6_0 : UInt8) (m6_1 : UInt8) (m6_2 : Bool) (m6_3 : UInt8) (m6_4 : UInt8) (m6_5 : UInt8) (m6_6 : UInt8) (m6_7 : Bool) (m6_8 : UInt8) (m6_9 : List UInt8) {r : AV} (h : X96_10 (semCall C Tryd.prog) (semRun C Tryd.prog 96 Tryd.f96) t1 m3_0 m3_1 m3_2 m3_3 m3_4 m3_5 m3_6 m3_7 m3_8 m3_9 m6_0 m6_1 m6_2 m6_3 m6_4 m6_5 m6_6 m6_7 m6_8 m6_9 = some r) : F96_10 (semRun C Tryd.prog 96 Tryd.f96) t1 m3_0 m3_1 m3_2 m3_3 m3_4 m3_5 m3_6 m3_7 m3_8 m3_9 m6_0 m6_1 m6_2 m6_3 m6_4 m6_5 m6_6 m6_7 m6_8 m6_9 = some r :=
  semRun_unr 400 ((text96_10 _ _ t1 m3_0 m3_1 m3_2 m3_3 m3_4 m3_5 m3_6 m3_7 m3_8 m3_9 m6_0 m6_1 m6_2 m6_3 m6_4 m6_5 m6_6 m6_7 m6_8 m6_9).trans h)
theorem r96_19 (t1 : UInt8) (t7 : Int) (m3_0 : UInt8) (m3_1 : UInt8) (m3_2 : Bool) (m3_3 : UInt8) (m3_4 : UInt8) (m3_5 : UInt8) (m3_6 : UInt8) (m3_7 : Bool) (m3_8 : UInt8) (m3_9 : List UInt8) (m6_0 : UInt8) (m6_1 : UInt8) (m6_2 : Bool) (m6_3 : UInt8) (m6_4 : UInt8) (m6_5 : UInt8) (m6_6 : UInt8) (m6_7 : Bool) (m6_8 : UInt8) (m6_9 : List UInt8) {r : AV} (h : X96_19 (semCall C Tryd.prog) (semRun C Tryd.prog 96 Tryd.f96) t1 t7 m3_0 m3_1 m3_2 m3_3 m3_4 m3_5 m3_6 m3_7 m3_8 m3_9 m6_0 m6_1 m6_2 m6_3 m6_4 m6_5 m6_6 m6_7 m6_8 m6_9 = some r) : F96_19 (semRun C Tryd.prog 96 Tryd.f96) t1 t7 m3_0 m3_1 m3_2 m3_3 m3_4 m3_5 m3_6 m3_7 m3_8 m3_9 m6_0 m6_1 m6_2 m6_3 m6_4 m6_5 m6_6 m6_7 m6_8 m6_9 = some r :=
  semRun_unr 400 ((text96_19 _ _ t1 t7 m3_0 m3_1 m3_2 m3_3 m3_4 m3_5 m3_6 m3_7 m3_8 m3_9 m6_0 m6_1 m6_2 m6_3 m6_4 m6_5 m6_6 m6_7 m6_8 m6_9).trans h)
theorem r96_45 (m3_0 : UInt8) (m3_1 : UInt8) (m3_2 : Bool) (m3_3 : UInt8) (m3_4 : UInt8) (m3_5 : UInt8) (m3_6 : UInt8) (m3_7 : Bool) (m3_8 : UInt8) (m3_9 : List UInt8) (m6_0 : UInt8) (m6_1 : UInt8) (m6_2 : Bool) (m6_3 : UInt8) (m6_4 : UInt8) (m6_5 : UInt8) (m6_6 : UInt8) (m6_7 : Bool) (m6_8 : UInt8) (m6_9 : List UInt8) {r : AV} (h : X96_45 (semCall C Tryd.prog) (semRun C Tryd.prog 96 Tryd.f96) m3_0 m3_1 m3_2 m3_3 m3_4 m3_5 m3_6 m3_7 m3_8 m3_9 m6_0 m6_1 m6_2 m6_3 m6_4 m6_5 m6_6 m6_7 m6_8 m6_9 = some r) : F96_45 (semRun C Tryd.prog 96 Tryd.f96) m3_0 m3_1 m3_2 m3_3 m3_4 m3_5 m3_6 m3_7 m3_8 m3_9 m6_0 m6_1 m6_2 m6_3 m6_4 m6_5 m6_6 m6_7 m6_8 m6_9 = some r :=
  semRun_unr 400 ((text96_45 _ _ m3_0 m3_1 m3_2 m3_3 m3_4 m3_5 m3_6 m3_7 m3_8 m3_9 m6_0 m6_1 m6_2 m6_3 m6_4 m6_5 m6_6 m6_7 m6_8 m6_9).trans h)
end R2

namespace R2
open Go Go.Proofs Sx
noncomputable def body97 : Code := (Tryd.f97.body).getD .skip
noncomputable def K97_4 : List Item := (kAt 4 body97 []).getD []
def S97_4 (t1 : List UInt8) (t5 : Int) (m2_0 : AV) (m2_1 : AV) (m2_2 : AV) (m2_3 : AV) (m2_4 : AV) (m2_5 : AV) (m2_6 : AV) (m2_7 : AV) (m2_8 : AV) (m2_9 : AV) (m4_0 : UInt8) (m4_1 : UInt8) (m4_2 : Bool) (m4_3 : UInt8) (m4_4 : UInt8) (m4_5 : UInt8) (m4_6 : UInt8) (m4_7 : Bool) (m4_8 : UInt8) (m4_9 : List UInt8) : St := St.ofL [(1, .cell (.val (.s t1))), (2, .cell (.ptr 2 0)), (4, .cell (.ptr 4 0)), (5, .cell (.val (.int t5)))] [(2, some [.val (m2_0), .val (m2_1), .val (m2_2), .val (m2_3), .val (m2_4), .val (m2_5), .val (m2_6), .val (m2_7), .val (m2_8), .val (m2_9)]), (4, some [.val (.u8 m4_0), .val (.u8 m4_1), .val (.b m4_2), .val (.u8 m4_3), .val (.u8 m4_4), .val (.u8 m4_5), .val (.u8 m4_6), .val (.b m4_7), .val (.u8 m4_8), .val (.s m4_9)])]
noncomputable def F97_4 (run : List Item → St → Option AV) (t1 : List UInt8) (t5 : Int) (m2_0 : AV) (m2_1 : AV) (m2_2 : AV) (m2_3 : AV) (m2_4 : AV) (m2_5 : AV) (m2_6 : AV) (m2_7 : AV) (m2_8 : AV) (m2_9 : AV) (m4_0 : UInt8) (m4_1 : UInt8) (m4_2 : Bool) (m4_3 : UInt8) (m4_4 : UInt8) (m4_5 : UInt8) (m4_6 : UInt8) (m4_7 : Bool) (m4_8 : UInt8) (m4_9 : List UInt8) : Option AV := run K97_4 (S97_4 t1 t5 m2_0 m2_1 m2_2 m2_3 m2_4 m2_5 m2_6 m2_7 m2_8 m2_9 m4_0 m4_1 m4_2 m4_3 m4_4 m4_5 m4_6 m4_7 m4_8 m4_9)
noncomputable def X97 (call : Nat → List AV → Option AV) (run : List Item → St → Option AV) (x0_0 : UInt8) (x0_1 : UInt8) (x0_2 : Bool) (x0_3 : UInt8) (x0_4 : UInt8) (x0_5 : UInt8) (x0_6 : UInt8) (x0_7 : Bool) (x0_8 : UInt8) (x0_9 : List UInt8) (x1 : List UInt8) : Option AV :=
  F97_4 run x1 0 (.u8 17) (.u8 x0_1) (.b x0_2) (.u8 x0_3) (.u8 x0_4) (.u8 x0_5) (.u8 x0_6) (.b x0_7) (.u8 x0_8) (.s []) 0 0 false 0 0 0 0 false 0 []
theorem text97 (call : Nat → List AV → Option AV) (run : List Item → St → Option AV) (x0_0 : UInt8) (x0_1 : UInt8) (x0_2 : Bool) (x0_3 : UInt8) (x0_4 : UInt8) (x0_5 : UInt8) (x0_6 : UInt8) (x0_7 : Bool) (x0_8 : UInt8) (x0_9 : List UInt8) (x1 : List UInt8) : unr C call run 97 Tryd.f97 400 [.code body97] (initSt [.ag [.u8 x0_0, .u8 x0_1, .b x0_2, .u8 x0_3, .u8 x0_4, .u8 x0_5, .u8 x0_6, .b x0_7, .u8 x0_8, .s x0_9], .s x1]) = X97 call run x0_0 x0_1 x0_2 x0_3 x0_4 x0_5 x0_6 x0_7 x0_8 x0_9 x1 := by
  kernel_rfl
theorem c97 (x0_0 : UInt8) (x0_1 : UInt8) (x0_2 : Bool) (x0_3 : UInt8) (x0_4 : UInt8) (x0_5 : UInt8) (x0_6 : UInt8) (x0_7 : Bool) (x0_8 : UInt8) (x0_9 : List UInt8) (x1 : List UInt8) {r : AV} (h : X97 (semCall C Tryd.prog) (semRun C Tryd.prog 97 Tryd.f97) x0_0 x0_1 x0_2 x0_3 x0_4 x0_5 x0_6 x0_7 x0_8 x0_9 x1 = some r) : semCall C Tryd.prog 97 [.ag [.u8 x0_0, .u8 x0_1, .b x0_2, .u8 x0_3, .u8 x0_4, .u8 x0_5, .u8 x0_6, .b x0_7, .u8 x0_8, .s x0_9], .s x1] = some r :=
  semCall_unr (fn := Tryd.f97) (c := body97) (by kernel_rfl) (by kernel_rfl) 400 (by kernel_rfl) ((text97 _ _ x0_0 x0_1 x0_2 x0_3 x0_4 x0_5 x0_6 x0_7 x0_8 x0_9 x1).trans h)
noncomputable def X97_4 (call : Nat → List AV → Option AV) (run : List Item → St → Option AV) (t1 : List UInt8) (t5 : Int) (m2_0 : AV) (m2_1 : AV) (m2_2 : AV) (m2_3 : AV) (m2_4 : AV) (m2_5 : AV) (m2_6 : AV) (m2_7 : AV) (m2_8 : AV) (m2_9 : AV) (m4_0 : UInt8) (m4_1 : UInt8) (m4_2 : Bool) (m4_3 : UInt8) (m4_4 : UInt8) (m4_5 : UInt8) (m4_6 : UInt8) (m4_7 : Bool) (m4_8 : UInt8) (m4_9 : List UInt8) : Option AV :=
  (selW (.b (decide (t5 < ((t1.length : Int))))) true ((binI .eql (m2_1) (.u8 3)).bind fun v1 => (selW (v1) false ((binI .eql (m2_1) (.u8 4)).bind fun v2 => some (v2)) (.b true)).bind fun v3 => some (v3)) (.b false)).bind fun v4 => (selW (v4) true ((conv .i64 (m2_0)).bind fun v5 => (binI .eql (v5) (.int 17)).bind fun v6 => some (v6)) (.b false)).bind fun v7 => condM (v7)
  ((idxS (.s t1) (.int t5)).bind fun v8 => (binI .eql (m2_1) (.u8 3)).bind fun v9 => (call 96 [.ag [m2_0, m2_1, m2_2, m2_3, m2_4, m2_5, m2_6, m2_7, m2_8, m2_9], v8, v9]).bind fun v10 => (AV.asAg 10 (v10)).bind fun v11 => F97_4 run t1 (w64 (t5 + 1)) (v11.getD 0 .un) (v11.getD 1 .un) (v11.getD 2 .un) (v11.getD 3 .un) (v11.getD 4 .un) (v11.getD 5 .un) (v11.getD 6 .un) (v11.getD 7 .un) (v11.getD 8 .un) (v11.getD 9 .un) m4_0 m4_1 m4_2 m4_3 m4_4 m4_5 m4_6 m4_7 m4_8 m4_9)
  (some (.ag [m2_0, m2_1, m2_2, m2_3, m2_4, m2_5, m2_6, m2_7, m2_8, m2_9]))
theorem text97_4 (call : Nat → List AV → Option AV) (run : List Item → St → Option AV) (t1 : List UInt8) (t5 : Int) (m2_0 : AV) (m2_1 : AV) (m2_2 : AV) (m2_3 : AV) (m2_4 : AV) (m2_5 : AV) (m2_6 : AV) (m2_7 : AV) (m2_8 : AV) (m2_9 : AV) (m4_0 : UInt8) (m4_1 : UInt8) (m4_2 : Bool) (m4_3 : UInt8) (m4_4 : UInt8) (m4_5 : UInt8) (m4_6 : UInt8) (m4_7 : Bool) (m4_8 : UInt8) (m4_9 : List UInt8) : step C call 97 Tryd.f97 (unr C call run 97 Tryd.f97 400) K97_4 (S97_4 t1 t5 m2_0 m2_1 m2_2 m2_3 m2_4 m2_5 m2_6 m2_7 m2_8 m2_9 m4_0 m4_1 m4_2 m4_3 m4_4 m4_5 m4_6 m4_7 m4_8 m4_9) = X97_4 call run t1 t5 m2_0 m2_1 m2_2 m2_3 m2_4 m2_5 m2_6 m2_7 m2_8 m2_9 m4_0 m4_1 m4_2 m4_3 m4_4 m4_5 m4_6 m4_7 m4_8 m4_9 := by
  kernel_rfl
theorem r97_4 (t1 : List UInt8) (t5 : Int) (m2_0 : AV) (m2_1 : AV) (m2_2 : AV) (m2_3 : AV) (m2_4 : AV) (m2_5 : AV) (m2_6 : AV) (m2_7 : AV) (m2_8 : AV) (m2_9 : AV) (m4_0 : UInt8) (m4_1 : UInt8) (m4_2 : Bool) (m4_3 : UInt8) (m4_4 : UInt8) (m4_5 : UInt8) (m4_6 : UInt8) (m4_7 : Bool) (m4_8 : UInt8) (m4_9 : List UInt8) {r : AV} (h : X97_4 (semCall C Tryd.prog) (semRun C Tryd.prog 97 Tryd.f97) t1 t5 m2_0 m2_1 m2_2 m2_3 m2_4 m2_5 m2_6 m2_7 m2_8 m2_9 m4_0 m4_1 m4_2 m4_3 m4_4 m4_5 m4_6 m4_7 m4_8 m4_9 = some r) : F97_4 (semRun C Tryd.prog 97 Tryd.f97) t1 t5 m2_0 m2_1 m2_2 m2_3 m2_4 m2_5 m2_6 m2_7 m2_8 m2_9 m4_0 m4_1 m4_2 m4_3 m4_4 m4_5 m4_6 m4_7 m4_8 m4_9 = some r :=
  semRun_unr 400 ((text97_4 _ _ t1 t5 m2_0 m2_1 m2_2 m2_3 m2_4 m2_5 m2_6 m2_7 m2_8 m2_9 m4_0 m4_1 m4_2 m4_3 m4_4 m4_5 m4_6 m4_7 m4_8 m4_9).trans h)
end R2

namespace R2
open Go Go.Proofs Sx
noncomputable def body98 : Code := (Tryd.f98.body).getD .skip
noncomputable def X98 (call : Nat → List AV → Option AV) (run : List Item → St → Option AV) (x0 : List UInt8) (x1 : List UInt8) : Option AV :=
  (selW (.b (decide (((x0.length : Int)) ≥ ((x1.length : Int))))) true ((slS (.s x0) none (some (.int ((x1.length : Int))))).bind fun v1 => (binS .eql (v1) (.s x1)).bind fun v2 => some (v2)) (.b false)).bind fun v3 => some (v3)
theorem text98 (call : Nat → List AV → Option AV) (run : List Item → St → Option AV) (x0 : List UInt8) (x1 : List UInt8) : unr C call run 98 Tryd.f98 400 [.code body98] (initSt [.s x0, .s x1]) = X98 call run x0 x1 := by
  kernel_rfl
theorem c98 (x0 : List UInt8) (x1 : List UInt8) {r : AV} (h : X98 (semCall C Tryd.prog) (semRun C Tryd.prog 98 Tryd.f98) x0 x1 = some r) : semCall C Tryd.prog 98 [.s x0, .s x1] = some r :=
  semCall_unr (fn := Tryd.f98) (c := body98) (by kernel_rfl) (by kernel_rfl) 400 (by kernel_rfl) ((text98 _ _ x0 x1).trans h)
end R2

namespace R2
open Go Go.Proofs Sx
noncomputable def body99 : Code := (Tryd.f99.body).getD .skip
noncomputable def X99 (call : Nat → List AV → Option AV) (run : List Item → St → Option AV) (x0 : List UInt8) (x1 : List UInt8) : Option AV :=
  (call 98 [.s x0, .s x1]).bind fun v1 => condM (v1)
  ((slS (.s x0) (some (.int ((x1.length : Int)))) none).bind fun v2 => some (v2))
  (some (.s x0))
theorem text99 (call : Nat → List AV → Option AV) (run : List Item → St → Option AV) (x0 : List UInt8) (x1 : List UInt8) : unr C call run 99 Tryd.f99 400 [.code body99] (initSt [.s x0, .s x1]) = X99 call run x0 x1 := by
  kernel_rfl
theorem c99 (x0 : List UInt8) (x1 : List UInt8) {r : AV} (h : X99 (semCall C Tryd.prog) (semRun C Tryd.prog 99 Tryd.f99) x0 x1 = some r) : semCall C Tryd.prog 99 [.s x0, .s x1] = some r :=
  semCall_unr (fn := Tryd.f99) (c := body99) (by kernel_rfl) (by kernel_rfl) 400 (by kernel_rfl) ((text99 _ _ x0 x1).trans h)
end R2

namespace R2
open Go Go.Proofs Sx
noncomputable def body105 : Code := (Tryd.f105.body).getD .skip
noncomputable def K105_13 : List Item := (kAt 13 body105 []).getD []
def S105_13  : St := St.ofL [] []
noncomputable def F105_13 (run : List Item → St → Option AV)  : Option AV := run K105_13 (S105_13 )
noncomputable def K105_14 : List Item := (kAt 14 body105 []).getD []
def S105_14 (t0 : List UInt8) (t3 : List UInt8) : St := St.ofL [(0, .cell (.val (.s t0))), (3, .cell (.val (.s t3)))] []
noncomputable def F105_14 (run : List Item → St → Option AV) (t0 : List UInt8) (t3 : List UInt8) : Option AV := run K105_14 (S105_14 t0 t3)
noncomputable def K105_21 : List Item := (kAt 21 body105 []).getD []
def S105_21  : St := St.ofL [] []
noncomputable def F105_21 (run : List Item → St → Option AV)  : Option AV := run K105_21 (S105_21 )
noncomputable def K105_22 : List Item := (kAt 22 body105 []).getD []
def S105_22 (t0 : List UInt8) : St := St.ofL [(0, .cell (.val (.s t0)))] []
noncomputable def F105_22 (run : List Item → St → Option AV) (t0 : List UInt8) : Option AV := run K105_22 (S105_22 t0)
noncomputable def X105 (call : Nat → List AV → Option AV) (run : List Item → St → Option AV) (x0 : List UInt8) : Option AV :=
  condM (.b (x0 == [97, 99, 116, 105, 111, 110]))
  (F105_13 run)
  (condM (.b (x0 == [98, 97, 99, 107, 103, 114, 111, 117, 110, 100]))
  (F105_13 run)
  (condM (.b (x0 == [99, 105, 116, 101]))
  (F105_13 run)
  (condM (.b (x0 == [100, 97, 116, 97]))
  (F105_13 run)
  (condM (.b (x0 == [102, 111, 114, 109, 97, 99, 116, 105, 111, 110]))
  (F105_13 run)
  (condM (.b (x0 == [104, 114, 101, 102]))
  (F105_13 run)
  (condM (.b (x0 == [108, 111, 110, 103, 100, 101, 115, 99]))
  (F105_13 run)
  (condM (.b (x0 == [109, 97, 110, 105, 102, 101, 115, 116]))
  (F105_13 run)
  (condM (.b (x0 == [112, 111, 115, 116, 101, 114]))
  (F105_13 run)
  (condM (.b (x0 == [115, 114, 99]))
  (F105_13 run)
  (condM (.b (x0 == [120, 108, 105, 110, 107, 58, 104, 114, 101, 102]))
  (F105_13 run)
  (F105_14 run x0 x0)))))))))))
theorem text105 (call : Nat → List AV → Option AV) (run : List Item → St → Option AV) (x0 : List UInt8) : unr C call run 105 Tryd.f105 400 [.code body105] (initSt [.s x0]) = X105 call run x0 := by
  kernel_rfl
theorem c105 (x0 : List UInt8) {r : AV} (h : X105 (semCall C Tryd.prog) (semRun C Tryd.prog 105 Tryd.f105) x0 = some r) : semCall C Tryd.prog 105 [.s x0] = some r :=
  semCall_unr (fn := Tryd.f105) (c := body105) (by kernel_rfl) (by kernel_rfl) 400 (by kernel_rfl) ((text105 _ _ x0).trans h)
noncomputable def X105_13 (call : Nat → List AV → Option AV) (run : List Item → St → Option AV)  : Option AV :=
  some (.u8 1)
theorem text105_13 (call : Nat → List AV → Option AV) (run : List Item → St → Option AV)  : step C call 105 Tryd.f105 (unr C call run 105 Tryd.f105 400) K105_13 (S105_13 ) = X105_13 call run  := by
  kernel_rfl
noncomputable def X105_14 (call : Nat → List AV → Option AV) (run : List Item → St → Option AV) (t0 : List UInt8) (t3 : List UInt8) : Option AV :=
  condM (.b (t3 == [115, 116, 121, 108, 101]))
  (some (.u8 3))
  (condM (.b (t3 == [115, 114, 99, 100, 111, 99]))
  (F105_21 run)
  (condM (.b (t3 == [115, 114, 99, 115, 101, 116]))
  (F105_21 run)
  (condM (.b (t3 == [105, 109, 97, 103, 101, 115, 114, 99, 115, 101, 116]))
  (F105_21 run)
  (condM (.b (t3 == [99, 111, 110, 116, 101, 110, 116]))
  (F105_21 run)
  (condM (.b (t3 == [104, 116, 116, 112, 45, 101, 113, 117, 105, 118]))
  (F105_21 run)
  (F105_22 run t0))))))
theorem text105_14 (call : Nat → List AV → Option AV) (run : List Item → St → Option AV) (t0 : List UInt8) (t3 : List UInt8) : step C call 105 Tryd.f105 (unr C call run 105 Tryd.f105 400) K105_14 (S105_14 t0 t3) = X105_14 call run t0 t3 := by
  kernel_rfl
noncomputable def X105_21 (call : Nat → List AV → Option AV) (run : List Item → St → Option AV)  : Option AV :=
  some (.u8 4)
theorem text105_21 (call : Nat → List AV → Option AV) (run : List Item → St → Option AV)  : step C call 105 Tryd.f105 (unr C call run 105 Tryd.f105 400) K105_21 (S105_21 ) = X105_21 call run  := by
  kernel_rfl
noncomputable def X105_22 (call : Nat → List AV → Option AV) (run : List Item → St → Option AV) (t0 : List UInt8) : Option AV :=
  (selW (.b (decide (((t0.length : Int)) > 2))) true ((call 76 [.s t0, .s [111, 110]]).bind fun v1 => some (v1)) (.b false)).bind fun v2 => condM (v2)
  (some (.u8 2))
  (some (.u8 0))
theorem text105_22 (call : Nat → List AV → Option AV) (run : List Item → St → Option AV) (t0 : List UInt8) : step C call 105 Tryd.f105 (unr C call run 105 Tryd.f105 400) K105_22 (S105_22 t0) = X105_22 call run t0 := by
  kernel_rfl
theorem r105_13  {r : AV} (h : X105_13 (semCall C Tryd.prog) (semRun C Tryd.prog 105 Tryd.f105)  = some r) : F105_13 (semRun C Tryd.prog 105 Tryd.f105)  = some r :=
  semRun_unr 400 ((text105_13 _ _ ).trans h)
theorem r105_14 (t0 : List UInt8) (t3 : List UInt8) {r : AV} (h : X105_14 (semCall C Tryd.prog) (semRun C Tryd.prog 105 Tryd.f105) t0 t3 = some r) : F105_14 (semRun C Tryd.prog 105 Tryd.f105) t0 t3 = some r :=
  semRun_unr 400 ((text105_14 _ _ t0 t3).trans h)
theorem r105_21  {r : AV} (h : X105_21 (semCall C Tryd.prog) (semRun C Tryd.prog 105 Tryd.f105)  = some r) : F105_21 (semRun C Tryd.prog 105 Tryd.f105)  = some r :=
  semRun_unr 400 ((text105_21 _ _ ).trans h)
theorem r105_22 (t0 : List UInt8) {r : AV} (h : X105_22 (semCall C Tryd.prog) (semRun C Tryd.prog 105 Tryd.f105) t0 = some r) : F105_22 (semRun C Tryd.prog 105 Tryd.f105) t0 = some r :=
  semRun_unr 400 ((text105_22 _ _ t0).trans h)
end R2

namespace R2
open Go Go.Proofs Sx
noncomputable def body106 : Code := (Tryd.f106.body).getD .skip
noncomputable def X106 (call : Nat → List AV → Option AV) (run : List Item → St → Option AV) (x0 : List UInt8) (x1 : UInt8) : Option AV :=
  (call 112 [.s x0, .u8 x1]).bind fun v1 => some (v1)
theorem text106 (call : Nat → List AV → Option AV) (run : List Item → St → Option AV) (x0 : List UInt8) (x1 : UInt8) : unr C call run 106 Tryd.f106 400 [.code body106] (initSt [.s x0, .u8 x1]) = X106 call run x0 x1 := by
  kernel_rfl
theorem c106 (x0 : List UInt8) (x1 : UInt8) {r : AV} (h : X106 (semCall C Tryd.prog) (semRun C Tryd.prog 106 Tryd.f106) x0 x1 = some r) : semCall C Tryd.prog 106 [.s x0, .u8 x1] = some r :=
  semCall_unr (fn := Tryd.f106) (c := body106) (by kernel_rfl) (by kernel_rfl) 400 (by kernel_rfl) ((text106 _ _ x0 x1).trans h)
end R2

namespace R2
open Go Go.Proofs Sx
noncomputable def body107 : Code := (Tryd.f107.body).getD .skip
noncomputable def K107_9 : List Item := (kAt 9 body107 []).getD []
def S107_9 (m2_0 : UInt8) (m2_1 : UInt8) (m2_2 : Bool) (m2_3 : UInt8) (m2_4 : UInt8) (m2_5 : UInt8) (m2_6 : UInt8) (m2_7 : Bool) (m2_8 : UInt8) (m2_9 : List UInt8) (m4_0 : UInt8) (m4_1 : UInt8) (m4_2 : Bool) (m4_3 : UInt8) (m4_4 : UInt8) (m4_5 : UInt8) (m4_6 : UInt8) (m4_7 : Bool) (m4_8 : UInt8) (m4_9 : List UInt8) : St := St.ofL [(2, .cell (.ptr 2 0)), (4, .cell (.ptr 4 0))] [(2, some [.val (.u8 m2_0), .val (.u8 m2_1), .val (.b m2_2), .val (.u8 m2_3), .val (.u8 m2_4), .val (.u8 m2_5), .val (.u8 m2_6), .val (.b m2_7), .val (.u8 m2_8), .val (.s m2_9)]), (4, some [.val (.u8 m4_0), .val (.u8 m4_1), .val (.b m4_2), .val (.u8 m4_3), .val (.u8 m4_4), .val (.u8 m4_5), .val (.u8 m4_6), .val (.b m4_7), .val (.u8 m4_8), .val (.s m4_9)])]
noncomputable def F107_9 (run : List Item → St → Option AV) (m2_0 : UInt8) (m2_1 : UInt8) (m2_2 : Bool) (m2_3 : UInt8) (m2_4 : UInt8) (m2_5 : UInt8) (m2_6 : UInt8) (m2_7 : Bool) (m2_8 : UInt8) (m2_9 : List UInt8) (m4_0 : UInt8) (m4_1 : UInt8) (m4_2 : Bool) (m4_3 : UInt8) (m4_4 : UInt8) (m4_5 : UInt8) (m4_6 : UInt8) (m4_7 : Bool) (m4_8 : UInt8) (m4_9 : List UInt8) : Option AV := run K107_9 (S107_9 m2_0 m2_1 m2_2 m2_3 m2_4 m2_5 m2_6 m2_7 m2_8 m2_9 m4_0 m4_1 m4_2 m4_3 m4_4 m4_5 m4_6 m4_7 m4_8 m4_9)
noncomputable def X107 (call : Nat → List AV → Option AV) (run : List Item → St → Option AV) (x0_0 : UInt8) (x0_1 : UInt8) (x0_2 : Bool) (x0_3 : UInt8) (x0_4 : UInt8) (x0_5 : UInt8) (x0_6 : UInt8) (x0_7 : Bool) (x0_8 : UInt8) (x0_9 : List UInt8) (x1 : UInt8) : Option AV :=
  condM (.b x0_7)
  (F107_9 run x0_0 x0_1 x0_2 x0_3 x0_4 x0_5 x0_6 false x0_8 x0_9 0 0 false 0 0 0 0 false 0 [])
  (condM (.b (ueq x1 92))
  (F107_9 run x0_0 x0_1 x0_2 x0_3 x0_4 x0_5 x0_6 true x0_8 x0_9 0 0 false 0 0 0 0 false 0 [])
  ((selW (.b (ueq x1 10)) false (some (.b (ueq x1 13))) (.b true)).bind fun v1 => condM (v1)
  (some (.ag [.u8 20, .u8 0, .b false, .u8 0, .u8 0, .u8 0, .u8 0, .b false, .u8 0, .s []]))
  ((selW (.b (ueq x1 34)) true (some (.b (ueq x0_6 1))) (.b false)).bind fun v2 => (selW (v2) false ((selW (.b (ueq x1 39)) true (some (.b (ueq x0_6 2))) (.b false)).bind fun v3 => some (v3)) (.b true)).bind fun v4 => condM (v4)
  (F107_9 run x0_0 x0_1 x0_2 x0_3 x0_4 x0_5 0 x0_7 x0_8 x0_9 0 0 false 0 0 0 0 false 0 [])
  (F107_9 run x0_0 x0_1 x0_2 x0_3 x0_4 x0_5 x0_6 x0_7 x0_8 x0_9 0 0 false 0 0 0 0 false 0 []))))
theorem text107 (call : Nat → List AV → Option AV) (run : List Item → St → Option AV) (x0_0 : UInt8) (x0_1 : UInt8) (x0_2 : Bool) (x0_3 : UInt8) (x0_4 : UInt8) (x0_5 : UInt8) (x0_6 : UInt8) (x0_7 : Bool) (x0_8 : UInt8) (x0_9 : List UInt8) (x1 : UInt8) : unr C call run 107 Tryd.f107 400 [.code body107] (initSt [.ag [.u8 x0_0, .u8 x0_1, .b x0_2, .u8 x0_3, .u8 x0_4, .u8 x0_5, .u8 x0_6, .b x0_7, .u8 x0_8, .s x0_9], .u8 x1]) = X107 call run x0_0 x0_1 x0_2 x0_3 x0_4 x0_5 x0_6 x0_7 x0_8 x0_9 x1 := by
  kernel_rfl
theorem c107 (x0_0 : UInt8) (x0_1 : UInt8) (x0_2 : Bool) (x0_3 : UInt8) (x0_4 : UInt8) (x0_5 : UInt8) (x0_6 : UInt8) (x0_7 : Bool) (x0_8 : UInt8) (x0_9 : List UInt8) (x1 : UInt8) {r : AV} (h : X107 (semCall C Tryd.prog) (semRun C Tryd.prog 107 Tryd.f107) x0_0 x0_1 x0_2 x0_3 x0_4 x0_5 x0_6 x0_7 x0_8 x0_9 x1 = some r) : semCall C Tryd.prog 107 [.ag [.u8 x0_0, .u8 x0_1, .b x0_2, .u8 x0_3, .u8 x0_4, .u8 x0_5, .u8 x0_6, .b x0_7, .u8 x0_8, .s x0_9], .u8 x1] = some r :=
  semCall_unr (fn := Tryd.f107) (c := body107) (by kernel_rfl) (by kernel_rfl) 400 (by kernel_rfl) ((text107 _ _ x0_0 x0_1 x0_2 x0_3 x0_4 x0_5 x0_6 x0_7 x0_8 x0_9 x1).trans h)
noncomputable def X107_9 (call : Nat → List AV → Option AV) (run : List Item → St → Option AV) (m2_0 : UInt8) (m2_1 : UInt8) (m2_2 : Bool) (m2_3 : UInt8) (m2_4 : UInt8) (m2_5 : UInt8) (m2_6 : UInt8) (m2_7 : Bool) (m2_8 : UInt8) (m2_9 : List UInt8) (m4_0 : UInt8) (m4_1 : UInt8) (m4_2 : Bool) (m4_3 : UInt8) (m4_4 : UInt8) (m4_5 : UInt8) (m4_6 : UInt8) (m4_7 : Bool) (m4_8 : UInt8) (m4_9 : List UInt8) : Option AV :=
  some (.ag [.u8 m2_0, .u8 m2_1, .b m2_2, .u8 m2_3, .u8 m2_4, .u8 m2_5, .u8 m2_6, .b m2_7, .u8 m2_8, .s m2_9])
theorem text107_9 (call : Nat → List AV → Option AV) (run : List Item → St → Option AV) (m2_0 : UInt8) (m2_1 : UInt8) (m2_2 : Bool) (m2_3 : UInt8) (m2_4 : UInt8) (m2_5 : UInt8) (m2_6 : UInt8) (m2_7 : Bool) (m2_8 : UInt8) (m2_9 : List UInt8) (m4_0 : UInt8) (m4_1 : UInt8) (m4_2 : Bool) (m4_3 : UInt8) (m4_4 : UInt8) (m4_5 : UInt8) (m4_6 : UInt8) (m4_7 : Bool) (m4_8 : UInt8) (m4_9 : List UInt8) : step C call 107 Tryd.f107 (unr C call run 107 Tryd.f107 400) K107_9 (S107_9 m2_0 m2_1 m2_2 m2_3 m2_4 m2_5 m2_6 m2_7 m2_8 m2_9 m4_0 m4_1 m4_2 m4_3 m4_4 m4_5 m4_6 m4_7 m4_8 m4_9) = X107_9 call run m2_0 m2_1 m2_2 m2_3 m2_4 m2_5 m2_6 m2_7 m2_8 m2_9 m4_0 m4_1 m4_2 m4_3 m4_4 m4_5 m4_6 m4_7 m4_8 m4_9 := by
  kernel_rfl
theorem r107_9 (m2_0 : UInt8) (m2_1 : UInt8) (m2_2 : Bool) (m2_3 : UInt8) (m2_4 : UInt8) (m2_5 : UInt8) (m2_6 : UInt8) (m2_7 : Bool) (m2_8 : UInt8) (m2_9 : List UInt8) (m4_0 : UInt8) (m4_1 : UInt8) (m4_2 : Bool) (m4_3 : UInt8) (m4_4 : UInt8) (m4_5 : UInt8) (m4_6 : UInt8) (m4_7 : Bool) (m4_8 : UInt8) (m4_9 : List UInt8) {r : AV} (h : X107_9 (semCall C Tryd.prog) (semRun C Tryd.prog 107 Tryd.f107) m2_0 m2_1 m2_2 m2_3 m2_4 m2_5 m2_6 m2_7 m2_8 m2_9 m4_0 m4_1 m4_2 m4_3 m4_4 m4_5 m4_6 m4_7 m4_8 m4_9 = some r) : F107_9 (semRun C Tryd.prog 107 Tryd.f107) m2_0 m2_1 m2_2 m2_3 m2_4 m2_5 m2_6 m2_7 m2_8 m2_9 m4_0 m4_1 m4_2 m4_3 m4_4 m4_5 m4_6 m4_7 m4_8 m4_9 = some r :=
  semRun_unr 400 ((text107_9 _ _ m2_0 m2_1 m2_2 m2_3 m2_4 m2_5 m2_6 m2_7 m2_8 m2_9 m4_0 m4_1 m4_2 m4_3 m4_4 m4_5 m4_6 m4_7 m4_8 m4_9).trans h)
end R2

namespace R2
open Go Go.Proofs Sx
noncomputable def body108 : Code := (Tryd.f108.body).getD .skip
noncomputable def K108_7 : List Item := (kAt 7 body108 []).getD []
def S108_7 (m1_0 : UInt8) (m1_1 : UInt8) (m1_2 : Bool) (m1_3 : UInt8) (m1_4 : UInt8) (m1_5 : UInt8) (m1_6 : UInt8) (m1_7 : Bool) (m1_8 : UInt8) (m1_9 : List UInt8) : St := St.ofL [(1, .cell (.ptr 1 0))] [(1, some [.val (.u8 m1_0), .val (.u8 m1_1), .val (.b m1_2), .val (.u8 m1_3), .val (.u8 m1_4), .val (.u8 m1_5), .val (.u8 m1_6), .val (.b m1_7), .val (.u8 m1_8), .val (.s m1_9)])]
noncomputable def F108_7 (run : List Item → St → Option AV) (m1_0 : UInt8) (m1_1 : UInt8) (m1_2 : Bool) (m1_3 : UInt8) (m1_4 : UInt8) (m1_5 : UInt8) (m1_6 : UInt8) (m1_7 : Bool) (m1_8 : UInt8) (m1_9 : List UInt8) : Option AV := run K108_7 (S108_7 m1_0 m1_1 m1_2 m1_3 m1_4 m1_5 m1_6 m1_7 m1_8 m1_9)
noncomputable def K108_8 : List Item := (kAt 8 body108 []).getD []
def S108_8  : St := St.ofL [] []
noncomputable def F108_8 (run : List Item → St → Option AV)  : Option AV := run K108_8 (S108_8 )
noncomputable def X108 (call : Nat → List AV → Option AV) (run : List Item → St → Option AV) (x0_0 : UInt8) (x0_1 : UInt8) (x0_2 : Bool) (x0_3 : UInt8) (x0_4 : UInt8) (x0_5 : UInt8) (x0_6 : UInt8) (x0_7 : Bool) (x0_8 : UInt8) (x0_9 : List UInt8) : Option AV :=
  condM (.b (ueq x0_0 8))
  ((selW (.b (ueq x0_3 2)) false (some (.b (ueq x0_3 3))) (.b true)).bind fun v1 => some (v1))
  (condM (.b (ueq x0_0 17))
  (F108_7 run x0_0 x0_1 x0_2 x0_3 x0_4 x0_5 x0_6 x0_7 x0_8 x0_9)
  (condM (.b (ueq x0_0 18))
  (F108_7 run x0_0 x0_1 x0_2 x0_3 x0_4 x0_5 x0_6 x0_7 x0_8 x0_9)
  (condM (.b (ueq x0_0 19))
  (F108_7 run x0_0 x0_1 x0_2 x0_3 x0_4 x0_5 x0_6 x0_7 x0_8 x0_9)
  (F108_8 run))))
theorem text108 (call : Nat → List AV → Option AV) (run : List Item → St → Option AV) (x0_0 : UInt8) (x0_1 : UInt8) (x0_2 : Bool) (x0_3 : UInt8) (x0_4 : UInt8) (x0_5 : UInt8) (x0_6 : UInt8) (x0_7 : Bool) (x0_8 : UInt8) (x0_9 : List UInt8) : unr C call run 108 Tryd.f108 400 [.code body108] (initSt [.ag [.u8 x0_0, .u8 x0_1, .b x0_2, .u8 x0_3, .u8 x0_4, .u8 x0_5, .u8 x0_6, .b x0_7, .u8 x0_8, .s x0_9]]) = X108 call run x0_0 x0_1 x0_2 x0_3 x0_4 x0_5 x0_6 x0_7 x0_8 x0_9 := by
  kernel_rfl
theorem c108 (x0_0 : UInt8) (x0_1 : UInt8) (x0_2 : Bool) (x0_3 : UInt8) (x0_4 : UInt8) (x0_5 : UInt8) (x0_6 : UInt8) (x0_7 : Bool) (x0_8 : UInt8) (x0_9 : List UInt8) {r : AV} (h : X108 (semCall C Tryd.prog) (semRun C Tryd.prog 108 Tryd.f108) x0_0 x0_1 x0_2 x0_3 x0_4 x0_5 x0_6 x0_7 x0_8 x0_9 = some r) : semCall C Tryd.prog 108 [.ag [.u8 x0_0, .u8 x0_1, .b x0_2, .u8 x0_3, .u8 x0_4, .u8 x0_5, .u8 x0_6, .b x0_7, .u8 x0_8, .s x0_9]] = some r :=
  semCall_unr (fn := Tryd.f108) (c := body108) (by kernel_rfl) (by kernel_rfl) 400 (by kernel_rfl) ((text108 _ _ x0_0 x0_1 x0_2 x0_3 x0_4 x0_5 x0_6 x0_7 x0_8 x0_9).trans h)
noncomputable def X108_7 (call : Nat → List AV → Option AV) (run : List Item → St → Option AV) (m1_0 : UInt8) (m1_1 : UInt8) (m1_2 : Bool) (m1_3 : UInt8) (m1_4 : UInt8) (m1_5 : UInt8) (m1_6 : UInt8) (m1_7 : Bool) (m1_8 : UInt8) (m1_9 : List UInt8) : Option AV :=
  (selW (.b (ueq m1_1 3)) false (some (.b (ueq m1_1 4))) (.b true)).bind fun v1 => some (v1)
theorem text108_7 (call : Nat → List AV → Option AV) (run : List Item → St → Option AV) (m1_0 : UInt8) (m1_1 : UInt8) (m1_2 : Bool) (m1_3 : UInt8) (m1_4 : UInt8) (m1_5 : UInt8) (m1_6 : UInt8) (m1_7 : Bool) (m1_8 : UInt8) (m1_9 : List UInt8) : step C call 108 Tryd.f108 (unr C call run 108 Tryd.f108 400) K108_7 (S108_7 m1_0 m1_1 m1_2 m1_3 m1_4 m1_5 m1_6 m1_7 m1_8 m1_9) = X108_7 call run m1_0 m1_1 m1_2 m1_3 m1_4 m1_5 m1_6 m1_7 m1_8 m1_9 := by
  kernel_rfl
noncomputable def X108_8 (call : Nat → List AV → Option AV) (run : List Item → St → Option AV)  : Option AV :=
  some (.b false)
theorem text108_8 (call : Nat → List AV → Option AV) (run : List Item → St → Option AV)  : step C call 108 Tryd.f108 (unr C call run 108 Tryd.f108 400) K108_8 (S108_8 ) = X108_8 call run  := by
  kernel_rfl
theorem r108_7 (m1_0 : UInt8) (m1_1 : UInt8) (m1_2 : Bool) (m1_3 : UInt8) (m1_4 : UInt8) (m1_5 : UInt8) (m1_6 : UInt8) (m1_7 : Bool) (m1_8 : UInt8) (m1_9 : List UInt8) {r : AV} (h : X108_7 (semCall C Tryd.prog) (semRun C Tryd.prog 108 Tryd.f108) m1_0 m1_1 m1_2 m1_3 m1_4 m1_5 m1_6 m1_7 m1_8 m1_9 = some r) : F108_7 (semRun C Tryd.prog 108 Tryd.f108) m1_0 m1_1 m1_2 m1_3 m1_4 m1_5 m1_6 m1_7 m1_8 m1_9 = some r :=
  semRun_unr 400 ((text108_7 _ _ m1_0 m1_1 m1_2 m1_3 m1_4 m1_5 m1_6 m1_7 m1_8 m1_9).trans h)
theorem r108_8  {r : AV} (h : X108_8 (semCall C Tryd.prog) (semRun C Tryd.prog 108 Tryd.f108)  = some r) : F108_8 (semRun C Tryd.prog 108 Tryd.f108)  = some r :=
  semRun_unr 400 ((text108_8 _ _ ).trans h)
end R2
