/-
  What functions of this seat come to, step by step.
-/
import Derived.Test.YtcmpmpnjidjenaaDoorTab
import Derived.Test.YtcmpmpnjidjenaaDoorProg
set_option linter.unusedVariables false
set_option linter.unusedSimpArgs false
set_option linter.unusedSectionVars false
set_option linter.unnecessarySimpa false
namespace R2
open Go Go.Proofs Sx
noncomputable def body35 : Code := (Tryd.f35.body).getD .skip
noncomputable def K35_20 : List Item := (kAt 20 body35 []).getD []
def S35_20 (t4 : AV) : St := St.ofL [(4, .cell (.val (t4)))] []
noncomputable def F35_20 (run : List Item → St → Option AV) (t4 : AV) : Option AV := run K35_20 (S35_20 t4)
noncomputable def K35_21 : List Item := (kAt 21 body35 []).getD []
def S35_21 (t4 : AV) (t18 : Int) (m1_0 : UInt8) (m1_1 : UInt8) (m1_2 : Bool) (m1_3 : UInt8) (m1_4 : UInt8) (m1_5 : UInt8) (m1_6 : UInt8) (m1_7 : Bool) (m1_8 : UInt8) (m1_9 : List UInt8) : St := St.ofL [(1, .cell (.ptr 1 0)), (4, .cell (.val (t4))), (18, .cell (.val (.int t18)))] [(1, some [.val (.u8 m1_0), .val (.u8 m1_1), .val (.b m1_2), .val (.u8 m1_3), .val (.u8 m1_4), .val (.u8 m1_5), .val (.u8 m1_6), .val (.b m1_7), .val (.u8 m1_8), .val (.s m1_9)])]
noncomputable def F35_21 (run : List Item → St → Option AV) (t4 : AV) (t18 : Int) (m1_0 : UInt8) (m1_1 : UInt8) (m1_2 : Bool) (m1_3 : UInt8) (m1_4 : UInt8) (m1_5 : UInt8) (m1_6 : UInt8) (m1_7 : Bool) (m1_8 : UInt8) (m1_9 : List UInt8) : Option AV := run K35_21 (S35_21 t4 t18 m1_0 m1_1 m1_2 m1_3 m1_4 m1_5 m1_6 m1_7 m1_8 m1_9)
noncomputable def K35_27 : List Item := (kAt 27 body35 []).getD []
def S35_27 (t4 : AV) (t5 : AV) : St := St.ofL [(4, .cell (.val (t4))), (5, .cell (.val (t5)))] []
noncomputable def F35_27 (run : List Item → St → Option AV) (t4 : AV) (t5 : AV) : Option AV := run K35_27 (S35_27 t4 t5)
noncomputable def K35_31 : List Item := (kAt 31 body35 []).getD []
def S35_31  : St := St.ofL [] []
noncomputable def F35_31 (run : List Item → St → Option AV)  : Option AV := run K35_31 (S35_31 )
noncomputable def K35_32 : List Item := (kAt 32 body35 []).getD []
def S35_32 (t4 : AV) (t18 : Int) (m1_0 : UInt8) (m1_1 : UInt8) (m1_2 : Bool) (m1_3 : UInt8) (m1_4 : UInt8) (m1_5 : UInt8) (m1_6 : UInt8) (m1_7 : Bool) (m1_8 : UInt8) (m1_9 : List UInt8) : St := St.ofL [(1, .cell (.ptr 1 0)), (4, .cell (.val (t4))), (18, .cell (.val (.int t18)))] [(1, some [.val (.u8 m1_0), .val (.u8 m1_1), .val (.b m1_2), .val (.u8 m1_3), .val (.u8 m1_4), .val (.u8 m1_5), .val (.u8 m1_6), .val (.b m1_7), .val (.u8 m1_8), .val (.s m1_9)])]
noncomputable def F35_32 (run : List Item → St → Option AV) (t4 : AV) (t18 : Int) (m1_0 : UInt8) (m1_1 : UInt8) (m1_2 : Bool) (m1_3 : UInt8) (m1_4 : UInt8) (m1_5 : UInt8) (m1_6 : UInt8) (m1_7 : Bool) (m1_8 : UInt8) (m1_9 : List UInt8) : Option AV := run K35_32 (S35_32 t4 t18 m1_0 m1_1 m1_2 m1_3 m1_4 m1_5 m1_6 m1_7 m1_8 m1_9)
noncomputable def K35_34 : List Item := (kAt 34 body35 []).getD []
def S35_34 (t4 : AV) (m1_0 : UInt8) (m1_1 : UInt8) (m1_2 : Bool) (m1_3 : UInt8) (m1_4 : UInt8) (m1_5 : UInt8) (m1_6 : UInt8) (m1_7 : Bool) (m1_8 : UInt8) (m1_9 : List UInt8) : St := St.ofL [(1, .cell (.ptr 1 0)), (4, .cell (.val (t4)))] [(1, some [.val (.u8 m1_0), .val (.u8 m1_1), .val (.b m1_2), .val (.u8 m1_3), .val (.u8 m1_4), .val (.u8 m1_5), .val (.u8 m1_6), .val (.b m1_7), .val (.u8 m1_8), .val (.s m1_9)])]
noncomputable def F35_34 (run : List Item → St → Option AV) (t4 : AV) (m1_0 : UInt8) (m1_1 : UInt8) (m1_2 : Bool) (m1_3 : UInt8) (m1_4 : UInt8) (m1_5 : UInt8) (m1_6 : UInt8) (m1_7 : Bool) (m1_8 : UInt8) (m1_9 : List UInt8) : Option AV := run K35_34 (S35_34 t4 m1_0 m1_1 m1_2 m1_3 m1_4 m1_5 m1_6 m1_7 m1_8 m1_9)
noncomputable def K35_35 : List Item := (kAt 35 body35 []).getD []
def S35_35 (t4 : AV) (t18 : Int) (m1_0 : UInt8) (m1_1 : UInt8) (m1_2 : Bool) (m1_3 : UInt8) (m1_4 : UInt8) (m1_5 : UInt8) (m1_6 : UInt8) (m1_7 : Bool) (m1_8 : UInt8) (m1_9 : List UInt8) : St := St.ofL [(1, .cell (.ptr 1 0)), (4, .cell (.val (t4))), (18, .cell (.val (.int t18)))] [(1, some [.val (.u8 m1_0), .val (.u8 m1_1), .val (.b m1_2), .val (.u8 m1_3), .val (.u8 m1_4), .val (.u8 m1_5), .val (.u8 m1_6), .val (.b m1_7), .val (.u8 m1_8), .val (.s m1_9)])]
noncomputable def F35_35 (run : List Item → St → Option AV) (t4 : AV) (t18 : Int) (m1_0 : UInt8) (m1_1 : UInt8) (m1_2 : Bool) (m1_3 : UInt8) (m1_4 : UInt8) (m1_5 : UInt8) (m1_6 : UInt8) (m1_7 : Bool) (m1_8 : UInt8) (m1_9 : List UInt8) : Option AV := run K35_35 (S35_35 t4 t18 m1_0 m1_1 m1_2 m1_3 m1_4 m1_5 m1_6 m1_7 m1_8 m1_9)
noncomputable def X35 (call : Nat → List AV → Option AV) (run : List Item → St → Option AV) (x0_0 : UInt8) (x0_1 : UInt8) (x0_2 : Bool) (x0_3 : UInt8) (x0_4 : UInt8) (x0_5 : UInt8) (x0_6 : UInt8) (x0_7 : Bool) (x0_8 : UInt8) (x0_9 : List UInt8) : Option AV :=
  (call 22 [.ag [.u8 x0_0, .u8 x0_1, .b x0_2, .u8 x0_3, .u8 x0_4, .u8 x0_5, .u8 x0_6, .b x0_7, .u8 x0_8, .s x0_9]]).bind fun v1 => (unop .not (v1)).bind fun v2 => condM (v2)
  (some (.tu [.s [], .int 1]))
  ((call 55 [.int (w64 (x0_1.toNat : Int))]).bind fun v3 => condM (.b ((w64 (x0_0.toNat : Int)) == 20))
  (some (.tu [.s [], .int 5]))
  (condM (.b ((w64 (x0_0.toNat : Int)) == 0))
  (some (.tu [.s [], .int 0]))
  (condM (.b ((w64 (x0_0.toNat : Int)) == 1))
  (some (.tu [.s [32], .int 0]))
  (condM (.b ((w64 (x0_0.toNat : Int)) == 3))
  (condM (.b x0_2)
  (some (.tu [.s [62], .int 0]))
  ((call 56 [.s x0_9]).bind fun v4 => (call 55 [v4]).bind fun v5 => (binS .add (.s [62]) (v5)).bind fun v6 => some (.tu [v6, .int 0])))
  (condM (.b ((w64 (x0_0.toNat : Int)) == 4))
  (F35_20 run (v3))
  (condM (.b ((w64 (x0_0.toNat : Int)) == 5))
  (F35_20 run (v3))
  (condM (.b ((w64 (x0_0.toNat : Int)) == 6))
  (F35_20 run (v3))
  (condM (.b ((w64 (x0_0.toNat : Int)) == 9))
  (F35_20 run (v3))
  (condM (.b ((w64 (x0_0.toNat : Int)) == 10))
  (F35_20 run (v3))
  (F35_21 run (v3) (w64 (x0_0.toNat : Int)) x0_0 x0_1 x0_2 x0_3 x0_4 x0_5 x0_6 x0_7 x0_8 x0_9))))))))))
theorem text35 (call : Nat → List AV → Option AV) (run : List Item → St → Option AV) (x0_0 : UInt8) (x0_1 : UInt8) (x0_2 : Bool) (x0_3 : UInt8) (x0_4 : UInt8) (x0_5 : UInt8) (x0_6 : UInt8) (x0_7 : Bool) (x0_8 : UInt8) (x0_9 : List UInt8) : unr C call run 35 Tryd.f35 400 [.code body35] (initSt [.ag [.u8 x0_0, .u8 x0_1, .b x0_2, .u8 x0_3, .u8 x0_4, .u8 x0_5, .u8 x0_6, .b x0_7, .u8 x0_8, .s x0_9]]) = X35 call run x0_0 x0_1 x0_2 x0_3 x0_4 x0_5 x0_6 x0_7 x0_8 x0_9 := by
  kernel_rfl
theorem c35 (x0_0 : UInt8) (x0_1 : UInt8) (x0_2 : Bool) (x0_3 : UInt8) (x0_4 : UInt8) (x0_5 : UInt8) (x0_6 : UInt8) (x0_7 : Bool) (x0_8 : UInt8) (x0_9 : List UInt8) {r : AV} (h : X35 (semCall C Tryd.prog) (semRun C Tryd.prog 35 Tryd.f35) x0_0 x0_1 x0_2 x0_3 x0_4 x0_5 x0_6 x0_7 x0_8 x0_9 = some r) : semCall C Tryd.prog 35 [.ag [.u8 x0_0, .u8 x0_1, .b x0_2, .u8 x0_3, .u8 x0_4, .u8 x0_5, .u8 x0_6, .b x0_7, .u8 x0_8, .s x0_9]] = some r :=
  semCall_unr (fn := Tryd.f35) (c := body35) (by kernel_rfl) (by kernel_rfl) 400 (by kernel_rfl) ((text35 _ _ x0_0 x0_1 x0_2 x0_3 x0_4 x0_5 x0_6 x0_7 x0_8 x0_9).trans h)
noncomputable def X35_20 (call : Nat → List AV → Option AV) (run : List Item → St → Option AV) (t4 : AV) : Option AV :=
  (binS .add (.s [62]) (t4)).bind fun v1 => some (.tu [v1, .int 0])
theorem text35_20 (call : Nat → List AV → Option AV) (run : List Item → St → Option AV) (t4 : AV) : step C call 35 Tryd.f35 (unr C call run 35 Tryd.f35 400) K35_20 (S35_20 t4) = X35_20 call run t4 := by
  kernel_rfl
noncomputable def X35_21 (call : Nat → List AV → Option AV) (run : List Item → St → Option AV) (t4 : AV) (t18 : Int) (m1_0 : UInt8) (m1_1 : UInt8) (m1_2 : Bool) (m1_3 : UInt8) (m1_4 : UInt8) (m1_5 : UInt8) (m1_6 : UInt8) (m1_7 : Bool) (m1_8 : UInt8) (m1_9 : List UInt8) : Option AV :=
  condM (.b (t18 == 7))
  ((binS .add (.s [34, 34, 62]) (t4)).bind fun v1 => some (.tu [v1, .int 0]))
  (condM (.b (t18 == 8))
  ((call 57 [.int (w64 (m1_6.toNat : Int)), .b m1_7, .b (ueq m1_3 2)]).bind fun v2 => condM (.b (une m1_4 0))
  ((b2s (.ro 1 (([.u8 m1_4] : List AV)))).bind fun v3 => (binS .add (v2) (v3)).bind fun v4 => F35_27 run (t4) (v4))
  (F35_27 run (t4) (v2)))
  (condM (.b (t18 == 13))
  (F35_31 run)
  (condM (.b (t18 == 14))
  (F35_31 run)
  (condM (.b (t18 == 15))
  (F35_31 run)
  (F35_32 run (t4) t18 m1_0 m1_1 m1_2 m1_3 m1_4 m1_5 m1_6 m1_7 m1_8 m1_9)))))
theorem text35_21 (call : Nat → List AV → Option AV) (run : List Item → St → Option AV) (t4 : AV) (t18 : Int) (m1_0 : UInt8) (m1_1 : UInt8) (m1_2 : Bool) (m1_3 : UInt8) (m1_4 : UInt8) (m1_5 : UInt8) (m1_6 : UInt8) (m1_7 : Bool) (m1_8 : UInt8) (m1_9 : List UInt8) : step C call 35 Tryd.f35 (unr C call run 35 Tryd.f35 400) K35_21 (S35_21 t4 t18 m1_0 m1_1 m1_2 m1_3 m1_4 m1_5 m1_6 m1_7 m1_8 m1_9) = X35_21 call run t4 t18 m1_0 m1_1 m1_2 m1_3 m1_4 m1_5 m1_6 m1_7 m1_8 m1_9 := by
  kernel_rfl
noncomputable def X35_27 (call : Nat → List AV → Option AV) (run : List Item → St → Option AV) (t4 : AV) (t5 : AV) : Option AV :=
  (binS .add (t5) (.s [62])).bind fun v1 => (binS .add (v1) (t4)).bind fun v2 => some (.tu [v2, .int 0])
theorem text35_27 (call : Nat → List AV → Option AV) (run : List Item → St → Option AV) (t4 : AV) (t5 : AV) : step C call 35 Tryd.f35 (unr C call run 35 Tryd.f35 400) K35_27 (S35_27 t4 t5) = X35_27 call run t4 t5 := by
  kernel_rfl
noncomputable def X35_31 (call : Nat → List AV → Option AV) (run : List Item → St → Option AV)  : Option AV :=
  some (.tu [.s [45, 45, 62], .int 0])
theorem text35_31 (call : Nat → List AV → Option AV) (run : List Item → St → Option AV)  : step C call 35 Tryd.f35 (unr C call run 35 Tryd.f35 400) K35_31 (S35_31 ) = X35_31 call run  := by
  kernel_rfl
noncomputable def X35_32 (call : Nat → List AV → Option AV) (run : List Item → St → Option AV) (t4 : AV) (t18 : Int) (m1_0 : UInt8) (m1_1 : UInt8) (m1_2 : Bool) (m1_3 : UInt8) (m1_4 : UInt8) (m1_5 : UInt8) (m1_6 : UInt8) (m1_7 : Bool) (m1_8 : UInt8) (m1_9 : List UInt8) : Option AV :=
  condM (.b (t18 == 17))
  (F35_34 run (t4) m1_0 m1_1 m1_2 m1_3 m1_4 m1_5 m1_6 m1_7 m1_8 m1_9)
  (condM (.b (t18 == 18))
  (F35_34 run (t4) m1_0 m1_1 m1_2 m1_3 m1_4 m1_5 m1_6 m1_7 m1_8 m1_9)
  (F35_35 run (t4) t18 m1_0 m1_1 m1_2 m1_3 m1_4 m1_5 m1_6 m1_7 m1_8 m1_9))
theorem text35_32 (call : Nat → List AV → Option AV) (run : List Item → St → Option AV) (t4 : AV) (t18 : Int) (m1_0 : UInt8) (m1_1 : UInt8) (m1_2 : Bool) (m1_3 : UInt8) (m1_4 : UInt8) (m1_5 : UInt8) (m1_6 : UInt8) (m1_7 : Bool) (m1_8 : UInt8) (m1_9 : List UInt8) : step C call 35 Tryd.f35 (unr C call run 35 Tryd.f35 400) K35_32 (S35_32 t4 t18 m1_0 m1_1 m1_2 m1_3 m1_4 m1_5 m1_6 m1_7 m1_8 m1_9) = X35_32 call run t4 t18 m1_0 m1_1 m1_2 m1_3 m1_4 m1_5 m1_6 m1_7 m1_8 m1_9 := by
  kernel_rfl
noncomputable def X35_34 (call : Nat → List AV → Option AV) (run : List Item → St → Option AV) (t4 : AV) (m1_0 : UInt8) (m1_1 : UInt8) (m1_2 : Bool) (m1_3 : UInt8) (m1_4 : UInt8) (m1_5 : UInt8) (m1_6 : UInt8) (m1_7 : Bool) (m1_8 : UInt8) (m1_9 : List UInt8) : Option AV :=
  (call 57 [.int (w64 (m1_6.toNat : Int)), .b m1_7, .b (ueq m1_1 3)]).bind fun v1 => (binS .add (v1) (t4)).bind fun v2 => some (.tu [v2, .int 0])
theorem text35_34 (call : Nat → List AV → Option AV) (run : List Item → St → Option AV) (t4 : AV) (m1_0 : UInt8) (m1_1 : UInt8) (m1_2 : Bool) (m1_3 : UInt8) (m1_4 : UInt8) (m1_5 : UInt8) (m1_6 : UInt8) (m1_7 : Bool) (m1_8 : UInt8) (m1_9 : List UInt8) : step C call 35 Tryd.f35 (unr C call run 35 Tryd.f35 400) K35_34 (S35_34 t4 m1_0 m1_1 m1_2 m1_3 m1_4 m1_5 m1_6 m1_7 m1_8 m1_9) = X35_34 call run t4 m1_0 m1_1 m1_2 m1_3 m1_4 m1_5 m1_6 m1_7 m1_8 m1_9 := by
  kernel_rfl
noncomputable def X35_35 (call : Nat → List AV → Option AV) (run : List Item → St → Option AV) (t4 : AV) (t18 : Int) (m1_0 : UInt8) (m1_1 : UInt8) (m1_2 : Bool) (m1_3 : UInt8) (m1_4 : UInt8) (m1_5 : UInt8) (m1_6 : UInt8) (m1_7 : Bool) (m1_8 : UInt8) (m1_9 : List UInt8) : Option AV :=
  condM (.b (t18 == 19))
  ((call 48 [.int (w64 (m1_1.toNat : Int))]).bind fun v1 => (selW (.b (ueq m1_6 0)) false (some (.b (ueq m1_6 4))) (.b true)).bind fun v2 => condM (v2)
  ((slS (v1) (some (.int ((m1_9.length : Int)))) none).bind fun v3 => (binS .add (v3) (.s [62])).bind fun v4 => some (.tu [v4, .int 0]))
  ((binS .add (.s [47]) (.s m1_9)).bind fun v5 => (s2b (v5)).bind fun v6 => (call 24 [.ag [.u8 17, .u8 m1_1, .b false, .u8 0, .u8 0, .u8 0, .u8 m1_6, .b m1_7, .u8 0, .s []], v6]).bind fun v7 => (tupI (v7) 0).bind fun v8 => (tupI (v7) 1).bind fun v9 => (AV.asAg 10 (v8)).bind fun v10 => (conv .i64 (v10.getD 6 .un)).bind fun v11 => (call 57 [v11, v10.getD 7 .un, .b (ueq m1_1 3)]).bind fun v12 => (binS .add (v12) (t4)).bind fun v13 => some (.tu [v13, .int 0])))
  (some (.tu [.s [62], .int 0]))
theorem text35_35 (call : Nat → List AV → Option AV) (run : List Item → St → Option AV) (t4 : AV) (t18 : Int) (m1_0 : UInt8) (m1_1 : UInt8) (m1_2 : Bool) (m1_3 : UInt8) (m1_4 : UInt8) (m1_5 : UInt8) (m1_6 : UInt8) (m1_7 : Bool) (m1_8 : UInt8) (m1_9 : List UInt8) : step C call 35 Tryd.f35 (unr C call run 35 Tryd.f35 400) K35_35 (S35_35 t4 t18 m1_0 m1_1 m1_2 m1_3 m1_4 m1_5 m1_6 m1_7 m1_8 m1_9) = X35_35 call run t4 t18 m1_0 m1_1 m1_2 m1_3 m1_4 m1_5 m1_6 m1_7 m1_8 m1_9 := by
  kernel_rfl
theorem r35_20 (t4 : AV) {r : AV} (h : X35_20 (semCall C Tryd.prog) (semRun C Tryd.prog 35 Tryd.f35) t4 = some r) : F35_20 (semRun C Tryd.prog 35 Tryd.f35) t4 = some r :=
  semRun_unr 400 ((text35_20 _ _ t4).trans h)
theorem r35_21 (t4 : AV) (t18 : Int) (m1_0 : UInt8) (m1_1 : UInt8) (m1_2 : Bool) (m1_3 : UInt8) (m1_4 : UInt8) (m1_5 : UInt8) (m1_6 : UInt8) (m1_7 : Bool) (m1_8 : UInt8) (m1_9 : List UInt8) {r : AV} (h : X35_21 (semCall C Tryd.prog) (semRun C Tryd.prog 35 Tryd.f35) t4 t18 m1_0 m1_1 m1_2 m1_3 m1_4 m1_5 m1_6 m1_7 m1_8 m1_9 = some r) : F35_21 (semRun C Tryd.prog 35 Tryd.f35) t4 t18 m1_0 m1_1 m1_2 m1_3 m1_4 m1_5 m1_6 m1_7 m1_8 m1_9 = some r :=
  semRun_unr 400 ((text35_21 _ _ t4 t18 m1_0 m1_1 m1_2 m1_3 m1_4 m1_5 m1_6 m1_7 m1_8 m1_9).trans h)
theorem r35_27 (t4 : AV) (t5 : AV) {r : AV} (h : X35_27 (semCall C Tryd.prog) (semRun C Tryd.prog 35 Tryd.f35) t4 t5 = some r) : F35_27 (semRun C Tryd.prog 35 Tryd.f35) t4 t5 = some r :=
  semRun_unr 400 ((text35_27 _ _ t4 t5).trans h)
theorem r35_31  {r : AV} (h : X35_31 (semCall C Tryd.prog) (semRun C Tryd.prog 35 Tryd.f35)  = some r) : F35_31 (semRun C Tryd.prog 35 Tryd.f35)  = some r :=
  semRun_unr 400 ((text35_31 _ _ ).trans h)
theorem r35_32 (t4 : AV) (t18 : Int) (m1_0 : UInt8) (m1_1 : UInt8) (m1_2 : Bool) (m1_3 : UInt8) (m1_4 : UInt8) (m1_5 : UInt8) (m1_6 : UInt8) (m1_7 : Bool) (m1_8 : UInt8) (m1_9 : List UInt8) {r : AV} (h : X35_32 (semCall C Tryd.prog) (semRun C Tryd.prog 35 Tryd.f35) t4 t18 m1_0 m1_1 m1_2 m1_3 m1_4 m1_5 m1_6 m1_7 m1_8 m1_9 = some r) : F35_32 (semRun C Tryd.prog 35 Tryd.f35) t4 t18 m1_0 m1_1 m1_2 m1_3 m1_4 m1_5 m1_6 m1_7 m1_8 m1_9 = some r :=
  semRun_unr 400 ((text35_32 _ _ t4 t18 m1_0 m1_1 m1_2 m1_3 m1_4 m1_5 m1_6 m1_7 m1_8 m1_9).trans h)
theorem r35_34 (t4 : AV) (m1_0 : UInt8) (m1_1 : UInt8) (m1_2 : Bool) (m1_3 : UInt8) (m1_4 : UInt8) (m1_5 : UInt8) (m1_6 : UInt8) (m1_7 : Bool) (m1_8 : UInt8) (m1_9 : List UInt8) {r : AV} (h : X35_34 (semCall C Tryd.prog) (semRun C Tryd.prog 35 Tryd.f35) t4 m1_0 m1_1 m1_2 m1_3 m1_4 m1_5 m1_6 m1_7 m1_8 m1_9 = some r) : F35_34 (semRun C Tryd.prog 35 Tryd.f35) t4 m1_0 m1_1 m1_2 m1_3 m1_4 m1_5 m1_6 m1_7 m1_8 m1_9 = some r :=
  semRun_unr 400 ((text35_34 _ _ t4 m1_0 m1_1 m1_2 m1_3 m1_4 m1_5 m1_6 m1_7 m1_8 m1_9).trans h)
theorem r35_35 (t4 : AV) (t18 : Int) (m1_0 : UInt8) (m1_1 : UInt8) (m1_2 : Bool) (m1_3 : UInt8) (m1_4 : UInt8) (m1_5 : UInt8) (m1_6 : UInt8) (m1_7 : Bool) (m1_8 : UInt8) (m1_9 : List UInt8) {r : AV} (h : X35_35 (semCall C Tryd.prog) (semRun C Tryd.prog 35 Tryd.f35) t4 t18 m1_0 m1_1 m1_2 m1_3 m1_4 m1_5 m1_6 m1_7 m1_8 m1_9 = some r) : F35_35 (semRun C Tryd.prog 35 Tryd.f35) t4 t18 m1_0 m1_1 m1_2 m1_3 m1_4 m1_5 m1_6 m1_7 m1_8 m1_9 = some r :=
  semRun_unr 400 ((text35_35 _ _ t4 t18 m1_0 m1_1 m1_2 m1_3 m1_4 m1_5 m1_6 m1_7 m1_8 m1_9).trans h)
end R2

namespace R2
open Go Go.Proofs Sx
noncomputable def body36 : Code := (Tryd.f36.body).getD .skip
noncomputable def X36 (call : Nat → List AV → Option AV) (run : List Item → St → Option AV) (x0 : AV) : Option AV :=
  (call 23 [.ag [.u8 0, .u8 0, .b false, .u8 0, .u8 0, .u8 0, .u8 0, .b false, .u8 0, .s []], x0]).bind fun v1 => (tupI (v1) 0).bind fun v2 => (tupI (v1) 1).bind fun v3 => (AV.asAg 10 (v2)).bind fun v4 => (binI .geq (v3) (.int 0)).bind fun v5 => condM (v5)
  (some (.tu [.nils, .int 5]))
  ((call 34 [.ag [v4.getD 0 .un, v4.getD 1 .un, v4.getD 2 .un, v4.getD 3 .un, v4.getD 4 .un, v4.getD 5 .un, v4.getD 6 .un, v4.getD 7 .un, v4.getD 8 .un, v4.getD 9 .un]]).bind fun v6 => (tupI (v6) 0).bind fun v7 => (tupI (v6) 1).bind fun v8 => (binI .neq (v8) (.int 0)).bind fun v9 => condM (v9)
  (some (.tu [.nils, v8]))
  ((app 1 1 [] (x0)).bind fun v10 => (app 1 1 v10 (v7)).bind fun v11 => some (.tu [.ro 1 v11, .int 0])))
theorem text36 (call : Nat → List AV → Option AV) (run : List Item → St → Option AV) (x0 : AV) : unr C call run 36 Tryd.f36 400 [.code body36] (initSt [x0]) = X36 call run x0 := by
  kernel_rfl
theorem c36 (x0 : AV) {r : AV} (h : X36 (semCall C Tryd.prog) (semRun C Tryd.prog 36 Tryd.f36) x0 = some r) : semCall C Tryd.prog 36 [x0] = some r :=
  semCall_unr (fn := Tryd.f36) (c := body36) (by kernel_rfl) (by kernel_rfl) 400 (by kernel_rfl) ((text36 _ _ x0).trans h)
end R2

namespace R2
open Go Go.Proofs Sx
noncomputable def body37 : Code := (Tryd.f37.body).getD .skip
noncomputable def X37 (call : Nat → List AV → Option AV) (run : List Item → St → Option AV) (x0_0 : UInt8) (x0_1 : UInt8) (x0_2 : Bool) (x0_3 : UInt8) (x0_4 : UInt8) (x0_5 : UInt8) (x0_6 : UInt8) (x0_7 : Bool) (x0_8 : UInt8) (x0_9 : List UInt8) : Option AV :=
  condM (.b (ueq x0_0 0))
  (some (.u8 1))
  ((selW (.b (ueq x0_0 17)) true ((selW (.b (ueq x0_1 1)) false (some (.b (ueq x0_1 2))) (.b true)).bind fun v1 => some (v1)) (.b false)).bind fun v2 => condM (v2)
  (some (.u8 2))
  ((selW (.b (ueq x0_0 17)) true (some (.b (ueq x0_1 3))) (.b false)).bind fun v3 => (selW (v3) true ((call 58 [.ag [.u8 x0_0, .u8 x0_1, .b x0_2, .u8 x0_3, .u8 x0_4, .u8 x0_5, .u8 x0_6, .b x0_7, .u8 x0_8, .s x0_9]]).bind fun v4 => some (v4)) (.b false)).bind fun v5 => condM (v5)
  (some (.u8 7))
  ((selW (.b (ueq x0_0 17)) true (some (.b (ueq x0_1 4))) (.b false)).bind fun v6 => (selW (v6) true ((call 58 [.ag [.u8 x0_0, .u8 x0_1, .b x0_2, .u8 x0_3, .u8 x0_4, .u8 x0_5, .u8 x0_6, .b x0_7, .u8 x0_8, .s x0_9]]).bind fun v7 => some (v7)) (.b false)).bind fun v8 => condM (v8)
  (some (.u8 9))
  ((selW (.b (une x0_0 8)) false (some (.b (ueq x0_4 0))) (.b true)).bind fun v9 => condM (v9)
  (some (.u8 0))
  (condM (.b (ueq x0_3 0))
  (some (.u8 3))
  ((selW (.b (ueq x0_3 2)) true ((call 58 [.ag [.u8 x0_0, .u8 x0_1, .b x0_2, .u8 x0_3, .u8 x0_4, .u8 x0_5, .u8 x0_6, .b x0_7, .u8 x0_8, .s x0_9]]).bind fun v10 => some (v10)) (.b false)).bind fun v11 => condM (v11)
  (some (.u8 8))
  ((selW (.b (ueq x0_3 3)) true ((call 58 [.ag [.u8 x0_0, .u8 x0_1, .b x0_2, .u8 x0_3, .u8 x0_4, .u8 x0_5, .u8 x0_6, .b x0_7, .u8 x0_8, .s x0_9]]).bind fun v12 => some (v12)) (.b false)).bind fun v13 => condM (v13)
  (some (.u8 10))
  (condM (.b (une x0_3 1))
  (some (.u8 0))
  (condM (.b (ueq x0_5 0))
  (some (.u8 4))
  (condM (.b (ueq x0_5 3))
  (some (.u8 5))
  (condM (.b (ueq x0_5 4))
  (some (.u8 6))
  (some (.u8 0)))))))))))))
theorem text37 (call : Nat → List AV → Option AV) (run : List Item → St → Option AV) (x0_0 : UInt8) (x0_1 : UInt8) (x0_2 : Bool) (x0_3 : UInt8) (x0_4 : UInt8) (x0_5 : UInt8) (x0_6 : UInt8) (x0_7 : Bool) (x0_8 : UInt8) (x0_9 : List UInt8) : unr C call run 37 Tryd.f37 400 [.code body37] (initSt [.ag [.u8 x0_0, .u8 x0_1, .b x0_2, .u8 x0_3, .u8 x0_4, .u8 x0_5, .u8 x0_6, .b x0_7, .u8 x0_8, .s x0_9]]) = X37 call run x0_0 x0_1 x0_2 x0_3 x0_4 x0_5 x0_6 x0_7 x0_8 x0_9 := by
  kernel_rfl
theorem c37 (x0_0 : UInt8) (x0_1 : UInt8) (x0_2 : Bool) (x0_3 : UInt8) (x0_4 : UInt8) (x0_5 : UInt8) (x0_6 : UInt8) (x0_7 : Bool) (x0_8 : UInt8) (x0_9 : List UInt8) {r : AV} (h : X37 (semCall C Tryd.prog) (semRun C Tryd.prog 37 Tryd.f37) x0_0 x0_1 x0_2 x0_3 x0_4 x0_5 x0_6 x0_7 x0_8 x0_9 = some r) : semCall C Tryd.prog 37 [.ag [.u8 x0_0, .u8 x0_1, .b x0_2, .u8 x0_3, .u8 x0_4, .u8 x0_5, .u8 x0_6, .b x0_7, .u8 x0_8, .s x0_9]] = some r :=
  semCall_unr (fn := Tryd.f37) (c := body37) (by kernel_rfl) (by kernel_rfl) 400 (by kernel_rfl) ((text37 _ _ x0_0 x0_1 x0_2 x0_3 x0_4 x0_5 x0_6 x0_7 x0_8 x0_9).trans h)
end R2

namespace R2
open Go Go.Proofs Sx
noncomputable def body38 : Code := (Tryd.f38.body).getD .skip
noncomputable def K38_6 : List Item := (kAt 6 body38 []).getD []
def S38_6 (m1_0 : UInt8) (m1_1 : UInt8) (m1_2 : Bool) (m1_3 : UInt8) (m1_4 : UInt8) (m1_5 : UInt8) (m1_6 : UInt8) (m1_7 : Bool) (m1_8 : UInt8) (m1_9 : List UInt8) (m2_0 : UInt8) (m2_1 : UInt8) (m2_2 : Bool) (m2_3 : UInt8) (m2_4 : UInt8) (m2_5 : UInt8) (m2_6 : UInt8) (m2_7 : Bool) (m2_8 : UInt8) (m2_9 : List UInt8) : St := St.ofL [(1, .cell (.ptr 1 0)), (2, .cell (.ptr 2 0))] [(1, some [.val (.u8 m1_0), .val (.u8 m1_1), .val (.b m1_2), .val (.u8 m1_3), .val (.u8 m1_4), .val (.u8 m1_5), .val (.u8 m1_6), .val (.b m1_7), .val (.u8 m1_8), .val (.s m1_9)]), (2, some [.val (.u8 m2_0), .val (.u8 m2_1), .val (.b m2_2), .val (.u8 m2_3), .val (.u8 m2_4), .val (.u8 m2_5), .val (.u8 m2_6), .val (.b m2_7), .val (.u8 m2_8), .val (.s m2_9)])]
noncomputable def F38_6 (run : List Item → St → Option AV) (m1_0 : UInt8) (m1_1 : UInt8) (m1_2 : Bool) (m1_3 : UInt8) (m1_4 : UInt8) (m1_5 : UInt8) (m1_6 : UInt8) (m1_7 : Bool) (m1_8 : UInt8) (m1_9 : List UInt8) (m2_0 : UInt8) (m2_1 : UInt8) (m2_2 : Bool) (m2_3 : UInt8) (m2_4 : UInt8) (m2_5 : UInt8) (m2_6 : UInt8) (m2_7 : Bool) (m2_8 : UInt8) (m2_9 : List UInt8) : Option AV := run K38_6 (S38_6 m1_0 m1_1 m1_2 m1_3 m1_4 m1_5 m1_6 m1_7 m1_8 m1_9 m2_0 m2_1 m2_2 m2_3 m2_4 m2_5 m2_6 m2_7 m2_8 m2_9)
noncomputable def X38 (call : Nat → List AV → Option AV) (run : List Item → St → Option AV) (x0_0 : UInt8) (x0_1 : UInt8) (x0_2 : Bool) (x0_3 : UInt8) (x0_4 : UInt8) (x0_5 : UInt8) (x0_6 : UInt8) (x0_7 : Bool) (x0_8 : UInt8) (x0_9 : List UInt8) : Option AV :=
  (call 37 [.ag [.u8 x0_0, .u8 x0_1, .b x0_2, .u8 x0_3, .u8 x0_4, .u8 x0_5, .u8 x0_6, .b x0_7, .u8 x0_8, .s x0_9]]).bind fun v1 => (binI .eql (v1) (.u8 0)).bind fun v2 => condM (v2)
  (some (.ag [.u8 20, .u8 0, .b false, .u8 0, .u8 0, .u8 0, .u8 0, .b false, .u8 0, .s []]))
  ((binI .eql (v1) (.u8 4)).bind fun v3 => condM (v3)
  (F38_6 run x0_0 x0_1 x0_2 x0_3 x0_4 2 x0_6 x0_7 x0_8 x0_9 0 0 false 0 0 0 0 false 0 [])
  (F38_6 run x0_0 x0_1 x0_2 x0_3 x0_4 x0_5 x0_6 x0_7 x0_8 x0_9 0 0 false 0 0 0 0 false 0 []))
theorem text38 (call : Nat → List AV → Option AV) (run : List Item → St → Option AV) (x0_0 : UInt8) (x0_1 : UInt8) (x0_2 : Bool) (x0_3 : UInt8) (x0_4 : UInt8) (x0_5 : UInt8) (x0_6 : UInt8) (x0_7 : Bool) (x0_8 : UInt8) (x0_9 : List UInt8) : unr C call run 38 Tryd.f38 400 [.code body38] (initSt [.ag [.u8 x0_0, .u8 x0_1, .b x0_2, .u8 x0_3, .u8 x0_4, .u8 x0_5, .u8 x0_6, .b x0_7, .u8 x0_8, .s x0_9]]) = X38 call run x0_0 x0_1 x0_2 x0_3 x0_4 x0_5 x0_6 x0_7 x0_8 x0_9 := by
  kernel_rfl
theorem c38 (x0_0 : UInt8) (x0_1 : UInt8) (x0_2 : Bool) (x0_3 : UInt8) (x0_4 : UInt8) (x0_5 : UInt8) (x0_6 : UInt8) (x0_7 : Bool) (x0_8 : UInt8) (x0_9 : List UInt8) {r : AV} (h : X38 (semCall C Tryd.prog) (semRun C Tryd.prog 38 Tryd.f38) x0_0 x0_1 x0_2 x0_3 x0_4 x0_5 x0_6 x0_7 x0_8 x0_9 = some r) : semCall C Tryd.prog 38 [.ag [.u8 x0_0, .u8 x0_1, .b x0_2, .u8 x0_3, .u8 x0_4, .u8 x0_5, .u8 x0_6, .b x0_7, .u8 x0_8, .s x0_9]] = some r :=
  semCall_unr (fn := Tryd.f38) (c := body38) (by kernel_rfl) (by kernel_rfl) 400 (by kernel_rfl) ((text38 _ _ x0_0 x0_1 x0_2 x0_3 x0_4 x0_5 x0_6 x0_7 x0_8 x0_9).trans h)
noncomputable def X38_6 (call : Nat → List AV → Option AV) (run : List Item → St → Option AV) (m1_0 : UInt8) (m1_1 : UInt8) (m1_2 : Bool) (m1_3 : UInt8) (m1_4 : UInt8) (m1_5 : UInt8) (m1_6 : UInt8) (m1_7 : Bool) (m1_8 : UInt8) (m1_9 : List UInt8) (m2_0 : UInt8) (m2_1 : UInt8) (m2_2 : Bool) (m2_3 : UInt8) (m2_4 : UInt8) (m2_5 : UInt8) (m2_6 : UInt8) (m2_7 : Bool) (m2_8 : UInt8) (m2_9 : List UInt8) : Option AV :=
  some (.ag [.u8 m1_0, .u8 m1_1, .b m1_2, .u8 m1_3, .u8 m1_4, .u8 m1_5, .u8 m1_6, .b m1_7, .u8 m1_8, .s m1_9])
theorem text38_6 (call : Nat → List AV → Option AV) (run : List Item → St → Option AV) (m1_0 : UInt8) (m1_1 : UInt8) (m1_2 : Bool) (m1_3 : UInt8) (m1_4 : UInt8) (m1_5 : UInt8) (m1_6 : UInt8) (m1_7 : Bool) (m1_8 : UInt8) (m1_9 : List UInt8) (m2_0 : UInt8) (m2_1 : UInt8) (m2_2 : Bool) (m2_3 : UInt8) (m2_4 : UInt8) (m2_5 : UInt8) (m2_6 : UInt8) (m2_7 : Bool) (m2_8 : UInt8) (m2_9 : List UInt8) : step C call 38 Tryd.f38 (unr C call run 38 Tryd.f38 400) K38_6 (S38_6 m1_0 m1_1 m1_2 m1_3 m1_4 m1_5 m1_6 m1_7 m1_8 m1_9 m2_0 m2_1 m2_2 m2_3 m2_4 m2_5 m2_6 m2_7 m2_8 m2_9) = X38_6 call run m1_0 m1_1 m1_2 m1_3 m1_4 m1_5 m1_6 m1_7 m1_8 m1_9 m2_0 m2_1 m2_2 m2_3 m2_4 m2_5 m2_6 m2_7 m2_8 m2_9 := by
  kernel_rfl
theorem r38_6 (m1_0 : UInt8) (m1_1 : UInt8) (m1_2 : Bool) (m1_3 : UInt8) (m1_4 : UInt8) (m1_5 : UInt8) (m1_6 : UInt8) (m1_7 : Bool) (m1_8 : UInt8) (m1_9 : List UInt8) (m2_0 : UInt8) (m2_1 : UInt8) (m2_2 : Bool) (m2_3 : UInt8) (m2_4 : UInt8) (m2_5 : UInt8) (m2_6 : UInt8) (m2_7 : Bool) (m2_8 : UInt8) (m2_9 : List UInt8) {r : AV} (h : X38_6 (semCall C Tryd.prog) (semRun C Tryd.prog 38 Tryd.f38) m1_0 m1_1 m1_2 m1_3 m1_4 m1_5 m1_6 m1_7 m1_8 m1_9 m2_0 m2_1 m2_2 m2_3 m2_4 m2_5 m2_6 m2_7 m2_8 m2_9 = some r) : F38_6 (semRun C Tryd.prog 38 Tryd.f38) m1_0 m1_1 m1_2 m1_3 m1_4 m1_5 m1_6 m1_7 m1_8 m1_9 m2_0 m2_1 m2_2 m2_3 m2_4 m2_5 m2_6 m2_7 m2_8 m2_9 = some r :=
  semRun_unr 400 ((text38_6 _ _ m1_0 m1_1 m1_2 m1_3 m1_4 m1_5 m1_6 m1_7 m1_8 m1_9 m2_0 m2_1 m2_2 m2_3 m2_4 m2_5 m2_6 m2_7 m2_8 m2_9).trans h)
end R2

namespace R2
open Go Go.Proofs Sx
noncomputable def body40 : Code := (Tryd.f40.body).getD .skip
noncomputable def K40_3 : List Item := (kAt 3 body40 []).getD []
def S40_3 (t1 : UInt8) (t2 : Bool) (m3_0 : AV) (m3_1 : AV) (m3_2 : AV) (m3_3 : AV) (m3_4 : AV) (m3_5 : AV) (m3_6 : AV) (m3_7 : AV) (m3_8 : AV) (m3_9 : AV) (m6_0 : UInt8) (m6_1 : UInt8) (m6_2 : Bool) (m6_3 : UInt8) (m6_4 : UInt8) (m6_5 : UInt8) (m6_6 : UInt8) (m6_7 : Bool) (m6_8 : UInt8) (m6_9 : List UInt8) : St := St.ofL [(1, .cell (.val (.u8 t1))), (2, .cell (.val (.b t2))), (3, .cell (.ptr 3 0)), (6, .cell (.ptr 6 0))] [(3, some [.val (m3_0), .val (m3_1), .val (m3_2), .val (m3_3), .val (m3_4), .val (m3_5), .val (m3_6), .val (m3_7), .val (m3_8), .val (m3_9)]), (6, some [.val (.u8 m6_0), .val (.u8 m6_1), .val (.b m6_2), .val (.u8 m6_3), .val (.u8 m6_4), .val (.u8 m6_5), .val (.u8 m6_6), .val (.b m6_7), .val (.u8 m6_8), .val (.s m6_9)])]
noncomputable def F40_3 (run : List Item → St → Option AV) (t1 : UInt8) (t2 : Bool) (m3_0 : AV) (m3_1 : AV) (m3_2 : AV) (m3_3 : AV) (m3_4 : AV) (m3_5 : AV) (m3_6 : AV) (m3_7 : AV) (m3_8 : AV) (m3_9 : AV) (m6_0 : UInt8) (m6_1 : UInt8) (m6_2 : Bool) (m6_3 : UInt8) (m6_4 : UInt8) (m6_5 : UInt8) (m6_6 : UInt8) (m6_7 : Bool) (m6_8 : UInt8) (m6_9 : List UInt8) : Option AV := run K40_3 (S40_3 t1 t2 m3_0 m3_1 m3_2 m3_3 m3_4 m3_5 m3_6 m3_7 m3_8 m3_9 m6_0 m6_1 m6_2 m6_3 m6_4 m6_5 m6_6 m6_7 m6_8 m6_9)
noncomputable def K40_32 : List Item := (kAt 32 body40 []).getD []
def S40_32 (m3_0 : AV) (m3_1 : AV) (m3_2 : AV) (m3_3 : AV) (m3_4 : AV) (m3_5 : AV) (m3_6 : AV) (m3_7 : AV) (m3_8 : AV) (m3_9 : AV) (m6_0 : UInt8) (m6_1 : UInt8) (m6_2 : Bool) (m6_3 : UInt8) (m6_4 : UInt8) (m6_5 : UInt8) (m6_6 : UInt8) (m6_7 : Bool) (m6_8 : UInt8) (m6_9 : List UInt8) : St := St.ofL [(3, .cell (.ptr 3 0)), (6, .cell (.ptr 6 0))] [(3, some [.val (m3_0), .val (m3_1), .val (m3_2), .val (m3_3), .val (m3_4), .val (m3_5), .val (m3_6), .val (m3_7), .val (m3_8), .val (m3_9)]), (6, some [.val (.u8 m6_0), .val (.u8 m6_1), .val (.b m6_2), .val (.u8 m6_3), .val (.u8 m6_4), .val (.u8 m6_5), .val (.u8 m6_6), .val (.b m6_7), .val (.u8 m6_8), .val (.s m6_9)])]
noncomputable def F40_32 (run : List Item → St → Option AV) (m3_0 : AV) (m3_1 : AV) (m3_2 : AV) (m3_3 : AV) (m3_4 : AV) (m3_5 : AV) (m3_6 : AV) (m3_7 : AV) (m3_8 : AV) (m3_9 : AV) (m6_0 : UInt8) (m6_1 : UInt8) (m6_2 : Bool) (m6_3 : UInt8) (m6_4 : UInt8) (m6_5 : UInt8) (m6_6 : UInt8) (m6_7 : Bool) (m6_8 : UInt8) (m6_9 : List UInt8) : Option AV := run K40_32 (S40_32 m3_0 m3_1 m3_2 m3_3 m3_4 m3_5 m3_6 m3_7 m3_8 m3_9 m6_0 m6_1 m6_2 m6_3 m6_4 m6_5 m6_6 m6_7 m6_8 m6_9)
noncomputable def K40_22 : List Item := (kAt 22 body40 []).getD []
def S40_22 (t1 : UInt8) (t2 : Bool) (m3_0 : AV) (m3_1 : AV) (m3_2 : AV) (m3_3 : AV) (m3_4 : AV) (m3_5 : AV) (m3_6 : AV) (m3_7 : AV) (m3_8 : AV) (m3_9 : AV) (m6_0 : UInt8) (m6_1 : UInt8) (m6_2 : Bool) (m6_3 : UInt8) (m6_4 : UInt8) (m6_5 : UInt8) (m6_6 : UInt8) (m6_7 : Bool) (m6_8 : UInt8) (m6_9 : List UInt8) : St := St.ofL [(1, .cell (.val (.u8 t1))), (2, .cell (.val (.b t2))), (3, .cell (.ptr 3 0)), (6, .cell (.ptr 6 0))] [(3, some [.val (m3_0), .val (m3_1), .val (m3_2), .val (m3_3), .val (m3_4), .val (m3_5), .val (m3_6), .val (m3_7), .val (m3_8), .val (m3_9)]), (6, some [.val (.u8 m6_0), .val (.u8 m6_1), .val (.b m6_2), .val (.u8 m6_3), .val (.u8 m6_4), .val (.u8 m6_5), .val (.u8 m6_6), .val (.b m6_7), .val (.u8 m6_8), .val (.s m6_9)])]
noncomputable def F40_22 (run : List Item → St → Option AV) (t1 : UInt8) (t2 : Bool) (m3_0 : AV) (m3_1 : AV) (m3_2 : AV) (m3_3 : AV) (m3_4 : AV) (m3_5 : AV) (m3_6 : AV) (m3_7 : AV) (m3_8 : AV) (m3_9 : AV) (m6_0 : UInt8) (m6_1 : UInt8) (m6_2 : Bool) (m6_3 : UInt8) (m6_4 : UInt8) (m6_5 : UInt8) (m6_6 : UInt8) (m6_7 : Bool) (m6_8 : UInt8) (m6_9 : List UInt8) : Option AV := run K40_22 (S40_22 t1 t2 m3_0 m3_1 m3_2 m3_3 m3_4 m3_5 m3_6 m3_7 m3_8 m3_9 m6_0 m6_1 m6_2 m6_3 m6_4 m6_5 m6_6 m6_7 m6_8 m6_9)
noncomputable def K40_26 : List Item := (kAt 26 body40 []).getD []
def S40_26 (t1 : UInt8) (t2 : Bool) (t16 : AV) (m3_0 : AV) (m3_1 : AV) (m3_2 : AV) (m3_3 : AV) (m3_4 : AV) (m3_5 : AV) (m3_6 : AV) (m3_7 : AV) (m3_8 : AV) (m3_9 : AV) (m6_0 : UInt8) (m6_1 : UInt8) (m6_2 : Bool) (m6_3 : UInt8) (m6_4 : UInt8) (m6_5 : UInt8) (m6_6 : UInt8) (m6_7 : Bool) (m6_8 : UInt8) (m6_9 : List UInt8) : St := St.ofL [(1, .cell (.val (.u8 t1))), (2, .cell (.val (.b t2))), (3, .cell (.ptr 3 0)), (6, .cell (.ptr 6 0)), (16, .cell (.val (t16)))] [(3, some [.val (m3_0), .val (m3_1), .val (m3_2), .val (m3_3), .val (m3_4), .val (m3_5), .val (m3_6), .val (m3_7), .val (m3_8), .val (m3_9)]), (6, some [.val (.u8 m6_0), .val (.u8 m6_1), .val (.b m6_2), .val (.u8 m6_3), .val (.u8 m6_4), .val (.u8 m6_5), .val (.u8 m6_6), .val (.b m6_7), .val (.u8 m6_8), .val (.s m6_9)])]
noncomputable def F40_26 (run : List Item → St → Option AV) (t1 : UInt8) (t2 : Bool) (t16 : AV) (m3_0 : AV) (m3_1 : AV) (m3_2 : AV) (m3_3 : AV) (m3_4 : AV) (m3_5 : AV) (m3_6 : AV) (m3_7 : AV) (m3_8 : AV) (m3_9 : AV) (m6_0 : UInt8) (m6_1 : UInt8) (m6_2 : Bool) (m6_3 : UInt8) (m6_4 : UInt8) (m6_5 : UInt8) (m6_6 : UInt8) (m6_7 : Bool) (m6_8 : UInt8) (m6_9 : List UInt8) : Option AV := run K40_26 (S40_26 t1 t2 t16 m3_0 m3_1 m3_2 m3_3 m3_4 m3_5 m3_6 m3_7 m3_8 m3_9 m6_0 m6_1 m6_2 m6_3 m6_4 m6_5 m6_6 m6_7 m6_8 m6_9)
noncomputable def K40_31 : List Item := (kAt 31 body40 []).getD []
def S40_31 (t1 : UInt8) (t2 : Bool) (m3_0 : AV) (m3_1 : AV) (m3_2 : AV) (m3_3 : AV) (m3_4 : AV) (m3_5 : AV) (m3_6 : AV) (m3_7 : AV) (m3_8 : AV) (m3_9 : AV) (m6_0 : UInt8) (m6_1 : UInt8) (m6_2 : Bool) (m6_3 : UInt8) (m6_4 : UInt8) (m6_5 : UInt8) (m6_6 : UInt8) (m6_7 : Bool) (m6_8 : UInt8) (m6_9 : List UInt8) : St := St.ofL [(1, .cell (.val (.u8 t1))), (2, .cell (.val (.b t2))), (3, .cell (.ptr 3 0)), (6, .cell (.ptr 6 0))] [(3, some [.val (m3_0), .val (m3_1), .val (m3_2), .val (m3_3), .val (m3_4), .val (m3_5), .val (m3_6), .val (m3_7), .val (m3_8), .val (m3_9)]), (6, some [.val (.u8 m6_0), .val (.u8 m6_1), .val (.b m6_2), .val (.u8 m6_3), .val (.u8 m6_4), .val (.u8 m6_5), .val (.u8 m6_6), .val (.b m6_7), .val (.u8 m6_8), .val (.s m6_9)])]
noncomputable def F40_31 (run : List Item → St → Option AV) (t1 : UInt8) (t2 : Bool) (m3_0 : AV) (m3_1 : AV) (m3_2 : AV) (m3_3 : AV) (m3_4 : AV) (m3_5 : AV) (m3_6 : AV) (m3_7 : AV) (m3_8 : AV) (m3_9 : AV) (m6_0 : UInt8) (m6_1 : UInt8) (m6_2 : Bool) (m6_3 : UInt8) (m6_4 : UInt8) (m6_5 : UInt8) (m6_6 : UInt8) (m6_7 : Bool) (m6_8 : UInt8) (m6_9 : List UInt8) : Option AV := run K40_31 (S40_31 t1 t2 m3_0 m3_1 m3_2 m3_3 m3_4 m3_5 m3_6 m3_7 m3_8 m3_9 m6_0 m6_1 m6_2 m6_3 m6_4 m6_5 m6_6 m6_7 m6_8 m6_9)
noncomputable def K40_4 : List Item := (kAt 4 body40 []).getD []
def S40_4 (t1 : UInt8) (m3_0 : AV) (m3_1 : AV) (m3_2 : AV) (m3_3 : AV) (m3_4 : AV) (m3_5 : AV) (m3_6 : AV) (m3_7 : AV) (m3_8 : AV) (m3_9 : AV) (m6_0 : UInt8) (m6_1 : UInt8) (m6_2 : Bool) (m6_3 : UInt8) (m6_4 : UInt8) (m6_5 : UInt8) (m6_6 : UInt8) (m6_7 : Bool) (m6_8 : UInt8) (m6_9 : List UInt8) : St := St.ofL [(1, .cell (.val (.u8 t1))), (3, .cell (.ptr 3 0)), (6, .cell (.ptr 6 0))] [(3, some [.val (m3_0), .val (m3_1), .val (m3_2), .val (m3_3), .val (m3_4), .val (m3_5), .val (m3_6), .val (m3_7), .val (m3_8), .val (m3_9)]), (6, some [.val (.u8 m6_0), .val (.u8 m6_1), .val (.b m6_2), .val (.u8 m6_3), .val (.u8 m6_4), .val (.u8 m6_5), .val (.u8 m6_6), .val (.b m6_7), .val (.u8 m6_8), .val (.s m6_9)])]
noncomputable def F40_4 (run : List Item → St → Option AV) (t1 : UInt8) (m3_0 : AV) (m3_1 : AV) (m3_2 : AV) (m3_3 : AV) (m3_4 : AV) (m3_5 : AV) (m3_6 : AV) (m3_7 : AV) (m3_8 : AV) (m3_9 : AV) (m6_0 : UInt8) (m6_1 : UInt8) (m6_2 : Bool) (m6_3 : UInt8) (m6_4 : UInt8) (m6_5 : UInt8) (m6_6 : UInt8) (m6_7 : Bool) (m6_8 : UInt8) (m6_9 : List UInt8) : Option AV := run K40_4 (S40_4 t1 m3_0 m3_1 m3_2 m3_3 m3_4 m3_5 m3_6 m3_7 m3_8 m3_9 m6_0 m6_1 m6_2 m6_3 m6_4 m6_5 m6_6 m6_7 m6_8 m6_9)
noncomputable def X40 (call : Nat → List AV → Option AV) (run : List Item → St → Option AV) (x0_0 : UInt8) (x0_1 : UInt8) (x0_2 : Bool) (x0_3 : UInt8) (x0_4 : UInt8) (x0_5 : UInt8) (x0_6 : UInt8) (x0_7 : Bool) (x0_8 : UInt8) (x0_9 : List UInt8) (x1 : UInt8) (x2 : Bool) : Option AV :=
  (call 21 [.ag [.u8 x0_0, .u8 x0_1, .b x0_2, .u8 x0_3, .u8 x0_4, .u8 x0_5, .u8 x0_6, .b x0_7, .u8 x0_8, .s x0_9]]).bind fun v1 => (unop .not (v1)).bind fun v2 => condM (v2)
  (some (.ag [.u8 20, .u8 0, .b false, .u8 0, .u8 0, .u8 0, .u8 0, .b false, .u8 0, .s []]))
  (F40_3 run x1 x2 (.u8 x0_0) (.u8 x0_1) (.b x0_2) (.u8 x0_3) (.u8 x0_4) (.u8 x0_5) (.u8 x0_6) (.b x0_7) (.u8 x0_8) (.s x0_9) 0 0 false 0 0 0 0 false 0 [])
theorem text40 (call : Nat → List AV → Option AV) (run : List Item → St → Option AV) (x0_0 : UInt8) (x0_1 : UInt8) (x0_2 : Bool) (x0_3 : UInt8) (x0_4 : UInt8) (x0_5 : UInt8) (x0_6 : UInt8) (x0_7 : Bool) (x0_8 : UInt8) (x0_9 : List UInt8) (x1 : UInt8) (x2 : Bool) : unr C call run 40 Tryd.f40 400 [.code body40] (initSt [.ag [.u8 x0_0, .u8 x0_1, .b x0_2, .u8 x0_3, .u8 x0_4, .u8 x0_5, .u8 x0_6, .b x0_7, .u8 x0_8, .s x0_9], .u8 x1, .b x2]) = X40 call run x0_0 x0_1 x0_2 x0_3 x0_4 x0_5 x0_6 x0_7 x0_8 x0_9 x1 x2 := by
  kernel_rfl
theorem c40 (x0_0 : UInt8) (x0_1 : UInt8) (x0_2 : Bool) (x0_3 : UInt8) (x0_4 : UInt8) (x0_5 : UInt8) (x0_6 : UInt8) (x0_7 : Bool) (x0_8 : UInt8) (x0_9 : List UInt8) (x1 : UInt8) (x2 : Bool) {r : AV} (h : X40 (semCall C Tryd.prog) (semRun C Tryd.prog 40 Tryd.f40) x0_0 x0_1 x0_2 x0_3 x0_4 x0_5 x0_6 x0_7 x0_8 x0_9 x1 x2 = some r) : semCall C Tryd.prog 40 [.ag [.u8 x0_0, .u8 x0_1, .b x0_2, .u8 x0_3, .u8 x0_4, .u8 x0_5, .u8 x0_6, .b x0_7, .u8 x0_8, .s x0_9], .u8 x1, .b x2] = some r :=
  semCall_unr (fn := Tryd.f40) (c := body40) (by kernel_rfl) (by kernel_rfl) 400 (by kernel_rfl) ((text40 _ _ x0_0 x0_1 x0_2 x0_3 x0_4 x0_5 x0_6 x0_7 x0_8 x0_9 x1 x2).trans h)
noncomputable def X40_3 (call : Nat → List AV → Option AV) (run : List Item → St → Option AV) (t1 : UInt8) (t2 : Bool) (m3_0 : AV) (m3_1 : AV) (m3_2 : AV) (m3_3 : AV) (m3_4 : AV) (m3_5 : AV) (m3_6 : AV) (m3_7 : AV) (m3_8 : AV) (m3_9 : AV) (m6_0 : UInt8) (m6_1 : UInt8) (m6_2 : Bool) (m6_3 : UInt8) (m6_4 : UInt8) (m6_5 : UInt8) (m6_6 : UInt8) (m6_7 : Bool) (m6_8 : UInt8) (m6_9 : List UInt8) : Option AV :=
  (binI .eql (m3_0) (.u8 0)).bind fun v1 => condM (v1)
  (condM (.b (ueq t1 60))
  (F40_32 run (.u8 1) (m3_1) (m3_2) (m3_3) (m3_4) (m3_5) (m3_6) (m3_7) (m3_8) (m3_9) m6_0 m6_1 m6_2 m6_3 m6_4 m6_5 m6_6 m6_7 m6_8 m6_9)
  (F40_32 run (m3_0) (m3_1) (m3_2) (m3_3) (m3_4) (m3_5) (m3_6) (m3_7) (m3_8) (m3_9) m6_0 m6_1 m6_2 m6_3 m6_4 m6_5 m6_6 m6_7 m6_8 m6_9))
  ((binI .eql (m3_0) (.u8 1)).bind fun v2 => condM (v2)
  ((call 61 [.u8 t1]).bind fun v3 => (tupI (v3) 0).bind fun v4 => (tupI (v3) 1).bind fun v5 => (AV.asAg 10 (v4)).bind fun v6 => condM (v5)
  (some (.ag [v6.getD 0 .un, v6.getD 1 .un, v6.getD 2 .un, v6.getD 3 .un, v6.getD 4 .un, v6.getD 5 .un, v6.getD 6 .un, v6.getD 7 .un, v6.getD 8 .un, v6.getD 9 .un]))
  (F40_3 run t1 t2 (.u8 0) (m3_1) (m3_2) (m3_3) (m3_4) (m3_5) (m3_6) (m3_7) (m3_8) (m3_9) m6_0 m6_1 m6_2 m6_3 m6_4 m6_5 m6_6 m6_7 m6_8 m6_9))
  ((binI .eql (m3_0) (.u8 2)).bind fun v7 => condM (v7)
  ((call 62 [.u8 t1]).bind fun v8 => (AV.asAg 10 (v8)).bind fun v9 => some (.ag [v9.getD 0 .un, v9.getD 1 .un, v9.getD 2 .un, v9.getD 3 .un, v9.getD 4 .un, v9.getD 5 .un, v9.getD 6 .un, v9.getD 7 .un, v9.getD 8 .un, v9.getD 9 .un]))
  ((binI .eql (m3_0) (.u8 3)).bind fun v10 => condM (v10)
  (F40_22 run t1 t2 (m3_0) (m3_1) (m3_2) (m3_3) (m3_4) (m3_5) (m3_6) (m3_7) (m3_8) (m3_9) m6_0 m6_1 m6_2 m6_3 m6_4 m6_5 m6_6 m6_7 m6_8 m6_9)
  ((binI .eql (m3_0) (.u8 4)).bind fun v11 => condM (v11)
  (F40_22 run t1 t2 (m3_0) (m3_1) (m3_2) (m3_3) (m3_4) (m3_5) (m3_6) (m3_7) (m3_8) (m3_9) m6_0 m6_1 m6_2 m6_3 m6_4 m6_5 m6_6 m6_7 m6_8 m6_9)
  ((binI .eql (m3_0) (.u8 5)).bind fun v12 => condM (v12)
  (F40_22 run t1 t2 (m3_0) (m3_1) (m3_2) (m3_3) (m3_4) (m3_5) (m3_6) (m3_7) (m3_8) (m3_9) m6_0 m6_1 m6_2 m6_3 m6_4 m6_5 m6_6 m6_7 m6_8 m6_9)
  ((binI .eql (m3_0) (.u8 6)).bind fun v13 => condM (v13)
  (F40_22 run t1 t2 (m3_0) (m3_1) (m3_2) (m3_3) (m3_4) (m3_5) (m3_6) (m3_7) (m3_8) (m3_9) m6_0 m6_1 m6_2 m6_3 m6_4 m6_5 m6_6 m6_7 m6_8 m6_9)
  ((binI .eql (m3_0) (.u8 7)).bind fun v14 => condM (v14)
  (F40_22 run t1 t2 (m3_0) (m3_1) (m3_2) (m3_3) (m3_4) (m3_5) (m3_6) (m3_7) (m3_8) (m3_9) m6_0 m6_1 m6_2 m6_3 m6_4 m6_5 m6_6 m6_7 m6_8 m6_9)
  ((binI .eql (m3_0) (.u8 9)).bind fun v15 => condM (v15)
  (F40_22 run t1 t2 (m3_0) (m3_1) (m3_2) (m3_3) (m3_4) (m3_5) (m3_6) (m3_7) (m3_8) (m3_9) m6_0 m6_1 m6_2 m6_3 m6_4 m6_5 m6_6 m6_7 m6_8 m6_9)
  ((binI .eql (m3_0) (.u8 10)).bind fun v16 => condM (v16)
  (F40_22 run t1 t2 (m3_0) (m3_1) (m3_2) (m3_3) (m3_4) (m3_5) (m3_6) (m3_7) (m3_8) (m3_9) m6_0 m6_1 m6_2 m6_3 m6_4 m6_5 m6_6 m6_7 m6_8 m6_9)
  (F40_26 run t1 t2 (m3_0) (m3_0) (m3_1) (m3_2) (m3_3) (m3_4) (m3_5) (m3_6) (m3_7) (m3_8) (m3_9) m6_0 m6_1 m6_2 m6_3 m6_4 m6_5 m6_6 m6_7 m6_8 m6_9))))))))))
theorem text40_3 (call : Nat → List AV → Option AV) (run : List Item → St → Option AV) (t1 : UInt8) (t2 : Bool) (m3_0 : AV) (m3_1 : AV) (m3_2 : AV) (m3_3 : AV) (m3_4 : AV) (m3_5 : AV) (m3_6 : AV) (m3_7 : AV) (m3_8 : AV) (m3_9 : AV) (m6_0 : UInt8) (m6_1 : UInt8) (m6_2 : Bool) (m6_3 : UInt8) (m6_4 : UInt8) (m6_5 : UInt8) (m6_6 : UInt8) (m6_7 : Bool) (m6_8 : UInt8) (m6_9 : List UInt8) : step C call 40 Tryd.f40 (unr C call run 40 Tryd.f40 400) K40_3 (S40_3 t1 t2 m3_0 m3_1 m3_2 m3_3 m3_4 m3_5 m3_6 m3_7 m3_8 m3_9 m6_0 m6_1 m6_2 m6_3 m6_4 m6_5 m6_6 m6_7 m6_8 m6_9) = X40_3 call run t1 t2 m3_0 m3_1 m3_2 m3_3 m3_4 m3_5 m3_6 m3_7 m3_8 m3_9 m6_0 m6_1 m6_2 m6_3 m6_4 m6_5 m6_6 m6_7 m6_8 m6_9 := by
  kernel_rfl
noncomputable def X40_32 (call : Nat → List AV → Option AV) (run : List Item → St → Option AV) (m3_0 : AV) (m3_1 : AV) (m3_2 : AV) (m3_3 : AV) (m3_4 : AV) (m3_5 : AV) (m3_6 : AV) (m3_7 : AV) (m3_8 : AV) (m3_9 : AV) (m6_0 : UInt8) (m6_1 : UInt8) (m6_2 : Bool) (m6_3 : UInt8) (m6_4 : UInt8) (m6_5 : UInt8) (m6_6 : UInt8) (m6_7 : Bool) (m6_8 : UInt8) (m6_9 : List UInt8) : Option AV :=
  some (.ag [m3_0, m3_1, m3_2, m3_3, m3_4, m3_5, m3_6, m3_7, m3_8, m3_9])
theorem text40_32 (call : Nat → List AV → Option AV) (run : List Item → St → Option AV) (m3_0 : AV) (m3_1 : AV) (m3_2 : AV) (m3_3 : AV) (m3_4 : AV) (m3_5 : AV) (m3_6 : AV) (m3_7 : AV) (m3_8 : AV) (m3_9 : AV) (m6_0 : UInt8) (m6_1 : UInt8) (m6_2 : Bool) (m6_3 : UInt8) (m6_4 : UInt8) (m6_5 : UInt8) (m6_6 : UInt8) (m6_7 : Bool) (m6_8 : UInt8) (m6_9 : List UInt8) : step C call 40 Tryd.f40 (unr C call run 40 Tryd.f40 400) K40_32 (S40_32 m3_0 m3_1 m3_2 m3_3 m3_4 m3_5 m3_6 m3_7 m3_8 m3_9 m6_0 m6_1 m6_2 m6_3 m6_4 m6_5 m6_6 m6_7 m6_8 m6_9) = X40_32 call run m3_0 m3_1 m3_2 m3_3 m3_4 m3_5 m3_6 m3_7 m3_8 m3_9 m6_0 m6_1 m6_2 m6_3 m6_4 m6_5 m6_6 m6_7 m6_8 m6_9 := by
  kernel_rfl
noncomputable def X40_22 (call : Nat → List AV → Option AV) (run : List Item → St → Option AV) (t1 : UInt8) (t2 : Bool) (m3_0 : AV) (m3_1 : AV) (m3_2 : AV) (m3_3 : AV) (m3_4 : AV) (m3_5 : AV) (m3_6 : AV) (m3_7 : AV) (m3_8 : AV) (m3_9 : AV) (m6_0 : UInt8) (m6_1 : UInt8) (m6_2 : Bool) (m6_3 : UInt8) (m6_4 : UInt8) (m6_5 : UInt8) (m6_6 : UInt8) (m6_7 : Bool) (m6_8 : UInt8) (m6_9 : List UInt8) : Option AV :=
  (call 63 [.ag [m3_0, m3_1, m3_2, m3_3, m3_4, m3_5, m3_6, m3_7, m3_8, m3_9], .u8 t1]).bind fun v1 => (tupI (v1) 0).bind fun v2 => (tupI (v1) 1).bind fun v3 => (AV.asAg 10 (v2)).bind fun v4 => condM (v3)
  (F40_3 run t1 t2 (v4.getD 0 .un) (v4.getD 1 .un) (v4.getD 2 .un) (v4.getD 3 .un) (v4.getD 4 .un) (v4.getD 5 .un) (v4.getD 6 .un) (v4.getD 7 .un) (v4.getD 8 .un) (v4.getD 9 .un) m6_0 m6_1 m6_2 m6_3 m6_4 m6_5 m6_6 m6_7 m6_8 m6_9)
  (some (.ag [v4.getD 0 .un, v4.getD 1 .un, v4.getD 2 .un, v4.getD 3 .un, v4.getD 4 .un, v4.getD 5 .un, v4.getD 6 .un, v4.getD 7 .un, v4.getD 8 .un, v4.getD 9 .un]))
theorem text40_22 (call : Nat → List AV → Option AV) (run : List Item → St → Option AV) (t1 : UInt8) (t2 : Bool) (m3_0 : AV) (m3_1 : AV) (m3_2 : AV) (m3_3 : AV) (m3_4 : AV) (m3_5 : AV) (m3_6 : AV) (m3_7 : AV) (m3_8 : AV) (m3_9 : AV) (m6_0 : UInt8) (m6_1 : UInt8) (m6_2 : Bool) (m6_3 : UInt8) (m6_4 : UInt8) (m6_5 : UInt8) (m6_6 : UInt8) (m6_7 : Bool) (m6_8 : UInt8) (m6_9 : List UInt8) : step C call 40 Tryd.f40 (unr C call run 40 Tryd.f40 400) K40_22 (S40_22 t1 t2 m3_0 m3_1 m3_2 m3_3 m3_4 m3_5 m3_6 m3_7 m3_8 m3_9 m6_0 m6_1 m6_2 m6_3 m6_4 m6_5 m6_6 m6_7 m6_8 m6_9) = X40_22 call run t1 t2 m3_0 m3_1 m3_2 m3_3 m3_4 m3_5 m3_6 m3_7 m3_8 m3_9 m6_0 m6_1 m6_2 m6_3 m6_4 m6_5 m6_6 m6_7 m6_8 m6_9 := by
  kernel_rfl
noncomputable def X40_26 (call : Nat → List AV → Option AV) (run : List Item → St → Option AV) (t1 : UInt8) (t2 : Bool) (t16 : AV) (m3_0 : AV) (m3_1 : AV) (m3_2 : AV) (m3_3 : AV) (m3_4 : AV) (m3_5 : AV) (m3_6 : AV) (m3_7 : AV) (m3_8 : AV) (m3_9 : AV) (m6_0 : UInt8) (m6_1 : UInt8) (m6_2 : Bool) (m6_3 : UInt8) (m6_4 : UInt8) (m6_5 : UInt8) (m6_6 : UInt8) (m6_7 : Bool) (m6_8 : UInt8) (m6_9 : List UInt8) : Option AV :=
  (binI .eql (t16) (.u8 8)).bind fun v1 => condM (v1)
  ((call 64 [.ag [m3_0, m3_1, m3_2, m3_3, m3_4, m3_5, m3_6, m3_7, m3_8, m3_9], .u8 t1]).bind fun v2 => (AV.asAg 10 (v2)).bind fun v3 => some (.ag [v3.getD 0 .un, v3.getD 1 .un, v3.getD 2 .un, v3.getD 3 .un, v3.getD 4 .un, v3.getD 5 .un, v3.getD 6 .un, v3.getD 7 .un, v3.getD 8 .un, v3.getD 9 .un]))
  ((binI .eql (t16) (.u8 17)).bind fun v4 => condM (v4)
  (F40_31 run t1 t2 (m3_0) (m3_1) (m3_2) (m3_3) (m3_4) (m3_5) (m3_6) (m3_7) (m3_8) (m3_9) m6_0 m6_1 m6_2 m6_3 m6_4 m6_5 m6_6 m6_7 m6_8 m6_9)
  ((binI .eql (t16) (.u8 18)).bind fun v5 => condM (v5)
  (F40_31 run t1 t2 (m3_0) (m3_1) (m3_2) (m3_3) (m3_4) (m3_5) (m3_6) (m3_7) (m3_8) (m3_9) m6_0 m6_1 m6_2 m6_3 m6_4 m6_5 m6_6 m6_7 m6_8 m6_9)
  ((binI .eql (t16) (.u8 19)).bind fun v6 => condM (v6)
  (F40_31 run t1 t2 (m3_0) (m3_1) (m3_2) (m3_3) (m3_4) (m3_5) (m3_6) (m3_7) (m3_8) (m3_9) m6_0 m6_1 m6_2 m6_3 m6_4 m6_5 m6_6 m6_7 m6_8 m6_9)
  (F40_4 run t1 (m3_0) (m3_1) (m3_2) (m3_3) (m3_4) (m3_5) (m3_6) (m3_7) (m3_8) (m3_9) m6_0 m6_1 m6_2 m6_3 m6_4 m6_5 m6_6 m6_7 m6_8 m6_9))))
theorem text40_26 (call : Nat → List AV → Option AV) (run : List Item → St → Option AV) (t1 : UInt8) (t2 : Bool) (t16 : AV) (m3_0 : AV) (m3_1 : AV) (m3_2 : AV) (m3_3 : AV) (m3_4 : AV) (m3_5 : AV) (m3_6 : AV) (m3_7 : AV) (m3_8 : AV) (m3_9 : AV) (m6_0 : UInt8) (m6_1 : UInt8) (m6_2 : Bool) (m6_3 : UInt8) (m6_4 : UInt8) (m6_5 : UInt8) (m6_6 : UInt8) (m6_7 : Bool) (m6_8 : UInt8) (m6_9 : List UInt8) : step C call 40 Tryd.f40 (unr C call run 40 Tryd.f40 400) K40_26 (S40_26 t1 t2 t16 m3_0 m3_1 m3_2 m3_3 m3_4 m3_5 m3_6 m3_7 m3_8 m3_9 m6_0 m6_1 m6_2 m6_3 m6_4 m6_5 m6_6 m6_7 m6_8 m6_9) = X40_26 call run t1 t2 t16 m3_0 m3_1 m3_2 m3_3 m3_4 m3_5 m3_6 m3_7 m3_8 m3_9 m6_0 m6_1 m6_2 m6_3 m6_4 m6_5 m6_6 m6_7 m6_8 m6_9 := by
  kernel_rfl
noncomputable def X40_31 (call : Nat → List AV → Option AV) (run : List Item → St → Option AV) (t1 : UInt8) (t2 : Bool) (m3_0 : AV) (m3_1 : AV) (m3_2 : AV) (m3_3 : AV) (m3_4 : AV) (m3_5 : AV) (m3_6 : AV) (m3_7 : AV) (m3_8 : AV) (m3_9 : AV) (m6_0 : UInt8) (m6_1 : UInt8) (m6_2 : Bool) (m6_3 : UInt8) (m6_4 : UInt8) (m6_5 : UInt8) (m6_6 : UInt8) (m6_7 : Bool) (m6_8 : UInt8) (m6_9 : List UInt8) : Option AV :=
  (call 65 [.ag [m3_0, m3_1, m3_2, m3_3, m3_4, m3_5, m3_6, m3_7, m3_8, m3_9], .u8 t1, .b t2]).bind fun v1 => (AV.asAg 10 (v1)).bind fun v2 => some (.ag [v2.getD 0 .un, v2.getD 1 .un, v2.getD 2 .un, v2.getD 3 .un, v2.getD 4 .un, v2.getD 5 .un, v2.getD 6 .un, v2.getD 7 .un, v2.getD 8 .un, v2.getD 9 .un])
theorem text40_31 (call : Nat → List AV → Option AV) (run : List Item → St → Option AV) (t1 : UInt8) (t2 : Bool) (m3_0 : AV) (m3_1 : AV) (m3_2 : AV) (m3_3 : AV) (m3_4 : AV) (m3_5 : AV) (m3_6 : AV) (m3_7 : AV) (m3_8 : AV) (m3_9 : AV) (m6_0 : UInt8) (m6_1 : UInt8) (m6_2 : Bool) (m6_3 : UInt8) (m6_4 : UInt8) (m6_5 : UInt8) (m6_6 : UInt8) (m6_7 : Bool) (m6_8 : UInt8) (m6_9 : List UInt8) : step C call 40 Tryd.f40 (unr C call run 40 Tryd.f40 400) K40_31 (S40_31 t1 t2 m3_0 m3_1 m3_2 m3_3 m3_4 m3_5 m3_6 m3_7 m3_8 m3_9 m6_0 m6_1 m6_2 m6_3 m6_4 m6_5 m6_6 m6_7 m6_8 m6_9) = X40_31 call run t1 t2 m3_0 m3_1 m3_2 m3_3 m3_4 m3_5 m3_6 m3_7 m3_8 m3_9 m6_0 m6_1 m6_2 m6_3 m6_4 m6_5 m6_6 m6_7 m6_8 m6_9 := by
  kernel_rfl
noncomputable def X40_4 (call : Nat → List AV → Option AV) (run : List Item → St → Option AV) (t1 : UInt8) (m3_0 : AV) (m3_1 : AV) (m3_2 : AV) (m3_3 : AV) (m3_4 : AV) (m3_5 : AV) (m3_6 : AV) (m3_7 : AV) (m3_8 : AV) (m3_9 : AV) (m6_0 : UInt8) (m6_1 : UInt8) (m6_2 : Bool) (m6_3 : UInt8) (m6_4 : UInt8) (m6_5 : UInt8) (m6_6 : UInt8) (m6_7 : Bool) (m6_8 : UInt8) (m6_9 : List UInt8) : Option AV :=
  (call 66 [.ag [m3_0, m3_1, m3_2, m3_3, m3_4, m3_5, m3_6, m3_7, m3_8, m3_9], .u8 t1]).bind fun v1 => (AV.asAg 10 (v1)).bind fun v2 => some (.ag [v2.getD 0 .un, v2.getD 1 .un, v2.getD 2 .un, v2.getD 3 .un, v2.getD 4 .un, v2.getD 5 .un, v2.getD 6 .un, v2.getD 7 .un, v2.getD 8 .un, v2.getD 9 .un])
theorem text40_4 (call : Nat → List AV → Option AV) (run : List Item → St → Option AV) (t1 : UInt8) (m3_0 : AV) (m3_1 : AV) (m3_2 : AV) (m3_3 : AV) (m3_4 : AV) (m3_5 : AV) (m3_6 : AV) (m3_7 : AV) (m3_8 : AV) (m3_9 : AV) (m6_0 : UInt8) (m6_1 : UInt8) (m6_2 : Bool) (m6_3 : UInt8) (m6_4 : UInt8) (m6_5 : UInt8) (m6_6 : UInt8) (m6_7 : Bool) (m6_8 : UInt8) (m6_9 : List UInt8) : step C call 40 Tryd.f40 (unr C call run 40 Tryd.f40 400) K40_4 (S40_4 t1 m3_0 m3_1 m3_2 m3_3 m3_4 m3_5 m3_6 m3_7 m3_8 m3_9 m6_0 m6_1 m6_2 m6_3 m6_4 m6_5 m6_6 m6_7 m6_8 m6_9) = X40_4 call run t1 m3_0 m3_1 m3_2 m3_3 m3_4 m3_5 m3_6 m3_7 m3_8 m3_9 m6_0 m6_1 m6_2 m6_3 m6_4 m6_5 m6_6 m6_7 m6_8 m6_9 := by
  kernel_rfl
theorem r40_3 (t1 : UInt8) (t2 : Bool) (m3_0 : AV) (m3_1 : AV) (m3_2 : AV) (m3_3 : AV) (m3_4 : AV) (m3_5 : AV) (m3_6 : AV) (m3_7 : AV) (m3_8 : AV) (m3_9 : AV) (m6_0 : UInt8) (m6_1 : UInt8) (m6_2 : Bool) (m6_3 : UInt8) (m6_4 : UInt8) (m6_5 : UInt8) (m6_6 : UInt8) (m6_7 : Bool) (m6_8 : UInt8) (m6_9 : List UInt8) {r : AV} (h : X40_3 (semCall C Tryd.prog) (semRun C Tryd.prog 40 Tryd.f40) t1 t2 m3_0 m3_1 m3_2 m3_3 m3_4 m3_5 m3_6 m3_7 m3_8 m3_9 m6_0 m6_1 m6_2 m6_3 m6_4 m6_5 m6_6 m6_7 m6_8 m6_9 = some r) : F40_3 (semRun C Tryd.prog 40 Tryd.f40) t1 t2 m3_0 m3_1 m3_2 m3_3 m3_4 m3_5 m3_6 m3_7 m3_8 m3_9 m6_0 m6_1 m6_2 m6_3 m6_4 m6_5 m6_6 m6_7 m6_8 m6_9 = some r :=
  semRun_unr 400 ((text40_3 _ _ t1 t2 m3_0 m3_1 m3_2 m3_3 m3_4 m3_5 m3_6 m3_7 m3_8 m3_9 m6_0 m6_1 m6_2 m6_3 m6_4 m6_5 m6_6 m6_7 m6_8 m6_9).trans h)
theorem r40_32 (m3_0 : AV) (m3_1 : AV) (m3_2 : AV) (m3_3 : AV) (m3_4 : AV) (m3_5 : AV) (m3_6 : AV) (m3_7 : AV) (m3_8 : AV) (m3_9 : AV) (m6_0 : UInt8) (m6_1 : UInt8) (m6_2 : Bool) (m6_3 : UInt8) (m6_4 : UInt8) (m6_5 : UInt8) (m6_6 : UInt8) (m6_7 : Bool) (m6_8 : UInt8) (m6_9 : List UInt8) {r : AV} (h : X40_32 (semCall C Tryd.prog) (semRun C Tryd.prog 40 Tryd.f40) m3_0 m3_1 m3_2 m3_3 m3_4 m3_5 m3_6 m3_7 m3_8 m3_9 m6_0 m6_1 m6_2 m6_3 m6_4 m6_5 m6_6 m6_7 m6_8 m6_9 = some r) : F40_32 (semRun C Tryd.prog 40 Tryd.f40) m3_0 m3_1 m3_2 m3_3 m3_4 m3_5 m3_6 m3_7 m3_8 m3_9 m6_0 m6_1 m6_2 m6_3 m6_4 m6_5 m6_6 m6_7 m6_8 m6_9 = some r :=
  semRun_unr 400 ((text40_32 _ _ m3_0 m3_1 m3_2 m3_3 m3_4 m3_5 m3_6 m3_7 m3_8 m3_9 m6_0 m6_1 m6_2 m6_3 m6_4 m6_5 m6_6 m6_7 m6_8 m6_9).trans h)
theorem r40_22 (t1 : UInt8) (t2 : Bool) (m3_0 : AV) (m3_1 : AV) (m3_2 : AV) (m3_3 : AV) (m3_4 : AV) (m3_5 : AV) (m3_6 : AV) (m3_7 : AV) (m3_8 : AV) (m3_9 : AV) (m6_0 : UInt8) (m6_1 : UInt8) (m6_2 : Bool) (m6_3 : UInt8) (m6_4 : UInt8) (m6_5 : UInt8) (m6_6 : UInt8) (m6_7 : Bool) (m6_8 : UInt8) (m6_9 : List UInt8) {r : AV} (h : X40_22 (semCall C Tryd.prog) (semRun C Tryd.prog 40 Tryd.f40) t1 t2 m3_0 m3_1 m3_2 m3_3 m3_4 m3_5 m3_6 m3_7 m3_8 m3_9 m6_0 m6_1 m6_2 m6_3 m6_4 m6_5 m6_6 m6_7 m6_8 m6_9 = some r) : F40_22 (semRun C Tryd.prog 40 Tryd.f40) t1 t2 m3_0 m3_1 m3_2 m3_3 m3_4 m3_5 m3_6 m3_7 m3_8 m3_9 m6_0 m6_1 m6_2 m6_3 m6_4 m6_5 m6_6 m6_7 m6_8 m6_9 = some r :=
  semRun_unr 400 ((text40_22 _ _ t1 t2 m3_0 m3_1 m3_2 m3_3 m3_4 m3_5 m3_6 m3_7 m3_8 m3_9 m6_0 m6_1 m6_2 m6_3 m6_4 m6_5 m6_6 m6_7 m6_8 m6_9).trans h)
theorem r40_26 (t1 : UInt8) (t2 : Bool) (t16 : AV) (m3_0 : AV) (m3_1 : AV) (m3_2 : AV) (m3_3 : AV) (m3_4 : AV) (m3_5 : AV) (m3_6 : AV) (m3_7 : AV) (m3_8 : AV) (m3_9 : AV) (m6_0 : UInt8) (m6_1 : UInt8) (m6_2 : Bool) (m6_3 : UInt8) (m6_4 : UInt8) (m6_5 : UInt8) (m6_6 : UInt8) (m6_7 : Bool) (m6_8 : UInt8) (m6_9 : List UInt8) {r : AV} (h : X40_26 (semCall C Tryd.prog) (semRun C Tryd.prog 40 Tryd.f40) t1 t2 t16 m3_0 m3_1 m3_2 m3_3 m3_4 m3_5 m3_6 m3_7 m3_8 m3_9 m6_0 m6_1 m6_2 m6_3 m6_4 m6_5 m6_6 m6_7 m6_8 m6_9 = some r) : F40_26 (semRun C Tryd.prog 40 Tryd.f40) t1 t2 t16 m3_0 m3_1 m3_2 m3_3 m3_4 m3_5 m3_6 m3_7 m3_8 m3_9 m6_0 m6_1 m6_2 m6_3 m6_4 m6_5 m6_6 m6_7 m6_8 m6_9 = some r :=
  semRun_unr 400 ((text40_26 _ _ t1 t2 t16 m3_0 m3_1 m3_2 m3_3 m3_4 m3_5 m3_6 m3_7 m3_8 m3_9 m6_0 m6_1 m6_2 m6_3 m6_4 m6_5 m6_6 m6_7 m6_8 m6_9).trans h)
theorem r40_31 (t1 : UInt8) (t2 : Bool) (m3_0 : AV) (m3_1 : AV) (m3_2 : AV) (m3_3 : AV) (m3_4 : AV) (m3_5 : AV) (m3_6 : AV) (m3_7 : AV) (m3_8 : AV) (m3_9 : AV) (m6_0 : UInt8) (m6_1 : UInt8) (m6_2 : Bool) (m6_3 : UInt8) (m6_4 : UInt8) (m6_5 : UInt8) (m6_6 : UInt8) (m6_7 : Bool) (m6_8 : UInt8) (m6_9 : List UInt8) {r : AV} (h : X40_31 (semCall C Tryd.prog) (semRun C Tryd.prog 40 Tryd.f40) t1 t2 m3_0 m3_1 m3_2 m3_3 m3_4 m3_5 m3_6 m3_7 m3_8 m3_9 m6_0 m6_1 m6_2 m6_3 m6_4 m6_5 m6_6 m6_7 m6_8 m6_9 = some r) : F40_31 (semRun C Tryd.prog 40 Tryd.f40) t1 t2 m3_0 m3_1 m3_2 m3_3 m3_4 m3_5 m3_6 m3_7 m3_8 m3_9 m6_0 m6_1 m6_2 m6_3 m6_4 m6_5 m6_6 m6_7 m6_8 m6_9 = some r :=
  semRun_unr 400 ((text40_31 _ _ t1 t2 m3_0 m3_1 m3_2 m3_3 m3_4 m3_5 m3_6 m3_7 m3_8 m3_9 m6_0 m6_1 m6_2 m6_3 m6_4 m6_5 m6_6 m6_7 m6_8 m6_9).trans h)
theorem r40_4 (t1 : UInt8) (m3_0 : AV) (m3_1 : AV) (m3_2 : AV) (m3_3 : AV) (m3_4 : AV) (m3_5 : AV) (m3_6 : AV) (m3_7 : AV) (m3_8 : AV) (m3_9 : AV) (m6_0 : UInt8) (m6_1 : UInt8) (m6_2 : Bool) (m6_3 : UInt8) (m6_4 : UInt8) (m6_5 : UInt8) (m6_6 : UInt8) (m6_7 : Bool) (m6_8 : UInt8) (m6_9 : List UInt8) {r : AV} (h : X40_4 (semCall C Tryd.prog) (semRun C Tryd.prog 40 Tryd.f40) t1 m3_0 m3_1 m3_2 m3_3 m3_4 m3_5 m3_6 m3_7 m3_8 m3_9 m6_0 m6_1 m6_2 m6_3 m6_4 m6_5 m6_6 m6_7 m6_8 m6_9 = some r) : F40_4 (semRun C Tryd.prog 40 Tryd.f40) t1 m3_0 m3_1 m3_2 m3_3 m3_4 m3_5 m3_6 m3_7 m3_8 m3_9 m6_0 m6_1 m6_2 m6_3 m6_4 m6_5 m6_6 m6_7 m6_8 m6_9 = some r :=
  semRun_unr 400 ((text40_4 _ _ t1 m3_0 m3_1 m3_2 m3_3 m3_4 m3_5 m3_6 m3_7 m3_8 m3_9 m6_0 m6_1 m6_2 m6_3 m6_4 m6_5 m6_6 m6_7 m6_8 m6_9).trans h)
end R2

namespace R2
open Go Go.Proofs Sx
noncomputable def body41 : Code := (Tryd.f41.body).getD .skip
noncomputable def X41 (call : Nat → List AV → Option AV) (run : List Item → St → Option AV)  : Option AV :=
  some (.ag [.u8 20, .u8 0, .b false, .u8 0, .u8 0, .u8 0, .u8 0, .b false, .u8 0, .s []])
theorem text41 (call : Nat → List AV → Option AV) (run : List Item → St → Option AV)  : unr C call run 41 Tryd.f41 400 [.code body41] (initSt []) = X41 call run  := by
  kernel_rfl
theorem c41  {r : AV} (h : X41 (semCall C Tryd.prog) (semRun C Tryd.prog 41 Tryd.f41)  = some r) : semCall C Tryd.prog 41 [] = some r :=
  semCall_unr (fn := Tryd.f41) (c := body41) (by kernel_rfl) (by kernel_rfl) 400 (by kernel_rfl) ((text41 _ _ ).trans h)
end R2

namespace R2
open Go Go.Proofs Sx
noncomputable def body42 : Code := (Tryd.f42.body).getD .skip
noncomputable def K42_27 : List Item := (kAt 27 body42 []).getD []
def S42_27 (t1 : UInt8) (m4_0 : UInt8) (m4_1 : UInt8) (m4_2 : Bool) (m4_3 : UInt8) (m4_4 : UInt8) (m4_5 : UInt8) (m4_6 : UInt8) (m4_7 : Bool) (m4_8 : UInt8) (m4_9 : List UInt8) (m5_0 : UInt8) (m5_1 : AV) (m5_2 : Bool) (m5_3 : UInt8) (m5_4 : UInt8) (m5_5 : UInt8) (m5_6 : UInt8) (m5_7 : Bool) (m5_8 : UInt8) (m5_9 : List UInt8) : St := St.ofL [(1, .cell (.val (.u8 t1))), (4, .cell (.ptr 4 0)), (5, .cell (.ptr 5 0))] [(4, some [.val (.u8 m4_0), .val (.u8 m4_1), .val (.b m4_2), .val (.u8 m4_3), .val (.u8 m4_4), .val (.u8 m4_5), .val (.u8 m4_6), .val (.b m4_7), .val (.u8 m4_8), .val (.s m4_9)]), (5, some [.val (.u8 m5_0), .val (m5_1), .val (.b m5_2), .val (.u8 m5_3), .val (.u8 m5_4), .val (.u8 m5_5), .val (.u8 m5_6), .val (.b m5_7), .val (.u8 m5_8), .val (.s m5_9)])]
noncomputable def F42_27 (run : List Item → St → Option AV) (t1 : UInt8) (m4_0 : UInt8) (m4_1 : UInt8) (m4_2 : Bool) (m4_3 : UInt8) (m4_4 : UInt8) (m4_5 : UInt8) (m4_6 : UInt8) (m4_7 : Bool) (m4_8 : UInt8) (m4_9 : List UInt8) (m5_0 : UInt8) (m5_1 : AV) (m5_2 : Bool) (m5_3 : UInt8) (m5_4 : UInt8) (m5_5 : UInt8) (m5_6 : UInt8) (m5_7 : Bool) (m5_8 : UInt8) (m5_9 : List UInt8) : Option AV := run K42_27 (S42_27 t1 m4_0 m4_1 m4_2 m4_3 m4_4 m4_5 m4_6 m4_7 m4_8 m4_9 m5_0 m5_1 m5_2 m5_3 m5_4 m5_5 m5_6 m5_7 m5_8 m5_9)
noncomputable def K42_57 : List Item := (kAt 57 body42 []).getD []
def S42_57 (t1 : UInt8) (m2_0 : UInt8) (m2_1 : UInt8) (m2_2 : Bool) (m2_3 : UInt8) (m2_4 : UInt8) (m2_5 : UInt8) (m2_6 : UInt8) (m2_7 : Bool) (m2_8 : UInt8) (m2_9 : List UInt8) (m4_0 : UInt8) (m4_1 : UInt8) (m4_2 : Bool) (m4_3 : UInt8) (m4_4 : UInt8) (m4_5 : UInt8) (m4_6 : UInt8) (m4_7 : Bool) (m4_8 : UInt8) (m4_9 : List UInt8) (m5_0 : UInt8) (m5_1 : UInt8) (m5_2 : Bool) (m5_3 : UInt8) (m5_4 : UInt8) (m5_5 : UInt8) (m5_6 : UInt8) (m5_7 : Bool) (m5_8 : UInt8) (m5_9 : List UInt8) : St := St.ofL [(1, .cell (.val (.u8 t1))), (2, .cell (.ptr 2 0)), (4, .cell (.ptr 4 0)), (5, .cell (.ptr 5 0))] [(2, some [.val (.u8 m2_0), .val (.u8 m2_1), .val (.b m2_2), .val (.u8 m2_3), .val (.u8 m2_4), .val (.u8 m2_5), .val (.u8 m2_6), .val (.b m2_7), .val (.u8 m2_8), .val (.s m2_9)]), (4, some [.val (.u8 m4_0), .val (.u8 m4_1), .val (.b m4_2), .val (.u8 m4_3), .val (.u8 m4_4), .val (.u8 m4_5), .val (.u8 m4_6), .val (.b m4_7), .val (.u8 m4_8), .val (.s m4_9)]), (5, some [.val (.u8 m5_0), .val (.u8 m5_1), .val (.b m5_2), .val (.u8 m5_3), .val (.u8 m5_4), .val (.u8 m5_5), .val (.u8 m5_6), .val (.b m5_7), .val (.u8 m5_8), .val (.s m5_9)])]
noncomputable def F42_57 (run : List Item → St → Option AV) (t1 : UInt8) (m2_0 : UInt8) (m2_1 : UInt8) (m2_2 : Bool) (m2_3 : UInt8) (m2_4 : UInt8) (m2_5 : UInt8) (m2_6 : UInt8) (m2_7 : Bool) (m2_8 : UInt8) (m2_9 : List UInt8) (m4_0 : UInt8) (m4_1 : UInt8) (m4_2 : Bool) (m4_3 : UInt8) (m4_4 : UInt8) (m4_5 : UInt8) (m4_6 : UInt8) (m4_7 : Bool) (m4_8 : UInt8) (m4_9 : List UInt8) (m5_0 : UInt8) (m5_1 : UInt8) (m5_2 : Bool) (m5_3 : UInt8) (m5_4 : UInt8) (m5_5 : UInt8) (m5_6 : UInt8) (m5_7 : Bool) (m5_8 : UInt8) (m5_9 : List UInt8) : Option AV := run K42_57 (S42_57 t1 m2_0 m2_1 m2_2 m2_3 m2_4 m2_5 m2_6 m2_7 m2_8 m2_9 m4_0 m4_1 m4_2 m4_3 m4_4 m4_5 m4_6 m4_7 m4_8 m4_9 m5_0 m5_1 m5_2 m5_3 m5_4 m5_5 m5_6 m5_7 m5_8 m5_9)
noncomputable def K42_58 : List Item := (kAt 58 body42 []).getD []
def S42_58 (t1 : UInt8) (t13 : Int) (m2_0 : UInt8) (m2_1 : UInt8) (m2_2 : Bool) (m2_3 : UInt8) (m2_4 : UInt8) (m2_5 : UInt8) (m2_6 : UInt8) (m2_7 : Bool) (m2_8 : UInt8) (m2_9 : List UInt8) (m4_0 : UInt8) (m4_1 : UInt8) (m4_2 : Bool) (m4_3 : UInt8) (m4_4 : UInt8) (m4_5 : UInt8) (m4_6 : UInt8) (m4_7 : Bool) (m4_8 : UInt8) (m4_9 : List UInt8) (m5_0 : UInt8) (m5_1 : UInt8) (m5_2 : Bool) (m5_3 : UInt8) (m5_4 : UInt8) (m5_5 : UInt8) (m5_6 : UInt8) (m5_7 : Bool) (m5_8 : UInt8) (m5_9 : List UInt8) : St := St.ofL [(1, .cell (.val (.u8 t1))), (2, .cell (.ptr 2 0)), (4, .cell (.ptr 4 0)), (5, .cell (.ptr 5 0)), (13, .cell (.val (.int t13)))] [(2, some [.val (.u8 m2_0), .val (.u8 m2_1), .val (.b m2_2), .val (.u8 m2_3), .val (.u8 m2_4), .val (.u8 m2_5), .val (.u8 m2_6), .val (.b m2_7), .val (.u8 m2_8), .val (.s m2_9)]), (4, some [.val (.u8 m4_0), .val (.u8 m4_1), .val (.b m4_2), .val (.u8 m4_3), .val (.u8 m4_4), .val (.u8 m4_5), .val (.u8 m4_6), .val (.b m4_7), .val (.u8 m4_8), .val (.s m4_9)]), (5, some [.val (.u8 m5_0), .val (.u8 m5_1), .val (.b m5_2), .val (.u8 m5_3), .val (.u8 m5_4), .val (.u8 m5_5), .val (.u8 m5_6), .val (.b m5_7), .val (.u8 m5_8), .val (.s m5_9)])]
noncomputable def F42_58 (run : List Item → St → Option AV) (t1 : UInt8) (t13 : Int) (m2_0 : UInt8) (m2_1 : UInt8) (m2_2 : Bool) (m2_3 : UInt8) (m2_4 : UInt8) (m2_5 : UInt8) (m2_6 : UInt8) (m2_7 : Bool) (m2_8 : UInt8) (m2_9 : List UInt8) (m4_0 : UInt8) (m4_1 : UInt8) (m4_2 : Bool) (m4_3 : UInt8) (m4_4 : UInt8) (m4_5 : UInt8) (m4_6 : UInt8) (m4_7 : Bool) (m4_8 : UInt8) (m4_9 : List UInt8) (m5_0 : UInt8) (m5_1 : UInt8) (m5_2 : Bool) (m5_3 : UInt8) (m5_4 : UInt8) (m5_5 : UInt8) (m5_6 : UInt8) (m5_7 : Bool) (m5_8 : UInt8) (m5_9 : List UInt8) : Option AV := run K42_58 (S42_58 t1 t13 m2_0 m2_1 m2_2 m2_3 m2_4 m2_5 m2_6 m2_7 m2_8 m2_9 m4_0 m4_1 m4_2 m4_3 m4_4 m4_5 m4_6 m4_7 m4_8 m4_9 m5_0 m5_1 m5_2 m5_3 m5_4 m5_5 m5_6 m5_7 m5_8 m5_9)
noncomputable def K42_73 : List Item := (kAt 73 body42 []).getD []
def S42_73 (t1 : UInt8) (m2_0 : UInt8) (m2_1 : UInt8) (m2_2 : Bool) (m2_3 : UInt8) (m2_4 : UInt8) (m2_5 : UInt8) (m2_6 : UInt8) (m2_7 : Bool) (m2_8 : UInt8) (m2_9 : List UInt8) (m4_0 : UInt8) (m4_1 : UInt8) (m4_2 : Bool) (m4_3 : UInt8) (m4_4 : UInt8) (m4_5 : UInt8) (m4_6 : UInt8) (m4_7 : Bool) (m4_8 : UInt8) (m4_9 : List UInt8) : St := St.ofL [(1, .cell (.val (.u8 t1))), (2, .cell (.ptr 2 0)), (4, .cell (.ptr 4 0))] [(2, some [.val (.u8 m2_0), .val (.u8 m2_1), .val (.b m2_2), .val (.u8 m2_3), .val (.u8 m2_4), .val (.u8 m2_5), .val (.u8 m2_6), .val (.b m2_7), .val (.u8 m2_8), .val (.s m2_9)]), (4, some [.val (.u8 m4_0), .val (.u8 m4_1), .val (.b m4_2), .val (.u8 m4_3), .val (.u8 m4_4), .val (.u8 m4_5), .val (.u8 m4_6), .val (.b m4_7), .val (.u8 m4_8), .val (.s m4_9)])]
noncomputable def F42_73 (run : List Item → St → Option AV) (t1 : UInt8) (m2_0 : UInt8) (m2_1 : UInt8) (m2_2 : Bool) (m2_3 : UInt8) (m2_4 : UInt8) (m2_5 : UInt8) (m2_6 : UInt8) (m2_7 : Bool) (m2_8 : UInt8) (m2_9 : List UInt8) (m4_0 : UInt8) (m4_1 : UInt8) (m4_2 : Bool) (m4_3 : UInt8) (m4_4 : UInt8) (m4_5 : UInt8) (m4_6 : UInt8) (m4_7 : Bool) (m4_8 : UInt8) (m4_9 : List UInt8) : Option AV := run K42_73 (S42_73 t1 m2_0 m2_1 m2_2 m2_3 m2_4 m2_5 m2_6 m2_7 m2_8 m2_9 m4_0 m4_1 m4_2 m4_3 m4_4 m4_5 m4_6 m4_7 m4_8 m4_9)
noncomputable def K42_74 : List Item := (kAt 74 body42 []).getD []
def S42_74 (t1 : UInt8) (m2_0 : UInt8) (m2_1 : UInt8) (m2_2 : Bool) (m2_3 : UInt8) (m2_4 : UInt8) (m2_5 : UInt8) (m2_6 : UInt8) (m2_7 : Bool) (m2_8 : UInt8) (m2_9 : List UInt8) (m4_0 : UInt8) (m4_1 : UInt8) (m4_2 : Bool) (m4_3 : UInt8) (m4_4 : UInt8) (m4_5 : UInt8) (m4_6 : UInt8) (m4_7 : Bool) (m4_8 : UInt8) (m4_9 : List UInt8) : St := St.ofL [(1, .cell (.val (.u8 t1))), (2, .cell (.ptr 2 0)), (4, .cell (.ptr 4 0))] [(2, some [.val (.u8 m2_0), .val (.u8 m2_1), .val (.b m2_2), .val (.u8 m2_3), .val (.u8 m2_4), .val (.u8 m2_5), .val (.u8 m2_6), .val (.b m2_7), .val (.u8 m2_8), .val (.s m2_9)]), (4, some [.val (.u8 m4_0), .val (.u8 m4_1), .val (.b m4_2), .val (.u8 m4_3), .val (.u8 m4_4), .val (.u8 m4_5), .val (.u8 m4_6), .val (.b m4_7), .val (.u8 m4_8), .val (.s m4_9)])]
noncomputable def F42_74 (run : List Item → St → Option AV) (t1 : UInt8) (m2_0 : UInt8) (m2_1 : UInt8) (m2_2 : Bool) (m2_3 : UInt8) (m2_4 : UInt8) (m2_5 : UInt8) (m2_6 : UInt8) (m2_7 : Bool) (m2_8 : UInt8) (m2_9 : List UInt8) (m4_0 : UInt8) (m4_1 : UInt8) (m4_2 : Bool) (m4_3 : UInt8) (m4_4 : UInt8) (m4_5 : UInt8) (m4_6 : UInt8) (m4_7 : Bool) (m4_8 : UInt8) (m4_9 : List UInt8) : Option AV := run K42_74 (S42_74 t1 m2_0 m2_1 m2_2 m2_3 m2_4 m2_5 m2_6 m2_7 m2_8 m2_9 m4_0 m4_1 m4_2 m4_3 m4_4 m4_5 m4_6 m4_7 m4_8 m4_9)
noncomputable def X42 (call : Nat → List AV → Option AV) (run : List Item → St → Option AV) (x0_0 : UInt8) (x0_1 : UInt8) (x0_2 : Bool) (x0_3 : UInt8) (x0_4 : UInt8) (x0_5 : UInt8) (x0_6 : UInt8) (x0_7 : Bool) (x0_8 : UInt8) (x0_9 : List UInt8) (x1 : UInt8) : Option AV :=
  condM (.b ((w64 (x0_0.toNat : Int)) == 0))
  (condM (.b (ueq x1 60))
  ((call 67 [.int 1]).bind fun v1 => (AV.asAg 10 (v1)).bind fun v2 => some (.ag [v2.getD 0 .un, v2.getD 1 .un, v2.getD 2 .un, v2.getD 3 .un, v2.getD 4 .un, v2.getD 5 .un, v2.getD 6 .un, v2.getD 7 .un, v2.getD 8 .un, v2.getD 9 .un]))
  (some (.ag [.u8 x0_0, .u8 x0_1, .b x0_2, .u8 x0_3, .u8 x0_4, .u8 x0_5, .u8 x0_6, .b x0_7, .u8 x0_8, .s x0_9])))
  (condM (.b ((w64 (x0_0.toNat : Int)) == 1))
  ((call 68 [.u8 x1]).bind fun v3 => condM (v3)
  ((call 51 [.u8 x1]).bind fun v4 => (AV.one (v4)).bind fun v5 => some (.ag [.u8 3, .u8 0, .b false, .u8 0, .u8 0, .u8 0, .u8 0, .b false, .u8 0, v5]))
  (condM (.b (ueq x1 47))
  ((call 67 [.int 2]).bind fun v6 => (AV.asAg 10 (v6)).bind fun v7 => some (.ag [v7.getD 0 .un, v7.getD 1 .un, v7.getD 2 .un, v7.getD 3 .un, v7.getD 4 .un, v7.getD 5 .un, v7.getD 6 .un, v7.getD 7 .un, v7.getD 8 .un, v7.getD 9 .un]))
  (condM (.b (ueq x1 33))
  ((call 67 [.int 11]).bind fun v8 => (AV.asAg 10 (v8)).bind fun v9 => some (.ag [v9.getD 0 .un, v9.getD 1 .un, v9.getD 2 .un, v9.getD 3 .un, v9.getD 4 .un, v9.getD 5 .un, v9.getD 6 .un, v9.getD 7 .un, v9.getD 8 .un, v9.getD 9 .un]))
  (condM (.b (ueq x1 63))
  ((call 67 [.int 16]).bind fun v10 => (AV.asAg 10 (v10)).bind fun v11 => some (.ag [v11.getD 0 .un, v11.getD 1 .un, v11.getD 2 .un, v11.getD 3 .un, v11.getD 4 .un, v11.getD 5 .un, v11.getD 6 .un, v11.getD 7 .un, v11.getD 8 .un, v11.getD 9 .un]))
  ((call 67 [.int 0]).bind fun v12 => (call 42 [v12, .u8 x1]).bind fun v13 => (AV.asAg 10 (v13)).bind fun v14 => some (.ag [v14.getD 0 .un, v14.getD 1 .un, v14.getD 2 .un, v14.getD 3 .un, v14.getD 4 .un, v14.getD 5 .un, v14.getD 6 .un, v14.getD 7 .un, v14.getD 8 .un, v14.getD 9 .un]))))))
  (condM (.b ((w64 (x0_0.toNat : Int)) == 2))
  ((call 68 [.u8 x1]).bind fun v15 => condM (v15)
  ((call 51 [.u8 x1]).bind fun v16 => (AV.one (v16)).bind fun v17 => some (.ag [.u8 3, .u8 0, .b true, .u8 0, .u8 0, .u8 0, .u8 0, .b false, .u8 0, v17]))
  (condM (.b (ueq x1 62))
  ((call 67 [.int 0]).bind fun v18 => (AV.asAg 10 (v18)).bind fun v19 => some (.ag [v19.getD 0 .un, v19.getD 1 .un, v19.getD 2 .un, v19.getD 3 .un, v19.getD 4 .un, v19.getD 5 .un, v19.getD 6 .un, v19.getD 7 .un, v19.getD 8 .un, v19.getD 9 .un]))
  ((call 67 [.int 16]).bind fun v20 => (AV.asAg 10 (v20)).bind fun v21 => some (.ag [v21.getD 0 .un, v21.getD 1 .un, v21.getD 2 .un, v21.getD 3 .un, v21.getD 4 .un, v21.getD 5 .un, v21.getD 6 .un, v21.getD 7 .un, v21.getD 8 .un, v21.getD 9 .un]))))
  (condM (.b ((w64 (x0_0.toNat : Int)) == 3))
  ((call 50 [.u8 x1]).bind fun v22 => (selW (v22) false (some (.b (ueq x1 47))) (.b true)).bind fun v23 => (selW (v23) false (some (.b (ueq x1 62))) (.b true)).bind fun v24 => condM (v24)
  (condM (.b (!x0_2))
  ((call 56 [.s x0_9]).bind fun v25 => (conv .u8 (v25)).bind fun v26 => (AV.one (v26)).bind fun v27 => F42_27 run x1 0 0 false 0 0 0 0 false 0 [] 0 (v27) x0_2 0 0 0 0 false 0 [])
  (F42_27 run x1 0 0 false 0 0 0 0 false 0 [] 0 (.u8 x0_1) x0_2 0 0 0 0 false 0 []))
  ((call 69 [.ag [.u8 x0_0, .u8 x0_1, .b x0_2, .u8 x0_3, .u8 x0_4, .u8 x0_5, .u8 x0_6, .b x0_7, .u8 x0_8, .s x0_9], .u8 x1]).bind fun v28 => (AV.asAg 10 (v28)).bind fun v29 => some (.ag [v29.getD 0 .un, v29.getD 1 .un, v29.getD 2 .un, v29.getD 3 .un, v29.getD 4 .un, v29.getD 5 .un, v29.getD 6 .un, v29.getD 7 .un, v29.getD 8 .un, v29.getD 9 .un])))
  (condM (.b ((w64 (x0_0.toNat : Int)) == 9))
  ((call 50 [.u8 x1]).bind fun v30 => condM (v30)
  (some (.ag [.u8 4, .u8 x0_1, .b x0_2, .u8 0, .u8 0, .u8 0, .u8 0, .b false, .u8 0, .s []]))
  (condM (.b (ueq x1 47))
  (some (.ag [.u8 10, .u8 x0_1, .b x0_2, .u8 0, .u8 0, .u8 0, .u8 0, .b false, .u8 0, .s []]))
  (condM (.b (ueq x1 62))
  ((call 70 [.ag [.u8 x0_0, .u8 x0_1, .b x0_2, .u8 x0_3, .u8 x0_4, .u8 x0_5, .u8 x0_6, .b x0_7, .u8 x0_8, .s x0_9]]).bind fun v31 => (AV.asAg 10 (v31)).bind fun v32 => some (.ag [v32.getD 0 .un, v32.getD 1 .un, v32.getD 2 .un, v32.getD 3 .un, v32.getD 4 .un, v32.getD 5 .un, v32.getD 6 .un, v32.getD 7 .un, v32.getD 8 .un, v32.getD 9 .un]))
  ((call 41 []).bind fun v33 => (AV.asAg 10 (v33)).bind fun v34 => some (.ag [v34.getD 0 .un, v34.getD 1 .un, v34.getD 2 .un, v34.getD 3 .un, v34.getD 4 .un, v34.getD 5 .un, v34.getD 6 .un, v34.getD 7 .un, v34.getD 8 .un, v34.getD 9 .un])))))
  (condM (.b ((w64 (x0_0.toNat : Int)) == 10))
  (condM (.b (ueq x1 62))
  ((call 70 [.ag [.u8 x0_0, .u8 x0_1, .b x0_2, .u8 x0_3, .u8 x0_4, .u8 x0_5, .u8 x0_6, .b x0_7, .u8 x0_8, .s x0_9]]).bind fun v35 => (AV.asAg 10 (v35)).bind fun v36 => some (.ag [v36.getD 0 .un, v36.getD 1 .un, v36.getD 2 .un, v36.getD 3 .un, v36.getD 4 .un, v36.getD 5 .un, v36.getD 6 .un, v36.getD 7 .un, v36.getD 8 .un, v36.getD 9 .un]))
  ((call 42 [.ag [.u8 4, .u8 x0_1, .b x0_2, .u8 0, .u8 0, .u8 0, .u8 0, .b false, .u8 0, .s []], .u8 x1]).bind fun v37 => (AV.asAg 10 (v37)).bind fun v38 => some (.ag [v38.getD 0 .un, v38.getD 1 .un, v38.getD 2 .un, v38.getD 3 .un, v38.getD 4 .un, v38.getD 5 .un, v38.getD 6 .un, v38.getD 7 .un, v38.getD 8 .un, v38.getD 9 .un])))
  (condM (.b ((w64 (x0_0.toNat : Int)) == 4))
  ((call 50 [.u8 x1]).bind fun v39 => condM (v39)
  (some (.ag [.u8 x0_0, .u8 x0_1, .b x0_2, .u8 x0_3, .u8 x0_4, .u8 x0_5, .u8 x0_6, .b x0_7, .u8 x0_8, .s x0_9]))
  ((selW (.b (ueq x1 47)) false (some (.b (ueq x1 62))) (.b true)).bind fun v40 => condM (v40)
  ((call 42 [.ag [.u8 9, .u8 x0_1, .b x0_2, .u8 0, .u8 0, .u8 0, .u8 0, .b false, .u8 0, .s []], .u8 x1]).bind fun v41 => (AV.asAg 10 (v41)).bind fun v42 => some (.ag [v42.getD 0 .un, v42.getD 1 .un, v42.getD 2 .un, v42.getD 3 .un, v42.getD 4 .un, v42.getD 5 .un, v42.getD 6 .un, v42.getD 7 .un, v42.getD 8 .un, v42.getD 9 .un]))
  (condM (.b (ueq x1 61))
  ((call 41 []).bind fun v43 => (AV.asAg 10 (v43)).bind fun v44 => some (.ag [v44.getD 0 .un, v44.getD 1 .un, v44.getD 2 .un, v44.getD 3 .un, v44.getD 4 .un, v44.getD 5 .un, v44.getD 6 .un, v44.getD 7 .un, v44.getD 8 .un, v44.getD 9 .un]))
  ((call 42 [.ag [.u8 5, .u8 x0_1, .b x0_2, .u8 0, .u8 0, .u8 0, .u8 0, .b false, .u8 0, .s []], .u8 x1]).bind fun v45 => (AV.asAg 10 (v45)).bind fun v46 => some (.ag [v46.getD 0 .un, v46.getD 1 .un, v46.getD 2 .un, v46.getD 3 .un, v46.getD 4 .un, v46.getD 5 .un, v46.getD 6 .un, v46.getD 7 .un, v46.getD 8 .un, v46.getD 9 .un])))))
  (condM (.b ((w64 (x0_0.toNat : Int)) == 5))
  (F42_57 run x1 x0_0 x0_1 x0_2 x0_3 x0_4 x0_5 x0_6 x0_7 x0_8 x0_9 0 0 false 0 0 0 0 false 0 [] 0 x0_1 x0_2 0 0 0 0 false 0 [])
  (condM (.b ((w64 (x0_0.toNat : Int)) == 6))
  (F42_57 run x1 x0_0 x0_1 x0_2 x0_3 x0_4 x0_5 x0_6 x0_7 x0_8 x0_9 0 0 false 0 0 0 0 false 0 [] 0 x0_1 x0_2 0 0 0 0 false 0 [])
  (F42_58 run x1 (w64 (x0_0.toNat : Int)) x0_0 x0_1 x0_2 x0_3 x0_4 x0_5 x0_6 x0_7 x0_8 x0_9 0 0 false 0 0 0 0 false 0 [] 0 x0_1 x0_2 0 0 0 0 false 0 [])))))))))
theorem text42 (call : Nat → List AV → Option AV) (run : List Item → St → Option AV) (x0_0 : UInt8) (x0_1 : UInt8) (x0_2 : Bool) (x0_3 : UInt8) (x0_4 : UInt8) (x0_5 : UInt8) (x0_6 : UInt8) (x0_7 : Bool) (x0_8 : UInt8) (x0_9 : List UInt8) (x1 : UInt8) : unr C call run 42 Tryd.f42 400 [.code body42] (initSt [.ag [.u8 x0_0, .u8 x0_1, .b x0_2, .u8 x0_3, .u8 x0_4, .u8 x0_5, .u8 x0_6, .b x0_7, .u8 x0_8, .s x0_9], .u8 x1]) = X42 call run x0_0 x0_1 x0_2 x0_3 x0_4 x0_5 x0_6 x0_7 x0_8 x0_9 x1 := by
  kernel_rfl
theorem c42 (x0_0 : UInt8) (x0_1 : UInt8) (x0_2 : Bool) (x0_3 : UInt8) (x0_4 : UInt8) (x0_5 : UInt8) (x0_6 : UInt8) (x0_7 : Bool) (x0_8 : UInt8) (x0_9 : List UInt8) (x1 : UInt8) {r : AV} (h : X42 (semCall C Tryd.prog) (semRun C Tryd.prog 42 Tryd.f42) x0_0 x0_1 x0_2 x0_3 x0_4 x0_5 x0_6 x0_7 x0_8 x0_9 x1 = some r) : semCall C Tryd.prog 42 [.ag [.u8 x0_0, .u8 x0_1, .b x0_2, .u8 x0_3, .u8 x0_4, .u8 x0_5, .u8 x0_6, .b x0_7, .u8 x0_8, .s x0_9], .u8 x1] = some r :=
  semCall_unr (fn := Tryd.f42) (c := body42) (by kernel_rfl) (by kernel_rfl) 400 (by kernel_rfl) ((text42 _ _ x0_0 x0_1 x0_2 x0_3 x0_4 x0_5 x0_6 x0_7 x0_8 x0_9 x1).trans h)
noncomputable def X42_27 (call : Nat → List AV → Option AV) (run : List Item → St → Option AV) (t1 : UInt8) (m4_0 : UInt8) (m4_1 : UInt8) (m4_2 : Bool) (m4_3 : UInt8) (m4_4 : UInt8) (m4_5 : UInt8) (m4_6 : UInt8) (m4_7 : Bool) (m4_8 : UInt8) (m4_9 : List UInt8) (m5_0 : UInt8) (m5_1 : AV) (m5_2 : Bool) (m5_3 : UInt8) (m5_4 : UInt8) (m5_5 : UInt8) (m5_6 : UInt8) (m5_7 : Bool) (m5_8 : UInt8) (m5_9 : List UInt8) : Option AV :=
  (call 42 [.ag [.u8 9, m5_1, .b m5_2, .u8 m5_3, .u8 m5_4, .u8 m5_5, .u8 m5_6, .b m5_7, .u8 m5_8, .s m5_9], .u8 t1]).bind fun v1 => (AV.asAg 10 (v1)).bind fun v2 => some (.ag [v2.getD 0 .un, v2.getD 1 .un, v2.getD 2 .un, v2.getD 3 .un, v2.getD 4 .un, v2.getD 5 .un, v2.getD 6 .un, v2.getD 7 .un, v2.getD 8 .un, v2.getD 9 .un])
theorem text42_27 (call : Nat → List AV → Option AV) (run : List Item → St → Option AV) (t1 : UInt8) (m4_0 : UInt8) (m4_1 : UInt8) (m4_2 : Bool) (m4_3 : UInt8) (m4_4 : UInt8) (m4_5 : UInt8) (m4_6 : UInt8) (m4_7 : Bool) (m4_8 : UInt8) (m4_9 : List UInt8) (m5_0 : UInt8) (m5_1 : AV) (m5_2 : Bool) (m5_3 : UInt8) (m5_4 : UInt8) (m5_5 : UInt8) (m5_6 : UInt8) (m5_7 : Bool) (m5_8 : UInt8) (m5_9 : List UInt8) : step C call 42 Tryd.f42 (unr C call run 42 Tryd.f42 400) K42_27 (S42_27 t1 m4_0 m4_1 m4_2 m4_3 m4_4 m4_5 m4_6 m4_7 m4_8 m4_9 m5_0 m5_1 m5_2 m5_3 m5_4 m5_5 m5_6 m5_7 m5_8 m5_9) = X42_27 call run t1 m4_0 m4_1 m4_2 m4_3 m4_4 m4_5 m4_6 m4_7 m4_8 m4_9 m5_0 m5_1 m5_2 m5_3 m5_4 m5_5 m5_6 m5_7 m5_8 m5_9 := by
  kernel_rfl
noncomputable def X42_57 (call : Nat → List AV → Option AV) (run : List Item → St → Option AV) (t1 : UInt8) (m2_0 : UInt8) (m2_1 : UInt8) (m2_2 : Bool) (m2_3 : UInt8) (m2_4 : UInt8) (m2_5 : UInt8) (m2_6 : UInt8) (m2_7 : Bool) (m2_8 : UInt8) (m2_9 : List UInt8) (m4_0 : UInt8) (m4_1 : UInt8) (m4_2 : Bool) (m4_3 : UInt8) (m4_4 : UInt8) (m4_5 : UInt8) (m4_6 : UInt8) (m4_7 : Bool) (m4_8 : UInt8) (m4_9 : List UInt8) (m5_0 : UInt8) (m5_1 : UInt8) (m5_2 : Bool) (m5_3 : UInt8) (m5_4 : UInt8) (m5_5 : UInt8) (m5_6 : UInt8) (m5_7 : Bool) (m5_8 : UInt8) (m5_9 : List UInt8) : Option AV :=
  (call 71 [.ag [.u8 m2_0, .u8 m2_1, .b m2_2, .u8 m2_3, .u8 m2_4, .u8 m2_5, .u8 m2_6, .b m2_7, .u8 m2_8, .s m2_9], .ag [.u8 m5_0, .u8 m5_1, .b m5_2, .u8 m5_3, .u8 m5_4, .u8 m5_5, .u8 m5_6, .b m5_7, .u8 m5_8, .s m5_9], .u8 t1]).bind fun v1 => (AV.asAg 10 (v1)).bind fun v2 => some (.ag [v2.getD 0 .un, v2.getD 1 .un, v2.getD 2 .un, v2.getD 3 .un, v2.getD 4 .un, v2.getD 5 .un, v2.getD 6 .un, v2.getD 7 .un, v2.getD 8 .un, v2.getD 9 .un])
theorem text42_57 (call : Nat → List AV → Option AV) (run : List Item → St → Option AV) (t1 : UInt8) (m2_0 : UInt8) (m2_1 : UInt8) (m2_2 : Bool) (m2_3 : UInt8) (m2_4 : UInt8) (m2_5 : UInt8) (m2_6 : UInt8) (m2_7 : Bool) (m2_8 : UInt8) (m2_9 : List UInt8) (m4_0 : UInt8) (m4_1 : UInt8) (m4_2 : Bool) (m4_3 : UInt8) (m4_4 : UInt8) (m4_5 : UInt8) (m4_6 : UInt8) (m4_7 : Bool) (m4_8 : UInt8) (m4_9 : List UInt8) (m5_0 : UInt8) (m5_1 : UInt8) (m5_2 : Bool) (m5_3 : UInt8) (m5_4 : UInt8) (m5_5 : UInt8) (m5_6 : UInt8) (m5_7 : Bool) (m5_8 : UInt8) (m5_9 : List UInt8) : step C call 42 Tryd.f42 (unr C call run 42 Tryd.f42 400) K42_57 (S42_57 t1 m2_0 m2_1 m2_2 m2_3 m2_4 m2_5 m2_6 m2_7 m2_8 m2_9 m4_0 m4_1 m4_2 m4_3 m4_4 m4_5 m4_6 m4_7 m4_8 m4_9 m5_0 m5_1 m5_2 m5_3 m5_4 m5_5 m5_6 m5_7 m5_8 m5_9) = X42_57 call run t1 m2_0 m2_1 m2_2 m2_3 m2_4 m2_5 m2_6 m2_7 m2_8 m2_9 m4_0 m4_1 m4_2 m4_3 m4_4 m4_5 m4_6 m4_7 m4_8 m4_9 m5_0 m5_1 m5_2 m5_3 m5_4 m5_5 m5_6 m5_7 m5_8 m5_9 := by
  kernel_rfl
noncomputable def X42_58 (call : Nat → List AV → Option AV) (run : List Item → St → Option AV) (t1 : UInt8) (t13 : Int) (m2_0 : UInt8) (m2_1 : UInt8) (m2_2 : Bool) (m2_3 : UInt8) (m2_4 : UInt8) (m2_5 : UInt8) (m2_6 : UInt8) (m2_7 : Bool) (m2_8 : UInt8) (m2_9 : List UInt8) (m4_0 : UInt8) (m4_1 : UInt8) (m4_2 : Bool) (m4_3 : UInt8) (m4_4 : UInt8) (m4_5 : UInt8) (m4_6 : UInt8) (m4_7 : Bool) (m4_8 : UInt8) (m4_9 : List UInt8) (m5_0 : UInt8) (m5_1 : UInt8) (m5_2 : Bool) (m5_3 : UInt8) (m5_4 : UInt8) (m5_5 : UInt8) (m5_6 : UInt8) (m5_7 : Bool) (m5_8 : UInt8) (m5_9 : List UInt8) : Option AV :=
  condM (.b (t13 == 7))
  ((call 50 [.u8 t1]).bind fun v1 => condM (v1)
  (some (.ag [.u8 m2_0, .u8 m2_1, .b m2_2, .u8 m2_3, .u8 m2_4, .u8 m2_5, .u8 m2_6, .b m2_7, .u8 m2_8, .s m2_9]))
  (condM (.b (ueq t1 62))
  ((call 41 []).bind fun v2 => (AV.asAg 10 (v2)).bind fun v3 => some (.ag [v3.getD 0 .un, v3.getD 1 .un, v3.getD 2 .un, v3.getD 3 .un, v3.getD 4 .un, v3.getD 5 .un, v3.getD 6 .un, v3.getD 7 .un, v3.getD 8 .un, v3.getD 9 .un]))
  ((selW (.b (ueq t1 34)) false (some (.b (ueq t1 39))) (.b true)).bind fun v4 => condM (v4)
  (some (.ag [.u8 8, .u8 m2_1, .b m2_2, .u8 m2_3, .u8 t1, .u8 m2_5, .u8 m2_6, .b m2_7, .u8 m2_8, .s m2_9]))
  ((call 42 [.ag [.u8 8, .u8 m2_1, .b m2_2, .u8 m2_3, .u8 m2_4, .u8 m2_5, .u8 m2_6, .b m2_7, .u8 m2_8, .s m2_9], .u8 t1]).bind fun v5 => (AV.asAg 10 (v5)).bind fun v6 => some (.ag [v6.getD 0 .un, v6.getD 1 .un, v6.getD 2 .un, v6.getD 3 .un, v6.getD 4 .un, v6.getD 5 .un, v6.getD 6 .un, v6.getD 7 .un, v6.getD 8 .un, v6.getD 9 .un])))))
  (condM (.b (t13 == 8))
  ((call 72 [.ag [.u8 m2_0, .u8 m2_1, .b m2_2, .u8 m2_3, .u8 m2_4, .u8 m2_5, .u8 m2_6, .b m2_7, .u8 m2_8, .s m2_9], .ag [.u8 m5_0, .u8 m5_1, .b m5_2, .u8 m5_3, .u8 m5_4, .u8 m5_5, .u8 m5_6, .b m5_7, .u8 m5_8, .s m5_9], .u8 t1]).bind fun v7 => (AV.asAg 10 (v7)).bind fun v8 => some (.ag [v8.getD 0 .un, v8.getD 1 .un, v8.getD 2 .un, v8.getD 3 .un, v8.getD 4 .un, v8.getD 5 .un, v8.getD 6 .un, v8.getD 7 .un, v8.getD 8 .un, v8.getD 9 .un]))
  (condM (.b (t13 == 17))
  (F42_73 run t1 m2_0 m2_1 m2_2 m2_3 m2_4 m2_5 m2_6 m2_7 m2_8 m2_9 m4_0 m4_1 m4_2 m4_3 m4_4 m4_5 m4_6 m4_7 m4_8 m4_9)
  (condM (.b (t13 == 18))
  (F42_73 run t1 m2_0 m2_1 m2_2 m2_3 m2_4 m2_5 m2_6 m2_7 m2_8 m2_9 m4_0 m4_1 m4_2 m4_3 m4_4 m4_5 m4_6 m4_7 m4_8 m4_9)
  (condM (.b (t13 == 19))
  (F42_73 run t1 m2_0 m2_1 m2_2 m2_3 m2_4 m2_5 m2_6 m2_7 m2_8 m2_9 m4_0 m4_1 m4_2 m4_3 m4_4 m4_5 m4_6 m4_7 m4_8 m4_9)
  (F42_74 run t1 m2_0 m2_1 m2_2 m2_3 m2_4 m2_5 m2_6 m2_7 m2_8 m2_9 m4_0 m4_1 m4_2 m4_3 m4_4 m4_5 m4_6 m4_7 m4_8 m4_9)))))
theorem text42_58 (call : Nat → List AV → Option AV) (run : List Item → St → Option AV) (t1 : UInt8) (t13 : Int) (m2_0 : UInt8) (m2_1 : UInt8) (m2_2 : Bool) (m2_3 : UInt8) (m2_4 : UInt8) (m2_5 : UInt8) (m2_6 : UInt8) (m2_7 : Bool) (m2_8 : UInt8) (m2_9 : List UInt8) (m4_0 : UInt8) (m4_1 : UInt8) (m4_2 : Bool) (m4_3 : UInt8) (m4_4 : UInt8) (m4_5 : UInt8) (m4_6 : UInt8) (m4_7 : Bool) (m4_8 : UInt8) (m4_9 : List UInt8) (m5_0 : UInt8) (m5_1 : UInt8) (m5_2 : Bool) (m5_3 : UInt8) (m5_4 : UInt8) (m5_5 : UInt8) (m5_6 : UInt8) (m5_7 : Bool) (m5_8 : UInt8) (m5_9 : List UInt8) : step C call 42 Tryd.f42 (unr C call run 42 Tryd.f42 400) K42_58 (S42_58 t1 t13 m2_0 m2_1 m2_2 m2_3 m2_4 m2_5 m2_6 m2_7 m2_8 m2_9 m4_0 m4_1 m4_2 m4_3 m4_4 m4_5 m4_6 m4_7 m4_8 m4_9 m5_0 m5_1 m5_2 m5_3 m5_4 m5_5 m5_6 m5_7 m5_8 m5_9) = X42_58 call run t1 t13 m2_0 m2_1 m2_2 m2_3 m2_4 m2_5 m2_6 m2_7 m2_8 m2_9 m4_0 m4_1 m4_2 m4_3 m4_4 m4_5 m4_6 m4_7 m4_8 m4_9 m5_0 m5_1 m5_2 m5_3 m5_4 m5_5 m5_6 m5_7 m5_8 m5_9 := by
  kernel_rfl
noncomputable def X42_73 (call : Nat → List AV → Option AV) (run : List Item → St → Option AV) (t1 : UInt8) (m2_0 : UInt8) (m2_1 : UInt8) (m2_2 : Bool) (m2_3 : UInt8) (m2_4 : UInt8) (m2_5 : UInt8) (m2_6 : UInt8) (m2_7 : Bool) (m2_8 : UInt8) (m2_9 : List UInt8) (m4_0 : UInt8) (m4_1 : UInt8) (m4_2 : Bool) (m4_3 : UInt8) (m4_4 : UInt8) (m4_5 : UInt8) (m4_6 : UInt8) (m4_7 : Bool) (m4_8 : UInt8) (m4_9 : List UInt8) : Option AV :=
  (call 73 [.ag [.u8 m2_0, .u8 m2_1, .b m2_2, .u8 m2_3, .u8 m2_4, .u8 m2_5, .u8 m2_6, .b m2_7, .u8 m2_8, .s m2_9], .u8 t1]).bind fun v1 => (AV.asAg 10 (v1)).bind fun v2 => some (.ag [v2.getD 0 .un, v2.getD 1 .un, v2.getD 2 .un, v2.getD 3 .un, v2.getD 4 .un, v2.getD 5 .un, v2.getD 6 .un, v2.getD 7 .un, v2.getD 8 .un, v2.getD 9 .un])
theorem text42_73 (call : Nat → List AV → Option AV) (run : List Item → St → Option AV) (t1 : UInt8) (m2_0 : UInt8) (m2_1 : UInt8) (m2_2 : Bool) (m2_3 : UInt8) (m2_4 : UInt8) (m2_5 : UInt8) (m2_6 : UInt8) (m2_7 : Bool) (m2_8 : UInt8) (m2_9 : List UInt8) (m4_0 : UInt8) (m4_1 : UInt8) (m4_2 : Bool) (m4_3 : UInt8) (m4_4 : UInt8) (m4_5 : UInt8) (m4_6 : UInt8) (m4_7 : Bool) (m4_8 : UInt8) (m4_9 : List UInt8) : step C call 42 Tryd.f42 (unr C call run 42 Tryd.f42 400) K42_73 (S42_73 t1 m2_0 m2_1 m2_2 m2_3 m2_4 m2_5 m2_6 m2_7 m2_8 m2_9 m4_0 m4_1 m4_2 m4_3 m4_4 m4_5 m4_6 m4_7 m4_8 m4_9) = X42_73 call run t1 m2_0 m2_1 m2_2 m2_3 m2_4 m2_5 m2_6 m2_7 m2_8 m2_9 m4_0 m4_1 m4_2 m4_3 m4_4 m4_5 m4_6 m4_7 m4_8 m4_9 := by
  kernel_rfl
noncomputable def X42_74 (call : Nat → List AV → Option AV) (run : List Item → St → Option AV) (t1 : UInt8) (m2_0 : UInt8) (m2_1 : UInt8) (m2_2 : Bool) (m2_3 : UInt8) (m2_4 : UInt8) (m2_5 : UInt8) (m2_6 : UInt8) (m2_7 : Bool) (m2_8 : UInt8) (m2_9 : List UInt8) (m4_0 : UInt8) (m4_1 : UInt8) (m4_2 : Bool) (m4_3 : UInt8) (m4_4 : UInt8) (m4_5 : UInt8) (m4_6 : UInt8) (m4_7 : Bool) (m4_8 : UInt8) (m4_9 : List UInt8) : Option AV :=
  (call 74 [.ag [.u8 m2_0, .u8 m2_1, .b m2_2, .u8 m2_3, .u8 m2_4, .u8 m2_5, .u8 m2_6, .b m2_7, .u8 m2_8, .s m2_9], .u8 t1]).bind fun v1 => (AV.asAg 10 (v1)).bind fun v2 => some (.ag [v2.getD 0 .un, v2.getD 1 .un, v2.getD 2 .un, v2.getD 3 .un, v2.getD 4 .un, v2.getD 5 .un, v2.getD 6 .un, v2.getD 7 .un, v2.getD 8 .un, v2.getD 9 .un])
theorem text42_74 (call : Nat → List AV → Option AV) (run : List Item → St → Option AV) (t1 : UInt8) (m2_0 : UInt8) (m2_1 : UInt8) (m2_2 : Bool) (m2_3 : UInt8) (m2_4 : UInt8) (m2_5 : UInt8) (m2_6 : UInt8) (m2_7 : Bool) (m2_8 : UInt8) (m2_9 : List UInt8) (m4_0 : UInt8) (m4_1 : UInt8) (m4_2 : Bool) (m4_3 : UInt8) (m4_4 : UInt8) (m4_5 : UInt8) (m4_6 : UInt8) (m4_7 : Bool) (m4_8 : UInt8) (m4_9 : List UInt8) : step C call 42 Tryd.f42 (unr C call run 42 Tryd.f42 400) K42_74 (S42_74 t1 m2_0 m2_1 m2_2 m2_3 m2_4 m2_5 m2_6 m2_7 m2_8 m2_9 m4_0 m4_1 m4_2 m4_3 m4_4 m4_5 m4_6 m4_7 m4_8 m4_9) = X42_74 call run t1 m2_0 m2_1 m2_2 m2_3 m2_4 m2_5 m2_6 m2_7 m2_8 m2_9 m4_0 m4_1 m4_2 m4_3 m4_4 m4_5 m4_6 m4_7 m4_8 m4_9 := by
  kernel_rfl
theorem r42_27 (t1 : UInt8) (m4_0 : UInt8) (m4_1 : UInt8) (m4_2 : Bool) (m4_3 : UInt8) (m4_4 : UInt8) (m4_5 : UInt8) (m4_6 : UInt8) (m4_7 : Bool) (m4_8 : UInt8) (m4_9 : List UInt8) (m5_0 : UInt8) (m5_1 : AV) (m5_2 : Bool) (m5_3 : UInt8) (m5_4 : UInt8) (m5_5 : UInt8) (m5_6 : UInt8) (m5_7 : Bool) (m5_8 : UInt8) (m5_9 : List UInt8) {r : AV} (h : X42_27 (semCall C Tryd.prog) (semRun C Tryd.prog 42 Tryd.f42) t1 m4_0 m4_1 m4_2 m4_3 m4_4 m4_5 m4_6 m4_7 m4_8 m4_9 m5_0 m5_1 m5_2 m5_3 m5_4 m5_5 m5_6 m5_7 m5_8 m5_9 = some r) : F42_27 (semRun C Tryd.prog 42 Tryd.f42) t1 m4_0 m4_1 m4_2 m4_3 m4_4 m4_5 m4_6 m4_7 m4_8 m4_9 m5_0 m5_1 m5_2 m5_3 m5_4 m5_5 m5_6 m5_7 m5_8 m5_9 = some r :=
  semRun_unr 400 ((text42_27 _ _ t1 m4_0 m4_1 m4_2 m4_3 m4_4 m4_5 m4_6 m4_7 m4_8 m4_9 m5_0 m5_1 m5_2 m5_3 m5_4 m5_5 m5_6 m5_7 m5_8 m5_9).trans h)
theorem r42_57 (t1 : UInt8) (m2_0 : UInt8) (m2_1 : UInt8) (m2_2 : Bool) (m2_3 : UInt8) (m2_4 : UInt8) (m2_5 : UInt8) (m2_6 : UInt8) (m2_7 : Bool) (m2_8 : UInt8) (m2_9 : List UInt8) (m4_0 : UInt8) (m4_1 : UInt8) (m4_2 : Bool) (m4_3 : UInt8) (m4_4 : UInt8) (m4_5 : UInt8) (m4_6 : UInt8) (m4_7 : Bool) (m4_8 : UInt8) (m4_9 : List UInt8) (m5_0 : UInt8) (m5_1 : UInt8) (m5_2 : Bool) (m5_3 : UInt8) (m5_4 : UInt8) (m5_5 : UInt8) (m5_6 : UInt8) (m5_7 : Bool) (m5_8 : UInt8) (m5_9 : List UInt8) {r : AV} (h : X42_57 (semCall C Tryd.prog) (semRun C Tryd.prog 42 Tryd.f42) t1 m2_0 m2_1 m2_2 m2_3 m2_4 m2_5 m2_6 m2_7 m2_8 m2_9 m4_0 m4_1 m4_2 m4_3 m4_4 m4_5 m4_6 m4_7 m4_8 m4_9 m5_0 m5_1 m5_2 m5_3 m5_4 m5_5 m5_6 m5_7 m5_8 m5_9 = some r) : F42_57 (semRun C Tryd.prog 42 Tryd.f42) t1 m2_0 m2_1 m2_2 m2_3 m2_4 m2_5 m2_6 m2_7 m2_8 m2_9 m4_0 m4_1 m4_2 m4_3 m4_4 m4_5 m4_6 m4_7 m4_8 m4_9 m5_0 m5_1 m5_2 m5_3 m5_4 m5_5 m5_6 m5_7 m5_8 m5_9 = some r :=
  semRun_unr 400 ((text42_57 _ _ t1 m2_0 m2_1 m2_2 m2_3 m2_4 m2_5 m2_6 m2_7 m2_8 m2_9 m4_0 m4_1 m4_2 m4_3 m4_4 m4_5 m4_6 m4_7 m4_8 m4_9 m5_0 m5_1 m5_2 m5_3 m5_4 m5_5 m5_6 m5_7 m5_8 m5_9).trans h)
theorem r42_58 (t1 : UInt8) (t13 : Int) (m2_0 : UInt8) (m2_1 : UInt8) (m2_2 : Bool) (m2_3 : UInt8) (m2_4 : UInt8) (m2_5 : UInt8) (m2_6 : UInt8) (m2_7 : Bool) (m2_8 : UInt8) (m2_9 : List UInt8) (m4_0 : UInt8) (m4_1 : UInt8) (m4_2 : Bool) (m4_3 : UInt8) (m4_4 : UInt8) (m4_5 : UInt8) (m4_6 : UInt8) (m4_7 : Bool) (m4_8 : UInt8) (m4_9 : List UInt8) (m5_0 : UInt8) (m5_1 : UInt8) (m5_2 : Bool) (m5_3 : UInt8) (m5_4 : UInt8) (m5_5 : UInt8) (m5_6 : UInt8) (m5_7 : Bool) (m5_8 : UInt8) (m5_9 : List UInt8) {r : AV} (h : X42_58 (semCall C Tryd.prog) (semRun C Tryd.prog 42 Tryd.f42) t1 t13 m2_0 m2_1 m2_2 m2_3 m2_4 m2_5 m2_6 m2_7 m2_8 m2_9 m4_0 m4_1 m4_2 m4_3 m4_4 m4_5 m4_6 m4_7 m4_8 m4_9 m5_0 m5_1 m5_2 m5_3 m5_4 m5_5 m5_6 m5_7 m5_8 m5_9 = some r) : F42_58 (semRun C Tryd.prog 42 Tryd.f42) t1 t13 m2_0 m2_1 m2_2 m2_3 m2_4 m2_5 m2_6 m2_7 m2_8 m2_9 m4_0 m4_1 m4_2 m4_3 m4_4 m4_5 m4_6 m4_7 m4_8 m4_9 m5_0 m5_1 m5_2 m5_3 m5_4 m5_5 m5_6 m5_7 m5_8 m5_9 = some r :=
  semRun_unr 400 ((text42_58 _ _ t1 t13 m2_0 m2_1 m2_2 m2_3 m2_4 m2_5 m2_6 m2_7 m2_8 m2_9 m4_0 m4_1 m4_2 m4_3 m4_4 m4_5 m4_6 m4_7 m4_8 m4_9 m5_0 m5_1 m5_2 m5_3 m5_4 m5_5 m5_6 m5_7 m5_8 m5_9).trans h)
theorem r42_73 (t1 : UInt8) (m2_0 : UInt8) (m2_1 : UInt8) (m2_2 : Bool) (m2_3 : UInt8) (m2_4 : UInt8) (m2_5 : UInt8) (m2_6 : UInt8) (m2_7 : Bool) (m2_8 : UInt8) (m2_9 : List UInt8) (m4_0 : UInt8) (m4_1 : UInt8) (m4_2 : Bool) (m4_3 : UInt8) (m4_4 : UInt8) (m4_5 : UInt8) (m4_6 : UInt8) (m4_7 : Bool) (m4_8 : UInt8) (m4_9 : List UInt8) {r : AV} (h : X42_73 (semCall C Tryd.prog) (semRun C Tryd.prog 42 Tryd.f42) t1 m2_0 m2_1 m2_2 m2_3 m2_4 m2_5 m2_6 m2_7 m2_8 m2_9 m4_0 m4_1 m4_2 m4_3 m4_4 m4_5 m4_6 m4_7 m4_8 m4_9 = some r) : F42_73 (semRun C Tryd.prog 42 Tryd.f42) t1 m2_0 m2_1 m2_2 m2_3 m2_4 m2_5 m2_6 m2_7 m2_8 m2_9 m4_0 m4_1 m4_2 m4_3 m4_4 m4_5 m4_6 m4_7 m4_8 m4_9 = some r :=
  semRun_unr 400 ((text42_73 _ _ t1 m2_0 m2_1 m2_2 m2_3 m2_4 m2_5 m2_6 m2_7 m2_8 m2_9 m4_0 m4_1 m4_2 m4_3 m4_4 m4_5 m4_6 m4_7 m4_8 m4_9).trans h)
theorem r42_74 (t1 : UInt8) (m2_0 : UInt8) (m2_1 : UInt8) (m2_2 : Bool) (m2_3 : UInt8) (m2_4 : UInt8) (m2_5 : UInt8) (m2_6 : UInt8) (m2_7 : Bool) (m2_8 : UInt8) (m2_9 : List UInt8) (m4_0 : UInt8) (m4_1 : UInt8) (m4_2 : Bool) (m4_3 : UInt8) (m4_4 : UInt8) (m4_5 : UInt8) (m4_6 : UInt8) (m4_7 : Bool) (m4_8 : UInt8) (m4_9 : List UInt8) {r : AV} (h : X42_74 (semCall C Tryd.prog) (semRun C Tryd.prog 42 Tryd.f42) t1 m2_0 m2_1 m2_2 m2_3 m2_4 m2_5 m2_6 m2_7 m2_8 m2_9 m4_0 m4_1 m4_2 m4_3 m4_4 m4_5 m4_6 m4_7 m4_8 m4_9 = some r) : F42_74 (semRun C Tryd.prog 42 Tryd.f42) t1 m2_0 m2_1 m2_2 m2_3 m2_4 m2_5 m2_6 m2_7 m2_8 m2_9 m4_0 m4_1 m4_2 m4_3 m4_4 m4_5 m4_6 m4_7 m4_8 m4_9 = some r :=
  semRun_unr 400 ((text42_74 _ _ t1 m2_0 m2_1 m2_2 m2_3 m2_4 m2_5 m2_6 m2_7 m2_8 m2_9 m4_0 m4_1 m4_2 m4_3 m4_4 m4_5 m4_6 m4_7 m4_8 m4_9).trans h)
end R2

namespace R2
open Go Go.Proofs Sx
noncomputable def body43 : Code := (Tryd.f43.body).getD .skip
noncomputable def K43_2 : List Item := (kAt 2 body43 []).getD []
def S43_2 (t0 : List UInt8) (t1 : Int) (t7 : Int) (t8 : Int) : St := St.ofL [(0, .cell (.val (.s t0))), (1, .cell (.val (.int t1))), (7, .cell (.val (.int t7))), (8, .cell (.val (.int t8)))] []
noncomputable def F43_2 (run : List Item → St → Option AV) (t0 : List UInt8) (t1 : Int) (t7 : Int) (t8 : Int) : Option AV := run K43_2 (S43_2 t0 t1 t7 t8)
noncomputable def X43 (call : Nat → List AV → Option AV) (run : List Item → St → Option AV) (x0 : List UInt8) (x1 : Int) : Option AV :=
  F43_2 run x0 x1 ((x0.length : Int)) 0
theorem text43 (call : Nat → List AV → Option AV) (run : List Item → St → Option AV) (x0 : List UInt8) (x1 : Int) : unr C call run 43 Tryd.f43 400 [.code body43] (initSt [.s x0, .int x1]) = X43 call run x0 x1 := by
  kernel_rfl
theorem c43 (x0 : List UInt8) (x1 : Int) {r : AV} (h : X43 (semCall C Tryd.prog) (semRun C Tryd.prog 43 Tryd.f43) x0 x1 = some r) : semCall C Tryd.prog 43 [.s x0, .int x1] = some r :=
  semCall_unr (fn := Tryd.f43) (c := body43) (by kernel_rfl) (by kernel_rfl) 400 (by kernel_rfl) ((text43 _ _ x0 x1).trans h)
noncomputable def X43_2 (call : Nat → List AV → Option AV) (run : List Item → St → Option AV) (t0 : List UInt8) (t1 : Int) (t7 : Int) (t8 : Int) : Option AV :=
  condM (.b (decide (t8 < t7)))
  ((idxS (.s t0) (.int t8)).bind fun v1 => (binI .geq (v1) (.u8 65)).bind fun v2 => (selW (v2) true ((idxS (.s t0) (.int t8)).bind fun v3 => (binI .leq (v3) (.u8 90)).bind fun v4 => some (v4)) (.b false)).bind fun v5 => condM (v5)
  (some (.b false))
  (F43_2 run t0 t1 t7 (w64 (t8 + 1))))
  ((selW (.b (decide (((t0.length : Int)) ≥ 1))) true (some (.b (decide (((t0.length : Int)) ≤ t1)))) (.b false)).bind fun v6 => some (v6))
theorem text43_2 (call : Nat → List AV → Option AV) (run : List Item → St → Option AV) (t0 : List UInt8) (t1 : Int) (t7 : Int) (t8 : Int) : step C call 43 Tryd.f43 (unr C call run 43 Tryd.f43 400) K43_2 (S43_2 t0 t1 t7 t8) = X43_2 call run t0 t1 t7 t8 := by
  kernel_rfl
theorem r43_2 (t0 : List UInt8) (t1 : Int) (t7 : Int) (t8 : Int) {r : AV} (h : X43_2 (semCall C Tryd.prog) (semRun C Tryd.prog 43 Tryd.f43) t0 t1 t7 t8 = some r) : F43_2 (semRun C Tryd.prog 43 Tryd.f43) t0 t1 t7 t8 = some r :=
  semRun_unr 400 ((text43_2 _ _ t0 t1 t7 t8).trans h)
end R2

namespace R2
open Go Go.Proofs Sx
noncomputable def body44 : Code := (Tryd.f44.body).getD .skip
noncomputable def K44_14 : List Item := (kAt 14 body44 []).getD []
def S44_14 (m2_0 : UInt8) (m2_1 : UInt8) (m2_2 : Bool) (m2_3 : UInt8) (m2_4 : UInt8) (m2_5 : UInt8) (m2_6 : UInt8) (m2_7 : Bool) (m2_8 : UInt8) (m2_9 : List UInt8) (m3_0 : UInt8) (m3_1 : UInt8) (m3_2 : Bool) (m3_3 : UInt8) (m3_4 : UInt8) (m3_5 : UInt8) (m3_6 : UInt8) (m3_7 : Bool) (m3_8 : UInt8) (m3_9 : List UInt8) : St := St.ofL [(2, .cell (.ptr 2 0)), (3, .cell (.ptr 3 0))] [(2, some [.val (.u8 m2_0), .val (.u8 m2_1), .val (.b m2_2), .val (.u8 m2_3), .val (.u8 m2_4), .val (.u8 m2_5), .val (.u8 m2_6), .val (.b m2_7), .val (.u8 m2_8), .val (.s m2_9)]), (3, some [.val (.u8 m3_0), .val (.u8 m3_1), .val (.b m3_2), .val (.u8 m3_3), .val (.u8 m3_4), .val (.u8 m3_5), .val (.u8 m3_6), .val (.b m3_7), .val (.u8 m3_8), .val (.s m3_9)])]
noncomputable def F44_14 (run : List Item → St → Option AV) (m2_0 : UInt8) (m2_1 : UInt8) (m2_2 : Bool) (m2_3 : UInt8) (m2_4 : UInt8) (m2_5 : UInt8) (m2_6 : UInt8) (m2_7 : Bool) (m2_8 : UInt8) (m2_9 : List UInt8) (m3_0 : UInt8) (m3_1 : UInt8) (m3_2 : Bool) (m3_3 : UInt8) (m3_4 : UInt8) (m3_5 : UInt8) (m3_6 : UInt8) (m3_7 : Bool) (m3_8 : UInt8) (m3_9 : List UInt8) : Option AV := run K44_14 (S44_14 m2_0 m2_1 m2_2 m2_3 m2_4 m2_5 m2_6 m2_7 m2_8 m2_9 m3_0 m3_1 m3_2 m3_3 m3_4 m3_5 m3_6 m3_7 m3_8 m3_9)
noncomputable def K44_12 : List Item := (kAt 12 body44 []).getD []
def S44_12 (m2_0 : UInt8) (m2_1 : UInt8) (m2_2 : Bool) (m2_3 : UInt8) (m2_4 : UInt8) (m2_5 : UInt8) (m2_6 : UInt8) (m2_7 : Bool) (m2_8 : UInt8) (m2_9 : List UInt8) (m3_0 : UInt8) (m3_1 : UInt8) (m3_2 : Bool) (m3_3 : UInt8) (m3_4 : UInt8) (m3_5 : UInt8) (m3_6 : UInt8) (m3_7 : Bool) (m3_8 : UInt8) (m3_9 : List UInt8) : St := St.ofL [(2, .cell (.ptr 2 0)), (3, .cell (.ptr 3 0))] [(2, some [.val (.u8 m2_0), .val (.u8 m2_1), .val (.b m2_2), .val (.u8 m2_3), .val (.u8 m2_4), .val (.u8 m2_5), .val (.u8 m2_6), .val (.b m2_7), .val (.u8 m2_8), .val (.s m2_9)]), (3, some [.val (.u8 m3_0), .val (.u8 m3_1), .val (.b m3_2), .val (.u8 m3_3), .val (.u8 m3_4), .val (.u8 m3_5), .val (.u8 m3_6), .val (.b m3_7), .val (.u8 m3_8), .val (.s m3_9)])]
noncomputable def F44_12 (run : List Item → St → Option AV) (m2_0 : UInt8) (m2_1 : UInt8) (m2_2 : Bool) (m2_3 : UInt8) (m2_4 : UInt8) (m2_5 : UInt8) (m2_6 : UInt8) (m2_7 : Bool) (m2_8 : UInt8) (m2_9 : List UInt8) (m3_0 : UInt8) (m3_1 : UInt8) (m3_2 : Bool) (m3_3 : UInt8) (m3_4 : UInt8) (m3_5 : UInt8) (m3_6 : UInt8) (m3_7 : Bool) (m3_8 : UInt8) (m3_9 : List UInt8) : Option AV := run K44_12 (S44_12 m2_0 m2_1 m2_2 m2_3 m2_4 m2_5 m2_6 m2_7 m2_8 m2_9 m3_0 m3_1 m3_2 m3_3 m3_4 m3_5 m3_6 m3_7 m3_8 m3_9)
noncomputable def X44 (call : Nat → List AV → Option AV) (run : List Item → St → Option AV) (x0_0 : UInt8) (x0_1 : UInt8) (x0_2 : Bool) (x0_3 : UInt8) (x0_4 : UInt8) (x0_5 : UInt8) (x0_6 : UInt8) (x0_7 : Bool) (x0_8 : UInt8) (x0_9 : List UInt8) (x1_0 : UInt8) (x1_1 : UInt8) (x1_2 : Bool) (x1_3 : UInt8) (x1_4 : UInt8) (x1_5 : UInt8) (x1_6 : UInt8) (x1_7 : Bool) (x1_8 : UInt8) (x1_9 : List UInt8) : Option AV :=
  (selW (.b (une x0_4 0)) true (some (.b (une x0_4 34))) (.b false)).bind fun v1 => (selW (v1) true (some (.b (une x0_4 39))) (.b false)).bind fun v2 => condM (v2)
  (some (.b false))
  (condM (.b (ueq x0_3 1))
  (condM (.b (ueq x0_5 1))
  ((selW (.b ((x0_0 == x1_0 && (x0_1 == x1_1 && (x0_2 == x1_2 && (x0_3 == x0_3 && (x0_4 == x0_4 && (x0_5 == x0_5 && (x0_6 == x1_6 && (x0_7 == x1_7 && (x0_8 == x1_8 && (x0_9 == x0_9 && true)))))))))))) true ((call 43 [.s x0_9, .int 16]).bind fun v3 => some (v3)) (.b false)).bind fun v4 => some (v4))
  (F44_14 run x0_0 x0_1 x0_2 x0_3 x0_4 x0_5 x0_6 x0_7 x0_8 x0_9 x1_0 x1_1 x1_2 x0_3 x0_4 x0_5 x1_6 x1_7 x1_8 x1_9))
  (condM (.b (ueq x0_3 2))
  (F44_12 run x0_0 x0_1 x0_2 x0_3 x0_4 x0_5 x0_6 x0_7 x0_8 x0_9 x1_0 x1_1 x1_2 x0_3 x0_4 x1_5 x1_6 x1_7 x1_8 x1_9)
  (condM (.b (ueq x0_3 3))
  (F44_12 run x0_0 x0_1 x0_2 x0_3 x0_4 x0_5 x0_6 x0_7 x0_8 x0_9 x1_0 x1_1 x1_2 x0_3 x0_4 x1_5 x1_6 x1_7 x1_8 x1_9)
  (F44_14 run x0_0 x0_1 x0_2 x0_3 x0_4 x0_5 x0_6 x0_7 x0_8 x0_9 x1_0 x1_1 x1_2 x0_3 x0_4 x1_5 x1_6 x1_7 x1_8 x1_9))))
theorem text44 (call : Nat → List AV → Option AV) (run : List Item → St → Option AV) (x0_0 : UInt8) (x0_1 : UInt8) (x0_2 : Bool) (x0_3 : UInt8) (x0_4 : UInt8) (x0_5 : UInt8) (x0_6 : UInt8) (x0_7 : Bool) (x0_8 : UInt8) (x0_9 : List UInt8) (x1_0 : UInt8) (x1_1 : UInt8) (x1_2 : Bool) (x1_3 : UInt8) (x1_4 : UInt8) (x1_5 : UInt8) (x1_6 : UInt8) (x1_7 : Bool) (x1_8 : UInt8) (x1_9 : List UInt8) : unr C call run 44 Tryd.f44 400 [.code body44] (initSt [.ag [.u8 x0_0, .u8 x0_1, .b x0_2, .u8 x0_3, .u8 x0_4, .u8 x0_5, .u8 x0_6, .b x0_7, .u8 x0_8, .s x0_9], .ag [.u8 x1_0, .u8 x1_1, .b x1_2, .u8 x1_3, .u8 x1_4, .u8 x1_5, .u8 x1_6, .b x1_7, .u8 x1_8, .s x1_9]]) = X44 call run x0_0 x0_1 x0_2 x0_3 x0_4 x0_5 x0_6 x0_7 x0_8 x0_9 x1_0 x1_1 x1_2 x1_3 x1_4 x1_5 x1_6 x1_7 x1_8 x1_9 := by
  kernel_rfl
theorem c44 (x0_0 : UInt8) (x0_1 : UInt8) (x0_2 : Bool) (x0_3 : UInt8) (x0_4 : UInt8) (x0_5 : UInt8) (x0_6 : UInt8) (x0_7 : Bool) (x0_8 : UInt8) (x0_9 : List UInt8) (x1_0 : UInt8) (x1_1 : UInt8) (x1_2 : Bool) (x1_3 : UInt8) (x1_4 : UInt8) (x1_5 : UInt8) (x1_6 : UInt8) (x1_7 : Bool) (x1_8 : UInt8) (x1_9 : List UInt8) {r : AV} (h : X44 (semCall C Tryd.prog) (semRun C Tryd.prog 44 Tryd.f44) x0_0 x0_1 x0_2 x0_3 x0_4 x0_5 x0_6 x0_7 x0_8 x0_9 x1_0 x1_1 x1_2 x1_3 x1_4 x1_5 x1_6 x1_7 x1_8 x1_9 = some r) : semCall C Tryd.prog 44 [.ag [.u8 x0_0, .u8 x0_1, .b x0_2, .u8 x0_3, .u8 x0_4, .u8 x0_5, .u8 x0_6, .b x0_7, .u8 x0_8, .s x0_9], .ag [.u8 x1_0, .u8 x1_1, .b x1_2, .u8 x1_3, .u8 x1_4, .u8 x1_5, .u8 x1_6, .b x1_7, .u8 x1_8, .s x1_9]] = some r :=
  semCall_unr (fn := Tryd.f44) (c := body44) (by kernel_rfl) (by kernel_rfl) 400 (by kernel_rfl) ((text44 _ _ x0_0 x0_1 x0_2 x0_3 x0_4 x0_5 x0_6 x0_7 x0_8 x0_9 x1_0 x1_1 x1_2 x1_3 x1_4 x1_5 x1_6 x1_7 x1_8 x1_9).trans h)
noncomputable def X44_14 (call : Nat → List AV → Option AV) (run : List Item → St → Option AV) (m2_0 : UInt8) (m2_1 : UInt8) (m2_2 : Bool) (m2_3 : UInt8) (m2_4 : UInt8) (m2_5 : UInt8) (m2_6 : UInt8) (m2_7 : Bool) (m2_8 : UInt8) (m2_9 : List UInt8) (m3_0 : UInt8) (m3_1 : UInt8) (m3_2 : Bool) (m3_3 : UInt8) (m3_4 : UInt8) (m3_5 : UInt8) (m3_6 : UInt8) (m3_7 : Bool) (m3_8 : UInt8) (m3_9 : List UInt8) : Option AV :=
  some (.b ((m2_0 == m3_0 && (m2_1 == m3_1 && (m2_2 == m3_2 && (m2_3 == m3_3 && (m2_4 == m3_4 && (m2_5 == m3_5 && (m2_6 == m3_6 && (m2_7 == m3_7 && (m2_8 == m3_8 && (m2_9 == m3_9 && true))))))))))))
theorem text44_14 (call : Nat → List AV → Option AV) (run : List Item → St → Option AV) (m2_0 : UInt8) (m2_1 : UInt8) (m2_2 : Bool) (m2_3 : UInt8) (m2_4 : UInt8) (m2_5 : UInt8) (m2_6 : UInt8) (m2_7 : Bool) (m2_8 : UInt8) (m2_9 : List UInt8) (m3_0 : UInt8) (m3_1 : UInt8) (m3_2 : Bool) (m3_3 : UInt8) (m3_4 : UInt8) (m3_5 : UInt8) (m3_6 : UInt8) (m3_7 : Bool) (m3_8 : UInt8) (m3_9 : List UInt8) : step C call 44 Tryd.f44 (unr C call run 44 Tryd.f44 400) K44_14 (S44_14 m2_0 m2_1 m2_2 m2_3 m2_4 m2_5 m2_6 m2_7 m2_8 m2_9 m3_0 m3_1 m3_2 m3_3 m3_4 m3_5 m3_6 m3_7 m3_8 m3_9) = X44_14 call run m2_0 m2_1 m2_2 m2_3 m2_4 m2_5 m2_6 m2_7 m2_8 m2_9 m3_0 m3_1 m3_2 m3_3 m3_4 m3_5 m3_6 m3_7 m3_8 m3_9 := by
  kernel_rfl
noncomputable def X44_12 (call : Nat → List AV → Option AV) (run : List Item → St → Option AV) (m2_0 : UInt8) (m2_1 : UInt8) (m2_2 : Bool) (m2_3 : UInt8) (m2_4 : UInt8) (m2_5 : UInt8) (m2_6 : UInt8) (m2_7 : Bool) (m2_8 : UInt8) (m2_9 : List UInt8) (m3_0 : UInt8) (m3_1 : UInt8) (m3_2 : Bool) (m3_3 : UInt8) (m3_4 : UInt8) (m3_5 : UInt8) (m3_6 : UInt8) (m3_7 : Bool) (m3_8 : UInt8) (m3_9 : List UInt8) : Option AV :=
  (selW (.b ((m2_0 == m3_0 && (m2_1 == m3_1 && (m2_2 == m3_2 && (m2_3 == m3_3 && (m2_4 == m3_4 && (m2_5 == m3_5 && (m2_6 == m2_6 && (m2_7 == m2_7 && (m2_8 == m3_8 && (m2_9 == m3_9 && true)))))))))))) true ((call 75 [.ag [.u8 m2_0, .u8 m2_1, .b m2_2, .u8 m2_3, .u8 m2_4, .u8 m2_5, .u8 m2_6, .b m2_7, .u8 m2_8, .s m2_9], .b (ueq m2_3 2)]).bind fun v1 => some (v1)) (.b false)).bind fun v2 => some (v2)
theorem text44_12 (call : Nat → List AV → Option AV) (run : List Item → St → Option AV) (m2_0 : UInt8) (m2_1 : UInt8) (m2_2 : Bool) (m2_3 : UInt8) (m2_4 : UInt8) (m2_5 : UInt8) (m2_6 : UInt8) (m2_7 : Bool) (m2_8 : UInt8) (m2_9 : List UInt8) (m3_0 : UInt8) (m3_1 : UInt8) (m3_2 : Bool) (m3_3 : UInt8) (m3_4 : UInt8) (m3_5 : UInt8) (m3_6 : UInt8) (m3_7 : Bool) (m3_8 : UInt8) (m3_9 : List UInt8) : step C call 44 Tryd.f44 (unr C call run 44 Tryd.f44 400) K44_12 (S44_12 m2_0 m2_1 m2_2 m2_3 m2_4 m2_5 m2_6 m2_7 m2_8 m2_9 m3_0 m3_1 m3_2 m3_3 m3_4 m3_5 m3_6 m3_7 m3_8 m3_9) = X44_12 call run m2_0 m2_1 m2_2 m2_3 m2_4 m2_5 m2_6 m2_7 m2_8 m2_9 m3_0 m3_1 m3_2 m3_3 m3_4 m3_5 m3_6 m3_7 m3_8 m3_9 := by
  kernel_rfl
theorem r44_14 (m2_0 : UInt8) (m2_1 : UInt8) (m2_2 : Bool) (m2_3 : UInt8) (m2_4 : UInt8) (m2_5 : UInt8) (m2_6 : UInt8) (m2_7 : Bool) (m2_8 : UInt8) (m2_9 : List UInt8) (m3_0 : UInt8) (m3_1 : UInt8) (m3_2 : Bool) (m3_3 : UInt8) (m3_4 : UInt8) (m3_5 : UInt8) (m3_6 : UInt8) (m3_7 : Bool) (m3_8 : UInt8) (m3_9 : List UInt8) {r : AV} (h : X44_14 (semCall C Tryd.prog) (semRun C Tryd.prog 44 Tryd.f44) m2_0 m2_1 m2_2 m2_3 m2_4 m2_5 m2_6 m2_7 m2_8 m2_9 m3_0 m3_1 m3_2 m3_3 m3_4 m3_5 m3_6 m3_7 m3_8 m3_9 = some r) : F44_14 (semRun C Tryd.prog 44 Tryd.f44) m2_0 m2_1 m2_2 m2_3 m2_4 m2_5 m2_6 m2_7 m2_8 m2_9 m3_0 m3_1 m3_2 m3_3 m3_4 m3_5 m3_6 m3_7 m3_8 m3_9 = some r :=
  semRun_unr 400 ((text44_14 _ _ m2_0 m2_1 m2_2 m2_3 m2_4 m2_5 m2_6 m2_7 m2_8 m2_9 m3_0 m3_1 m3_2 m3_3 m3_4 m3_5 m3_6 m3_7 m3_8 m3_9).trans h)
theorem r44_12 (m2_0 : UInt8) (m2_1 : UInt8) (m2_2 : Bool) (m2_3 : UInt8) (m2_4 : UInt8) (m2_5 : UInt8) (m2_6 : UInt8) (m2_7 : Bool) (m2_8 : UInt8) (m2_9 : List UInt8) (m3_0 : UInt8) (m3_1 : UInt8) (m3_2 : Bool) (m3_3 : UInt8) (m3_4 : UInt8) (m3_5 : UInt8) (m3_6 : UInt8) (m3_7 : Bool) (m3_8 : UInt8) (m3_9 : List UInt8) {r : AV} (h : X44_12 (semCall C Tryd.prog) (semRun C Tryd.prog 44 Tryd.f44) m2_0 m2_1 m2_2 m2_3 m2_4 m2_5 m2_6 m2_7 m2_8 m2_9 m3_0 m3_1 m3_2 m3_3 m3_4 m3_5 m3_6 m3_7 m3_8 m3_9 = some r) : F44_12 (semRun C Tryd.prog 44 Tryd.f44) m2_0 m2_1 m2_2 m2_3 m2_4 m2_5 m2_6 m2_7 m2_8 m2_9 m3_0 m3_1 m3_2 m3_3 m3_4 m3_5 m3_6 m3_7 m3_8 m3_9 = some r :=
  semRun_unr 400 ((text44_12 _ _ m2_0 m2_1 m2_2 m2_3 m2_4 m2_5 m2_6 m2_7 m2_8 m2_9 m3_0 m3_1 m3_2 m3_3 m3_4 m3_5 m3_6 m3_7 m3_8 m3_9).trans h)
end R2

namespace R2
open Go Go.Proofs Sx
noncomputable def body45 : Code := (Tryd.f45.body).getD .skip
noncomputable def K45_4 : List Item := (kAt 4 body45 []).getD []
def S45_4 (m1_0 : UInt8) (m1_1 : UInt8) (m1_2 : Bool) (m1_3 : UInt8) (m1_4 : UInt8) (m1_5 : UInt8) (m1_6 : UInt8) (m1_7 : Bool) (m1_8 : UInt8) (m1_9 : List UInt8) (m3_0 : UInt8) (m3_1 : UInt8) (m3_2 : Bool) (m3_3 : UInt8) (m3_4 : UInt8) (m3_5 : UInt8) (m3_6 : UInt8) (m3_7 : Bool) (m3_8 : UInt8) (m3_9 : List UInt8) : St := St.ofL [(1, .cell (.ptr 1 0)), (3, .cell (.ptr 3 0))] [(1, some [.val (.u8 m1_0), .val (.u8 m1_1), .val (.b m1_2), .val (.u8 m1_3), .val (.u8 m1_4), .val (.u8 m1_5), .val (.u8 m1_6), .val (.b m1_7), .val (.u8 m1_8), .val (.s m1_9)]), (3, some [.val (.u8 m3_0), .val (.u8 m3_1), .val (.b m3_2), .val (.u8 m3_3), .val (.u8 m3_4), .val (.u8 m3_5), .val (.u8 m3_6), .val (.b m3_7), .val (.u8 m3_8), .val (.s m3_9)])]
noncomputable def F45_4 (run : List Item → St → Option AV) (m1_0 : UInt8) (m1_1 : UInt8) (m1_2 : Bool) (m1_3 : UInt8) (m1_4 : UInt8) (m1_5 : UInt8) (m1_6 : UInt8) (m1_7 : Bool) (m1_8 : UInt8) (m1_9 : List UInt8) (m3_0 : UInt8) (m3_1 : UInt8) (m3_2 : Bool) (m3_3 : UInt8) (m3_4 : UInt8) (m3_5 : UInt8) (m3_6 : UInt8) (m3_7 : Bool) (m3_8 : UInt8) (m3_9 : List UInt8) : Option AV := run K45_4 (S45_4 m1_0 m1_1 m1_2 m1_3 m1_4 m1_5 m1_6 m1_7 m1_8 m1_9 m3_0 m3_1 m3_2 m3_3 m3_4 m3_5 m3_6 m3_7 m3_8 m3_9)
noncomputable def K45_6 : List Item := (kAt 6 body45 []).getD []
def S45_6 (m1_0 : UInt8) (m1_1 : UInt8) (m1_2 : Bool) (m1_3 : UInt8) (m1_4 : UInt8) (m1_5 : UInt8) (m1_6 : UInt8) (m1_7 : Bool) (m1_8 : UInt8) (m1_9 : List UInt8) (m3_0 : UInt8) (m3_1 : UInt8) (m3_2 : Bool) (m3_3 : UInt8) (m3_4 : UInt8) (m3_5 : UInt8) (m3_6 : UInt8) (m3_7 : Bool) (m3_8 : UInt8) (m3_9 : List UInt8) : St := St.ofL [(1, .cell (.ptr 1 0)), (3, .cell (.ptr 3 0))] [(1, some [.val (.u8 m1_0), .val (.u8 m1_1), .val (.b m1_2), .val (.u8 m1_3), .val (.u8 m1_4), .val (.u8 m1_5), .val (.u8 m1_6), .val (.b m1_7), .val (.u8 m1_8), .val (.s m1_9)]), (3, some [.val (.u8 m3_0), .val (.u8 m3_1), .val (.b m3_2), .val (.u8 m3_3), .val (.u8 m3_4), .val (.u8 m3_5), .val (.u8 m3_6), .val (.b m3_7), .val (.u8 m3_8), .val (.s m3_9)])]
noncomputable def F45_6 (run : List Item → St → Option AV) (m1_0 : UInt8) (m1_1 : UInt8) (m1_2 : Bool) (m1_3 : UInt8) (m1_4 : UInt8) (m1_5 : UInt8) (m1_6 : UInt8) (m1_7 : Bool) (m1_8 : UInt8) (m1_9 : List UInt8) (m3_0 : UInt8) (m3_1 : UInt8) (m3_2 : Bool) (m3_3 : UInt8) (m3_4 : UInt8) (m3_5 : UInt8) (m3_6 : UInt8) (m3_7 : Bool) (m3_8 : UInt8) (m3_9 : List UInt8) : Option AV := run K45_6 (S45_6 m1_0 m1_1 m1_2 m1_3 m1_4 m1_5 m1_6 m1_7 m1_8 m1_9 m3_0 m3_1 m3_2 m3_3 m3_4 m3_5 m3_6 m3_7 m3_8 m3_9)
noncomputable def X45 (call : Nat → List AV → Option AV) (run : List Item → St → Option AV) (x0_0 : UInt8) (x0_1 : UInt8) (x0_2 : Bool) (x0_3 : UInt8) (x0_4 : UInt8) (x0_5 : UInt8) (x0_6 : UInt8) (x0_7 : Bool) (x0_8 : UInt8) (x0_9 : List UInt8) : Option AV :=
  condM (.b (ueq x0_0 19))
  (F45_4 run x0_0 x0_1 x0_2 x0_3 x0_4 x0_5 x0_6 x0_7 x0_8 x0_9 x0_0 x0_1 false 0 0 0 0 false 0 x0_9)
  (F45_4 run x0_0 x0_1 x0_2 x0_3 x0_4 x0_5 x0_6 x0_7 x0_8 x0_9 x0_0 x0_1 false 0 0 0 0 false 0 [])
theorem text45 (call : Nat → List AV → Option AV) (run : List Item → St → Option AV) (x0_0 : UInt8) (x0_1 : UInt8) (x0_2 : Bool) (x0_3 : UInt8) (x0_4 : UInt8) (x0_5 : UInt8) (x0_6 : UInt8) (x0_7 : Bool) (x0_8 : UInt8) (x0_9 : List UInt8) : unr C call run 45 Tryd.f45 400 [.code body45] (initSt [.ag [.u8 x0_0, .u8 x0_1, .b x0_2, .u8 x0_3, .u8 x0_4, .u8 x0_5, .u8 x0_6, .b x0_7, .u8 x0_8, .s x0_9]]) = X45 call run x0_0 x0_1 x0_2 x0_3 x0_4 x0_5 x0_6 x0_7 x0_8 x0_9 := by
  kernel_rfl
theorem c45 (x0_0 : UInt8) (x0_1 : UInt8) (x0_2 : Bool) (x0_3 : UInt8) (x0_4 : UInt8) (x0_5 : UInt8) (x0_6 : UInt8) (x0_7 : Bool) (x0_8 : UInt8) (x0_9 : List UInt8) {r : AV} (h : X45 (semCall C Tryd.prog) (semRun C Tryd.prog 45 Tryd.f45) x0_0 x0_1 x0_2 x0_3 x0_4 x0_5 x0_6 x0_7 x0_8 x0_9 = some r) : semCall C Tryd.prog 45 [.ag [.u8 x0_0, .u8 x0_1, .b x0_2, .u8 x0_3, .u8 x0_4, .u8 x0_5, .u8 x0_6, .b x0_7, .u8 x0_8, .s x0_9]] = some r :=
  semCall_unr (fn := Tryd.f45) (c := body45) (by kernel_rfl) (by kernel_rfl) 400 (by kernel_rfl) ((text45 _ _ x0_0 x0_1 x0_2 x0_3 x0_4 x0_5 x0_6 x0_7 x0_8 x0_9).trans h)
noncomputable def X45_4 (call : Nat → List AV → Option AV) (run : List Item → St → Option AV) (m1_0 : UInt8) (m1_1 : UInt8) (m1_2 : Bool) (m1_3 : UInt8) (m1_4 : UInt8) (m1_5 : UInt8) (m1_6 : UInt8) (m1_7 : Bool) (m1_8 : UInt8) (m1_9 : List UInt8) (m3_0 : UInt8) (m3_1 : UInt8) (m3_2 : Bool) (m3_3 : UInt8) (m3_4 : UInt8) (m3_5 : UInt8) (m3_6 : UInt8) (m3_7 : Bool) (m3_8 : UInt8) (m3_9 : List UInt8) : Option AV :=
  (selW (.b (ueq m1_1 3)) false (some (.b (ueq m1_1 4))) (.b true)).bind fun v1 => condM (v1)
  (F45_6 run m1_0 m1_1 m1_2 m1_3 m1_4 m1_5 m1_6 m1_7 m1_8 m1_9 m3_0 m3_1 m3_2 m3_3 m3_4 m3_5 m1_6 m1_7 m3_8 m3_9)
  (F45_6 run m1_0 m1_1 m1_2 m1_3 m1_4 m1_5 m1_6 m1_7 m1_8 m1_9 m3_0 m3_1 m3_2 m3_3 m3_4 m3_5 m3_6 m3_7 m3_8 m3_9)
theorem text45_4 (call : Nat → List AV → Option AV) (run : List Item → St → Option AV) (m1_0 : UInt8) (m1_1 : UInt8) (m1_2 : Bool) (m1_3 : UInt8) (m1_4 : UInt8) (m1_5 : UInt8) (m1_6 : UInt8) (m1_7 : Bool) (m1_8 : UInt8) (m1_9 : List UInt8) (m3_0 : UInt8) (m3_1 : UInt8) (m3_2 : Bool) (m3_3 : UInt8) (m3_4 : UInt8) (m3_5 : UInt8) (m3_6 : UInt8) (m3_7 : Bool) (m3_8 : UInt8) (m3_9 : List UInt8) : step C call 45 Tryd.f45 (unr C call run 45 Tryd.f45 400) K45_4 (S45_4 m1_0 m1_1 m1_2 m1_3 m1_4 m1_5 m1_6 m1_7 m1_8 m1_9 m3_0 m3_1 m3_2 m3_3 m3_4 m3_5 m3_6 m3_7 m3_8 m3_9) = X45_4 call run m1_0 m1_1 m1_2 m1_3 m1_4 m1_5 m1_6 m1_7 m1_8 m1_9 m3_0 m3_1 m3_2 m3_3 m3_4 m3_5 m3_6 m3_7 m3_8 m3_9 := by
  kernel_rfl
noncomputable def X45_6 (call : Nat → List AV → Option AV) (run : List Item → St → Option AV) (m1_0 : UInt8) (m1_1 : UInt8) (m1_2 : Bool) (m1_3 : UInt8) (m1_4 : UInt8) (m1_5 : UInt8) (m1_6 : UInt8) (m1_7 : Bool) (m1_8 : UInt8) (m1_9 : List UInt8) (m3_0 : UInt8) (m3_1 : UInt8) (m3_2 : Bool) (m3_3 : UInt8) (m3_4 : UInt8) (m3_5 : UInt8) (m3_6 : UInt8) (m3_7 : Bool) (m3_8 : UInt8) (m3_9 : List UInt8) : Option AV :=
  (selW (.b ((m1_0 == m3_0 && (m1_1 == m3_1 && (m1_2 == m3_2 && (m1_3 == m3_3 && (m1_4 == m3_4 && (m1_5 == m3_5 && (m1_6 == m3_6 && (m1_7 == m3_7 && (m1_8 == m3_8 && (m1_9 == m3_9 && true)))))))))))) true (some (.b (une m1_1 0))) (.b false)).bind fun v1 => (selW (v1) true ((call 77 [.u8 m1_1]).bind fun v2 => (call 76 [v2, .s m1_9]).bind fun v3 => some (v3)) (.b false)).bind fun v4 => (selW (v4) true ((call 75 [.ag [.u8 m1_0, .u8 m1_1, .b m1_2, .u8 m1_3, .u8 m1_4, .u8 m1_5, .u8 m1_6, .b m1_7, .u8 m1_8, .s m1_9], .b (ueq m1_1 3)]).bind fun v5 => some (v5)) (.b false)).bind fun v6 => some (v6)
theorem text45_6 (call : Nat → List AV → Option AV) (run : List Item → St → Option AV) (m1_0 : UInt8) (m1_1 : UInt8) (m1_2 : Bool) (m1_3 : UInt8) (m1_4 : UInt8) (m1_5 : UInt8) (m1_6 : UInt8) (m1_7 : Bool) (m1_8 : UInt8) (m1_9 : List UInt8) (m3_0 : UInt8) (m3_1 : UInt8) (m3_2 : Bool) (m3_3 : UInt8) (m3_4 : UInt8) (m3_5 : UInt8) (m3_6 : UInt8) (m3_7 : Bool) (m3_8 : UInt8) (m3_9 : List UInt8) : step C call 45 Tryd.f45 (unr C call run 45 Tryd.f45 400) K45_6 (S45_6 m1_0 m1_1 m1_2 m1_3 m1_4 m1_5 m1_6 m1_7 m1_8 m1_9 m3_0 m3_1 m3_2 m3_3 m3_4 m3_5 m3_6 m3_7 m3_8 m3_9) = X45_6 call run m1_0 m1_1 m1_2 m1_3 m1_4 m1_5 m1_6 m1_7 m1_8 m1_9 m3_0 m3_1 m3_2 m3_3 m3_4 m3_5 m3_6 m3_7 m3_8 m3_9 := by
  kernel_rfl
theorem r45_4 (m1_0 : UInt8) (m1_1 : UInt8) (m1_2 : Bool) (m1_3 : UInt8) (m1_4 : UInt8) (m1_5 : UInt8) (m1_6 : UInt8) (m1_7 : Bool) (m1_8 : UInt8) (m1_9 : List UInt8) (m3_0 : UInt8) (m3_1 : UInt8) (m3_2 : Bool) (m3_3 : UInt8) (m3_4 : UInt8) (m3_5 : UInt8) (m3_6 : UInt8) (m3_7 : Bool) (m3_8 : UInt8) (m3_9 : List UInt8) {r : AV} (h : X45_4 (semCall C Tryd.prog) (semRun C Tryd.prog 45 Tryd.f45) m1_0 m1_1 m1_2 m1_3 m1_4 m1_5 m1_6 m1_7 m1_8 m1_9 m3_0 m3_1 m3_2 m3_3 m3_4 m3_5 m3_6 m3_7 m3_8 m3_9 = some r) : F45_4 (semRun C Tryd.prog 45 Tryd.f45) m1_0 m1_1 m1_2 m1_3 m1_4 m1_5 m1_6 m1_7 m1_8 m1_9 m3_0 m3_1 m3_2 m3_3 m3_4 m3_5 m3_6 m3_7 m3_8 m3_9 = some r :=
  semRun_unr 400 ((text45_4 _ _ m1_0 m1_1 m1_2 m1_3 m1_4 m1_5 m1_6 m1_7 m1_8 m1_9 m3_0 m3_1 m3_2 m3_3 m3_4 m3_5 m3_6 m3_7 m3_8 m3_9).trans h)
theorem r45_6 (m1_0 : UInt8) (m1_1 : UInt8) (m1_2 : Bool) (m1_3 : UInt8) (m1_4 : UInt8) (m1_5 : UInt8) (m1_6 : UInt8) (m1_7 : Bool) (m1_8 : UInt8) (m1_9 : List UInt8) (m3_0 : UInt8) (m3_1 : UInt8) (m3_2 : Bool) (m3_3 : UInt8) (m3_4 : UInt8) (m3_5 : UInt8) (m3_6 : UInt8) (m3_7 : Bool) (m3_8 : UInt8) (m3_9 : List UInt8) {r : AV} (h : X45_6 (semCall C Tryd.prog) (semRun C Tryd.prog 45 Tryd.f45) m1_0 m1_1 m1_2 m1_3 m1_4 m1_5 m1_6 m1_7 m1_8 m1_9 m3_0 m3_1 m3_2 m3_3 m3_4 m3_5 m3_6 m3_7 m3_8 m3_9 = some r) : F45_6 (semRun C Tryd.prog 45 Tryd.f45) m1_0 m1_1 m1_2 m1_3 m1_4 m1_5 m1_6 m1_7 m1_8 m1_9 m3_0 m3_1 m3_2 m3_3 m3_4 m3_5 m3_6 m3_7 m3_8 m3_9 = some r :=
  semRun_unr 400 ((text45_6 _ _ m1_0 m1_1 m1_2 m1_3 m1_4 m1_5 m1_6 m1_7 m1_8 m1_9 m3_0 m3_1 m3_2 m3_3 m3_4 m3_5 m3_6 m3_7 m3_8 m3_9).trans h)
end R2

namespace R2
open Go Go.Proofs Sx
noncomputable def body46 : Code := (Tryd.f46.body).getD .skip
noncomputable def X46 (call : Nat → List AV → Option AV) (run : List Item → St → Option AV) (x0_0 : UInt8) (x0_1 : UInt8) (x0_2 : Bool) (x0_3 : UInt8) (x0_4 : UInt8) (x0_5 : UInt8) (x0_6 : UInt8) (x0_7 : Bool) (x0_8 : UInt8) (x0_9 : List UInt8) : Option AV :=
  (selW (.b ((w64 (x0_0.toNat : Int)) == 8)) true ((selW (.b (ueq x0_3 2)) false (some (.b (ueq x0_3 3))) (.b true)).bind fun v1 => some (v1)) (.b false)).bind fun v2 => (selW (v2) false ((selW (.b (decide ((w64 (x0_0.toNat : Int)) ≥ 17))) true (some (.b (decide ((w64 (x0_0.toNat : Int)) ≤ 19)))) (.b false)).bind fun v3 => (selW (v3) true ((selW (.b (ueq x0_1 3)) false (some (.b (ueq x0_1 4))) (.b true)).bind fun v4 => some (v4)) (.b false)).bind fun v5 => some (v5)) (.b true)).bind fun v6 => some (v6)
theorem text46 (call : Nat → List AV → Option AV) (run : List Item → St → Option AV) (x0_0 : UInt8) (x0_1 : UInt8) (x0_2 : Bool) (x0_3 : UInt8) (x0_4 : UInt8) (x0_5 : UInt8) (x0_6 : UInt8) (x0_7 : Bool) (x0_8 : UInt8) (x0_9 : List UInt8) : unr C call run 46 Tryd.f46 400 [.code body46] (initSt [.ag [.u8 x0_0, .u8 x0_1, .b x0_2, .u8 x0_3, .u8 x0_4, .u8 x0_5, .u8 x0_6, .b x0_7, .u8 x0_8, .s x0_9]]) = X46 call run x0_0 x0_1 x0_2 x0_3 x0_4 x0_5 x0_6 x0_7 x0_8 x0_9 := by
  kernel_rfl
theorem c46 (x0_0 : UInt8) (x0_1 : UInt8) (x0_2 : Bool) (x0_3 : UInt8) (x0_4 : UInt8) (x0_5 : UInt8) (x0_6 : UInt8) (x0_7 : Bool) (x0_8 : UInt8) (x0_9 : List UInt8) {r : AV} (h : X46 (semCall C Tryd.prog) (semRun C Tryd.prog 46 Tryd.f46) x0_0 x0_1 x0_2 x0_3 x0_4 x0_5 x0_6 x0_7 x0_8 x0_9 = some r) : semCall C Tryd.prog 46 [.ag [.u8 x0_0, .u8 x0_1, .b x0_2, .u8 x0_3, .u8 x0_4, .u8 x0_5, .u8 x0_6, .b x0_7, .u8 x0_8, .s x0_9]] = some r :=
  semCall_unr (fn := Tryd.f46) (c := body46) (by kernel_rfl) (by kernel_rfl) 400 (by kernel_rfl) ((text46 _ _ x0_0 x0_1 x0_2 x0_3 x0_4 x0_5 x0_6 x0_7 x0_8 x0_9).trans h)
end R2

namespace R2
open Go Go.Proofs Sx
noncomputable def body47 : Code := (Tryd.f47.body).getD .skip
noncomputable def K47_2 : List Item := (kAt 2 body47 []).getD []
def S47_2 (t0 : List UInt8) (t1 : Int) (t5 : Int) : St := St.ofL [(0, .cell (.val (.s t0))), (1, .cell (.val (.int t1))), (5, .cell (.val (.int t5)))] []
noncomputable def F47_2 (run : List Item → St → Option AV) (t0 : List UInt8) (t1 : Int) (t5 : Int) : Option AV := run K47_2 (S47_2 t0 t1 t5)
noncomputable def X47 (call : Nat → List AV → Option AV) (run : List Item → St → Option AV) (x0 : List UInt8) (x1 : Int) : Option AV :=
  F47_2 run x0 x1 0
theorem text47 (call : Nat → List AV → Option AV) (run : List Item → St → Option AV) (x0 : List UInt8) (x1 : Int) : unr C call run 47 Tryd.f47 400 [.code body47] (initSt [.s x0, .int x1]) = X47 call run x0 x1 := by
  kernel_rfl
theorem c47 (x0 : List UInt8) (x1 : Int) {r : AV} (h : X47 (semCall C Tryd.prog) (semRun C Tryd.prog 47 Tryd.f47) x0 x1 = some r) : semCall C Tryd.prog 47 [.s x0, .int x1] = some r :=
  semCall_unr (fn := Tryd.f47) (c := body47) (by kernel_rfl) (by kernel_rfl) 400 (by kernel_rfl) ((text47 _ _ x0 x1).trans h)
noncomputable def X47_2 (call : Nat → List AV → Option AV) (run : List Item → St → Option AV) (t0 : List UInt8) (t1 : Int) (t5 : Int) : Option AV :=
  condM (.b (decide (t5 < ((t0.length : Int)))))
  ((idxS (.s t0) (.int t5)).bind fun v1 => (binI .geq (v1) (.u8 65)).bind fun v2 => (selW (v2) true ((idxS (.s t0) (.int t5)).bind fun v3 => (binI .leq (v3) (.u8 90)).bind fun v4 => some (v4)) (.b false)).bind fun v5 => condM (v5)
  (some (.b false))
  (F47_2 run t0 t1 (w64 (t5 + 1))))
  ((selW (.b (decide (((t0.length : Int)) > 0))) true (some (.b (decide (((t0.length : Int)) ≤ t1)))) (.b false)).bind fun v6 => some (v6))
theorem text47_2 (call : Nat → List AV → Option AV) (run : List Item → St → Option AV) (t0 : List UInt8) (t1 : Int) (t5 : Int) : step C call 47 Tryd.f47 (unr C call run 47 Tryd.f47 400) K47_2 (S47_2 t0 t1 t5) = X47_2 call run t0 t1 t5 := by
  kernel_rfl
theorem r47_2 (t0 : List UInt8) (t1 : Int) (t5 : Int) {r : AV} (h : X47_2 (semCall C Tryd.prog) (semRun C Tryd.prog 47 Tryd.f47) t0 t1 t5 = some r) : F47_2 (semRun C Tryd.prog 47 Tryd.f47) t0 t1 t5 = some r :=
  semRun_unr 400 ((text47_2 _ _ t0 t1 t5).trans h)
end R2

namespace R2
open Go Go.Proofs Sx
noncomputable def body48 : Code := (Tryd.f48.body).getD .skip
noncomputable def X48 (call : Nat → List AV → Option AV) (run : List Item → St → Option AV) (x0 : Int) : Option AV :=
  (selW (.b (decide (x0 < 0))) false (some (.b (decide (x0 > 4)))) (.b true)).bind fun v1 => condM (v1)
  (some (.s []))
  ((inN (([.s [], .s [116, 101, 120, 116, 97, 114, 101, 97], .s [116, 105, 116, 108, 101], .s [115, 99, 114, 105, 112, 116], .s [115, 116, 121, 108, 101]] : List AV)).length (.int x0)).bind fun v2 => some (AV.cell ((([.s [], .s [116, 101, 120, 116, 97, 114, 101, 97], .s [116, 105, 116, 108, 101], .s [115, 99, 114, 105, 112, 116], .s [115, 116, 121, 108, 101]] : List AV)).getD v2 .un) 0))
theorem text48 (call : Nat → List AV → Option AV) (run : List Item → St → Option AV) (x0 : Int) : unr C call run 48 Tryd.f48 400 [.code body48] (initSt [.int x0]) = X48 call run x0 := by
  kernel_rfl
theorem c48 (x0 : Int) {r : AV} (h : X48 (semCall C Tryd.prog) (semRun C Tryd.prog 48 Tryd.f48) x0 = some r) : semCall C Tryd.prog 48 [.int x0] = some r :=
  semCall_unr (fn := Tryd.f48) (c := body48) (by kernel_rfl) (by kernel_rfl) 400 (by kernel_rfl) ((text48 _ _ x0).trans h)
end R2

namespace R2
open Go Go.Proofs Sx
noncomputable def body49 : Code := (Tryd.f49.body).getD .skip
noncomputable def K49_3 : List Item := (kAt 3 body49 []).getD []
def S49_3 (t1 : AV) (t2 : Nat) (m3_0 : UInt8) (m3_1 : UInt8) (m3_2 : Bool) (m3_3 : UInt8) (m3_4 : UInt8) (m3_5 : UInt8) (m3_6 : UInt8) (m3_7 : Bool) (m3_8 : UInt8) (m3_9 : List UInt8) (m6_0 : UInt8) (m6_1 : UInt8) (m6_2 : Bool) (m6_3 : UInt8) (m6_4 : UInt8) (m6_5 : UInt8) (m6_6 : UInt8) (m6_7 : Bool) (m6_8 : UInt8) (m6_9 : List UInt8) : St := St.ofL [(1, .cell (.val (t1))), (2, .cell (.val (.fn t2))), (3, .cell (.ptr 3 0)), (6, .cell (.ptr 6 0))] [(3, some [.val (.u8 m3_0), .val (.u8 m3_1), .val (.b m3_2), .val (.u8 m3_3), .val (.u8 m3_4), .val (.u8 m3_5), .val (.u8 m3_6), .val (.b m3_7), .val (.u8 m3_8), .val (.s m3_9)]), (6, some [.val (.u8 m6_0), .val (.u8 m6_1), .val (.b m6_2), .val (.u8 m6_3), .val (.u8 m6_4), .val (.u8 m6_5), .val (.u8 m6_6), .val (.b m6_7), .val (.u8 m6_8), .val (.s m6_9)])]
noncomputable def F49_3 (run : List Item → St → Option AV) (t1 : AV) (t2 : Nat) (m3_0 : UInt8) (m3_1 : UInt8) (m3_2 : Bool) (m3_3 : UInt8) (m3_4 : UInt8) (m3_5 : UInt8) (m3_6 : UInt8) (m3_7 : Bool) (m3_8 : UInt8) (m3_9 : List UInt8) (m6_0 : UInt8) (m6_1 : UInt8) (m6_2 : Bool) (m6_3 : UInt8) (m6_4 : UInt8) (m6_5 : UInt8) (m6_6 : UInt8) (m6_7 : Bool) (m6_8 : UInt8) (m6_9 : List UInt8) : Option AV := run K49_3 (S49_3 t1 t2 m3_0 m3_1 m3_2 m3_3 m3_4 m3_5 m3_6 m3_7 m3_8 m3_9 m6_0 m6_1 m6_2 m6_3 m6_4 m6_5 m6_6 m6_7 m6_8 m6_9)
noncomputable def K49_4 : List Item := (kAt 4 body49 []).getD []
def S49_4 (t2 : Nat) (t14 : AV) (t15 : AV) (t16 : Int) (m3_0 : AV) (m3_1 : AV) (m3_2 : AV) (m3_3 : AV) (m3_4 : AV) (m3_5 : AV) (m3_6 : AV) (m3_7 : AV) (m3_8 : AV) (m3_9 : AV) (m6_0 : UInt8) (m6_1 : UInt8) (m6_2 : Bool) (m6_3 : UInt8) (m6_4 : UInt8) (m6_5 : UInt8) (m6_6 : UInt8) (m6_7 : Bool) (m6_8 : UInt8) (m6_9 : List UInt8) : St := St.ofL [(2, .cell (.val (.fn t2))), (3, .cell (.ptr 3 0)), (6, .cell (.ptr 6 0)), (14, .cell (.val (t14))), (15, .cell (.val (t15))), (16, .cell (.val (.int t16)))] [(3, some [.val (m3_0), .val (m3_1), .val (m3_2), .val (m3_3), .val (m3_4), .val (m3_5), .val (m3_6), .val (m3_7), .val (m3_8), .val (m3_9)]), (6, some [.val (.u8 m6_0), .val (.u8 m6_1), .val (.b m6_2), .val (.u8 m6_3), .val (.u8 m6_4), .val (.u8 m6_5), .val (.u8 m6_6), .val (.b m6_7), .val (.u8 m6_8), .val (.s m6_9)])]
noncomputable def F49_4 (run : List Item → St → Option AV) (t2 : Nat) (t14 : AV) (t15 : AV) (t16 : Int) (m3_0 : AV) (m3_1 : AV) (m3_2 : AV) (m3_3 : AV) (m3_4 : AV) (m3_5 : AV) (m3_6 : AV) (m3_7 : AV) (m3_8 : AV) (m3_9 : AV) (m6_0 : UInt8) (m6_1 : UInt8) (m6_2 : Bool) (m6_3 : UInt8) (m6_4 : UInt8) (m6_5 : UInt8) (m6_6 : UInt8) (m6_7 : Bool) (m6_8 : UInt8) (m6_9 : List UInt8) : Option AV := run K49_4 (S49_4 t2 t14 t15 t16 m3_0 m3_1 m3_2 m3_3 m3_4 m3_5 m3_6 m3_7 m3_8 m3_9 m6_0 m6_1 m6_2 m6_3 m6_4 m6_5 m6_6 m6_7 m6_8 m6_9)
noncomputable def X49 (call : Nat → List AV → Option AV) (run : List Item → St → Option AV) (x0_0 : UInt8) (x0_1 : UInt8) (x0_2 : Bool) (x0_3 : UInt8) (x0_4 : UInt8) (x0_5 : UInt8) (x0_6 : UInt8) (x0_7 : Bool) (x0_8 : UInt8) (x0_9 : List UInt8) (x1 : AV) (x2 : Nat) : Option AV :=
  (call 21 [.ag [.u8 x0_0, .u8 x0_1, .b x0_2, .u8 x0_3, .u8 x0_4, .u8 x0_5, .u8 x0_6, .b x0_7, .u8 x0_8, .s x0_9]]).bind fun v1 => (unop .not (v1)).bind fun v2 => condM (v2)
  (F49_3 run (x1) x2 20 0 false 0 0 0 0 false 0 [] 0 0 false 0 0 0 0 false 0 [])
  (F49_3 run (x1) x2 x0_0 x0_1 x0_2 x0_3 x0_4 x0_5 x0_6 x0_7 x0_8 x0_9 0 0 false 0 0 0 0 false 0 [])
theorem text49 (call : Nat → List AV → Option AV) (run : List Item → St → Option AV) (x0_0 : UInt8) (x0_1 : UInt8) (x0_2 : Bool) (x0_3 : UInt8) (x0_4 : UInt8) (x0_5 : UInt8) (x0_6 : UInt8) (x0_7 : Bool) (x0_8 : UInt8) (x0_9 : List UInt8) (x1 : AV) (x2 : Nat) : unr C call run 49 Tryd.f49 400 [.code body49] (initSt [.ag [.u8 x0_0, .u8 x0_1, .b x0_2, .u8 x0_3, .u8 x0_4, .u8 x0_5, .u8 x0_6, .b x0_7, .u8 x0_8, .s x0_9], x1, .fn x2]) = X49 call run x0_0 x0_1 x0_2 x0_3 x0_4 x0_5 x0_6 x0_7 x0_8 x0_9 x1 x2 := by
  kernel_rfl
theorem c49 (x0_0 : UInt8) (x0_1 : UInt8) (x0_2 : Bool) (x0_3 : UInt8) (x0_4 : UInt8) (x0_5 : UInt8) (x0_6 : UInt8) (x0_7 : Bool) (x0_8 : UInt8) (x0_9 : List UInt8) (x1 : AV) (x2 : Nat) {r : AV} (h : X49 (semCall C Tryd.prog) (semRun C Tryd.prog 49 Tryd.f49) x0_0 x0_1 x0_2 x0_3 x0_4 x0_5 x0_6 x0_7 x0_8 x0_9 x1 x2 = some r) : semCall C Tryd.prog 49 [.ag [.u8 x0_0, .u8 x0_1, .b x0_2, .u8 x0_3, .u8 x0_4, .u8 x0_5, .u8 x0_6, .b x0_7, .u8 x0_8, .s x0_9], x1, .fn x2] = some r :=
  semCall_unr (fn := Tryd.f49) (c := body49) (by kernel_rfl) (by kernel_rfl) 400 (by kernel_rfl) ((text49 _ _ x0_0 x0_1 x0_2 x0_3 x0_4 x0_5 x0_6 x0_7 x0_8 x0_9 x1 x2).trans h)
noncomputable def X49_3 (call : Nat → List AV → Option AV) (run : List Item → St → Option AV) (t1 : AV) (t2 : Nat) (m3_0 : UInt8) (m3_1 : UInt8) (m3_2 : Bool) (m3_3 : UInt8) (m3_4 : UInt8) (m3_5 : UInt8) (m3_6 : UInt8) (m3_7 : Bool) (m3_8 : UInt8) (m3_9 : List UInt8) (m6_0 : UInt8) (m6_1 : UInt8) (m6_2 : Bool) (m6_3 : UInt8) (m6_4 : UInt8) (m6_5 : UInt8) (m6_6 : UInt8) (m6_7 : Bool) (m6_8 : UInt8) (m6_9 : List UInt8) : Option AV :=
  (lenR (t1)).bind fun v1 => F49_4 run t2 (t1) (v1) 0 (.u8 m3_0) (.u8 m3_1) (.b m3_2) (.u8 m3_3) (.u8 m3_4) (.u8 m3_5) (.u8 m3_6) (.b m3_7) (.u8 m3_8) (.s m3_9) m6_0 m6_1 m6_2 m6_3 m6_4 m6_5 m6_6 m6_7 m6_8 m6_9
theorem text49_3 (call : Nat → List AV → Option AV) (run : List Item → St → Option AV) (t1 : AV) (t2 : Nat) (m3_0 : UInt8) (m3_1 : UInt8) (m3_2 : Bool) (m3_3 : UInt8) (m3_4 : UInt8) (m3_5 : UInt8) (m3_6 : UInt8) (m3_7 : Bool) (m3_8 : UInt8) (m3_9 : List UInt8) (m6_0 : UInt8) (m6_1 : UInt8) (m6_2 : Bool) (m6_3 : UInt8) (m6_4 : UInt8) (m6_5 : UInt8) (m6_6 : UInt8) (m6_7 : Bool) (m6_8 : UInt8) (m6_9 : List UInt8) : step C call 49 Tryd.f49 (unr C call run 49 Tryd.f49 400) K49_3 (S49_3 t1 t2 m3_0 m3_1 m3_2 m3_3 m3_4 m3_5 m3_6 m3_7 m3_8 m3_9 m6_0 m6_1 m6_2 m6_3 m6_4 m6_5 m6_6 m6_7 m6_8 m6_9) = X49_3 call run t1 t2 m3_0 m3_1 m3_2 m3_3 m3_4 m3_5 m3_6 m3_7 m3_8 m3_9 m6_0 m6_1 m6_2 m6_3 m6_4 m6_5 m6_6 m6_7 m6_8 m6_9 := by
  kernel_rfl
noncomputable def X49_4 (call : Nat → List AV → Option AV) (run : List Item → St → Option AV) (t2 : Nat) (t14 : AV) (t15 : AV) (t16 : Int) (m3_0 : AV) (m3_1 : AV) (m3_2 : AV) (m3_3 : AV) (m3_4 : AV) (m3_5 : AV) (m3_6 : AV) (m3_7 : AV) (m3_8 : AV) (m3_9 : AV) (m6_0 : UInt8) (m6_1 : UInt8) (m6_2 : Bool) (m6_3 : UInt8) (m6_4 : UInt8) (m6_5 : UInt8) (m6_6 : UInt8) (m6_7 : Bool) (m6_8 : UInt8) (m6_9 : List UInt8) : Option AV :=
  (binI .lss (.int t16) (t15)).bind fun v1 => condM (v1)
  ((idx 1 (t14) (.int t16)).bind fun v2 => (call t2 [.ag [m3_0, m3_1, m3_2, m3_3, m3_4, m3_5, m3_6, m3_7, m3_8, m3_9], AV.cell (v2) 0]).bind fun v4 => (AV.asAg 10 (v4)).bind fun v5 => (binI .eql (v5.getD 0 .un) (.u8 20)).bind fun v6 => condM (v6)
  (some (.tu [.ag [v5.getD 0 .un, v5.getD 1 .un, v5.getD 2 .un, v5.getD 3 .un, v5.getD 4 .un, v5.getD 5 .un, v5.getD 6 .un, v5.getD 7 .un, v5.getD 8 .un, v5.getD 9 .un], .int t16]))
  (F49_4 run t2 (t14) (t15) (w64 (t16 + 1)) (v5.getD 0 .un) (v5.getD 1 .un) (v5.getD 2 .un) (v5.getD 3 .un) (v5.getD 4 .un) (v5.getD 5 .un) (v5.getD 6 .un) (v5.getD 7 .un) (v5.getD 8 .un) (v5.getD 9 .un) m6_0 m6_1 m6_2 m6_3 m6_4 m6_5 m6_6 m6_7 m6_8 m6_9))
  (some (.tu [.ag [m3_0, m3_1, m3_2, m3_3, m3_4, m3_5, m3_6, m3_7, m3_8, m3_9], .int ((-1))]))
theorem text49_4 (call : Nat → List AV → Option AV) (run : List Item → St → Option AV) (t2 : Nat) (t14 : AV) (t15 : AV) (t16 : Int) (m3_0 : AV) (m3_1 : AV) (m3_2 : AV) (m3_3 : AV) (m3_4 : AV) (m3_5 : AV) (m3_6 : AV) (m3_7 : AV) (m3_8 : AV) (m3_9 : AV) (m6_0 : UInt8) (m6_1 : UInt8) (m6_2 : Bool) (m6_3 : UInt8) (m6_4 : UInt8) (m6_5 : UInt8) (m6_6 : UInt8) (m6_7 : Bool) (m6_8 : UInt8) (m6_9 : List UInt8) : step C call 49 Tryd.f49 (unr C call run 49 Tryd.f49 400) K49_4 (S49_4 t2 t14 t15 t16 m3_0 m3_1 m3_2 m3_3 m3_4 m3_5 m3_6 m3_7 m3_8 m3_9 m6_0 m6_1 m6_2 m6_3 m6_4 m6_5 m6_6 m6_7 m6_8 m6_9) = X49_4 call run t2 t14 t15 t16 m3_0 m3_1 m3_2 m3_3 m3_4 m3_5 m3_6 m3_7 m3_8 m3_9 m6_0 m6_1 m6_2 m6_3 m6_4 m6_5 m6_6 m6_7 m6_8 m6_9 := by
  kernel_rfl
theorem r49_3 (t1 : AV) (t2 : Nat) (m3_0 : UInt8) (m3_1 : UInt8) (m3_2 : Bool) (m3_3 : UInt8) (m3_4 : UInt8) (m3_5 : UInt8) (m3_6 : UInt8) (m3_7 : Bool) (m3_8 : UInt8) (m3_9 : List UInt8) (m6_0 : UInt8) (m6_1 : UInt8) (m6_2 : Bool) (m6_3 : UInt8) (m6_4 : UInt8) (m6_5 : UInt8) (m6_6 : UInt8) (m6_7 : Bool) (m6_8 : UInt8) (m6_9 : List UInt8) {r : AV} (h : X49_3 (semCall C Tryd.prog) (semRun C Tryd.prog 49 Tryd.f49) t1 t2 m3_0 m3_1 m3_2 m3_3 m3_4 m3_5 m3_6 m3_7 m3_8 m3_9 m6_0 m6_1 m6_2 m6_3 m6_4 m6_5 m6_6 m6_7 m6_8 m6_9 = some r) : F49_3 (semRun C Tryd.prog 49 Tryd.f49) t1 t2 m3_0 m3_1 m3_2 m3_3 m3_4 m3_5 m3_6 m3_7 m3_8 m3_9 m6_0 m6_1 m6_2 m6_3 m6_4 m6_5 m6_6 m6_7 m6_8 m6_9 = some r :=
  semRun_unr 400 ((text49_3 _ _ t1 t2 m3_0 m3_1 m3_2 m3_3 m3_4 m3_5 m3_6 m3_7 m3_8 m3_9 m6_0 m6_1 m6_2 m6_3 m6_4 m6_5 m6_6 m6_7 m6_8 m6_9).trans h)
theorem r49_4 (t2 : Nat) (t14 : AV) (t15 : AV) (t16 : Int) (m3_0 : AV) (m3_1 : AV) (m3_2 : AV) (m3_3 : AV) (m3_4 : AV) (m3_5 : AV) (m3_6 : AV) (m3_7 : AV) (m3_8 : AV) (m3_9 : AV) (m6_0 : UInt8) (m6_1 : UInt8) (m6_2 : Bool) (m6_3 : UInt8) (m6_4 : UInt8) (m6_5 : UInt8) (m6_6 : UInt8) (m6_7 : Bool) (m6_8 : UInt8) (m6_9 : List UInt8) {r : AV} (h : X49_4 (semCall C Tryd.prog) (semRun C Tryd.prog 49 Tryd.f49) t2 t14 t15 t16 m3_0 m3_1 m3_2 m3_3 m3_4 m3_5 m3_6 m3_7 m3_8 m3_9 m6_0 m6_1 m6_2 m6_3 m6_4 m6_5 m6_6 m6_7 m6_8 m6_9 = some r) : F49_4 (semRun C Tryd.prog 49 Tryd.f49) t2 t14 t15 t16 m3_0 m3_1 m3_2 m3_3 m3_4 m3_5 m3_6 m3_7 m3_8 m3_9 m6_0 m6_1 m6_2 m6_3 m6_4 m6_5 m6_6 m6_7 m6_8 m6_9 = some r :=
  semRun_unr 400 ((text49_4 _ _ t2 t14 t15 t16 m3_0 m3_1 m3_2 m3_3 m3_4 m3_5 m3_6 m3_7 m3_8 m3_9 m6_0 m6_1 m6_2 m6_3 m6_4 m6_5 m6_6 m6_7 m6_8 m6_9).trans h)
end R2

namespace R2
open Go Go.Proofs Sx
noncomputable def body50 : Code := (Tryd.f50.body).getD .skip
noncomputable def X50 (call : Nat → List AV → Option AV) (run : List Item → St → Option AV) (x0 : UInt8) : Option AV :=
  (selW (.b (ueq x0 32)) false (some (.b (ueq x0 9))) (.b true)).bind fun v1 => (selW (v1) false (some (.b (ueq x0 10))) (.b true)).bind fun v2 => (selW (v2) false (some (.b (ueq x0 12))) (.b true)).bind fun v3 => (selW (v3) false (some (.b (ueq x0 13))) (.b true)).bind fun v4 => some (v4)
theorem text50 (call : Nat → List AV → Option AV) (run : List Item → St → Option AV) (x0 : UInt8) : unr C call run 50 Tryd.f50 400 [.code body50] (initSt [.u8 x0]) = X50 call run x0 := by
  kernel_rfl
theorem c50 (x0 : UInt8) {r : AV} (h : X50 (semCall C Tryd.prog) (semRun C Tryd.prog 50 Tryd.f50) x0 = some r) : semCall C Tryd.prog 50 [.u8 x0] = some r :=
  semCall_unr (fn := Tryd.f50) (c := body50) (by kernel_rfl) (by kernel_rfl) 400 (by kernel_rfl) ((text50 _ _ x0).trans h)
end R2

namespace R2
open Go Go.Proofs Sx
noncomputable def body51 : Code := (Tryd.f51.body).getD .skip
noncomputable def K51_3 : List Item := (kAt 3 body51 []).getD []
def S51_3 (t0 : AV) : St := St.ofL [(0, .cell (.val (t0)))] []
noncomputable def F51_3 (run : List Item → St → Option AV) (t0 : AV) : Option AV := run K51_3 (S51_3 t0)
noncomputable def X51 (call : Nat → List AV → Option AV) (run : List Item → St → Option AV) (x0 : UInt8) : Option AV :=
  (selW (.b (uge x0 65)) true (some (.b (ule x0 90))) (.b false)).bind fun v1 => condM (v1)
  ((binI .add (.u8 x0) (.u8 32)).bind fun v2 => F51_3 run (v2))
  (F51_3 run (.u8 x0))
theorem text51 (call : Nat → List AV → Option AV) (run : List Item → St → Option AV) (x0 : UInt8) : unr C call run 51 Tryd.f51 400 [.code body51] (initSt [.u8 x0]) = X51 call run x0 := by
  kernel_rfl
theorem c51 (x0 : UInt8) {r : AV} (h : X51 (semCall C Tryd.prog) (semRun C Tryd.prog 51 Tryd.f51) x0 = some r) : semCall C Tryd.prog 51 [.u8 x0] = some r :=
  semCall_unr (fn := Tryd.f51) (c := body51) (by kernel_rfl) (by kernel_rfl) 400 (by kernel_rfl) ((text51 _ _ x0).trans h)
noncomputable def X51_3 (call : Nat → List AV → Option AV) (run : List Item → St → Option AV) (t0 : AV) : Option AV :=
  (AV.one (t0)).bind fun v1 => (b2s (.ro 1 (([v1] : List AV)))).bind fun v2 => some (v2)
theorem text51_3 (call : Nat → List AV → Option AV) (run : List Item → St → Option AV) (t0 : AV) : step C call 51 Tryd.f51 (unr C call run 51 Tryd.f51 400) K51_3 (S51_3 t0) = X51_3 call run t0 := by
  kernel_rfl
theorem r51_3 (t0 : AV) {r : AV} (h : X51_3 (semCall C Tryd.prog) (semRun C Tryd.prog 51 Tryd.f51) t0 = some r) : F51_3 (semRun C Tryd.prog 51 Tryd.f51) t0 = some r :=
  semRun_unr 400 ((text51_3 _ _ t0).trans h)
end R2

namespace R2
open Go Go.Proofs Sx
noncomputable def body52 : Code := (Tryd.f52.body).getD .skip
noncomputable def X52 (call : Nat → List AV → Option AV) (run : List Item → St → Option AV) (x0 : UInt8) : Option AV :=
  condM (.b (ueq x0 0))
  (some (.s []))
  ((call 77 [.u8 x0]).bind fun v1 => (binS .add (.s [60, 47]) (v1)).bind fun v2 => (binS .add (v2) (.s [62])).bind fun v3 => some (v3))
theorem text52 (call : Nat → List AV → Option AV) (run : List Item → St → Option AV) (x0 : UInt8) : unr C call run 52 Tryd.f52 400 [.code body52] (initSt [.u8 x0]) = X52 call run x0 := by
  kernel_rfl
theorem c52 (x0 : UInt8) {r : AV} (h : X52 (semCall C Tryd.prog) (semRun C Tryd.prog 52 Tryd.f52) x0 = some r) : semCall C Tryd.prog 52 [.u8 x0] = some r :=
  semCall_unr (fn := Tryd.f52) (c := body52) (by kernel_rfl) (by kernel_rfl) 400 (by kernel_rfl) ((text52 _ _ x0).trans h)
end R2

namespace R2
open Go Go.Proofs Sx
noncomputable def body53 : Code := (Tryd.f53.body).getD .skip
noncomputable def K53_4 : List Item := (kAt 4 body53 []).getD []
def S53_4 (t3 : List UInt8) (m1_0 : UInt8) (m1_1 : UInt8) (m1_2 : Bool) (m1_3 : UInt8) (m1_4 : UInt8) (m1_5 : UInt8) (m1_6 : UInt8) (m1_7 : Bool) (m1_8 : UInt8) (m1_9 : List UInt8) : St := St.ofL [(1, .cell (.ptr 1 0)), (3, .cell (.val (.s t3)))] [(1, some [.val (.u8 m1_0), .val (.u8 m1_1), .val (.b m1_2), .val (.u8 m1_3), .val (.u8 m1_4), .val (.u8 m1_5), .val (.u8 m1_6), .val (.b m1_7), .val (.u8 m1_8), .val (.s m1_9)])]
noncomputable def F53_4 (run : List Item → St → Option AV) (t3 : List UInt8) (m1_0 : UInt8) (m1_1 : UInt8) (m1_2 : Bool) (m1_3 : UInt8) (m1_4 : UInt8) (m1_5 : UInt8) (m1_6 : UInt8) (m1_7 : Bool) (m1_8 : UInt8) (m1_9 : List UInt8) : Option AV := run K53_4 (S53_4 t3 m1_0 m1_1 m1_2 m1_3 m1_4 m1_5 m1_6 m1_7 m1_8 m1_9)
noncomputable def K53_7 : List Item := (kAt 7 body53 []).getD []
def S53_7 (t3 : List UInt8) (t4 : Bool) (m1_0 : UInt8) (m1_1 : UInt8) (m1_2 : Bool) (m1_3 : UInt8) (m1_4 : UInt8) (m1_5 : UInt8) (m1_6 : UInt8) (m1_7 : Bool) (m1_8 : UInt8) (m1_9 : List UInt8) : St := St.ofL [(1, .cell (.ptr 1 0)), (3, .cell (.val (.s t3))), (4, .cell (.val (.b t4)))] [(1, some [.val (.u8 m1_0), .val (.u8 m1_1), .val (.b m1_2), .val (.u8 m1_3), .val (.u8 m1_4), .val (.u8 m1_5), .val (.u8 m1_6), .val (.b m1_7), .val (.u8 m1_8), .val (.s m1_9)])]
noncomputable def F53_7 (run : List Item → St → Option AV) (t3 : List UInt8) (t4 : Bool) (m1_0 : UInt8) (m1_1 : UInt8) (m1_2 : Bool) (m1_3 : UInt8) (m1_4 : UInt8) (m1_5 : UInt8) (m1_6 : UInt8) (m1_7 : Bool) (m1_8 : UInt8) (m1_9 : List UInt8) : Option AV := run K53_7 (S53_7 t3 t4 m1_0 m1_1 m1_2 m1_3 m1_4 m1_5 m1_6 m1_7 m1_8 m1_9)
noncomputable def X53 (call : Nat → List AV → Option AV) (run : List Item → St → Option AV) (x0_0 : UInt8) (x0_1 : UInt8) (x0_2 : Bool) (x0_3 : UInt8) (x0_4 : UInt8) (x0_5 : UInt8) (x0_6 : UInt8) (x0_7 : Bool) (x0_8 : UInt8) (x0_9 : List UInt8) : Option AV :=
  condM (.b x0_7)
  (F53_4 run [110] x0_0 x0_1 x0_2 x0_3 x0_4 x0_5 x0_6 x0_7 x0_8 x0_9)
  (F53_4 run [] x0_0 x0_1 x0_2 x0_3 x0_4 x0_5 x0_6 x0_7 x0_8 x0_9)
theorem text53 (call : Nat → List AV → Option AV) (run : List Item → St → Option AV) (x0_0 : UInt8) (x0_1 : UInt8) (x0_2 : Bool) (x0_3 : UInt8) (x0_4 : UInt8) (x0_5 : UInt8) (x0_6 : UInt8) (x0_7 : Bool) (x0_8 : UInt8) (x0_9 : List UInt8) : unr C call run 53 Tryd.f53 400 [.code body53] (initSt [.ag [.u8 x0_0, .u8 x0_1, .b x0_2, .u8 x0_3, .u8 x0_4, .u8 x0_5, .u8 x0_6, .b x0_7, .u8 x0_8, .s x0_9]]) = X53 call run x0_0 x0_1 x0_2 x0_3 x0_4 x0_5 x0_6 x0_7 x0_8 x0_9 := by
  kernel_rfl
theorem c53 (x0_0 : UInt8) (x0_1 : UInt8) (x0_2 : Bool) (x0_3 : UInt8) (x0_4 : UInt8) (x0_5 : UInt8) (x0_6 : UInt8) (x0_7 : Bool) (x0_8 : UInt8) (x0_9 : List UInt8) {r : AV} (h : X53 (semCall C Tryd.prog) (semRun C Tryd.prog 53 Tryd.f53) x0_0 x0_1 x0_2 x0_3 x0_4 x0_5 x0_6 x0_7 x0_8 x0_9 = some r) : semCall C Tryd.prog 53 [.ag [.u8 x0_0, .u8 x0_1, .b x0_2, .u8 x0_3, .u8 x0_4, .u8 x0_5, .u8 x0_6, .b x0_7, .u8 x0_8, .s x0_9]] = some r :=
  semCall_unr (fn := Tryd.f53) (c := body53) (by kernel_rfl) (by kernel_rfl) 400 (by kernel_rfl) ((text53 _ _ x0_0 x0_1 x0_2 x0_3 x0_4 x0_5 x0_6 x0_7 x0_8 x0_9).trans h)
noncomputable def X53_4 (call : Nat → List AV → Option AV) (run : List Item → St → Option AV) (t3 : List UInt8) (m1_0 : UInt8) (m1_1 : UInt8) (m1_2 : Bool) (m1_3 : UInt8) (m1_4 : UInt8) (m1_5 : UInt8) (m1_6 : UInt8) (m1_7 : Bool) (m1_8 : UInt8) (m1_9 : List UInt8) : Option AV :=
  condM (.b (ueq m1_0 8))
  (F53_7 run t3 (ueq m1_3 2) m1_0 m1_1 m1_2 m1_3 m1_4 m1_5 m1_6 m1_7 m1_8 m1_9)
  (F53_7 run t3 (ueq m1_1 3) m1_0 m1_1 m1_2 m1_3 m1_4 m1_5 m1_6 m1_7 m1_8 m1_9)
theorem text53_4 (call : Nat → List AV → Option AV) (run : List Item → St → Option AV) (t3 : List UInt8) (m1_0 : UInt8) (m1_1 : UInt8) (m1_2 : Bool) (m1_3 : UInt8) (m1_4 : UInt8) (m1_5 : UInt8) (m1_6 : UInt8) (m1_7 : Bool) (m1_8 : UInt8) (m1_9 : List UInt8) : step C call 53 Tryd.f53 (unr C call run 53 Tryd.f53 400) K53_4 (S53_4 t3 m1_0 m1_1 m1_2 m1_3 m1_4 m1_5 m1_6 m1_7 m1_8 m1_9) = X53_4 call run t3 m1_0 m1_1 m1_2 m1_3 m1_4 m1_5 m1_6 m1_7 m1_8 m1_9 := by
  kernel_rfl
noncomputable def X53_7 (call : Nat → List AV → Option AV) (run : List Item → St → Option AV) (t3 : List UInt8) (t4 : Bool) (m1_0 : UInt8) (m1_1 : UInt8) (m1_2 : Bool) (m1_3 : UInt8) (m1_4 : UInt8) (m1_5 : UInt8) (m1_6 : UInt8) (m1_7 : Bool) (m1_8 : UInt8) (m1_9 : List UInt8) : Option AV :=
  condM (.b (ueq m1_6 1))
  ((binS .add (.s t3) (.s [34])).bind fun v1 => some (v1))
  (condM (.b (ueq m1_6 2))
  ((binS .add (.s t3) (.s [39])).bind fun v2 => some (v2))
  (condM (.b (ueq m1_6 3))
  (condM (.b t4)
  (some (.s [47]))
  (some (.s [120])))
  (condM (.b (ueq m1_6 5))
  (some (.s [42, 47]))
  (condM (.b (ueq m1_6 6))
  (some (.s [47]))
  (some (.s []))))))
theorem text53_7 (call : Nat → List AV → Option AV) (run : List Item → St → Option AV) (t3 : List UInt8) (t4 : Bool) (m1_0 : UInt8) (m1_1 : UInt8) (m1_2 : Bool) (m1_3 : UInt8) (m1_4 : UInt8) (m1_5 : UInt8) (m1_6 : UInt8) (m1_7 : Bool) (m1_8 : UInt8) (m1_9 : List UInt8) : step C call 53 Tryd.f53 (unr C call run 53 Tryd.f53 400) K53_7 (S53_7 t3 t4 m1_0 m1_1 m1_2 m1_3 m1_4 m1_5 m1_6 m1_7 m1_8 m1_9) = X53_7 call run t3 t4 m1_0 m1_1 m1_2 m1_3 m1_4 m1_5 m1_6 m1_7 m1_8 m1_9 := by
  kernel_rfl
theorem r53_4 (t3 : List UInt8) (m1_0 : UInt8) (m1_1 : UInt8) (m1_2 : Bool) (m1_3 : UInt8) (m1_4 : UInt8) (m1_5 : UInt8) (m1_6 : UInt8) (m1_7 : Bool) (m1_8 : UInt8) (m1_9 : List UInt8) {r : AV} (h : X53_4 (semCall C Tryd.prog) (semRun C Tryd.prog 53 Tryd.f53) t3 m1_0 m1_1 m1_2 m1_3 m1_4 m1_5 m1_6 m1_7 m1_8 m1_9 = some r) : F53_4 (semRun C Tryd.prog 53 Tryd.f53) t3 m1_0 m1_1 m1_2 m1_3 m1_4 m1_5 m1_6 m1_7 m1_8 m1_9 = some r :=
  semRun_unr 400 ((text53_4 _ _ t3 m1_0 m1_1 m1_2 m1_3 m1_4 m1_5 m1_6 m1_7 m1_8 m1_9).trans h)
theorem r53_7 (t3 : List UInt8) (t4 : Bool) (m1_0 : UInt8) (m1_1 : UInt8) (m1_2 : Bool) (m1_3 : UInt8) (m1_4 : UInt8) (m1_5 : UInt8) (m1_6 : UInt8) (m1_7 : Bool) (m1_8 : UInt8) (m1_9 : List UInt8) {r : AV} (h : X53_7 (semCall C Tryd.prog) (semRun C Tryd.prog 53 Tryd.f53) t3 t4 m1_0 m1_1 m1_2 m1_3 m1_4 m1_5 m1_6 m1_7 m1_8 m1_9 = some r) : F53_7 (semRun C Tryd.prog 53 Tryd.f53) t3 t4 m1_0 m1_1 m1_2 m1_3 m1_4 m1_5 m1_6 m1_7 m1_8 m1_9 = some r :=
  semRun_unr 400 ((text53_7 _ _ t3 t4 m1_0 m1_1 m1_2 m1_3 m1_4 m1_5 m1_6 m1_7 m1_8 m1_9).trans h)
end R2

namespace R2
open Go Go.Proofs Sx
noncomputable def body54 : Code := (Tryd.f54.body).getD .skip
noncomputable def X54 (call : Nat → List AV → Option AV) (run : List Item → St → Option AV) (x0_0 : UInt8) (x0_1 : UInt8) (x0_2 : Bool) (x0_3 : UInt8) (x0_4 : UInt8) (x0_5 : UInt8) (x0_6 : UInt8) (x0_7 : Bool) (x0_8 : UInt8) (x0_9 : List UInt8) : Option AV :=
  condM (.b (une x0_0 19))
  ((call 53 [.ag [.u8 x0_0, .u8 x0_1, .b x0_2, .u8 x0_3, .u8 x0_4, .u8 x0_5, .u8 x0_6, .b x0_7, .u8 x0_8, .s x0_9]]).bind fun v1 => (call 52 [.u8 x0_1]).bind fun v2 => (binS .add (v1) (v2)).bind fun v3 => some (v3))
  ((selW (.b (ueq x0_6 0)) false (some (.b (ueq x0_6 4))) (.b true)).bind fun v4 => condM (v4)
  ((call 77 [.u8 x0_1]).bind fun v5 => (call 78 [v5, .s x0_9]).bind fun v6 => (binS .add (v6) (.s [62])).bind fun v7 => some (v7))
  ((binS .add (.s [47]) (.s x0_9)).bind fun v8 => (s2b (v8)).bind fun v9 => (call 23 [.ag [.u8 17, .u8 x0_1, .b false, .u8 0, .u8 0, .u8 0, .u8 x0_6, .b x0_7, .u8 0, .s []], v9]).bind fun v10 => (tupI (v10) 0).bind fun v11 => (tupI (v10) 1).bind fun v12 => (AV.asAg 10 (v11)).bind fun v13 => (call 53 [.ag [v13.getD 0 .un, v13.getD 1 .un, v13.getD 2 .un, v13.getD 3 .un, v13.getD 4 .un, v13.getD 5 .un, v13.getD 6 .un, v13.getD 7 .un, v13.getD 8 .un, v13.getD 9 .un]]).bind fun v14 => (call 52 [.u8 x0_1]).bind fun v15 => (binS .add (v14) (v15)).bind fun v16 => some (v16)))
theorem text54 (call : Nat → List AV → Option AV) (run : List Item → St → Option AV) (x0_0 : UInt8) (x0_1 : UInt8) (x0_2 : Bool) (x0_3 : UInt8) (x0_4 : UInt8) (x0_5 : UInt8) (x0_6 : UInt8) (x0_7 : Bool) (x0_8 : UInt8) (x0_9 : List UInt8) : unr C call run 54 Tryd.f54 400 [.code body54] (initSt [.ag [.u8 x0_0, .u8 x0_1, .b x0_2, .u8 x0_3, .u8 x0_4, .u8 x0_5, .u8 x0_6, .b x0_7, .u8 x0_8, .s x0_9]]) = X54 call run x0_0 x0_1 x0_2 x0_3 x0_4 x0_5 x0_6 x0_7 x0_8 x0_9 := by
  kernel_rfl
theorem c54 (x0_0 : UInt8) (x0_1 : UInt8) (x0_2 : Bool) (x0_3 : UInt8) (x0_4 : UInt8) (x0_5 : UInt8) (x0_6 : UInt8) (x0_7 : Bool) (x0_8 : UInt8) (x0_9 : List UInt8) {r : AV} (h : X54 (semCall C Tryd.prog) (semRun C Tryd.prog 54 Tryd.f54) x0_0 x0_1 x0_2 x0_3 x0_4 x0_5 x0_6 x0_7 x0_8 x0_9 = some r) : semCall C Tryd.prog 54 [.ag [.u8 x0_0, .u8 x0_1, .b x0_2, .u8 x0_3, .u8 x0_4, .u8 x0_5, .u8 x0_6, .b x0_7, .u8 x0_8, .s x0_9]] = some r :=
  semCall_unr (fn := Tryd.f54) (c := body54) (by kernel_rfl) (by kernel_rfl) 400 (by kernel_rfl) ((text54 _ _ x0_0 x0_1 x0_2 x0_3 x0_4 x0_5 x0_6 x0_7 x0_8 x0_9).trans h)
end R2

namespace R2
open Go Go.Proofs Sx
noncomputable def body55 : Code := (Tryd.f55.body).getD .skip
noncomputable def X55 (call : Nat → List AV → Option AV) (run : List Item → St → Option AV) (x0 : Int) : Option AV :=
  condM (.b (x0 == 0))
  (some (.s []))
  ((call 48 [.int x0]).bind fun v1 => (binS .add (.s [60, 47]) (v1)).bind fun v2 => (binS .add (v2) (.s [62])).bind fun v3 => some (v3))
theorem text55 (call : Nat → List AV → Option AV) (run : List Item → St → Option AV) (x0 : Int) : unr C call run 55 Tryd.f55 400 [.code body55] (initSt [.int x0]) = X55 call run x0 := by
  kernel_rfl
theorem c55 (x0 : Int) {r : AV} (h : X55 (semCall C Tryd.prog) (semRun C Tryd.prog 55 Tryd.f55) x0 = some r) : semCall C Tryd.prog 55 [.int x0] = some r :=
  semCall_unr (fn := Tryd.f55) (c := body55) (by kernel_rfl) (by kernel_rfl) 400 (by kernel_rfl) ((text55 _ _ x0).trans h)
end R2

namespace R2
open Go Go.Proofs Sx
noncomputable def body56 : Code := (Tryd.f56.body).getD .skip
noncomputable def K56_3 : List Item := (kAt 3 body56 []).getD []
def S56_3 (t0 : List UInt8) (t3 : List AV) (t4 : Int) : St := St.ofL [(0, .cell (.val (.s t0))), (3, .cell (.own 5 9 1 t3)), (4, .cell (.val (.int t4)))] []
noncomputable def F56_3 (run : List Item → St → Option AV) (t0 : List UInt8) (t3 : List AV) (t4 : Int) : Option AV := run K56_3 (S56_3 t0 t3 t4)
noncomputable def X56 (call : Nat → List AV → Option AV) (run : List Item → St → Option AV) (x0 : List UInt8) : Option AV :=
  F56_3 run x0 (([.s [], .s [116, 101, 120, 116, 97, 114, 101, 97], .s [116, 105, 116, 108, 101], .s [115, 99, 114, 105, 112, 116], .s [115, 116, 121, 108, 101]] : List AV)) 1
theorem text56 (call : Nat → List AV → Option AV) (run : List Item → St → Option AV) (x0 : List UInt8) : unr C call run 56 Tryd.f56 400 [.code body56] (initSt [.s x0]) = X56 call run x0 := by
  kernel_rfl
theorem c56 (x0 : List UInt8) {r : AV} (h : X56 (semCall C Tryd.prog) (semRun C Tryd.prog 56 Tryd.f56) x0 = some r) : semCall C Tryd.prog 56 [.s x0] = some r :=
  semCall_unr (fn := Tryd.f56) (c := body56) (by kernel_rfl) (by kernel_rfl) 400 (by kernel_rfl) ((text56 _ _ x0).trans h)
noncomputable def X56_3 (call : Nat → List AV → Option AV) (run : List Item → St → Option AV) (t0 : List UInt8) (t3 : List AV) (t4 : Int) : Option AV :=
  condM (.b (decide (t4 < 5)))
  ((inN t3.length (.int t4)).bind fun v1 => (binS .eql (AV.cell (t3.getD v1 .un) 0) (.s t0)).bind fun v2 => condM (v2)
  (some (.int t4))
  (F56_3 run t0 t3 (w64 (t4 + 1))))
  (some (.int 0))
theorem text56_3 (call : Nat → List AV → Option AV) (run : List Item → St → Option AV) (t0 : List UInt8) (t3 : List AV) (t4 : Int) : step C call 56 Tryd.f56 (unr C call run 56 Tryd.f56 400) K56_3 (S56_3 t0 t3 t4) = X56_3 call run t0 t3 t4 := by
  kernel_rfl
theorem r56_3 (t0 : List UInt8) (t3 : List AV) (t4 : Int) {r : AV} (h : X56_3 (semCall C Tryd.prog) (semRun C Tryd.prog 56 Tryd.f56) t0 t3 t4 = some r) : F56_3 (semRun C Tryd.prog 56 Tryd.f56) t0 t3 t4 = some r :=
  semRun_unr 400 ((text56_3 _ _ t0 t3 t4).trans h)
end R2

namespace R2
open Go Go.Proofs Sx
noncomputable def body57 : Code := (Tryd.f57.body).getD .skip
noncomputable def K57_15 : List Item := (kAt 15 body57 []).getD []
def S57_15 (t1 : Bool) (t7 : List UInt8) : St := St.ofL [(1, .cell (.val (.b t1))), (7, .cell (.val (.s t7)))] []
noncomputable def F57_15 (run : List Item → St → Option AV) (t1 : Bool) (t7 : List UInt8) : Option AV := run K57_15 (S57_15 t1 t7)
noncomputable def K57_17 : List Item := (kAt 17 body57 []).getD []
def S57_17 (t7 : AV) : St := St.ofL [(7, .cell (.val (t7)))] []
noncomputable def F57_17 (run : List Item → St → Option AV) (t7 : AV) : Option AV := run K57_17 (S57_17 t7)
noncomputable def X57 (call : Nat → List AV → Option AV) (run : List Item → St → Option AV) (x0 : Int) (x1 : Bool) (x2 : Bool) : Option AV :=
  condM (.b (x0 == 1))
  (F57_15 run x1 [34])
  (condM (.b (x0 == 2))
  (F57_15 run x1 [39])
  (condM (.b (x0 == 3))
  (condM (.b x2)
  (F57_15 run x1 [47])
  (F57_15 run x1 [120]))
  (condM (.b (x0 == 5))
  (F57_15 run x1 [42, 47])
  (condM (.b (x0 == 6))
  (F57_15 run x1 [47])
  (F57_15 run x1 [])))))
theorem text57 (call : Nat → List AV → Option AV) (run : List Item → St → Option AV) (x0 : Int) (x1 : Bool) (x2 : Bool) : unr C call run 57 Tryd.f57 400 [.code body57] (initSt [.int x0, .b x1, .b x2]) = X57 call run x0 x1 x2 := by
  kernel_rfl
theorem c57 (x0 : Int) (x1 : Bool) (x2 : Bool) {r : AV} (h : X57 (semCall C Tryd.prog) (semRun C Tryd.prog 57 Tryd.f57) x0 x1 x2 = some r) : semCall C Tryd.prog 57 [.int x0, .b x1, .b x2] = some r :=
  semCall_unr (fn := Tryd.f57) (c := body57) (by kernel_rfl) (by kernel_rfl) 400 (by kernel_rfl) ((text57 _ _ x0 x1 x2).trans h)
noncomputable def X57_15 (call : Nat → List AV → Option AV) (run : List Item → St → Option AV) (t1 : Bool) (t7 : List UInt8) : Option AV :=
  condM (.b t1)
  ((binS .add (.s [110]) (.s t7)).bind fun v1 => F57_17 run (v1))
  (F57_17 run (.s t7))
theorem text57_15 (call : Nat → List AV → Option AV) (run : List Item → St → Option AV) (t1 : Bool) (t7 : List UInt8) : step C call 57 Tryd.f57 (unr C call run 57 Tryd.f57 400) K57_15 (S57_15 t1 t7) = X57_15 call run t1 t7 := by
  kernel_rfl
noncomputable def X57_17 (call : Nat → List AV → Option AV) (run : List Item → St → Option AV) (t7 : AV) : Option AV :=
  some (t7)
theorem text57_17 (call : Nat → List AV → Option AV) (run : List Item → St → Option AV) (t7 : AV) : step C call 57 Tryd.f57 (unr C call run 57 Tryd.f57 400) K57_17 (S57_17 t7) = X57_17 call run t7 := by
  kernel_rfl
theorem r57_15 (t1 : Bool) (t7 : List UInt8) {r : AV} (h : X57_15 (semCall C Tryd.prog) (semRun C Tryd.prog 57 Tryd.f57) t1 t7 = some r) : F57_15 (semRun C Tryd.prog 57 Tryd.f57) t1 t7 = some r :=
  semRun_unr 400 ((text57_15 _ _ t1 t7).trans h)
theorem r57_17 (t7 : AV) {r : AV} (h : X57_17 (semCall C Tryd.prog) (semRun C Tryd.prog 57 Tryd.f57) t7 = some r) : F57_17 (semRun C Tryd.prog 57 Tryd.f57) t7 = some r :=
  semRun_unr 400 ((text57_17 _ _ t7).trans h)
end R2

namespace R2
open Go Go.Proofs Sx
noncomputable def body58 : Code := (Tryd.f58.body).getD .skip
noncomputable def X58 (call : Nat → List AV → Option AV) (run : List Item → St → Option AV) (x0_0 : UInt8) (x0_1 : UInt8) (x0_2 : Bool) (x0_3 : UInt8) (x0_4 : UInt8) (x0_5 : UInt8) (x0_6 : UInt8) (x0_7 : Bool) (x0_8 : UInt8) (x0_9 : List UInt8) : Option AV :=
  (selW (.b (ueq x0_6 1)) false (some (.b (ueq x0_6 2))) (.b true)).bind fun v1 => (selW (v1) true (some (.b (!x0_7))) (.b false)).bind fun v2 => some (v2)
theorem text58 (call : Nat → List AV → Option AV) (run : List Item → St → Option AV) (x0_0 : UInt8) (x0_1 : UInt8) (x0_2 : Bool) (x0_3 : UInt8) (x0_4 : UInt8) (x0_5 : UInt8) (x0_6 : UInt8) (x0_7 : Bool) (x0_8 : UInt8) (x0_9 : List UInt8) : unr C call run 58 Tryd.f58 400 [.code body58] (initSt [.ag [.u8 x0_0, .u8 x0_1, .b x0_2, .u8 x0_3, .u8 x0_4, .u8 x0_5, .u8 x0_6, .b x0_7, .u8 x0_8, .s x0_9]]) = X58 call run x0_0 x0_1 x0_2 x0_3 x0_4 x0_5 x0_6 x0_7 x0_8 x0_9 := by
  kernel_rfl
theorem c58 (x0_0 : UInt8) (x0_1 : UInt8) (x0_2 : Bool) (x0_3 : UInt8) (x0_4 : UInt8) (x0_5 : UInt8) (x0_6 : UInt8) (x0_7 : Bool) (x0_8 : UInt8) (x0_9 : List UInt8) {r : AV} (h : X58 (semCall C Tryd.prog) (semRun C Tryd.prog 58 Tryd.f58) x0_0 x0_1 x0_2 x0_3 x0_4 x0_5 x0_6 x0_7 x0_8 x0_9 = some r) : semCall C Tryd.prog 58 [.ag [.u8 x0_0, .u8 x0_1, .b x0_2, .u8 x0_3, .u8 x0_4, .u8 x0_5, .u8 x0_6, .b x0_7, .u8 x0_8, .s x0_9]] = some r :=
  semCall_unr (fn := Tryd.f58) (c := body58) (by kernel_rfl) (by kernel_rfl) 400 (by kernel_rfl) ((text58 _ _ x0_0 x0_1 x0_2 x0_3 x0_4 x0_5 x0_6 x0_7 x0_8 x0_9).trans h)
end R2

namespace R2
open Go Go.Proofs Sx
noncomputable def body61 : Code := (Tryd.f61.body).getD .skip
noncomputable def X61 (call : Nat → List AV → Option AV) (run : List Item → St → Option AV) (x0 : UInt8) : Option AV :=
  (call 81 [.u8 x0]).bind fun v1 => condM (v1)
  ((call 82 [.u8 x0]).bind fun v2 => (AV.one (v2)).bind fun v3 => (b2s (.ro 1 (([v3] : List AV)))).bind fun v4 => (AV.one (v4)).bind fun v5 => some (.tu [.ag [.u8 3, .u8 0, .b false, .u8 0, .u8 0, .u8 0, .u8 0, .b false, .u8 0, v5], .b true]))
  (condM (.b (ueq x0 47))
  (some (.tu [.ag [.u8 2, .u8 0, .b false, .u8 0, .u8 0, .u8 0, .u8 0, .b false, .u8 0, .s []], .b true]))
  (condM (.b (ueq x0 33))
  (some (.tu [.ag [.u8 11, .u8 0, .b false, .u8 0, .u8 0, .u8 0, .u8 0, .b false, .u8 0, .s []], .b true]))
  (condM (.b (ueq x0 63))
  (some (.tu [.ag [.u8 16, .u8 0, .b false, .u8 0, .u8 0, .u8 0, .u8 0, .b false, .u8 0, .s []], .b true]))
  (some (.tu [.ag [.u8 0, .u8 0, .b false, .u8 0, .u8 0, .u8 0, .u8 0, .b false, .u8 0, .s []], .b false])))))
theorem text61 (call : Nat → List AV → Option AV) (run : List Item → St → Option AV) (x0 : UInt8) : unr C call run 61 Tryd.f61 400 [.code body61] (initSt [.u8 x0]) = X61 call run x0 := by
  kernel_rfl
theorem c61 (x0 : UInt8) {r : AV} (h : X61 (semCall C Tryd.prog) (semRun C Tryd.prog 61 Tryd.f61) x0 = some r) : semCall C Tryd.prog 61 [.u8 x0] = some r :=
  semCall_unr (fn := Tryd.f61) (c := body61) (by kernel_rfl) (by kernel_rfl) 400 (by kernel_rfl) ((text61 _ _ x0).trans h)
end R2

namespace R2
open Go Go.Proofs Sx
noncomputable def body62 : Code := (Tryd.f62.body).getD .skip
noncomputable def X62 (call : Nat → List AV → Option AV) (run : List Item → St → Option AV) (x0 : UInt8) : Option AV :=
  (call 81 [.u8 x0]).bind fun v1 => condM (v1)
  ((call 82 [.u8 x0]).bind fun v2 => (AV.one (v2)).bind fun v3 => (b2s (.ro 1 (([v3] : List AV)))).bind fun v4 => (AV.one (v4)).bind fun v5 => some (.ag [.u8 3, .u8 0, .b true, .u8 0, .u8 0, .u8 0, .u8 0, .b false, .u8 0, v5]))
  (condM (.b (ueq x0 62))
  (some (.ag [.u8 0, .u8 0, .b false, .u8 0, .u8 0, .u8 0, .u8 0, .b false, .u8 0, .s []]))
  (some (.ag [.u8 16, .u8 0, .b false, .u8 0, .u8 0, .u8 0, .u8 0, .b false, .u8 0, .s []])))
theorem text62 (call : Nat → List AV → Option AV) (run : List Item → St → Option AV) (x0 : UInt8) : unr C call run 62 Tryd.f62 400 [.code body62] (initSt [.u8 x0]) = X62 call run x0 := by
  kernel_rfl
theorem c62 (x0 : UInt8) {r : AV} (h : X62 (semCall C Tryd.prog) (semRun C Tryd.prog 62 Tryd.f62) x0 = some r) : semCall C Tryd.prog 62 [.u8 x0] = some r :=
  semCall_unr (fn := Tryd.f62) (c := body62) (by kernel_rfl) (by kernel_rfl) 400 (by kernel_rfl) ((text62 _ _ x0).trans h)
end R2

namespace R2
open Go Go.Proofs Sx
noncomputable def body63 : Code := (Tryd.f63.body).getD .skip
noncomputable def K63_7 : List Item := (kAt 7 body63 []).getD []
def S63_7 (m2_0 : UInt8) (m2_1 : AV) (m2_2 : Bool) (m2_3 : UInt8) (m2_4 : UInt8) (m2_5 : UInt8) (m2_6 : UInt8) (m2_7 : Bool) (m2_8 : UInt8) (m2_9 : List UInt8) (m4_0 : UInt8) (m4_1 : UInt8) (m4_2 : Bool) (m4_3 : UInt8) (m4_4 : UInt8) (m4_5 : UInt8) (m4_6 : UInt8) (m4_7 : Bool) (m4_8 : UInt8) (m4_9 : List UInt8) : St := St.ofL [(2, .cell (.ptr 2 0)), (4, .cell (.ptr 4 0))] [(2, some [.val (.u8 m2_0), .val (m2_1), .val (.b m2_2), .val (.u8 m2_3), .val (.u8 m2_4), .val (.u8 m2_5), .val (.u8 m2_6), .val (.b m2_7), .val (.u8 m2_8), .val (.s m2_9)]), (4, some [.val (.u8 m4_0), .val (.u8 m4_1), .val (.b m4_2), .val (.u8 m4_3), .val (.u8 m4_4), .val (.u8 m4_5), .val (.u8 m4_6), .val (.b m4_7), .val (.u8 m4_8), .val (.s m4_9)])]
noncomputable def F63_7 (run : List Item → St → Option AV) (m2_0 : UInt8) (m2_1 : AV) (m2_2 : Bool) (m2_3 : UInt8) (m2_4 : UInt8) (m2_5 : UInt8) (m2_6 : UInt8) (m2_7 : Bool) (m2_8 : UInt8) (m2_9 : List UInt8) (m4_0 : UInt8) (m4_1 : UInt8) (m4_2 : Bool) (m4_3 : UInt8) (m4_4 : UInt8) (m4_5 : UInt8) (m4_6 : UInt8) (m4_7 : Bool) (m4_8 : UInt8) (m4_9 : List UInt8) : Option AV := run K63_7 (S63_7 m2_0 m2_1 m2_2 m2_3 m2_4 m2_5 m2_6 m2_7 m2_8 m2_9 m4_0 m4_1 m4_2 m4_3 m4_4 m4_5 m4_6 m4_7 m4_8 m4_9)
noncomputable def X63 (call : Nat → List AV → Option AV) (run : List Item → St → Option AV) (x0_0 : UInt8) (x0_1 : UInt8) (x0_2 : Bool) (x0_3 : UInt8) (x0_4 : UInt8) (x0_5 : UInt8) (x0_6 : UInt8) (x0_7 : Bool) (x0_8 : UInt8) (x0_9 : List UInt8) (x1 : UInt8) : Option AV :=
  condM (.b (ueq x0_0 3))
  ((call 83 [.u8 x1]).bind fun v1 => (unop .not (v1)).bind fun v2 => (selW (v2) true (some (.b (une x1 47))) (.b false)).bind fun v3 => (selW (v3) true (some (.b (une x1 62))) (.b false)).bind fun v4 => condM (v4)
  ((call 84 [.ag [.u8 x0_0, .u8 x0_1, .b x0_2, .u8 x0_3, .u8 x0_4, .u8 x0_5, .u8 x0_6, .b x0_7, .u8 x0_8, .s x0_9], .u8 x1]).bind fun v5 => (AV.asAg 10 (v5)).bind fun v6 => some (.tu [.ag [v6.getD 0 .un, v6.getD 1 .un, v6.getD 2 .un, v6.getD 3 .un, v6.getD 4 .un, v6.getD 5 .un, v6.getD 6 .un, v6.getD 7 .un, v6.getD 8 .un, v6.getD 9 .un], .b false]))
  (condM (.b (!x0_2))
  ((call 26 [.s x0_9]).bind fun v7 => (AV.one (v7)).bind fun v8 => F63_7 run x0_0 (v8) x0_2 x0_3 x0_4 x0_5 x0_6 x0_7 x0_8 x0_9 0 0 false 0 0 0 0 false 0 [])
  (F63_7 run x0_0 (.u8 x0_1) x0_2 x0_3 x0_4 x0_5 x0_6 x0_7 x0_8 x0_9 0 0 false 0 0 0 0 false 0 [])))
  (condM (.b (ueq x0_0 9))
  ((call 83 [.u8 x1]).bind fun v9 => condM (v9)
  ((call 85 [.ag [.u8 x0_0, .u8 x0_1, .b x0_2, .u8 x0_3, .u8 x0_4, .u8 x0_5, .u8 x0_6, .b x0_7, .u8 x0_8, .s x0_9], .u8 4]).bind fun v10 => (AV.asAg 10 (v10)).bind fun v11 => some (.tu [.ag [v11.getD 0 .un, v11.getD 1 .un, v11.getD 2 .un, v11.getD 3 .un, v11.getD 4 .un, v11.getD 5 .un, v11.getD 6 .un, v11.getD 7 .un, v11.getD 8 .un, v11.getD 9 .un], .b false]))
  (condM (.b (ueq x1 47))
  ((call 85 [.ag [.u8 x0_0, .u8 x0_1, .b x0_2, .u8 x0_3, .u8 x0_4, .u8 x0_5, .u8 x0_6, .b x0_7, .u8 x0_8, .s x0_9], .u8 10]).bind fun v12 => (AV.asAg 10 (v12)).bind fun v13 => some (.tu [.ag [v13.getD 0 .un, v13.getD 1 .un, v13.getD 2 .un, v13.getD 3 .un, v13.getD 4 .un, v13.getD 5 .un, v13.getD 6 .un, v13.getD 7 .un, v13.getD 8 .un, v13.getD 9 .un], .b false]))
  (condM (.b (ueq x1 62))
  ((call 86 [.u8 x0_1]).bind fun v14 => (AV.asAg 10 (v14)).bind fun v15 => some (.tu [.ag [v15.getD 0 .un, v15.getD 1 .un, v15.getD 2 .un, v15.getD 3 .un, v15.getD 4 .un, v15.getD 5 .un, v15.getD 6 .un, v15.getD 7 .un, v15.getD 8 .un, v15.getD 9 .un], .b false]))
  (some (.tu [.ag [.u8 20, .u8 0, .b false, .u8 0, .u8 0, .u8 0, .u8 0, .b false, .u8 0, .s []], .b false])))))
  (condM (.b (ueq x0_0 10))
  (condM (.b (ueq x1 62))
  ((call 86 [.u8 x0_1]).bind fun v16 => (AV.asAg 10 (v16)).bind fun v17 => some (.tu [.ag [v17.getD 0 .un, v17.getD 1 .un, v17.getD 2 .un, v17.getD 3 .un, v17.getD 4 .un, v17.getD 5 .un, v17.getD 6 .un, v17.getD 7 .un, v17.getD 8 .un, v17.getD 9 .un], .b false]))
  ((call 85 [.ag [.u8 x0_0, .u8 x0_1, .b x0_2, .u8 x0_3, .u8 x0_4, .u8 x0_5, .u8 x0_6, .b x0_7, .u8 x0_8, .s x0_9], .u8 4]).bind fun v18 => (AV.asAg 10 (v18)).bind fun v19 => some (.tu [.ag [v19.getD 0 .un, v19.getD 1 .un, v19.getD 2 .un, v19.getD 3 .un, v19.getD 4 .un, v19.getD 5 .un, v19.getD 6 .un, v19.getD 7 .un, v19.getD 8 .un, v19.getD 9 .un], .b true])))
  (condM (.b (ueq x0_0 4))
  ((call 83 [.u8 x1]).bind fun v20 => condM (v20)
  (some (.tu [.ag [.u8 x0_0, .u8 x0_1, .b x0_2, .u8 x0_3, .u8 x0_4, .u8 x0_5, .u8 x0_6, .b x0_7, .u8 x0_8, .s x0_9], .b false]))
  ((selW (.b (ueq x1 47)) false (some (.b (ueq x1 62))) (.b true)).bind fun v21 => condM (v21)
  ((call 85 [.ag [.u8 x0_0, .u8 x0_1, .b x0_2, .u8 x0_3, .u8 x0_4, .u8 x0_5, .u8 x0_6, .b x0_7, .u8 x0_8, .s x0_9], .u8 9]).bind fun v22 => (AV.asAg 10 (v22)).bind fun v23 => some (.tu [.ag [v23.getD 0 .un, v23.getD 1 .un, v23.getD 2 .un, v23.getD 3 .un, v23.getD 4 .un, v23.getD 5 .un, v23.getD 6 .un, v23.getD 7 .un, v23.getD 8 .un, v23.getD 9 .un], .b true]))
  (condM (.b (ueq x1 61))
  (some (.tu [.ag [.u8 20, .u8 0, .b false, .u8 0, .u8 0, .u8 0, .u8 0, .b false, .u8 0, .s []], .b false]))
  (some (.tu [.ag [.u8 5, .u8 x0_1, .b x0_2, .u8 x0_3, .u8 x0_4, .u8 x0_5, .u8 x0_6, .b x0_7, .u8 x0_8, .s x0_9], .b true])))))
  (condM (.b (ueq x0_0 7))
  ((call 87 [.ag [.u8 x0_0, .u8 x0_1, .b x0_2, .u8 x0_3, .u8 x0_4, .u8 x0_5, .u8 x0_6, .b x0_7, .u8 x0_8, .s x0_9], .u8 x1]).bind fun v24 => (tupI (v24) 0).bind fun v25 => (tupI (v24) 1).bind fun v26 => (AV.asAg 10 (v25)).bind fun v27 => some (.tu [.ag [v27.getD 0 .un, v27.getD 1 .un, v27.getD 2 .un, v27.getD 3 .un, v27.getD 4 .un, v27.getD 5 .un, v27.getD 6 .un, v27.getD 7 .un, v27.getD 8 .un, v27.getD 9 .un], v26]))
  ((call 88 [.ag [.u8 x0_0, .u8 x0_1, .b x0_2, .u8 x0_3, .u8 x0_4, .u8 x0_5, .u8 x0_6, .b x0_7, .u8 x0_8, .s x0_9], .u8 x1]).bind fun v28 => (tupI (v28) 0).bind fun v29 => (tupI (v28) 1).bind fun v30 => (AV.asAg 10 (v29)).bind fun v31 => some (.tu [.ag [v31.getD 0 .un, v31.getD 1 .un, v31.getD 2 .un, v31.getD 3 .un, v31.getD 4 .un, v31.getD 5 .un, v31.getD 6 .un, v31.getD 7 .un, v31.getD 8 .un, v31.getD 9 .un], v30]))))))
theorem text63 (call : Nat → List AV → Option AV) (run : List Item → St → Option AV) (x0_0 : UInt8) (x0_1 : UInt8) (x0_2 : Bool) (x0_3 : UInt8) (x0_4 : UInt8) (x0_5 : UInt8) (x0_6 : UInt8) (x0_7 : Bool) (x0_8 : UInt8) (x0_9 : List UInt8) (x1 : UInt8) : unr C call run 63 Tryd.f63 400 [.code body63] (initSt [.ag [.u8 x0_0, .u8 x0_1, .b x0_2, .u8 x0_3, .u8 x0_4, .u8 x0_5, .u8 x0_6, .b x0_7, .u8 x0_8, .s x0_9], .u8 x1]) = X63 call run x0_0 x0_1 x0_2 x0_3 x0_4 x0_5 x0_6 x0_7 x0_8 x0_9 x1 := by
  kernel_rfl
theorem c63 (x0_0 : UInt8) (x0_1 : UInt8) (x0_2 : Bool) (x0_3 : UInt8) (x0_4 : UInt8) (x0_5 : UInt8) (x0_6 : UInt8) (x0_7 : Bool) (x0_8 : UInt8) (x0_9 : List UInt8) (x1 : UInt8) {r : AV} (h : X63 (semCall C Tryd.prog) (semRun C Tryd.prog 63 Tryd.f63) x0_0 x0_1 x0_2 x0_3 x0_4 x0_5 x0_6 x0_7 x0_8 x0_9 x1 = some r) : semCall C Tryd.prog 63 [.ag [.u8 x0_0, .u8 x0_1, .b x0_2, .u8 x0_3, .u8 x0_4, .u8 x0_5, .u8 x0_6, .b x0_7, .u8 x0_8, .s x0_9], .u8 x1] = some r :=
  semCall_unr (fn := Tryd.f63) (c := body63) (by kernel_rfl) (by kernel_rfl) 400 (by kernel_rfl) ((text63 _ _ x0_0 x0_1 x0_2 x0_3 x0_4 x0_5 x0_6 x0_7 x0_8 x0_9 x1).trans h)
noncomputable def X63_7 (call : Nat → List AV → Option AV) (run : List Item → St → Option AV) (m2_0 : UInt8) (m2_1 : AV) (m2_2 : Bool) (m2_3 : UInt8) (m2_4 : UInt8) (m2_5 : UInt8) (m2_6 : UInt8) (m2_7 : Bool) (m2_8 : UInt8) (m2_9 : List UInt8) (m4_0 : UInt8) (m4_1 : UInt8) (m4_2 : Bool) (m4_3 : UInt8) (m4_4 : UInt8) (m4_5 : UInt8) (m4_6 : UInt8) (m4_7 : Bool) (m4_8 : UInt8) (m4_9 : List UInt8) : Option AV :=
  (call 85 [.ag [.u8 m2_0, m2_1, .b m2_2, .u8 m2_3, .u8 m2_4, .u8 m2_5, .u8 m2_6, .b m2_7, .u8 m2_8, .s m2_9], .u8 9]).bind fun v1 => (AV.asAg 10 (v1)).bind fun v2 => some (.tu [.ag [v2.getD 0 .un, v2.getD 1 .un, v2.getD 2 .un, v2.getD 3 .un, v2.getD 4 .un, v2.getD 5 .un, v2.getD 6 .un, v2.getD 7 .un, v2.getD 8 .un, v2.getD 9 .un], .b true])
theorem text63_7 (call : Nat → List AV → Option AV) (run : List Item → St → Option AV) (m2_0 : UInt8) (m2_1 : AV) (m2_2 : Bool) (m2_3 : UInt8) (m2_4 : UInt8) (m2_5 : UInt8) (m2_6 : UInt8) (m2_7 : Bool) (m2_8 : UInt8) (m2_9 : List UInt8) (m4_0 : UInt8) (m4_1 : UInt8) (m4_2 : Bool) (m4_3 : UInt8) (m4_4 : UInt8) (m4_5 : UInt8) (m4_6 : UInt8) (m4_7 : Bool) (m4_8 : UInt8) (m4_9 : List UInt8) : step C call 63 Tryd.f63 (unr C call run 63 Tryd.f63 400) K63_7 (S63_7 m2_0 m2_1 m2_2 m2_3 m2_4 m2_5 m2_6 m2_7 m2_8 m2_9 m4_0 m4_1 m4_2 m4_3 m4_4 m4_5 m4_6 m4_7 m4_8 m4_9) = X63_7 call run m2_0 m2_1 m2_2 m2_3 m2_4 m2_5 m2_6 m2_7 m2_8 m2_9 m4_0 m4_1 m4_2 m4_3 m4_4 m4_5 m4_6 m4_7 m4_8 m4_9 := by
  kernel_rfl
theorem r63_7 (m2_0 : UInt8) (m2_1 : AV) (m2_2 : Bool) (m2_3 : UInt8) (m2_4 : UInt8) (m2_5 : UInt8) (m2_6 : UInt8) (m2_7 : Bool) (m2_8 : UInt8) (m2_9 : List UInt8) (m4_0 : UInt8) (m4_1 : UInt8) (m4_2 : Bool) (m4_3 : UInt8) (m4_4 : UInt8) (m4_5 : UInt8) (m4_6 : UInt8) (m4_7 : Bool) (m4_8 : UInt8) (m4_9 : List UInt8) {r : AV} (h : X63_7 (semCall C Tryd.prog) (semRun C Tryd.prog 63 Tryd.f63) m2_0 m2_1 m2_2 m2_3 m2_4 m2_5 m2_6 m2_7 m2_8 m2_9 m4_0 m4_1 m4_2 m4_3 m4_4 m4_5 m4_6 m4_7 m4_8 m4_9 = some r) : F63_7 (semRun C Tryd.prog 63 Tryd.f63) m2_0 m2_1 m2_2 m2_3 m2_4 m2_5 m2_6 m2_7 m2_8 m2_9 m4_0 m4_1 m4_2 m4_3 m4_4 m4_5 m4_6 m4_7 m4_8 m4_9 = some r :=
  semRun_unr 400 ((text63_7 _ _ m2_0 m2_1 m2_2 m2_3 m2_4 m2_5 m2_6 m2_7 m2_8 m2_9 m4_0 m4_1 m4_2 m4_3 m4_4 m4_5 m4_6 m4_7 m4_8 m4_9).trans h)
end R2

namespace R2
open Go Go.Proofs Sx
noncomputable def body64 : Code := (Tryd.f64.body).getD .skip
noncomputable def X64 (call : Nat → List AV → Option AV) (run : List Item → St → Option AV) (x0_0 : UInt8) (x0_1 : UInt8) (x0_2 : Bool) (x0_3 : UInt8) (x0_4 : UInt8) (x0_5 : UInt8) (x0_6 : UInt8) (x0_7 : Bool) (x0_8 : UInt8) (x0_9 : List UInt8) (x1 : UInt8) : Option AV :=
  (selW (.b (!(ueq x0_4 0))) true (some (.b (ueq x1 x0_4))) (.b false)).bind fun v1 => (selW (v1) false ((selW (.b (ueq x0_4 0)) true ((call 83 [.u8 x1]).bind fun v2 => (selW (v2) false (some (.b (ueq x1 62))) (.b true)).bind fun v3 => some (v3)) (.b false)).bind fun v4 => some (v4)) (.b true)).bind fun v5 => condM (v5)
  ((call 89 [.ag [.u8 x0_0, .u8 x0_1, .b x0_2, .u8 x0_3, .u8 x0_4, .u8 x0_5, .u8 x0_6, .b x0_7, .u8 x0_8, .s x0_9]]).bind fun v6 => (unop .not (v6)).bind fun v7 => condM (v7)
  (some (.ag [.u8 20, .u8 0, .b false, .u8 0, .u8 0, .u8 0, .u8 0, .b false, .u8 0, .s []]))
  (condM (.b (!(ueq x0_4 0)))
  ((call 85 [.ag [.u8 x0_0, .u8 x0_1, .b x0_2, .u8 x0_3, .u8 x0_4, .u8 x0_5, .u8 x0_6, .b x0_7, .u8 x0_8, .s x0_9], .u8 9]).bind fun v8 => (AV.asAg 10 (v8)).bind fun v9 => some (.ag [v9.getD 0 .un, v9.getD 1 .un, v9.getD 2 .un, v9.getD 3 .un, v9.getD 4 .un, v9.getD 5 .un, v9.getD 6 .un, v9.getD 7 .un, v9.getD 8 .un, v9.getD 9 .un]))
  (condM (.b (ueq x1 62))
  ((call 86 [.u8 x0_1]).bind fun v10 => (AV.asAg 10 (v10)).bind fun v11 => some (.ag [v11.getD 0 .un, v11.getD 1 .un, v11.getD 2 .un, v11.getD 3 .un, v11.getD 4 .un, v11.getD 5 .un, v11.getD 6 .un, v11.getD 7 .un, v11.getD 8 .un, v11.getD 9 .un]))
  ((call 85 [.ag [.u8 x0_0, .u8 x0_1, .b x0_2, .u8 x0_3, .u8 x0_4, .u8 x0_5, .u8 x0_6, .b x0_7, .u8 x0_8, .s x0_9], .u8 4]).bind fun v12 => (AV.asAg 10 (v12)).bind fun v13 => some (.ag [v13.getD 0 .un, v13.getD 1 .un, v13.getD 2 .un, v13.getD 3 .un, v13.getD 4 .un, v13.getD 5 .un, v13.getD 6 .un, v13.getD 7 .un, v13.getD 8 .un, v13.getD 9 .un])))))
  ((selW (.b (ueq x0_4 0)) true ((call 90 [.s [34, 39, 60, 61, 96], .u8 x1]).bind fun v14 => (binI .geq (v14) (.int 0)).bind fun v15 => some (v15)) (.b false)).bind fun v16 => condM (v16)
  (some (.ag [.u8 20, .u8 0, .b false, .u8 0, .u8 0, .u8 0, .u8 0, .b false, .u8 0, .s []]))
  (condM (.b (ueq x0_3 1))
  ((call 91 [.ag [.u8 x0_0, .u8 x0_1, .b x0_2, .u8 x0_3, .u8 x0_4, .u8 x0_5, .u8 x0_6, .b x0_7, .u8 x0_8, .s x0_9], .u8 x1]).bind fun v17 => (AV.asAg 10 (v17)).bind fun v18 => some (.ag [v18.getD 0 .un, v18.getD 1 .un, v18.getD 2 .un, v18.getD 3 .un, v18.getD 4 .un, v18.getD 5 .un, v18.getD 6 .un, v18.getD 7 .un, v18.getD 8 .un, v18.getD 9 .un]))
  ((selW (.b (ueq x0_3 2)) false (some (.b (ueq x0_3 3))) (.b true)).bind fun v19 => condM (v19)
  (condM (.b (ueq x1 38))
  (some (.ag [.u8 20, .u8 0, .b false, .u8 0, .u8 0, .u8 0, .u8 0, .b false, .u8 0, .s []]))
  ((call 92 [.ag [.u8 x0_0, .u8 x0_1, .b x0_2, .u8 x0_3, .u8 x0_4, .u8 x0_5, .u8 x0_6, .b x0_7, .u8 x0_8, .s x0_9], .u8 x1, .b (ueq x0_3 2)]).bind fun v20 => (AV.asAg 10 (v20)).bind fun v21 => some (.ag [v21.getD 0 .un, v21.getD 1 .un, v21.getD 2 .un, v21.getD 3 .un, v21.getD 4 .un, v21.getD 5 .un, v21.getD 6 .un, v21.getD 7 .un, v21.getD 8 .un, v21.getD 9 .un])))
  (some (.ag [.u8 x0_0, .u8 x0_1, .b x0_2, .u8 x0_3, .u8 x0_4, .u8 x0_5, .u8 x0_6, .b x0_7, .u8 x0_8, .s x0_9])))))
theorem text64 (call : Nat → List AV → Option AV) (run : List Item → St → Option AV) (x0_0 : UInt8) (x0_1 : UInt8) (x0_2 : Bool) (x0_3 : UInt8) (x0_4 : UInt8) (x0_5 : UInt8) (x0_6 : UInt8) (x0_7 : Bool) (x0_8 : UInt8) (x0_9 : List UInt8) (x1 : UInt8) : unr C call run 64 Tryd.f64 400 [.code body64] (initSt [.ag [.u8 x0_0, .u8 x0_1, .b x0_2, .u8 x0_3, .u8 x0_4, .u8 x0_5, .u8 x0_6, .b x0_7, .u8 x0_8, .s x0_9], .u8 x1]) = X64 call run x0_0 x0_1 x0_2 x0_3 x0_4 x0_5 x0_6 x0_7 x0_8 x0_9 x1 := by
  kernel_rfl
theorem c64 (x0_0 : UInt8) (x0_1 : UInt8) (x0_2 : Bool) (x0_3 : UInt8) (x0_4 : UInt8) (x0_5 : UInt8) (x0_6 : UInt8) (x0_7 : Bool) (x0_8 : UInt8) (x0_9 : List UInt8) (x1 : UInt8) {r : AV} (h : X64 (semCall C Tryd.prog) (semRun C Tryd.prog 64 Tryd.f64) x0_0 x0_1 x0_2 x0_3 x0_4 x0_5 x0_6 x0_7 x0_8 x0_9 x1 = some r) : semCall C Tryd.prog 64 [.ag [.u8 x0_0, .u8 x0_1, .b x0_2, .u8 x0_3, .u8 x0_4, .u8 x0_5, .u8 x0_6, .b x0_7, .u8 x0_8, .s x0_9], .u8 x1] = some r :=
  semCall_unr (fn := Tryd.f64) (c := body64) (by kernel_rfl) (by kernel_rfl) 400 (by kernel_rfl) ((text64 _ _ x0_0 x0_1 x0_2 x0_3 x0_4 x0_5 x0_6 x0_7 x0_8 x0_9 x1).trans h)
end R2

namespace R2
open Go Go.Proofs Sx
noncomputable def body65 : Code := (Tryd.f65.body).getD .skip
noncomputable def K65_17 : List Item := (kAt 17 body65 []).getD []
def S65_17 (t1 : UInt8) (t2 : Bool) (m3_0 : AV) (m3_1 : AV) (m3_2 : AV) (m3_3 : AV) (m3_4 : AV) (m3_5 : AV) (m3_6 : AV) (m3_7 : AV) (m3_8 : AV) (m3_9 : AV) (m6_0 : UInt8) (m6_1 : UInt8) (m6_2 : Bool) (m6_3 : UInt8) (m6_4 : UInt8) (m6_5 : UInt8) (m6_6 : UInt8) (m6_7 : Bool) (m6_8 : UInt8) (m6_9 : List UInt8) : St := St.ofL [(1, .cell (.val (.u8 t1))), (2, .cell (.val (.b t2))), (3, .cell (.ptr 3 0)), (6, .cell (.ptr 6 0))] [(3, some [.val (m3_0), .val (m3_1), .val (m3_2), .val (m3_3), .val (m3_4), .val (m3_5), .val (m3_6), .val (m3_7), .val (m3_8), .val (m3_9)]), (6, some [.val (.u8 m6_0), .val (.u8 m6_1), .val (.b m6_2), .val (.u8 m6_3), .val (.u8 m6_4), .val (.u8 m6_5), .val (.u8 m6_6), .val (.b m6_7), .val (.u8 m6_8), .val (.s m6_9)])]
noncomputable def F65_17 (run : List Item → St → Option AV) (t1 : UInt8) (t2 : Bool) (m3_0 : AV) (m3_1 : AV) (m3_2 : AV) (m3_3 : AV) (m3_4 : AV) (m3_5 : AV) (m3_6 : AV) (m3_7 : AV) (m3_8 : AV) (m3_9 : AV) (m6_0 : UInt8) (m6_1 : UInt8) (m6_2 : Bool) (m6_3 : UInt8) (m6_4 : UInt8) (m6_5 : UInt8) (m6_6 : UInt8) (m6_7 : Bool) (m6_8 : UInt8) (m6_9 : List UInt8) : Option AV := run K65_17 (S65_17 t1 t2 m3_0 m3_1 m3_2 m3_3 m3_4 m3_5 m3_6 m3_7 m3_8 m3_9 m6_0 m6_1 m6_2 m6_3 m6_4 m6_5 m6_6 m6_7 m6_8 m6_9)
noncomputable def K65_22 : List Item := (kAt 22 body65 []).getD []
def S65_22 (m3_0 : AV) (m3_1 : AV) (m3_2 : AV) (m3_3 : AV) (m3_4 : AV) (m3_5 : AV) (m3_6 : AV) (m3_7 : AV) (m3_8 : AV) (m3_9 : AV) (m6_0 : UInt8) (m6_1 : UInt8) (m6_2 : Bool) (m6_3 : UInt8) (m6_4 : UInt8) (m6_5 : UInt8) (m6_6 : UInt8) (m6_7 : Bool) (m6_8 : UInt8) (m6_9 : List UInt8) : St := St.ofL [(3, .cell (.ptr 3 0)), (6, .cell (.ptr 6 0))] [(3, some [.val (m3_0), .val (m3_1), .val (m3_2), .val (m3_3), .val (m3_4), .val (m3_5), .val (m3_6), .val (m3_7), .val (m3_8), .val (m3_9)]), (6, some [.val (.u8 m6_0), .val (.u8 m6_1), .val (.b m6_2), .val (.u8 m6_3), .val (.u8 m6_4), .val (.u8 m6_5), .val (.u8 m6_6), .val (.b m6_7), .val (.u8 m6_8), .val (.s m6_9)])]
noncomputable def F65_22 (run : List Item → St → Option AV) (m3_0 : AV) (m3_1 : AV) (m3_2 : AV) (m3_3 : AV) (m3_4 : AV) (m3_5 : AV) (m3_6 : AV) (m3_7 : AV) (m3_8 : AV) (m3_9 : AV) (m6_0 : UInt8) (m6_1 : UInt8) (m6_2 : Bool) (m6_3 : UInt8) (m6_4 : UInt8) (m6_5 : UInt8) (m6_6 : UInt8) (m6_7 : Bool) (m6_8 : UInt8) (m6_9 : List UInt8) : Option AV := run K65_22 (S65_22 m3_0 m3_1 m3_2 m3_3 m3_4 m3_5 m3_6 m3_7 m3_8 m3_9 m6_0 m6_1 m6_2 m6_3 m6_4 m6_5 m6_6 m6_7 m6_8 m6_9)
noncomputable def X65 (call : Nat → List AV → Option AV) (run : List Item → St → Option AV) (x0_0 : UInt8) (x0_1 : UInt8) (x0_2 : Bool) (x0_3 : UInt8) (x0_4 : UInt8) (x0_5 : UInt8) (x0_6 : UInt8) (x0_7 : Bool) (x0_8 : UInt8) (x0_9 : List UInt8) (x1 : UInt8) (x2 : Bool) : Option AV :=
  (call 77 [.u8 x0_1]).bind fun v1 => (selW (.b (ueq x0_0 18)) true (some (.b (ueq x1 47))) (.b false)).bind fun v2 => condM (v2)
  (some (.ag [.u8 19, .u8 x0_1, .b x0_2, .u8 x0_3, .u8 x0_4, .u8 x0_5, .u8 x0_6, .b x0_7, .u8 x0_8, .s x0_9]))
  ((selW (.b (ueq x0_0 18)) true (some (.b (ueq x1 33))) (.b false)).bind fun v3 => (selW (v3) true (some (.b (ueq x0_1 3))) (.b false)).bind fun v4 => condM (v4)
  (some (.ag [.u8 20, .u8 0, .b false, .u8 0, .u8 0, .u8 0, .u8 0, .b false, .u8 0, .s []]))
  ((selW (.b (ueq x0_0 19)) true ((binS .eql (.s x0_9) (v1)).bind fun v5 => some (v5)) (.b false)).bind fun v6 => (selW (v6) true ((call 83 [.u8 x1]).bind fun v7 => (selW (v7) false (some (.b (ueq x1 47))) (.b true)).bind fun v8 => (selW (v8) false (some (.b (ueq x1 62))) (.b true)).bind fun v9 => some (v9)) (.b false)).bind fun v10 => condM (v10)
  ((call 89 [.ag [.u8 x0_0, .u8 x0_1, .b x0_2, .u8 x0_3, .u8 x0_4, .u8 x0_5, .u8 x0_6, .b x0_7, .u8 x0_8, .s x0_9]]).bind fun v11 => (unop .not (v11)).bind fun v12 => condM (v12)
  (some (.ag [.u8 20, .u8 0, .b false, .u8 0, .u8 0, .u8 0, .u8 0, .b false, .u8 0, .s []]))
  ((call 63 [.ag [.u8 9, .u8 0, .b true, .u8 0, .u8 0, .u8 0, .u8 0, .b false, .u8 0, .s []], .u8 x1]).bind fun v13 => (tupI (v13) 0).bind fun v14 => (tupI (v13) 1).bind fun v15 => (AV.asAg 10 (v14)).bind fun v16 => some (.ag [v16.getD 0 .un, v16.getD 1 .un, v16.getD 2 .un, v16.getD 3 .un, v16.getD 4 .un, v16.getD 5 .un, v16.getD 6 .un, v16.getD 7 .un, v16.getD 8 .un, v16.getD 9 .un])))
  ((selW (.b (ueq x0_0 19)) true ((call 82 [.u8 x1]).bind fun v17 => (AV.one (v17)).bind fun v18 => (b2s (.ro 1 (([v18] : List AV)))).bind fun v19 => (binS .add (.s x0_9) (v19)).bind fun v20 => (call 76 [v1, v20]).bind fun v21 => some (v21)) (.b false)).bind fun v22 => condM (v22)
  ((call 82 [.u8 x1]).bind fun v23 => (AV.one (v23)).bind fun v24 => (b2s (.ro 1 (([v24] : List AV)))).bind fun v25 => (binS .add (.s x0_9) (v25)).bind fun v26 => (AV.one (v26)).bind fun v27 => some (.ag [.u8 x0_0, .u8 x0_1, .b x0_2, .u8 x0_3, .u8 x0_4, .u8 x0_5, .u8 x0_6, .b x0_7, .u8 x0_8, v27]))
  (condM (.b (ueq x0_0 19))
  ((binS .add (.s [47]) (.s x0_9)).bind fun v28 => (call 93 [.ag [.u8 x0_0, .u8 x0_1, .b x0_2, .u8 x0_3, .u8 x0_4, .u8 x0_5, .u8 x0_6, .b x0_7, .u8 x0_8, .s x0_9], v28, .b x2]).bind fun v29 => (AV.asAg 10 (v29)).bind fun v30 => F65_17 run x1 x2 (v30.getD 0 .un) (v30.getD 1 .un) (v30.getD 2 .un) (v30.getD 3 .un) (v30.getD 4 .un) (v30.getD 5 .un) (v30.getD 6 .un) (v30.getD 7 .un) (v30.getD 8 .un) (v30.getD 9 .un) 0 0 false 0 0 0 0 false 0 [])
  (F65_17 run x1 x2 (.u8 x0_0) (.u8 x0_1) (.b x0_2) (.u8 x0_3) (.u8 x0_4) (.u8 x0_5) (.u8 x0_6) (.b x0_7) (.u8 x0_8) (.s x0_9) 0 0 false 0 0 0 0 false 0 [])))))
theorem text65 (call : Nat → List AV → Option AV) (run : List Item → St → Option AV) (x0_0 : UInt8) (x0_1 : UInt8) (x0_2 : Bool) (x0_3 : UInt8) (x0_4 : UInt8) (x0_5 : UInt8) (x0_6 : UInt8) (x0_7 : Bool) (x0_8 : UInt8) (x0_9 : List UInt8) (x1 : UInt8) (x2 : Bool) : unr C call run 65 Tryd.f65 400 [.code body65] (initSt [.ag [.u8 x0_0, .u8 x0_1, .b x0_2, .u8 x0_3, .u8 x0_4, .u8 x0_5, .u8 x0_6, .b x0_7, .u8 x0_8, .s x0_9], .u8 x1, .b x2]) = X65 call run x0_0 x0_1 x0_2 x0_3 x0_4 x0_5 x0_6 x0_7 x0_8 x0_9 x1 x2 := by
  kernel_rfl
theorem c65 (x0_0 : UInt8) (x0_1 : UInt8) (x0_2 : Bool) (x0_3 : UInt8) (x0_4 : UInt8) (x0_5 : UInt8) (x0_6 : UInt8) (x0_7 : Bool) (x0_8 : UInt8) (x0_9 : List UInt8) (x1 : UInt8) (x2 : Bool) {r : AV} (h : X65 (semCall C Tryd.prog) (semRun C Tryd.prog 65 Tryd.f65) x0_0 x0_1 x0_2 x0_3 x0_4 x0_5 x0_6 x0_7 x0_8 x0_9 x1 x2 = some r) : semCall C Tryd.prog 65 [.ag [.u8 x0_0, .u8 x0_1, .b x0_2, .u8 x0_3, .u8 x0_4, .u8 x0_5, .u8 x0_6, .b x0_7, .u8 x0_8, .s x0_9], .u8 x1, .b x2] = some r :=
  semCall_unr (fn := Tryd.f65) (c := body65) (by kernel_rfl) (by kernel_rfl) 400 (by kernel_rfl) ((text65 _ _ x0_0 x0_1 x0_2 x0_3 x0_4 x0_5 x0_6 x0_7 x0_8 x0_9 x1 x2).trans h)
noncomputable def X65_17 (call : Nat → List AV → Option AV) (run : List Item → St → Option AV) (t1 : UInt8) (t2 : Bool) (m3_0 : AV) (m3_1 : AV) (m3_2 : AV) (m3_3 : AV) (m3_4 : AV) (m3_5 : AV) (m3_6 : AV) (m3_7 : AV) (m3_8 : AV) (m3_9 : AV) (m6_0 : UInt8) (m6_1 : UInt8) (m6_2 : Bool) (m6_3 : UInt8) (m6_4 : UInt8) (m6_5 : UInt8) (m6_6 : UInt8) (m6_7 : Bool) (m6_8 : UInt8) (m6_9 : List UInt8) : Option AV :=
  (binI .eql (m3_0) (.u8 20)).bind fun v1 => condM (v1)
  (some (.ag [.u8 20, .u8 0, .b false, .u8 0, .u8 0, .u8 0, .u8 0, .b false, .u8 0, .s []]))
  ((b2s (.ro 1 (([.u8 t1] : List AV)))).bind fun v2 => (call 93 [.ag [m3_0, m3_1, m3_2, m3_3, m3_4, m3_5, m3_6, m3_7, m3_8, m3_9], v2, .b t2]).bind fun v3 => (AV.asAg 10 (v3)).bind fun v4 => (binI .eql (v4.getD 0 .un) (.u8 17)).bind fun v5 => (selW (v5) true (some (.b (ueq t1 60))) (.b false)).bind fun v6 => condM (v6)
  (F65_22 run (.u8 18) (v4.getD 1 .un) (v4.getD 2 .un) (v4.getD 3 .un) (v4.getD 4 .un) (v4.getD 5 .un) (v4.getD 6 .un) (v4.getD 7 .un) (v4.getD 8 .un) (v4.getD 9 .un) m6_0 m6_1 m6_2 m6_3 m6_4 m6_5 m6_6 m6_7 m6_8 m6_9)
  (F65_22 run (v4.getD 0 .un) (v4.getD 1 .un) (v4.getD 2 .un) (v4.getD 3 .un) (v4.getD 4 .un) (v4.getD 5 .un) (v4.getD 6 .un) (v4.getD 7 .un) (v4.getD 8 .un) (v4.getD 9 .un) m6_0 m6_1 m6_2 m6_3 m6_4 m6_5 m6_6 m6_7 m6_8 m6_9))
theorem text65_17 (call : Nat → List AV → Option AV) (run : List Item → St → Option AV) (t1 : UInt8) (t2 : Bool) (m3_0 : AV) (m3_1 : AV) (m3_2 : AV) (m3_3 : AV) (m3_4 : AV) (m3_5 : AV) (m3_6 : AV) (m3_7 : AV) (m3_8 : AV) (m3_9 : AV) (m6_0 : UInt8) (m6_1 : UInt8) (m6_2 : Bool) (m6_3 : UInt8) (m6_4 : UInt8) (m6_5 : UInt8) (m6_6 : UInt8) (m6_7 : Bool) (m6_8 : UInt8) (m6_9 : List UInt8) : step C call 65 Tryd.f65 (unr C call run 65 Tryd.f65 400) K65_17 (S65_17 t1 t2 m3_0 m3_1 m3_2 m3_3 m3_4 m3_5 m3_6 m3_7 m3_8 m3_9 m6_0 m6_1 m6_2 m6_3 m6_4 m6_5 m6_6 m6_7 m6_8 m6_9) = X65_17 call run t1 t2 m3_0 m3_1 m3_2 m3_3 m3_4 m3_5 m3_6 m3_7 m3_8 m3_9 m6_0 m6_1 m6_2 m6_3 m6_4 m6_5 m6_6 m6_7 m6_8 m6_9 := by
  kernel_rfl
noncomputable def X65_22 (call : Nat → List AV → Option AV) (run : List Item → St → Option AV) (m3_0 : AV) (m3_1 : AV) (m3_2 : AV) (m3_3 : AV) (m3_4 : AV) (m3_5 : AV) (m3_6 : AV) (m3_7 : AV) (m3_8 : AV) (m3_9 : AV) (m6_0 : UInt8) (m6_1 : UInt8) (m6_2 : Bool) (m6_3 : UInt8) (m6_4 : UInt8) (m6_5 : UInt8) (m6_6 : UInt8) (m6_7 : Bool) (m6_8 : UInt8) (m6_9 : List UInt8) : Option AV :=
  some (.ag [m3_0, m3_1, m3_2, m3_3, m3_4, m3_5, m3_6, m3_7, m3_8, m3_9])
theorem text65_22 (call : Nat → List AV → Option AV) (run : List Item → St → Option AV) (m3_0 : AV) (m3_1 : AV) (m3_2 : AV) (m3_3 : AV) (m3_4 : AV) (m3_5 : AV) (m3_6 : AV) (m3_7 : AV) (m3_8 : AV) (m3_9 : AV) (m6_0 : UInt8) (m6_1 : UInt8) (m6_2 : Bool) (m6_3 : UInt8) (m6_4 : UInt8) (m6_5 : UInt8) (m6_6 : UInt8) (m6_7 : Bool) (m6_8 : UInt8) (m6_9 : List UInt8) : step C call 65 Tryd.f65 (unr C call run 65 Tryd.f65 400) K65_22 (S65_22 m3_0 m3_1 m3_2 m3_3 m3_4 m3_5 m3_6 m3_7 m3_8 m3_9 m6_0 m6_1 m6_2 m6_3 m6_4 m6_5 m6_6 m6_7 m6_8 m6_9) = X65_22 call run m3_0 m3_1 m3_2 m3_3 m3_4 m3_5 m3_6 m3_7 m3_8 m3_9 m6_0 m6_1 m6_2 m6_3 m6_4 m6_5 m6_6 m6_7 m6_8 m6_9 := by
  kernel_rfl
theorem r65_17 (t1 : UInt8) (t2 : Bool) (m3_0 : AV) (m3_1 : AV) (m3_2 : AV) (m3_3 : AV) (m3_4 : AV) (m3_5 : AV) (m3_6 : AV) (m3_7 : AV) (m3_8 : AV) (m3_9 : AV) (m6_0 : UInt8) (m6_1 : UInt8) (m6_2 : Bool) (m6_3 : UInt8) (m6_4 : UInt8) (m6_5 : UInt8) (m6_6 : UInt8) (m6_7 : Bool) (m6_8 : UInt8) (m6_9 : List UInt8) {r : AV} (h : X65_17 (semCall C Tryd.prog) (semRun C Tryd.prog 65 Tryd.f65) t1 t2 m3_0 m3_1 m3_2 m3_3 m3_4 m3_5 m3_6 m3_7 m3_8 m3_9 m6_0 m6_1 m6_2 m6_3 m6_4 m6_5 m6_6 m6_7 m6_8 m6_9 = some r) : F65_17 (semRun C Tryd.prog 65 Tryd.f65) t1 t2 m3_0 m3_1 m3_2 m3_3 m3_4 m3_5 m3_6 m3_7 m3_8 m3_9 m6_0 m6_1 m6_2 m6_3 m6_4 m6_5 m6_6 m6_7 m6_8 m6_9 = some r :=
  semRun_unr 400 ((text65_17 _ _ t1 t2 m3_0 m3_1 m3_2 m3_3 m3_4 m3_5 m3_6 m3_7 m3_8 m3_9 m6_0 m6_1 m6_2 m6_3 m6_4 m6_5 m6_6 m6_7 m6_8 m6_9).trans h)
theorem r65_22 (m3_0 : AV) (m3_1 : AV) (m3_2 : AV) (m3_3 : AV) (m3_4 : AV) (m3_5 : AV) (m3_6 : AV) (m3_7 : AV) (m3_8 : AV) (m3_9 : AV) (m6_0 : UInt8) (m6_1 : UInt8) (m6_2 : Bool) (m6_3 : UInt8) (m6_4 : UInt8) (m6_5 : UInt8) (m6_6 : UInt8) (m6_7 : Bool) (m6_8 : UInt8) (m6_9 : List UInt8) {r : AV} (h : X65_22 (semCall C Tryd.prog) (semRun C Tryd.prog 65 Tryd.f65) m3_0 m3_1 m3_2 m3_3 m3_4 m3_5 m3_6 m3_7 m3_8 m3_9 m6_0 m6_1 m6_2 m6_3 m6_4 m6_5 m6_6 m6_7 m6_8 m6_9 = some r) : F65_22 (semRun C Tryd.prog 65 Tryd.f65) m3_0 m3_1 m3_2 m3_3 m3_4 m3_5 m3_6 m3_7 m3_8 m3_9 m6_0 m6_1 m6_2 m6_3 m6_4 m6_5 m6_6 m6_7 m6_8 m6_9 = some r :=
  semRun_unr 400 ((text65_22 _ _ m3_0 m3_1 m3_2 m3_3 m3_4 m3_5 m3_6 m3_7 m3_8 m3_9 m6_0 m6_1 m6_2 m6_3 m6_4 m6_5 m6_6 m6_7 m6_8 m6_9).trans h)
end R2

namespace R2
open Go Go.Proofs Sx
noncomputable def body66 : Code := (Tryd.f66.body).getD .skip
noncomputable def K66_4 : List Item := (kAt 4 body66 []).getD []
def S66_4 (t1 : UInt8) (m2_0 : UInt8) (m2_1 : UInt8) (m2_2 : Bool) (m2_3 : UInt8) (m2_4 : UInt8) (m2_5 : UInt8) (m2_6 : UInt8) (m2_7 : Bool) (m2_8 : UInt8) (m2_9 : List UInt8) (m4_0 : UInt8) (m4_1 : UInt8) (m4_2 : Bool) (m4_3 : UInt8) (m4_4 : UInt8) (m4_5 : UInt8) (m4_6 : UInt8) (m4_7 : Bool) (m4_8 : UInt8) (m4_9 : List UInt8) : St := St.ofL [(1, .cell (.val (.u8 t1))), (2, .cell (.ptr 2 0)), (4, .cell (.ptr 4 0))] [(2, some [.val (.u8 m2_0), .val (.u8 m2_1), .val (.b m2_2), .val (.u8 m2_3), .val (.u8 m2_4), .val (.u8 m2_5), .val (.u8 m2_6), .val (.b m2_7), .val (.u8 m2_8), .val (.s m2_9)]), (4, some [.val (.u8 m4_0), .val (.u8 m4_1), .val (.b m4_2), .val (.u8 m4_3), .val (.u8 m4_4), .val (.u8 m4_5), .val (.u8 m4_6), .val (.b m4_7), .val (.u8 m4_8), .val (.s m4_9)])]
noncomputable def F66_4 (run : List Item → St → Option AV) (t1 : UInt8) (m2_0 : UInt8) (m2_1 : UInt8) (m2_2 : Bool) (m2_3 : UInt8) (m2_4 : UInt8) (m2_5 : UInt8) (m2_6 : UInt8) (m2_7 : Bool) (m2_8 : UInt8) (m2_9 : List UInt8) (m4_0 : UInt8) (m4_1 : UInt8) (m4_2 : Bool) (m4_3 : UInt8) (m4_4 : UInt8) (m4_5 : UInt8) (m4_6 : UInt8) (m4_7 : Bool) (m4_8 : UInt8) (m4_9 : List UInt8) : Option AV := run K66_4 (S66_4 t1 m2_0 m2_1 m2_2 m2_3 m2_4 m2_5 m2_6 m2_7 m2_8 m2_9 m4_0 m4_1 m4_2 m4_3 m4_4 m4_5 m4_6 m4_7 m4_8 m4_9)
noncomputable def K66_11 : List Item := (kAt 11 body66 []).getD []
def S66_11 (t1 : UInt8) (t6 : UInt8) (m2_0 : UInt8) (m2_1 : UInt8) (m2_2 : Bool) (m2_3 : UInt8) (m2_4 : UInt8) (m2_5 : UInt8) (m2_6 : UInt8) (m2_7 : Bool) (m2_8 : UInt8) (m2_9 : List UInt8) (m4_0 : UInt8) (m4_1 : UInt8) (m4_2 : Bool) (m4_3 : UInt8) (m4_4 : UInt8) (m4_5 : UInt8) (m4_6 : UInt8) (m4_7 : Bool) (m4_8 : UInt8) (m4_9 : List UInt8) : St := St.ofL [(1, .cell (.val (.u8 t1))), (2, .cell (.ptr 2 0)), (4, .cell (.ptr 4 0)), (6, .cell (.val (.u8 t6)))] [(2, some [.val (.u8 m2_0), .val (.u8 m2_1), .val (.b m2_2), .val (.u8 m2_3), .val (.u8 m2_4), .val (.u8 m2_5), .val (.u8 m2_6), .val (.b m2_7), .val (.u8 m2_8), .val (.s m2_9)]), (4, some [.val (.u8 m4_0), .val (.u8 m4_1), .val (.b m4_2), .val (.u8 m4_3), .val (.u8 m4_4), .val (.u8 m4_5), .val (.u8 m4_6), .val (.b m4_7), .val (.u8 m4_8), .val (.s m4_9)])]
noncomputable def F66_11 (run : List Item → St → Option AV) (t1 : UInt8) (t6 : UInt8) (m2_0 : UInt8) (m2_1 : UInt8) (m2_2 : Bool) (m2_3 : UInt8) (m2_4 : UInt8) (m2_5 : UInt8) (m2_6 : UInt8) (m2_7 : Bool) (m2_8 : UInt8) (m2_9 : List UInt8) (m4_0 : UInt8) (m4_1 : UInt8) (m4_2 : Bool) (m4_3 : UInt8) (m4_4 : UInt8) (m4_5 : UInt8) (m4_6 : UInt8) (m4_7 : Bool) (m4_8 : UInt8) (m4_9 : List UInt8) : Option AV := run K66_11 (S66_11 t1 t6 m2_0 m2_1 m2_2 m2_3 m2_4 m2_5 m2_6 m2_7 m2_8 m2_9 m4_0 m4_1 m4_2 m4_3 m4_4 m4_5 m4_6 m4_7 m4_8 m4_9)
noncomputable def K66_13 : List Item := (kAt 13 body66 []).getD []
def S66_13 (t1 : UInt8) (m2_0 : UInt8) (m2_1 : UInt8) (m2_2 : Bool) (m2_3 : UInt8) (m2_4 : UInt8) (m2_5 : UInt8) (m2_6 : UInt8) (m2_7 : Bool) (m2_8 : UInt8) (m2_9 : List UInt8) (m4_0 : UInt8) (m4_1 : UInt8) (m4_2 : Bool) (m4_3 : UInt8) (m4_4 : UInt8) (m4_5 : UInt8) (m4_6 : UInt8) (m4_7 : Bool) (m4_8 : UInt8) (m4_9 : List UInt8) : St := St.ofL [(1, .cell (.val (.u8 t1))), (2, .cell (.ptr 2 0)), (4, .cell (.ptr 4 0))] [(2, some [.val (.u8 m2_0), .val (.u8 m2_1), .val (.b m2_2), .val (.u8 m2_3), .val (.u8 m2_4), .val (.u8 m2_5), .val (.u8 m2_6), .val (.b m2_7), .val (.u8 m2_8), .val (.s m2_9)]), (4, some [.val (.u8 m4_0), .val (.u8 m4_1), .val (.b m4_2), .val (.u8 m4_3), .val (.u8 m4_4), .val (.u8 m4_5), .val (.u8 m4_6), .val (.b m4_7), .val (.u8 m4_8), .val (.s m4_9)])]
noncomputable def F66_13 (run : List Item → St → Option AV) (t1 : UInt8) (m2_0 : UInt8) (m2_1 : UInt8) (m2_2 : Bool) (m2_3 : UInt8) (m2_4 : UInt8) (m2_5 : UInt8) (m2_6 : UInt8) (m2_7 : Bool) (m2_8 : UInt8) (m2_9 : List UInt8) (m4_0 : UInt8) (m4_1 : UInt8) (m4_2 : Bool) (m4_3 : UInt8) (m4_4 : UInt8) (m4_5 : UInt8) (m4_6 : UInt8) (m4_7 : Bool) (m4_8 : UInt8) (m4_9 : List UInt8) : Option AV := run K66_13 (S66_13 t1 m2_0 m2_1 m2_2 m2_3 m2_4 m2_5 m2_6 m2_7 m2_8 m2_9 m4_0 m4_1 m4_2 m4_3 m4_4 m4_5 m4_6 m4_7 m4_8 m4_9)
noncomputable def K66_20 : List Item := (kAt 20 body66 []).getD []
def S66_20 (t1 : UInt8) (t6 : UInt8) (m2_0 : UInt8) (m2_1 : UInt8) (m2_2 : Bool) (m2_3 : UInt8) (m2_4 : UInt8) (m2_5 : UInt8) (m2_6 : UInt8) (m2_7 : Bool) (m2_8 : UInt8) (m2_9 : List UInt8) (m4_0 : UInt8) (m4_1 : UInt8) (m4_2 : Bool) (m4_3 : UInt8) (m4_4 : UInt8) (m4_5 : UInt8) (m4_6 : UInt8) (m4_7 : Bool) (m4_8 : UInt8) (m4_9 : List UInt8) : St := St.ofL [(1, .cell (.val (.u8 t1))), (2, .cell (.ptr 2 0)), (4, .cell (.ptr 4 0)), (6, .cell (.val (.u8 t6)))] [(2, some [.val (.u8 m2_0), .val (.u8 m2_1), .val (.b m2_2), .val (.u8 m2_3), .val (.u8 m2_4), .val (.u8 m2_5), .val (.u8 m2_6), .val (.b m2_7), .val (.u8 m2_8), .val (.s m2_9)]), (4, some [.val (.u8 m4_0), .val (.u8 m4_1), .val (.b m4_2), .val (.u8 m4_3), .val (.u8 m4_4), .val (.u8 m4_5), .val (.u8 m4_6), .val (.b m4_7), .val (.u8 m4_8), .val (.s m4_9)])]
noncomputable def F66_20 (run : List Item → St → Option AV) (t1 : UInt8) (t6 : UInt8) (m2_0 : UInt8) (m2_1 : UInt8) (m2_2 : Bool) (m2_3 : UInt8) (m2_4 : UInt8) (m2_5 : UInt8) (m2_6 : UInt8) (m2_7 : Bool) (m2_8 : UInt8) (m2_9 : List UInt8) (m4_0 : UInt8) (m4_1 : UInt8) (m4_2 : Bool) (m4_3 : UInt8) (m4_4 : UInt8) (m4_5 : UInt8) (m4_6 : UInt8) (m4_7 : Bool) (m4_8 : UInt8) (m4_9 : List UInt8) : Option AV := run K66_20 (S66_20 t1 t6 m2_0 m2_1 m2_2 m2_3 m2_4 m2_5 m2_6 m2_7 m2_8 m2_9 m4_0 m4_1 m4_2 m4_3 m4_4 m4_5 m4_6 m4_7 m4_8 m4_9)
noncomputable def K66_31 : List Item := (kAt 31 body66 []).getD []
def S66_31 (m2_0 : UInt8) (m2_1 : UInt8) (m2_2 : Bool) (m2_3 : UInt8) (m2_4 : UInt8) (m2_5 : UInt8) (m2_6 : UInt8) (m2_7 : Bool) (m2_8 : UInt8) (m2_9 : List UInt8) (m4_0 : UInt8) (m4_1 : UInt8) (m4_2 : Bool) (m4_3 : UInt8) (m4_4 : UInt8) (m4_5 : UInt8) (m4_6 : UInt8) (m4_7 : Bool) (m4_8 : UInt8) (m4_9 : List UInt8) : St := St.ofL [(2, .cell (.ptr 2 0)), (4, .cell (.ptr 4 0))] [(2, some [.val (.u8 m2_0), .val (.u8 m2_1), .val (.b m2_2), .val (.u8 m2_3), .val (.u8 m2_4), .val (.u8 m2_5), .val (.u8 m2_6), .val (.b m2_7), .val (.u8 m2_8), .val (.s m2_9)]), (4, some [.val (.u8 m4_0), .val (.u8 m4_1), .val (.b m4_2), .val (.u8 m4_3), .val (.u8 m4_4), .val (.u8 m4_5), .val (.u8 m4_6), .val (.b m4_7), .val (.u8 m4_8), .val (.s m4_9)])]
noncomputable def F66_31 (run : List Item → St → Option AV) (m2_0 : UInt8) (m2_1 : UInt8) (m2_2 : Bool) (m2_3 : UInt8) (m2_4 : UInt8) (m2_5 : UInt8) (m2_6 : UInt8) (m2_7 : Bool) (m2_8 : UInt8) (m2_9 : List UInt8) (m4_0 : UInt8) (m4_1 : UInt8) (m4_2 : Bool) (m4_3 : UInt8) (m4_4 : UInt8) (m4_5 : UInt8) (m4_6 : UInt8) (m4_7 : Bool) (m4_8 : UInt8) (m4_9 : List UInt8) : Option AV := run K66_31 (S66_31 m2_0 m2_1 m2_2 m2_3 m2_4 m2_5 m2_6 m2_7 m2_8 m2_9 m4_0 m4_1 m4_2 m4_3 m4_4 m4_5 m4_6 m4_7 m4_8 m4_9)
noncomputable def X66 (call : Nat → List AV → Option AV) (run : List Item → St → Option AV) (x0_0 : UInt8) (x0_1 : UInt8) (x0_2 : Bool) (x0_3 : UInt8) (x0_4 : UInt8) (x0_5 : UInt8) (x0_6 : UInt8) (x0_7 : Bool) (x0_8 : UInt8) (x0_9 : List UInt8) (x1 : UInt8) : Option AV :=
  condM (.b (ueq x0_0 11))
  (F66_4 run x1 x0_0 x0_1 x0_2 x0_3 x0_4 x0_5 x0_6 x0_7 x0_8 x0_9 0 0 false 0 0 0 0 false 0 [])
  (condM (.b (ueq x0_0 12))
  (F66_4 run x1 x0_0 x0_1 x0_2 x0_3 x0_4 x0_5 x0_6 x0_7 x0_8 x0_9 0 0 false 0 0 0 0 false 0 [])
  (F66_11 run x1 x0_0 x0_0 x0_1 x0_2 x0_3 x0_4 x0_5 x0_6 x0_7 x0_8 x0_9 0 0 false 0 0 0 0 false 0 []))
theorem text66 (call : Nat → List AV → Option AV) (run : List Item → St → Option AV) (x0_0 : UInt8) (x0_1 : UInt8) (x0_2 : Bool) (x0_3 : UInt8) (x0_4 : UInt8) (x0_5 : UInt8) (x0_6 : UInt8) (x0_7 : Bool) (x0_8 : UInt8) (x0_9 : List UInt8) (x1 : UInt8) : unr C call run 66 Tryd.f66 400 [.code body66] (initSt [.ag [.u8 x0_0, .u8 x0_1, .b x0_2, .u8 x0_3, .u8 x0_4, .u8 x0_5, .u8 x0_6, .b x0_7, .u8 x0_8, .s x0_9], .u8 x1]) = X66 call run x0_0 x0_1 x0_2 x0_3 x0_4 x0_5 x0_6 x0_7 x0_8 x0_9 x1 := by
  kernel_rfl
theorem c66 (x0_0 : UInt8) (x0_1 : UInt8) (x0_2 : Bool) (x0_3 : UInt8) (x0_4 : UInt8) (x0_5 : UInt8) (x0_6 : UInt8) (x0_7 : Bool) (x0_8 : UInt8) (x0_9 : List UInt8) (x1 : UInt8) {r : AV} (h : X66 (semCall C Tryd.prog) (semRun C Tryd.prog 66 Tryd.f66) x0_0 x0_1 x0_2 x0_3 x0_4 x0_5 x0_6 x0_7 x0_8 x0_9 x1 = some r) : semCall C Tryd.prog 66 [.ag [.u8 x0_0, .u8 x0_1, .b x0_2, .u8 x0_3, .u8 x0_4, .u8 x0_5, .u8 x0_6, .b x0_7, .u8 x0_8, .s x0_9], .u8 x1] = some r :=
  semCall_unr (fn := Tryd.f66) (c := body66) (by kernel_rfl) (by kernel_rfl) 400 (by kernel_rfl) ((text66 _ _ x0_0 x0_1 x0_2 x0_3 x0_4 x0_5 x0_6 x0_7 x0_8 x0_9 x1).trans h)
noncomputable def X66_4 (call : Nat → List AV → Option AV) (run : List Item → St → Option AV) (t1 : UInt8) (m2_0 : UInt8) (m2_1 : UInt8) (m2_2 : Bool) (m2_3 : UInt8) (m2_4 : UInt8) (m2_5 : UInt8) (m2_6 : UInt8) (m2_7 : Bool) (m2_8 : UInt8) (m2_9 : List UInt8) (m4_0 : UInt8) (m4_1 : UInt8) (m4_2 : Bool) (m4_3 : UInt8) (m4_4 : UInt8) (m4_5 : UInt8) (m4_6 : UInt8) (m4_7 : Bool) (m4_8 : UInt8) (m4_9 : List UInt8) : Option AV :=
  condM (.b (ueq t1 62))
  (some (.ag [.u8 0, .u8 0, .b false, .u8 0, .u8 0, .u8 0, .u8 0, .b false, .u8 0, .s []]))
  ((selW (.b (ueq t1 45)) true (some (.b (ueq m2_0 11))) (.b false)).bind fun v1 => condM (v1)
  (some (.ag [.u8 12, .u8 0, .b false, .u8 0, .u8 0, .u8 0, .u8 0, .b false, .u8 0, .s []]))
  (condM (.b (ueq t1 45))
  (some (.ag [.u8 13, .u8 0, .b false, .u8 0, .u8 0, .u8 0, .u8 0, .b false, .u8 0, .s []]))
  (some (.ag [.u8 16, .u8 0, .b false, .u8 0, .u8 0, .u8 0, .u8 0, .b false, .u8 0, .s []]))))
theorem text66_4 (call : Nat → List AV → Option AV) (run : List Item → St → Option AV) (t1 : UInt8) (m2_0 : UInt8) (m2_1 : UInt8) (m2_2 : Bool) (m2_3 : UInt8) (m2_4 : UInt8) (m2_5 : UInt8) (m2_6 : UInt8) (m2_7 : Bool) (m2_8 : UInt8) (m2_9 : List UInt8) (m4_0 : UInt8) (m4_1 : UInt8) (m4_2 : Bool) (m4_3 : UInt8) (m4_4 : UInt8) (m4_5 : UInt8) (m4_6 : UInt8) (m4_7 : Bool) (m4_8 : UInt8) (m4_9 : List UInt8) : step C call 66 Tryd.f66 (unr C call run 66 Tryd.f66 400) K66_4 (S66_4 t1 m2_0 m2_1 m2_2 m2_3 m2_4 m2_5 m2_6 m2_7 m2_8 m2_9 m4_0 m4_1 m4_2 m4_3 m4_4 m4_5 m4_6 m4_7 m4_8 m4_9) = X66_4 call run t1 m2_0 m2_1 m2_2 m2_3 m2_4 m2_5 m2_6 m2_7 m2_8 m2_9 m4_0 m4_1 m4_2 m4_3 m4_4 m4_5 m4_6 m4_7 m4_8 m4_9 := by
  kernel_rfl
noncomputable def X66_11 (call : Nat → List AV → Option AV) (run : List Item → St → Option AV) (t1 : UInt8) (t6 : UInt8) (m2_0 : UInt8) (m2_1 : UInt8) (m2_2 : Bool) (m2_3 : UInt8) (m2_4 : UInt8) (m2_5 : UInt8) (m2_6 : UInt8) (m2_7 : Bool) (m2_8 : UInt8) (m2_9 : List UInt8) (m4_0 : UInt8) (m4_1 : UInt8) (m4_2 : Bool) (m4_3 : UInt8) (m4_4 : UInt8) (m4_5 : UInt8) (m4_6 : UInt8) (m4_7 : Bool) (m4_8 : UInt8) (m4_9 : List UInt8) : Option AV :=
  condM (.b (ueq t6 13))
  (F66_13 run t1 m2_0 m2_1 m2_2 m2_3 m2_4 m2_5 m2_6 m2_7 m2_8 m2_9 m4_0 m4_1 m4_2 m4_3 m4_4 m4_5 m4_6 m4_7 m4_8 m4_9)
  (condM (.b (ueq t6 14))
  (F66_13 run t1 m2_0 m2_1 m2_2 m2_3 m2_4 m2_5 m2_6 m2_7 m2_8 m2_9 m4_0 m4_1 m4_2 m4_3 m4_4 m4_5 m4_6 m4_7 m4_8 m4_9)
  (F66_20 run t1 t6 m2_0 m2_1 m2_2 m2_3 m2_4 m2_5 m2_6 m2_7 m2_8 m2_9 m4_0 m4_1 m4_2 m4_3 m4_4 m4_5 m4_6 m4_7 m4_8 m4_9))
theorem text66_11 (call : Nat → List AV → Option AV) (run : List Item → St → Option AV) (t1 : UInt8) (t6 : UInt8) (m2_0 : UInt8) (m2_1 : UInt8) (m2_2 : Bool) (m2_3 : UInt8) (m2_4 : UInt8) (m2_5 : UInt8) (m2_6 : UInt8) (m2_7 : Bool) (m2_8 : UInt8) (m2_9 : List UInt8) (m4_0 : UInt8) (m4_1 : UInt8) (m4_2 : Bool) (m4_3 : UInt8) (m4_4 : UInt8) (m4_5 : UInt8) (m4_6 : UInt8) (m4_7 : Bool) (m4_8 : UInt8) (m4_9 : List UInt8) : step C call 66 Tryd.f66 (unr C call run 66 Tryd.f66 400) K66_11 (S66_11 t1 t6 m2_0 m2_1 m2_2 m2_3 m2_4 m2_5 m2_6 m2_7 m2_8 m2_9 m4_0 m4_1 m4_2 m4_3 m4_4 m4_5 m4_6 m4_7 m4_8 m4_9) = X66_11 call run t1 t6 m2_0 m2_1 m2_2 m2_3 m2_4 m2_5 m2_6 m2_7 m2_8 m2_9 m4_0 m4_1 m4_2 m4_3 m4_4 m4_5 m4_6 m4_7 m4_8 m4_9 := by
  kernel_rfl
noncomputable def X66_13 (call : Nat → List AV → Option AV) (run : List Item → St → Option AV) (t1 : UInt8) (m2_0 : UInt8) (m2_1 : UInt8) (m2_2 : Bool) (m2_3 : UInt8) (m2_4 : UInt8) (m2_5 : UInt8) (m2_6 : UInt8) (m2_7 : Bool) (m2_8 : UInt8) (m2_9 : List UInt8) (m4_0 : UInt8) (m4_1 : UInt8) (m4_2 : Bool) (m4_3 : UInt8) (m4_4 : UInt8) (m4_5 : UInt8) (m4_6 : UInt8) (m4_7 : Bool) (m4_8 : UInt8) (m4_9 : List UInt8) : Option AV :=
  condM (.b (ueq t1 62))
  (some (.ag [.u8 20, .u8 0, .b false, .u8 0, .u8 0, .u8 0, .u8 0, .b false, .u8 0, .s []]))
  ((selW (.b (ueq t1 45)) true (some (.b (ueq m2_0 13))) (.b false)).bind fun v1 => condM (v1)
  (some (.ag [.u8 14, .u8 0, .b false, .u8 0, .u8 0, .u8 0, .u8 0, .b false, .u8 0, .s []]))
  (condM (.b (ueq t1 45))
  (some (.ag [.u8 15, .u8 0, .b false, .u8 0, .u8 0, .u8 0, .u8 0, .b false, .u8 2, .s []]))
  (some (.ag [.u8 15, .u8 0, .b false, .u8 0, .u8 0, .u8 0, .u8 0, .b false, .u8 0, .s []]))))
theorem text66_13 (call : Nat → List AV → Option AV) (run : List Item → St → Option AV) (t1 : UInt8) (m2_0 : UInt8) (m2_1 : UInt8) (m2_2 : Bool) (m2_3 : UInt8) (m2_4 : UInt8) (m2_5 : UInt8) (m2_6 : UInt8) (m2_7 : Bool) (m2_8 : UInt8) (m2_9 : List UInt8) (m4_0 : UInt8) (m4_1 : UInt8) (m4_2 : Bool) (m4_3 : UInt8) (m4_4 : UInt8) (m4_5 : UInt8) (m4_6 : UInt8) (m4_7 : Bool) (m4_8 : UInt8) (m4_9 : List UInt8) : step C call 66 Tryd.f66 (unr C call run 66 Tryd.f66 400) K66_13 (S66_13 t1 m2_0 m2_1 m2_2 m2_3 m2_4 m2_5 m2_6 m2_7 m2_8 m2_9 m4_0 m4_1 m4_2 m4_3 m4_4 m4_5 m4_6 m4_7 m4_8 m4_9) = X66_13 call run t1 m2_0 m2_1 m2_2 m2_3 m2_4 m2_5 m2_6 m2_7 m2_8 m2_9 m4_0 m4_1 m4_2 m4_3 m4_4 m4_5 m4_6 m4_7 m4_8 m4_9 := by
  kernel_rfl
noncomputable def X66_20 (call : Nat → List AV → Option AV) (run : List Item → St → Option AV) (t1 : UInt8) (t6 : UInt8) (m2_0 : UInt8) (m2_1 : UInt8) (m2_2 : Bool) (m2_3 : UInt8) (m2_4 : UInt8) (m2_5 : UInt8) (m2_6 : UInt8) (m2_7 : Bool) (m2_8 : UInt8) (m2_9 : List UInt8) (m4_0 : UInt8) (m4_1 : UInt8) (m4_2 : Bool) (m4_3 : UInt8) (m4_4 : UInt8) (m4_5 : UInt8) (m4_6 : UInt8) (m4_7 : Bool) (m4_8 : UInt8) (m4_9 : List UInt8) : Option AV :=
  condM (.b (ueq t6 15))
  ((selW (.b (ueq t1 62)) true (some (.b (ueq m2_8 2))) (.b false)).bind fun v1 => condM (v1)
  (some (.ag [.u8 0, .u8 0, .b false, .u8 0, .u8 0, .u8 0, .u8 0, .b false, .u8 0, .s []]))
  ((selW (.b (ueq t1 33)) true (some (.b (ueq m2_8 2))) (.b false)).bind fun v2 => condM (v2)
  (some (.ag [.u8 20, .u8 0, .b false, .u8 0, .u8 0, .u8 0, .u8 0, .b false, .u8 0, .s []]))
  (condM (.b (ueq t1 45))
  ((binI .add (.u8 m2_8) (.u8 1)).bind fun v3 => (mm true (v3) (.u8 2)).bind fun v4 => (AV.one (v4)).bind fun v5 => some (.ag [.u8 15, .u8 0, .b false, .u8 0, .u8 0, .u8 0, .u8 0, .b false, v5, .s []]))
  (some (.ag [.u8 15, .u8 0, .b false, .u8 0, .u8 0, .u8 0, .u8 0, .b false, .u8 0, .s []])))))
  (condM (.b (ueq t6 16))
  (condM (.b (ueq t1 62))
  (some (.ag [.u8 0, .u8 0, .b false, .u8 0, .u8 0, .u8 0, .u8 0, .b false, .u8 0, .s []]))
  (F66_31 run m2_0 m2_1 m2_2 m2_3 m2_4 m2_5 m2_6 m2_7 m2_8 m2_9 m4_0 m4_1 m4_2 m4_3 m4_4 m4_5 m4_6 m4_7 m4_8 m4_9))
  (F66_31 run m2_0 m2_1 m2_2 m2_3 m2_4 m2_5 m2_6 m2_7 m2_8 m2_9 m4_0 m4_1 m4_2 m4_3 m4_4 m4_5 m4_6 m4_7 m4_8 m4_9))
theorem text66_20 (call : Nat → List AV → Option AV) (run : List Item → St → Option AV) (t1 : UInt8) (t6 : UInt8) (m2_0 : UInt8) (m2_1 : UInt8) (m2_2 : Bool) (m2_3 : UInt8) (m2_4 : UInt8) (m2_5 : UInt8) (m2_6 : UInt8) (m2_7 : Bool) (m2_8 : UInt8) (m2_9 : List UInt8) (m4_0 : UInt8) (m4_1 : UInt8) (m4_2 : Bool) (m4_3 : UInt8) (m4_4 : UInt8) (m4_5 : UInt8) (m4_6 : UInt8) (m4_7 : Bool) (m4_8 : UInt8) (m4_9 : List UInt8) : step C call 66 Tryd.f66 (unr C call run 66 Tryd.f66 400) K66_20 (S66_20 t1 t6 m2_0 m2_1 m2_2 m2_3 m2_4 m2_5 m2_6 m2_7 m2_8 m2_9 m4_0 m4_1 m4_2 m4_3 m4_4 m4_5 m4_6 m4_7 m4_8 m4_9) = X66_20 call run t1 t6 m2_0 m2_1 m2_2 m2_3 m2_4 m2_5 m2_6 m2_7 m2_8 m2_9 m4_0 m4_1 m4_2 m4_3 m4_4 m4_5 m4_6 m4_7 m4_8 m4_9 := by
  kernel_rfl
noncomputable def X66_31 (call : Nat → List AV → Option AV) (run : List Item → St → Option AV) (m2_0 : UInt8) (m2_1 : UInt8) (m2_2 : Bool) (m2_3 : UInt8) (m2_4 : UInt8) (m2_5 : UInt8) (m2_6 : UInt8) (m2_7 : Bool) (m2_8 : UInt8) (m2_9 : List UInt8) (m4_0 : UInt8) (m4_1 : UInt8) (m4_2 : Bool) (m4_3 : UInt8) (m4_4 : UInt8) (m4_5 : UInt8) (m4_6 : UInt8) (m4_7 : Bool) (m4_8 : UInt8) (m4_9 : List UInt8) : Option AV :=
  some (.ag [.u8 m2_0, .u8 m2_1, .b m2_2, .u8 m2_3, .u8 m2_4, .u8 m2_5, .u8 m2_6, .b m2_7, .u8 m2_8, .s m2_9])
theorem text66_31 (call : Nat → List AV → Option AV) (run : List Item → St → Option AV) (m2_0 : UInt8) (m2_1 : UInt8) (m2_2 : Bool) (m2_3 : UInt8) (m2_4 : UInt8) (m2_5 : UInt8) (m2_6 : UInt8) (m2_7 : Bool) (m2_8 : UInt8) (m2_9 : List UInt8) (m4_0 : UInt8) (m4_1 : UInt8) (m4_2 : Bool) (m4_3 : UInt8) (m4_4 : UInt8) (m4_5 : UInt8) (m4_6 : UInt8) (m4_7 : Bool) (m4_8 : UInt8) (m4_9 : List UInt8) : step C call 66 Tryd.f66 (unr C call run 66 Tryd.f66 400) K66_31 (S66_31 m2_0 m2_1 m2_2 m2_3 m2_4 m2_5 m2_6 m2_7 m2_8 m2_9 m4_0 m4_1 m4_2 m4_3 m4_4 m4_5 m4_6 m4_7 m4_8 m4_9) = X66_31 call run m2_0 m2_1 m2_2 m2_3 m2_4 m2_5 m2_6 m2_7 m2_8 m2_9 m4_0 m4_1 m4_2 m4_3 m4_4 m4_5 m4_6 m4_7 m4_8 m4_9 := by
  kernel_rfl
theorem r66_4 (t1 : UInt8) (m2_0 : UInt8) (m2_1 : UInt8) (m2_2 : Bool) (m2_3 : UInt8) (m2_4 : UInt8) (m2_5 : UInt8) (m2_6 : UInt8) (m2_7 : Bool) (m2_8 : UInt8) (m2_9 : List UInt8) (m4_0 : UInt8) (m4_1 : UInt8) (m4_2 : Bool) (m4_3 : UInt8) (m4_4 : UInt8) (m4_5 : UInt8) (m4_6 : UInt8) (m4_7 : Bool) (m4_8 : UInt8) (m4_9 : List UInt8) {r : AV} (h : X66_4 (semCall C Tryd.prog) (semRun C Tryd.prog 66 Tryd.f66) t1 m2_0 m2_1 m2_2 m2_3 m2_4 m2_5 m2_6 m2_7 m2_8 m2_9 m4_0 m4_1 m4_2 m4_3 m4_4 m4_5 m4_6 m4_7 m4_8 m4_9 = some r) : F66_4 (semRun C Tryd.prog 66 Tryd.f66) t1 m2_0 m2_1 m2_2 m2_3 m2_4 m2_5 m2_6 m2_7 m2_8 m2_9 m4_0 m4_1 m4_2 m4_3 m4_4 m4_5 m4_6 m4_7 m4_8 m4_9 = some r :=
  semRun_unr 400 ((text66_4 _ _ t1 m2_0 m2_1 m2_2 m2_3 m2_4 m2_5 m2_6 m2_7 m2_8 m2_9 m4_0 m4_1 m4_2 m4_3 m4_4 m4_5 m4_6 m4_7 m4_8 m4_9).trans h)
theorem r66_11 (t1 : UInt8) (t6 : UInt8) (m2_0 : UInt8) (m2_1 : UInt8) (m2_2 : Bool) (m2_3 : UInt8) (m2_4 : UInt8) (m2_5 : UInt8) (m2_6 : UInt8) (m2_7 : Bool) (m2_8 : UInt8) (m2_9 : List UInt8) (m4_0 : UInt8) (m4_1 : UInt8) (m4_2 : Bool) (m4_3 : UInt8) (m4_4 : UInt8) (m4_5 : UInt8) (m4_6 : UInt8) (m4_7 : Bool) (m4_8 : UInt8) (m4_9 : List UInt8) {r : AV} (h : X66_11 (semCall C Tryd.prog) (semRun C Tryd.prog 66 Tryd.f66) t1 t6 m2_0 m2_1 m2_2 m2_3 m2_4 m2_5 m2_6 m2_7 m2_8 m2_9 m4_0 m4_1 m4_2 m4_3 m4_4 m4_5 m4_6 m4_7 m4_8 m4_9 = some r) : F66_11 (semRun C Tryd.prog 66 Tryd.f66) t1 t6 m2_0 m2_1 m2_2 m2_3 m2_4 m2_5 m2_6 m2_7 m2_8 m2_9 m4_0 m4_1 m4_2 m4_3 m4_4 m4_5 m4_6 m4_7 m4_8 m4_9 = some r :=
  semRun_unr 400 ((text66_11 _ _ t1 t6 m2_0 m2_1 m2_2 m2_3 m2_4 m2_5 m2_6 m2_7 m2_8 m2_9 m4_0 m4_1 m4_2 m4_3 m4_4 m4_5 m4_6 m4_7 m4_8 m4_9).trans h)
theorem r66_13 (t1 : UInt8) (m2_0 : UInt8) (m2_1 : UInt8) (m2_2 : Bool) (m2_3 : UInt8) (m2_4 : UInt8) (m2_5 : UInt8) (m2_6 : UInt8) (m2_7 : Bool) (m2_8 : UInt8) (m2_9 : List UInt8) (m4_0 : UInt8) (m4_1 : UInt8) (m4_2 : Bool) (m4_3 : UInt8) (m4_4 : UInt8) (m4_5 : UInt8) (m4_6 : UInt8) (m4_7 : Bool) (m4_8 : UInt8) (m4_9 : List UInt8) {r : AV} (h : X66_13 (semCall C Tryd.prog) (semRun C Tryd.prog 66 Tryd.f66) t1 m2_0 m2_1 m2_2 m2_3 m2_4 m2_5 m2_6 m2_7 m2_8 m2_9 m4_0 m4_1 m4_2 m4_3 m4_4 m4_5 m4_6 m4_7 m4_8 m4_9 = some r) : F66_13 (semRun C Tryd.prog 66 Tryd.f66) t1 m2_0 m2_1 m2_2 m2_3 m2_4 m2_5 m2_6 m2_7 m2_8 m2_9 m4_0 m4_1 m4_2 m4_3 m4_4 m4_5 m4_6 m4_7 m4_8 m4_9 = some r :=
  semRun_unr 400 ((text66_13 _ _ t1 m2_0 m2_1 m2_2 m2_3 m2_4 m2_5 m2_6 m2_7 m2_8 m2_9 m4_0 m4_1 m4_2 m4_3 m4_4 m4_5 m4_6 m4_7 m4_8 m4_9).trans h)
theorem r66_20 (t1 : UInt8) (t6 : UInt8) (m2_0 : UInt8) (m2_1 : UInt8) (m2_2 : Bool) (m2_3 : UInt8) (m2_4 : UInt8) (m2_5 : UInt8) (m2_6 : UInt8) (m2_7 : Bool) (m2_8 : UInt8) (m2_9 : List UInt8) (m4_0 : UInt8) (m4_1 : UInt8) (m4_2 : Bool) (m4_3 : UInt8) (m4_4 : UInt8) (m4_5 : UInt8) (m4_6 : UInt8) (m4_7 : Bool) (m4_8 : UInt8) (m4_9 : List UInt8) {r : AV} (h : X66_20 (semCall C Tryd.prog) (semRun C Tryd.prog 66 Tryd.f66) t1 t6 m2_0 m2_1 m2_2 m2_3 m2_4 m2_5 m2_6 m2_7 m2_8 m2_9 m4_0 m4_1 m4_2 m4_3 m4_4 m4_5 m4_6 m4_7 m4_8 m4_9 = some r) : F66_20 (semRun C Tryd.prog 66 Tryd.f66) t1 t6 m2_0 m2_1 m2_2 m2_3 m2_4 m2_5 m2_6 m2_7 m2_8 m2_9 m4_0 m4_1 m4_2 m4_3 m4_4 m4_5 m4_6 m4_7 m4_8 m4_9 = some r :=
  semRun_unr 400 ((text66_20 _ _ t1 t6 m2_0 m2_1 m2_2 m2_3 m2_4 m2_5 m2_6 m2_7 m2_8 m2_9 m4_0 m4_1 m4_2 m4_3 m4_4 m4_5 m4_6 m4_7 m4_8 m4_9).trans h)
theorem r66_31 (m2_0 : UInt8) (m2_1 : UInt8) (m2_2 : Bool) (m2_3 : UInt8) (m2_4 : UInt8) (m2_5 : UInt8) (m2_6 : UInt8) (m2_7 : Bool) (m2_8 : UInt8) (m2_9 : List UInt8) (m4_0 : UInt8) (m4_1 : UInt8) (m4_2 : Bool) (m4_3 : UInt8) (m4_4 : UInt8) (m4_5 : UInt8) (m4_6 : UInt8) (m4_7 : Bool) (m4_8 : UInt8) (m4_9 : List UInt8) {r : AV} (h : X66_31 (semCall C Tryd.prog) (semRun C Tryd.prog 66 Tryd.f66) m2_0 m2_1 m2_2 m2_3 m2_4 m2_5 m2_6 m2_7 m2_8 m2_9 m4_0 m4_1 m4_2 m4_3 m4_4 m4_5 m4_6 m4_7 m4_8 m4_9 = some r) : F66_31 (semRun C Tryd.prog 66 Tryd.f66) m2_0 m2_1 m2_2 m2_3 m2_4 m2_5 m2_6 m2_7 m2_8 m2_9 m4_0 m4_1 m4_2 m4_3 m4_4 m4_5 m4_6 m4_7 m4_8 m4_9 = some r :=
  semRun_unr 400 ((text66_31 _ _ m2_0 m2_1 m2_2 m2_3 m2_4 m2_5 m2_6 m2_7 m2_8 m2_9 m4_0 m4_1 m4_2 m4_3 m4_4 m4_5 m4_6 m4_7 m4_8 m4_9).trans h)
end R2

namespace R2
open Go Go.Proofs Sx
noncomputable def body67 : Code := (Tryd.f67.body).getD .skip
noncomputable def X67 (call : Nat → List AV → Option AV) (run : List Item → St → Option AV) (x0 : Int) : Option AV :=
  (conv .u8 (.int x0)).bind fun v1 => (AV.one (v1)).bind fun v2 => some (.ag [v2, .u8 0, .b false, .u8 0, .u8 0, .u8 0, .u8 0, .b false, .u8 0, .s []])
theorem text67 (call : Nat → List AV → Option AV) (run : List Item → St → Option AV) (x0 : Int) : unr C call run 67 Tryd.f67 400 [.code body67] (initSt [.int x0]) = X67 call run x0 := by
  kernel_rfl
theorem c67 (x0 : Int) {r : AV} (h : X67 (semCall C Tryd.prog) (semRun C Tryd.prog 67 Tryd.f67) x0 = some r) : semCall C Tryd.prog 67 [.int x0] = some r :=
  semCall_unr (fn := Tryd.f67) (c := body67) (by kernel_rfl) (by kernel_rfl) 400 (by kernel_rfl) ((text67 _ _ x0).trans h)
end R2

namespace R2
open Go Go.Proofs Sx
noncomputable def body68 : Code := (Tryd.f68.body).getD .skip
noncomputable def X68 (call : Nat → List AV → Option AV) (run : List Item → St → Option AV) (x0 : UInt8) : Option AV :=
  (selW (.b (uge x0 97)) true (some (.b (ule x0 122))) (.b false)).bind fun v1 => (selW (v1) false ((selW (.b (uge x0 65)) true (some (.b (ule x0 90))) (.b false)).bind fun v2 => some (v2)) (.b true)).bind fun v3 => some (v3)
theorem text68 (call : Nat → List AV → Option AV) (run : List Item → St → Option AV) (x0 : UInt8) : unr C call run 68 Tryd.f68 400 [.code body68] (initSt [.u8 x0]) = X68 call run x0 := by
  kernel_rfl
theorem c68 (x0 : UInt8) {r : AV} (h : X68 (semCall C Tryd.prog) (semRun C Tryd.prog 68 Tryd.f68) x0 = some r) : semCall C Tryd.prog 68 [.u8 x0] = some r :=
  semCall_unr (fn := Tryd.f68) (c := body68) (by kernel_rfl) (by kernel_rfl) 400 (by kernel_rfl) ((text68 _ _ x0).trans h)
end R2

namespace R2
open Go Go.Proofs Sx
noncomputable def body69 : Code := (Tryd.f69.body).getD .skip
noncomputable def X69 (call : Nat → List AV → Option AV) (run : List Item → St → Option AV) (x0_0 : UInt8) (x0_1 : UInt8) (x0_2 : Bool) (x0_3 : UInt8) (x0_4 : UInt8) (x0_5 : UInt8) (x0_6 : UInt8) (x0_7 : Bool) (x0_8 : UInt8) (x0_9 : List UInt8) (x1 : UInt8) : Option AV :=
  condM (.b (decide (((x0_9.length : Int)) ≥ 32)))
  ((call 41 []).bind fun v1 => (AV.asAg 10 (v1)).bind fun v2 => some (.ag [v2.getD 0 .un, v2.getD 1 .un, v2.getD 2 .un, v2.getD 3 .un, v2.getD 4 .un, v2.getD 5 .un, v2.getD 6 .un, v2.getD 7 .un, v2.getD 8 .un, v2.getD 9 .un]))
  ((call 51 [.u8 x1]).bind fun v3 => (binS .add (.s x0_9) (v3)).bind fun v4 => (AV.one (v4)).bind fun v5 => some (.ag [.u8 x0_0, .u8 x0_1, .b x0_2, .u8 x0_3, .u8 x0_4, .u8 x0_5, .u8 x0_6, .b x0_7, .u8 x0_8, v5]))
theorem text69 (call : Nat → List AV → Option AV) (run : List Item → St → Option AV) (x0_0 : UInt8) (x0_1 : UInt8) (x0_2 : Bool) (x0_3 : UInt8) (x0_4 : UInt8) (x0_5 : UInt8) (x0_6 : UInt8) (x0_7 : Bool) (x0_8 : UInt8) (x0_9 : List UInt8) (x1 : UInt8) : unr C call run 69 Tryd.f69 400 [.code body69] (initSt [.ag [.u8 x0_0, .u8 x0_1, .b x0_2, .u8 x0_3, .u8 x0_4, .u8 x0_5, .u8 x0_6, .b x0_7, .u8 x0_8, .s x0_9], .u8 x1]) = X69 call run x0_0 x0_1 x0_2 x0_3 x0_4 x0_5 x0_6 x0_7 x0_8 x0_9 x1 := by
  kernel_rfl
theorem c69 (x0_0 : UInt8) (x0_1 : UInt8) (x0_2 : Bool) (x0_3 : UInt8) (x0_4 : UInt8) (x0_5 : UInt8) (x0_6 : UInt8) (x0_7 : Bool) (x0_8 : UInt8) (x0_9 : List UInt8) (x1 : UInt8) {r : AV} (h : X69 (semCall C Tryd.prog) (semRun C Tryd.prog 69 Tryd.f69) x0_0 x0_1 x0_2 x0_3 x0_4 x0_5 x0_6 x0_7 x0_8 x0_9 x1 = some r) : semCall C Tryd.prog 69 [.ag [.u8 x0_0, .u8 x0_1, .b x0_2, .u8 x0_3, .u8 x0_4, .u8 x0_5, .u8 x0_6, .b x0_7, .u8 x0_8, .s x0_9], .u8 x1] = some r :=
  semCall_unr (fn := Tryd.f69) (c := body69) (by kernel_rfl) (by kernel_rfl) 400 (by kernel_rfl) ((text69 _ _ x0_0 x0_1 x0_2 x0_3 x0_4 x0_5 x0_6 x0_7 x0_8 x0_9 x1).trans h)
end R2
