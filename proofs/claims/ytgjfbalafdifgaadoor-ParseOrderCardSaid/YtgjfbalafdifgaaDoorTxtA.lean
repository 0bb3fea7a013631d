/-
  What functions of this seat come to, step by step.
-/
import Derived.Test.YtgjfbalafdifgaaDoorTab
import Derived.Test.YtgjfbalafdifgaaDoorProg
set_option linter.unusedVariables false
set_option linter.unusedSimpArgs false
set_option linter.unusedSectionVars false
set_option linter.unnecessarySimpa false
namespace R3
open Go Go.Proofs Sx
variable {mx : Int}
noncomputable def body99 : Code := (Tryd.f99.body).getD .skip
noncomputable def X99 (call : CallT) (run : RunT) (a0 : List UInt8) : Option AV :=
  (selW (.b (a0 == [])) false (some (.b false)) (.b true)).bind fun v1 => condM (v1)
  (some (.s a0))
  ((call 121 [.s a0, .u8 32]).bind fun v2 => (call 120 [v2, .u8 32]).bind fun v3 => some (v3))
section
variable (call : CallT) (run : RunT) (a0 : List UInt8)
theorem text99 : unr (C mx) call run 99 Tryd.f99 400 [.code body99] (initF (C mx) 99 Tryd.f99.ntmps [.s a0, .s [32]]) = X99 call run a0 := by
  kernel_rfl
theorem c99 {r : AV} (h : X99 (semCall (C mx) Tryd.prog) (semRun (C mx) Tryd.prog 99 Tryd.f99) a0 = some r) : semCall (C mx) Tryd.prog 99 [.s a0, .s [32]] = some r :=
  semCall_unr (fn := Tryd.f99) (c := body99) (by kernel_rfl) (by kernel_rfl) 400 (by kernel_rfl) ((text99 _ _ a0).trans h)
end
end R3

namespace R3
open Go Go.Proofs Sx
variable {mx : Int}
noncomputable def body101 : Code := (Tryd.f101.body).getD .skip
noncomputable def X101 (call : CallT) (run : RunT) (a0 : List UInt8) : Option AV :=
  (selW (.b (a0 == [])) false (some (.b false)) (.b true)).bind fun v1 => condM (v1)
  (some (.s a0))
  ((call 120 [.s a0, .u8 32]).bind fun v2 => some (v2))
section
variable (call : CallT) (run : RunT) (a0 : List UInt8)
theorem text101 : unr (C mx) call run 101 Tryd.f101 400 [.code body101] (initF (C mx) 101 Tryd.f101.ntmps [.s a0, .s [32]]) = X101 call run a0 := by
  kernel_rfl
theorem c101 {r : AV} (h : X101 (semCall (C mx) Tryd.prog) (semRun (C mx) Tryd.prog 101 Tryd.f101) a0 = some r) : semCall (C mx) Tryd.prog 101 [.s a0, .s [32]] = some r :=
  semCall_unr (fn := Tryd.f101) (c := body101) (by kernel_rfl) (by kernel_rfl) 400 (by kernel_rfl) ((text101 _ _ a0).trans h)
end
end R3

namespace R3
open Go Go.Proofs Sx
variable {mx : Int}
noncomputable def body120 : Code := (Tryd.f120.body).getD .skip
section
variable (run : RunT) (a0 : AV) (a1 : UInt8)
noncomputable def K120_1 : List Item := (kAt 1 body120 []).getD []
def S120_1 : St := St.ofL [(0, .cell (.val (a0))), (1, .cell (.val (.u8 a1)))] []
noncomputable def F120_1 : Option AV := run K120_1 (S120_1 a0 a1)
end
noncomputable def X120 (call : CallT) (run : RunT) (a0 : List UInt8) (a1 : UInt8) : Option AV :=
  F120_1 run (.s a0) a1
section
variable (call : CallT) (run : RunT) (a0 : List UInt8) (a1 : UInt8)
theorem text120 : unr (C mx) call run 120 Tryd.f120 400 [.code body120] (initF (C mx) 120 Tryd.f120.ntmps [.s a0, .u8 a1]) = X120 call run a0 a1 := by
  kernel_rfl
theorem c120 {r : AV} (h : X120 (semCall (C mx) Tryd.prog) (semRun (C mx) Tryd.prog 120 Tryd.f120) a0 a1 = some r) : semCall (C mx) Tryd.prog 120 [.s a0, .u8 a1] = some r :=
  semCall_unr (fn := Tryd.f120) (c := body120) (by kernel_rfl) (by kernel_rfl) 400 (by kernel_rfl) ((text120 _ _ a0 a1).trans h)
end
noncomputable def X120_1 (call : CallT) (run : RunT) (a0 : AV) (a1 : UInt8) : Option AV :=
  (lenS (a0)).bind fun v1 => (binI .gtr (v1) (.int 0)).bind fun v2 => (selW (v2) true ((idxS (a0) (.int 0)).bind fun v3 => (binI .eql (v3) (.u8 a1)).bind fun v4 => some (v4)) (.b false)).bind fun v5 => condM (v5)
  ((slS (a0) (some (.int 1)) none).bind fun v6 => F120_1 run (v6) a1)
  (some (a0))
section
variable (call : CallT) (run : RunT) (a0 : AV) (a1 : UInt8)
theorem text120_1 : step (C mx) call 120 Tryd.f120 (unr (C mx) call run 120 Tryd.f120 400) K120_1 (S120_1 a0 a1) = X120_1 call run a0 a1 := by
  kernel_rfl
end
section
variable (a0 : AV) (a1 : UInt8)
theorem r120_1 {r : AV} (h : X120_1 (semCall (C mx) Tryd.prog) (semRun (C mx) Tryd.prog 120 Tryd.f120) a0 a1 = some r) : F120_1 (semRun (C mx) Tryd.prog 120 Tryd.f120) a0 a1 = some r :=
  semRun_unr 400 ((text120_1 _ _ a0 a1).trans h)
end
end R3

namespace R3
open Go Go.Proofs Sx
variable {mx : Int}
noncomputable def body121 : Code := (Tryd.f121.body).getD .skip
section
variable (run : RunT) (a0 : AV) (a1 : UInt8)
noncomputable def K121_1 : List Item := (kAt 1 body121 []).getD []
def S121_1 : St := St.ofL [(0, .cell (.val (a0))), (1, .cell (.val (.u8 a1)))] []
noncomputable def F121_1 : Option AV := run K121_1 (S121_1 a0 a1)
end
noncomputable def X121 (call : CallT) (run : RunT) (a0 : List UInt8) (a1 : UInt8) : Option AV :=
  F121_1 run (.s a0) a1
section
variable (call : CallT) (run : RunT) (a0 : List UInt8) (a1 : UInt8)
theorem text121 : unr (C mx) call run 121 Tryd.f121 400 [.code body121] (initF (C mx) 121 Tryd.f121.ntmps [.s a0, .u8 a1]) = X121 call run a0 a1 := by
  kernel_rfl
theorem c121 {r : AV} (h : X121 (semCall (C mx) Tryd.prog) (semRun (C mx) Tryd.prog 121 Tryd.f121) a0 a1 = some r) : semCall (C mx) Tryd.prog 121 [.s a0, .u8 a1] = some r :=
  semCall_unr (fn := Tryd.f121) (c := body121) (by kernel_rfl) (by kernel_rfl) 400 (by kernel_rfl) ((text121 _ _ a0 a1).trans h)
end
noncomputable def X121_1 (call : CallT) (run : RunT) (a0 : AV) (a1 : UInt8) : Option AV :=
  (lenS (a0)).bind fun v1 => (binI .gtr (v1) (.int 0)).bind fun v2 => (selW (v2) true ((lenS (a0)).bind fun v3 => (binI .sub (v3) (.int 1)).bind fun v4 => (idxS (a0) (v4)).bind fun v5 => (binI .eql (v5) (.u8 a1)).bind fun v6 => some (v6)) (.b false)).bind fun v7 => condM (v7)
  ((lenS (a0)).bind fun v8 => (binI .sub (v8) (.int 1)).bind fun v9 => (slS (a0) none (some (v9))).bind fun v10 => F121_1 run (v10) a1)
  (some (a0))
section
variable (call : CallT) (run : RunT) (a0 : AV) (a1 : UInt8)
theorem text121_1 : step (C mx) call 121 Tryd.f121 (unr (C mx) call run 121 Tryd.f121 400) K121_1 (S121_1 a0 a1) = X121_1 call run a0 a1 := by
  kernel_rfl
end
section
variable (a0 : AV) (a1 : UInt8)
theorem r121_1 {r : AV} (h : X121_1 (semCall (C mx) Tryd.prog) (semRun (C mx) Tryd.prog 121 Tryd.f121) a0 a1 = some r) : F121_1 (semRun (C mx) Tryd.prog 121 Tryd.f121) a0 a1 = some r :=
  semRun_unr 400 ((text121_1 _ _ a0 a1).trans h)
end
end R3

namespace R3
open Go Go.Proofs Sx
variable {mx : Int}
noncomputable def body59 : Code := (Tryd.f59.body).getD .skip
noncomputable def X59 (call : CallT) (run : RunT) (a0 a1 : List UInt8) : Option AV :=
  (call 83 [.s a0, .s a1]).bind fun v1 => some (v1)
section
variable (call : CallT) (run : RunT) (a0 a1 : List UInt8)
theorem text59 : unr (C mx) call run 59 Tryd.f59 400 [.code body59] (initF (C mx) 59 Tryd.f59.ntmps [.s a0, .s a1]) = X59 call run a0 a1 := by
  kernel_rfl
theorem c59 {r : AV} (h : X59 (semCall (C mx) Tryd.prog) (semRun (C mx) Tryd.prog 59 Tryd.f59) a0 a1 = some r) : semCall (C mx) Tryd.prog 59 [.s a0, .s a1] = some r :=
  semCall_unr (fn := Tryd.f59) (c := body59) (by kernel_rfl) (by kernel_rfl) 400 (by kernel_rfl) ((text59 _ _ a0 a1).trans h)
end
end R3

namespace R3
open Go Go.Proofs Sx
variable {mx : Int}
noncomputable def body80 : Code := (Tryd.f80.body).getD .skip
section
variable (run : RunT) (a0 : AV) (a1 a2 : UInt8) (a3 : Int) (a4 : List UInt8) (a5 : Bool) (a6 : AV)
noncomputable def K80_18 : List Item := (kAt 18 body80 []).getD []
def S80_18 : St := St.ofL [(0, .cell (.val (a0))), (2, .cell (.ptr 2 0)), (4, .cell (.val (.u8 a1)))] [(2, some [.val (.u8 a2), .val (.int a3), .val (.s a4), .val (.b a5), .val (a6)])]
noncomputable def F80_18 : Option AV := run K80_18 (S80_18 a0 a1 a2 a3 a4 a5 a6)
end
noncomputable def X80 (call : CallT) (run : RunT) (a0 : List UInt8) : Option AV :=
  (call 99 [.s a0, .s [32]]).bind fun v1 => (binS .eql (v1) (.s [101, 108, 115, 101])).bind fun v2 => condM (v2)
  (some (.tu [.ag [.u8 3, .int 0, .s [], .b false, .nils], .b true]))
  ((binS .eql (v1) (.s [101, 110, 100])).bind fun v3 => condM (v3)
  (some (.tu [.ag [.u8 5, .int 0, .s [], .b false, .nils], .b true]))
  ((binS .eql (v1) (.s [102, 108, 117, 115, 104])).bind fun v4 => condM (v4)
  (some (.tu [.ag [.u8 6, .int 0, .s [], .b false, .nils], .b true]))
  ((call 100 [v1, .s [105, 102, 32]]).bind fun v5 => (tupI (v5) 0).bind fun v6 => (tupI (v5) 1).bind fun v7 => condM (v7)
  ((call 101 [v6, .s [32]]).bind fun v8 => F80_18 run (v8) 2 0 0 [] false (.nils))
  ((call 100 [v1, .s [114, 97, 110, 103, 101, 32]]).bind fun v9 => (tupI (v9) 0).bind fun v10 => (tupI (v9) 1).bind fun v11 => condM (v11)
  ((call 101 [v10, .s [32]]).bind fun v12 => F80_18 run (v12) 4 0 0 [] false (.nils))
  ((binS .eql (v1) (.s [105, 102])).bind fun v13 => (selW (v13) false ((binS .eql (v1) (.s [114, 97, 110, 103, 101])).bind fun v14 => some (v14)) (.b true)).bind fun v15 => condM (v15)
  (some (.tu [.ag [.u8 0, .int 0, .s [], .b false, .nils], .b false]))
  (F80_18 run (v1) 1 0 0 [] false (.nils)))))))
section
variable (call : CallT) (run : RunT) (a0 : List UInt8)
theorem text80 : unr (C mx) call run 80 Tryd.f80 400 [.code body80] (initF (C mx) 80 Tryd.f80.ntmps [.s a0]) = X80 call run a0 := by
  kernel_rfl
theorem c80 {r : AV} (h : X80 (semCall (C mx) Tryd.prog) (semRun (C mx) Tryd.prog 80 Tryd.f80) a0 = some r) : semCall (C mx) Tryd.prog 80 [.s a0] = some r :=
  semCall_unr (fn := Tryd.f80) (c := body80) (by kernel_rfl) (by kernel_rfl) 400 (by kernel_rfl) ((text80 _ _ a0).trans h)
end
noncomputable def X80_18 (call : CallT) (run : RunT) (a0 : AV) (a1 a2 : UInt8) (a3 : Int) (a4 : List UInt8) (a5 : Bool) (a6 : AV) : Option AV :=
  (call 27 [a0]).bind fun v1 => (tupI (v1) 0).bind fun v2 => (tupI (v1) 1).bind fun v3 => (AV.asAg 2 (v2)).bind fun v4 => some (.tu [.ag [.u8 a1, .int 0, .s [], v4.getD 0 .un, v4.getD 1 .un], v3])
section
variable (call : CallT) (run : RunT) (a0 : AV) (a1 a2 : UInt8) (a3 : Int) (a4 : List UInt8) (a5 : Bool) (a6 : AV)
theorem text80_18 : step (C mx) call 80 Tryd.f80 (unr (C mx) call run 80 Tryd.f80 400) K80_18 (S80_18 a0 a1 a2 a3 a4 a5 a6) = X80_18 call run a0 a1 a2 a3 a4 a5 a6 := by
  kernel_rfl
end
section
variable (a0 : AV) (a1 a2 : UInt8) (a3 : Int) (a4 : List UInt8) (a5 : Bool) (a6 : AV)
theorem r80_18 {r : AV} (h : X80_18 (semCall (C mx) Tryd.prog) (semRun (C mx) Tryd.prog 80 Tryd.f80) a0 a1 a2 a3 a4 a5 a6 = some r) : F80_18 (semRun (C mx) Tryd.prog 80 Tryd.f80) a0 a1 a2 a3 a4 a5 a6 = some r :=
  semRun_unr 400 ((text80_18 _ _ a0 a1 a2 a3 a4 a5 a6).trans h)
end
end R3

namespace R3
open Go Go.Proofs Sx
variable {mx : Int}
noncomputable def body83 : Code := (Tryd.f83.body).getD .skip
noncomputable def X83 (call : CallT) (run : RunT) (a0 a1 : List UInt8) : Option AV :=
  (selW (.b (decide (((a0.length : Int)) ≥ ((a1.length : Int))))) true ((slS (.s a0) none (some (.int ((a1.length : Int))))).bind fun v1 => (binS .eql (v1) (.s a1)).bind fun v2 => some (v2)) (.b false)).bind fun v3 => some (v3)
section
variable (call : CallT) (run : RunT) (a0 a1 : List UInt8)
theorem text83 : unr (C mx) call run 83 Tryd.f83 400 [.code body83] (initF (C mx) 83 Tryd.f83.ntmps [.s a0, .s a1]) = X83 call run a0 a1 := by
  kernel_rfl
theorem c83 {r : AV} (h : X83 (semCall (C mx) Tryd.prog) (semRun (C mx) Tryd.prog 83 Tryd.f83) a0 a1 = some r) : semCall (C mx) Tryd.prog 83 [.s a0, .s a1] = some r :=
  semCall_unr (fn := Tryd.f83) (c := body83) (by kernel_rfl) (by kernel_rfl) 400 (by kernel_rfl) ((text83 _ _ a0 a1).trans h)
end
end R3

namespace R3
open Go Go.Proofs Sx
variable {mx : Int}
noncomputable def body100 : Code := (Tryd.f100.body).getD .skip
noncomputable def X100 (call : CallT) (run : RunT) (a0 a1 : List UInt8) : Option AV :=
  (call 127 [.s a0, .s a1]).bind fun v1 => (tupI (v1) 0).bind fun v2 => (tupI (v1) 1).bind fun v3 => some (.tu [v2, v3])
section
variable (call : CallT) (run : RunT) (a0 a1 : List UInt8)
theorem text100 : unr (C mx) call run 100 Tryd.f100 400 [.code body100] (initF (C mx) 100 Tryd.f100.ntmps [.s a0, .s a1]) = X100 call run a0 a1 := by
  kernel_rfl
theorem c100 {r : AV} (h : X100 (semCall (C mx) Tryd.prog) (semRun (C mx) Tryd.prog 100 Tryd.f100) a0 a1 = some r) : semCall (C mx) Tryd.prog 100 [.s a0, .s a1] = some r :=
  semCall_unr (fn := Tryd.f100) (c := body100) (by kernel_rfl) (by kernel_rfl) 400 (by kernel_rfl) ((text100 _ _ a0 a1).trans h)
end
end R3

namespace R3
open Go Go.Proofs Sx
variable {mx : Int}
noncomputable def body127 : Code := (Tryd.f127.body).getD .skip
noncomputable def X127 (call : CallT) (run : RunT) (a0 a1 : List UInt8) : Option AV :=
  (call 83 [.s a0, .s a1]).bind fun v1 => (unop .not (v1)).bind fun v2 => condM (v2)
  (some (.tu [.s a0, .b false]))
  ((slS (.s a0) (some (.int ((a1.length : Int)))) none).bind fun v3 => some (.tu [v3, .b true]))
section
variable (call : CallT) (run : RunT) (a0 a1 : List UInt8)
theorem text127 : unr (C mx) call run 127 Tryd.f127 400 [.code body127] (initF (C mx) 127 Tryd.f127.ntmps [.s a0, .s a1]) = X127 call run a0 a1 := by
  kernel_rfl
theorem c127 {r : AV} (h : X127 (semCall (C mx) Tryd.prog) (semRun (C mx) Tryd.prog 127 Tryd.f127) a0 a1 = some r) : semCall (C mx) Tryd.prog 127 [.s a0, .s a1] = some r :=
  semCall_unr (fn := Tryd.f127) (c := body127) (by kernel_rfl) (by kernel_rfl) 400 (by kernel_rfl) ((text127 _ _ a0 a1).trans h)
end
end R3

namespace R3
open Go Go.Proofs Sx
variable {mx : Int}
noncomputable def body22 : Code := (Tryd.f22.body).getD .skip
noncomputable def X22 (call : CallT) (run : RunT)  : Option AV :=
  (call 23 [.s [123, 123, 120, 125, 125]]).bind fun v1 => (tupI (v1) 0).bind fun v2 => (tupI (v1) 1).bind fun v3 => (tupI (v1) 2).bind fun v4 => (binI .eql (v4) (.int 0)).bind fun v5 => (selW (v5) true ((lenR (v2)).bind fun v6 => (binI .eql (v6) (.int 1)).bind fun v7 => some (v7)) (.b false)).bind fun v8 => (selW (v8) true ((idx 5 (v2) (.int 0)).bind fun v9 => (binI .eql (AV.cell (v9) 0) (.u8 1)).bind fun v10 => some (v10)) (.b false)).bind fun v11 => some (v11)
section
variable (call : CallT) (run : RunT) 
theorem text22 : unr (C mx) call run 22 Tryd.f22 400 [.code body22] (initF (C mx) 22 Tryd.f22.ntmps []) = X22 call run  := by
  kernel_rfl
theorem c22 {r : AV} (h : X22 (semCall (C mx) Tryd.prog) (semRun (C mx) Tryd.prog 22 Tryd.f22)  = some r) : semCall (C mx) Tryd.prog 22 [] = some r :=
  semCall_unr (fn := Tryd.f22) (c := body22) (by kernel_rfl) (by kernel_rfl) 400 (by kernel_rfl) ((text22 _ _ ).trans h)
end
end R3

namespace R3
open Go Go.Proofs Sx
variable {mx : Int}
noncomputable def body23 : Code := (Tryd.f23.body).getD .skip
noncomputable def X23 (call : CallT) (run : RunT) (a0 : List UInt8) : Option AV :=
  condM (.b (decide (((a0.length : Int)) > 65536)))
  (some (.tu [.nils, .int 0, .int 2]))
  ((call 53 [.s a0, .un, .ag [.ro 5 []]]).bind fun v1 => (tupI v1 0).bind fun v2 => (tupI v1 1).bind fun v3 => (AV.asAg 1 v3).bind fun v4 => (binI .geq (v2) (.int 0)).bind fun v5 => condM (v5)
  (some (.tu [.nils, v2, .int 4]))
  (some (.tu [.ro 5 (AV.elems (v4.getD 0 .un)), .int 0, .int 0])))
section
variable (call : CallT) (run : RunT) (a0 : List UInt8)
theorem text23 : unr (C mx) call run 23 Tryd.f23 400 [.code body23] (initF (C mx) 23 Tryd.f23.ntmps [.s a0]) = X23 call run a0 := by
  kernel_rfl
theorem c23 {r : AV} (h : X23 (semCall (C mx) Tryd.prog) (semRun (C mx) Tryd.prog 23 Tryd.f23) a0 = some r) : semCall (C mx) Tryd.prog 23 [.s a0] = some r :=
  semCall_unr (fn := Tryd.f23) (c := body23) (by kernel_rfl) (by kernel_rfl) 400 (by kernel_rfl) ((text23 _ _ a0).trans h)
end
end R3

namespace R3
open Go Go.Proofs Sx
variable {mx : Int}
noncomputable def body53 : Code := (Tryd.f53.body).getD .skip
section
variable (run : RunT) (a0 : List UInt8) (a1 : AV) (a2 : List AV)
noncomputable def K53_2 : List Item := (kAt 2 body53 []).getD []
def S53_2 : St := St.ofL [(0, .cell (.val (.s a0))), (1, .cell (.clo 54 [71])), (5, .cell (.val (a1)))] [(71, some [.own 671000 36 5 a2])]
noncomputable def F53_2 : Option AV := run K53_2 (S53_2 a0 a1 a2)
end
section
variable (run : RunT) (a0 : List UInt8) (a1 a2 : AV) (a3 : List AV)
noncomputable def K53_6 : List Item := (kAt 6 body53 []).getD []
def S53_6 : St := St.ofL [(0, .cell (.val (.s a0))), (1, .cell (.clo 54 [71])), (5, .cell (.val (a1))), (6, .cell (.val (a2)))] [(71, some [.own 671000 36 5 a3])]
noncomputable def F53_6 : Option AV := run K53_6 (S53_6 a0 a1 a2 a3)
end
noncomputable def X53 (call : CallT) (run : RunT) (a0 : List UInt8) (a1 : List AV) : Option AV :=
  F53_2 run a0 (.int 0) a1
section
variable (call : CallT) (run : RunT) (a0 : List UInt8) (a1 : List AV)
theorem text53 : unr (C mx) call run 53 Tryd.f53 400 [.code body53] (initF (C mx) 53 Tryd.f53.ntmps [.s a0, .un, .ag [.ro 5 a1]]) = X53 call run a0 a1 := by
  kernel_rfl
theorem c53 {r : AV} (h : X53 (semCall (C mx) Tryd.prog) (semRun (C mx) Tryd.prog 53 Tryd.f53) a0 a1 = some r) : semCall (C mx) Tryd.prog 53 [.s a0, .un, .ag [.ro 5 a1]] = some r :=
  semCall_unr (fn := Tryd.f53) (c := body53) (by kernel_rfl) (by kernel_rfl) 400 (by kernel_rfl) ((text53 _ _ a0 a1).trans h)
end
noncomputable def X53_2 (call : CallT) (run : RunT) (a0 : List UInt8) (a1 : AV) (a2 : List AV) : Option AV :=
  (binI .lss (a1) (.int ((a0.length : Int)))).bind fun v1 => condM (v1)
  ((slS (.s a0) (some (a1)) none).bind fun v2 => (call 79 [v2, .s [123, 123]]).bind fun v3 => (binI .lss (v3) (.int 0)).bind fun v4 => condM (v4)
  ((binI .sub (.int ((a0.length : Int))) (a1)).bind fun v5 => F53_6 run a0 (a1) (v5) a2)
  (F53_6 run a0 (a1) (v3) a2))
  (some (.tu [.int ((-1)), .ag [.ro 5 a2]]))
section
variable (call : CallT) (run : RunT) (a0 : List UInt8) (a1 : AV) (a2 : List AV)
theorem text53_2 : step (C mx) call 53 Tryd.f53 (unr (C mx) call run 53 Tryd.f53 400) K53_2 (S53_2 a0 a1 a2) = X53_2 call run a0 a1 a2 := by
  kernel_rfl
end
noncomputable def X53_6 (call : CallT) (run : RunT) (a0 : List UInt8) (a1 a2 : AV) (a3 : List AV) : Option AV :=
  (binI .gtr (a2) (.int 0)).bind fun v1 => condM (v1)
  ((binI .add (a1) (a2)).bind fun v2 => (slS (.s a0) (some (a1)) (some (v2))).bind fun v3 => (AV.one (a1)).bind fun v4 => (AV.one (v3)).bind fun v5 => (call 54 [.ag [.u8 0, v4, v5, .b false, .nils], .un, .ag [.ro 5 a3]]).bind fun v6 => (tupI v6 0).bind fun v7 => (tupI v6 1).bind fun v8 => (AV.asAg 1 v8).bind fun v9 => (unop .not (v7)).bind fun v10 => condM (v10)
  (some (.tu [.int ((-1)), .ag [.ro 5 (AV.elems (v9.getD 0 .un))]]))
  ((binI .add (a1) (a2)).bind fun v11 => F53_2 run a0 (v11) (AV.elems (v9.getD 0 .un))))
  ((slS (.s a0) (some (a1)) none).bind fun v12 => (call 79 [v12, .s [125, 125]]).bind fun v13 => (binI .lss (v13) (.int 0)).bind fun v14 => condM (v14)
  (some (.tu [a1, .ag [.ro 5 a3]]))
  ((binI .add (a1) (.int 2)).bind fun v15 => (binI .add (a1) (v13)).bind fun v16 => (slS (.s a0) (some (v15)) (some (v16))).bind fun v17 => (call 80 [v17]).bind fun v18 => (tupI (v18) 0).bind fun v19 => (tupI (v18) 1).bind fun v20 => (AV.asAg 5 (v19)).bind fun v21 => (unop .not (v20)).bind fun v22 => condM (v22)
  (some (.tu [a1, .ag [.ro 5 a3]]))
  ((AV.one (a1)).bind fun v23 => (call 54 [.ag [v21.getD 0 .un, v23, v21.getD 2 .un, v21.getD 3 .un, v21.getD 4 .un], .un, .ag [.ro 5 a3]]).bind fun v24 => (tupI v24 0).bind fun v25 => (tupI v24 1).bind fun v26 => (AV.asAg 1 v26).bind fun v27 => (unop .not (v25)).bind fun v28 => condM (v28)
  (some (.tu [.int ((-1)), .ag [.ro 5 (AV.elems (v27.getD 0 .un))]]))
  ((binI .add (v13) (.int 2)).bind fun v29 => (binI .add (a1) (v29)).bind fun v30 => F53_2 run a0 (v30) (AV.elems (v27.getD 0 .un))))))
section
variable (call : CallT) (run : RunT) (a0 : List UInt8) (a1 a2 : AV) (a3 : List AV)
theorem text53_6 : step (C mx) call 53 Tryd.f53 (unr (C mx) call run 53 Tryd.f53 400) K53_6 (S53_6 a0 a1 a2 a3) = X53_6 call run a0 a1 a2 a3 := by
  kernel_rfl
end
section
variable (a0 : List UInt8) (a1 : AV) (a2 : List AV)
theorem r53_2 {r : AV} (h : X53_2 (semCall (C mx) Tryd.prog) (semRun (C mx) Tryd.prog 53 Tryd.f53) a0 a1 a2 = some r) : F53_2 (semRun (C mx) Tryd.prog 53 Tryd.f53) a0 a1 a2 = some r :=
  semRun_unr 400 ((text53_2 _ _ a0 a1 a2).trans h)
end
section
variable (a0 : List UInt8) (a1 a2 : AV) (a3 : List AV)
theorem r53_6 {r : AV} (h : X53_6 (semCall (C mx) Tryd.prog) (semRun (C mx) Tryd.prog 53 Tryd.f53) a0 a1 a2 a3 = some r) : F53_6 (semRun (C mx) Tryd.prog 53 Tryd.f53) a0 a1 a2 a3 = some r :=
  semRun_unr 400 ((text53_6 _ _ a0 a1 a2 a3).trans h)
end
end R3

namespace R3
open Go Go.Proofs Sx
variable {mx : Int}
noncomputable def body54 : Code := (Tryd.f54.body).getD .skip
noncomputable def X54 (call : CallT) (run : RunT) (a0 : UInt8) (a1 : Int) (a2 : List UInt8) (a3 : Bool) (a4 : AV) (a5 : List AV) : Option AV :=
  (app 64 5 a5 (.ro 5 (([.ag [.u8 a0, .int a1, .s a2, .b a3, a4]] : List AV)))).bind fun v1 => some (.tu [.b true, .ag [.ro 5 v1]])
section
variable (call : CallT) (run : RunT) (a0 : UInt8) (a1 : Int) (a2 : List UInt8) (a3 : Bool) (a4 : AV) (a5 : List AV)
theorem text54 : unr (C mx) call run 54 Tryd.f54 400 [.code body54] (initF (C mx) 54 Tryd.f54.ntmps [.ag [.u8 a0, .int a1, .s a2, .b a3, a4], .un, .ag [.ro 5 a5]]) = X54 call run a0 a1 a2 a3 a4 a5 := by
  kernel_rfl
theorem c54 {r : AV} (h : X54 (semCall (C mx) Tryd.prog) (semRun (C mx) Tryd.prog 54 Tryd.f54) a0 a1 a2 a3 a4 a5 = some r) : semCall (C mx) Tryd.prog 54 [.ag [.u8 a0, .int a1, .s a2, .b a3, a4], .un, .ag [.ro 5 a5]] = some r :=
  semCall_unr (fn := Tryd.f54) (c := body54) (by kernel_rfl) (by kernel_rfl) 400 (by kernel_rfl) ((text54 _ _ a0 a1 a2 a3 a4 a5).trans h)
end
end R3

namespace R3
open Go Go.Proofs Sx
variable {mx : Int}
noncomputable def body4 : Code := (Tryd.f4.body).getD .skip
section
variable (run : RunT) (a0 : List UInt8) (a1 : AV) (a2 : Int)
noncomputable def K4_7 : List Item := (kAt 7 body4 []).getD []
def S4_7 : St := St.ofL [(0, .cell (.val (.s a0))), (3, .cell (.val (a1))), (6, .cell (.val (.int a2)))] []
noncomputable def F4_7 : Option AV := run K4_7 (S4_7 a0 a1 a2)
end
section
variable (run : RunT) (a0 : List UInt8) (a1 : AV) (a2 : Int) (a3 a4 : AV)
noncomputable def K4_13 : List Item := (kAt 13 body4 []).getD []
def S4_13 : St := St.ofL [(0, .cell (.val (.s a0))), (3, .cell (.val (a1))), (6, .cell (.val (.int a2))), (7, .cell (.val (a3))), (8, .cell (.val (a4)))] []
noncomputable def F4_13 : Option AV := run K4_13 (S4_13 a0 a1 a2 a3 a4)
end
section
variable (run : RunT) (a0 : List UInt8) (a1 : AV) (a2 : Int)
noncomputable def K4_8 : List Item := (kAt 8 body4 []).getD []
def S4_8 : St := St.ofL [(0, .cell (.val (.s a0))), (3, .cell (.val (a1))), (6, .cell (.val (.int a2)))] []
noncomputable def F4_8 : Option AV := run K4_8 (S4_8 a0 a1 a2)
end
noncomputable def X4 (call : CallT) (run : RunT) (a0 : List UInt8) : Option AV :=
  (call 22 []).bind fun v1 => (unop .not (v1)).bind fun v2 => condM (v2)
  (some (.b false))
  ((call 23 [.s a0]).bind fun v3 => (tupI (v3) 0).bind fun v4 => (tupI (v3) 1).bind fun v5 => (tupI (v3) 2).bind fun v6 => (binI .neq (v6) (.int 0)).bind fun v7 => condM (v7)
  ((lenR (v4)).bind fun v8 => (binI .eql (v8) (.int 0)).bind fun v9 => some (v9))
  (F4_7 run a0 (v4) 0))
section
variable (call : CallT) (run : RunT) (a0 : List UInt8)
theorem text4 : unr (C mx) call run 4 Tryd.f4 400 [.code body4] (initF (C mx) 4 Tryd.f4.ntmps [.s a0]) = X4 call run a0 := by
  kernel_rfl
theorem c4 {r : AV} (h : X4 (semCall (C mx) Tryd.prog) (semRun (C mx) Tryd.prog 4 Tryd.f4) a0 = some r) : semCall (C mx) Tryd.prog 4 [.s a0] = some r :=
  semCall_unr (fn := Tryd.f4) (c := body4) (by kernel_rfl) (by kernel_rfl) 400 (by kernel_rfl) ((text4 _ _ a0).trans h)
end
noncomputable def X4_7 (call : CallT) (run : RunT) (a0 : List UInt8) (a1 : AV) (a2 : Int) : Option AV :=
  (lenR (a1)).bind fun v1 => (binI .lss (.int a2) (v1)).bind fun v2 => condM (v2)
  ((idx 5 (a1) (.int a2)).bind fun v3 => (lenR (a1)).bind fun v4 => (binI .lss (.int (w64 (a2 + 1))) (v4)).bind fun v5 => condM (v5)
  ((idx 5 (a1) (.int (w64 (a2 + 1)))).bind fun v6 => F4_13 run a0 (a1) a2 (AV.cell (v3) 1) (AV.cell (v6) 1))
  (F4_13 run a0 (a1) a2 (AV.cell (v3) 1) (.int ((a0.length : Int)))))
  ((lenR (a1)).bind fun v7 => (binI .gtr (v7) (.int 0)).bind fun v8 => (selW (v8) false (some (.b (a0 == []))) (.b true)).bind fun v9 => some (v9))
section
variable (call : CallT) (run : RunT) (a0 : List UInt8) (a1 : AV) (a2 : Int)
theorem text4_7 : step (C mx) call 4 Tryd.f4 (unr (C mx) call run 4 Tryd.f4 400) K4_7 (S4_7 a0 a1 a2) = X4_7 call run a0 a1 a2 := by
  kernel_rfl
end
noncomputable def X4_13 (call : CallT) (run : RunT) (a0 : List UInt8) (a1 : AV) (a2 : Int) (a3 a4 : AV) : Option AV :=
  (selW (.b (a2 == 0)) true ((binI .neq (a3) (.int 0)).bind fun v1 => some (v1)) (.b false)).bind fun v2 => (selW (v2) false ((binI .lss (a3) (.int 0)).bind fun v3 => some (v3)) (.b true)).bind fun v4 => (selW (v4) false ((binI .geq (a3) (a4)).bind fun v5 => some (v5)) (.b true)).bind fun v6 => (selW (v6) false ((binI .gtr (a4) (.int ((a0.length : Int)))).bind fun v7 => some (v7)) (.b true)).bind fun v8 => condM (v8)
  (some (.b false))
  ((slS (.s a0) (some (a3)) (some (a4))).bind fun v9 => (idx 5 (a1) (.int a2)).bind fun v10 => (binI .eql (AV.cell (v10) 0) (.u8 0)).bind fun v11 => condM (v11)
  ((idx 5 (a1) (.int a2)).bind fun v12 => (binS .neq (v9) (AV.cell (v12) 2)).bind fun v13 => (selW (v13) false ((selW (.b (decide (a2 > 0))) true ((idx 5 (a1) (.int (w64 (a2 - 1)))).bind fun v14 => (binI .eql (AV.cell (v14) 0) (.u8 0)).bind fun v15 => some (v15)) (.b false)).bind fun v16 => some (v16)) (.b true)).bind fun v17 => condM (v17)
  (some (.b false))
  (F4_8 run a0 (a1) a2))
  ((lenS (v9)).bind fun v18 => (binI .lss (v18) (.int 5)).bind fun v19 => (selW (v19) false ((slS (v9) none (some (.int 2))).bind fun v20 => (binS .neq (v20) (.s [123, 123])).bind fun v21 => some (v21)) (.b true)).bind fun v22 => (selW (v22) false ((lenS (v9)).bind fun v23 => (binI .sub (v23) (.int 2)).bind fun v24 => (slS (v9) (some (v24)) none).bind fun v25 => (binS .neq (v25) (.s [125, 125])).bind fun v26 => some (v26)) (.b true)).bind fun v27 => (selW (v27) false ((idx 5 (a1) (.int a2)).bind fun v28 => (binS .neq (AV.cell (v28) 2) (.s [])).bind fun v29 => some (v29)) (.b true)).bind fun v30 => condM (v30)
  (some (.b false))
  (F4_8 run a0 (a1) a2)))
section
variable (call : CallT) (run : RunT) (a0 : List UInt8) (a1 : AV) (a2 : Int) (a3 a4 : AV)
theorem text4_13 : step (C mx) call 4 Tryd.f4 (unr (C mx) call run 4 Tryd.f4 400) K4_13 (S4_13 a0 a1 a2 a3 a4) = X4_13 call run a0 a1 a2 a3 a4 := by
  kernel_rfl
end
noncomputable def X4_8 (call : CallT) (run : RunT) (a0 : List UInt8) (a1 : AV) (a2 : Int) : Option AV :=
  F4_7 run a0 (a1) (w64 (a2 + 1))
section
variable (call : CallT) (run : RunT) (a0 : List UInt8) (a1 : AV) (a2 : Int)
theorem text4_8 : step (C mx) call 4 Tryd.f4 (unr (C mx) call run 4 Tryd.f4 400) K4_8 (S4_8 a0 a1 a2) = X4_8 call run a0 a1 a2 := by
  kernel_rfl
end
section
variable (a0 : List UInt8) (a1 : AV) (a2 : Int)
theorem r4_7 {r : AV} (h : X4_7 (semCall (C mx) Tryd.prog) (semRun (C mx) Tryd.prog 4 Tryd.f4) a0 a1 a2 = some r) : F4_7 (semRun (C mx) Tryd.prog 4 Tryd.f4) a0 a1 a2 = some r :=
  semRun_unr 400 ((text4_7 _ _ a0 a1 a2).trans h)
end
section
variable (a0 : List UInt8) (a1 : AV) (a2 : Int) (a3 a4 : AV)
theorem r4_13 {r : AV} (h : X4_13 (semCall (C mx) Tryd.prog) (semRun (C mx) Tryd.prog 4 Tryd.f4) a0 a1 a2 a3 a4 = some r) : F4_13 (semRun (C mx) Tryd.prog 4 Tryd.f4) a0 a1 a2 a3 a4 = some r :=
  semRun_unr 400 ((text4_13 _ _ a0 a1 a2 a3 a4).trans h)
end
section
variable (a0 : List UInt8) (a1 : AV) (a2 : Int)
theorem r4_8 {r : AV} (h : X4_8 (semCall (C mx) Tryd.prog) (semRun (C mx) Tryd.prog 4 Tryd.f4) a0 a1 a2 = some r) : F4_8 (semRun (C mx) Tryd.prog 4 Tryd.f4) a0 a1 a2 = some r :=
  semRun_unr 400 ((text4_8 _ _ a0 a1 a2).trans h)
end
end R3

namespace R3
open Go Go.Proofs Sx
variable {mx : Int}
noncomputable def body5 : Code := (Tryd.f5.body).getD .skip
section
variable (run : RunT) (a0 : List UInt8) (a1 a2 : UInt8) (a3 : Int)
noncomputable def K5_4 : List Item := (kAt 4 body5 []).getD []
def S5_4 : St := St.ofL [(0, .cell (.val (.s a0))), (1, .cell (.val (.u8 a1))), (2, .cell (.val (.u8 a2))), (7, .cell (.val (.int a3)))] []
noncomputable def F5_4 : Option AV := run K5_4 (S5_4 a0 a1 a2 a3)
end
section
variable (run : RunT) (a0 : List UInt8) (a1 a2 : UInt8) (a3 : AV) (a4 : Int)
noncomputable def K5_10 : List Item := (kAt 10 body5 []).getD []
def S5_10 : St := St.ofL [(0, .cell (.val (.s a0))), (1, .cell (.val (.u8 a1))), (2, .cell (.val (.u8 a2))), (8, .cell (.val (a3))), (9, .cell (.val (.int a4)))] []
noncomputable def F5_10 : Option AV := run K5_10 (S5_10 a0 a1 a2 a3 a4)
end
section
variable (run : RunT) (a0 : List UInt8) (a1 : UInt8) (a2 : AV) (a3 : Int)
noncomputable def K5_15 : List Item := (kAt 15 body5 []).getD []
def S5_15 : St := St.ofL [(0, .cell (.val (.s a0))), (2, .cell (.val (.u8 a1))), (8, .cell (.val (a2))), (10, .cell (.val (.int a3)))] []
noncomputable def F5_15 : Option AV := run K5_15 (S5_15 a0 a1 a2 a3)
end
noncomputable def X5 (call : CallT) (run : RunT) (a0 : List UInt8) (a1 a2 : UInt8) : Option AV :=
  (call 22 []).bind fun v1 => (unop .not (v1)).bind fun v2 => condM (v2)
  (some (.b false))
  (F5_4 run a0 a1 a2 0)
section
variable (call : CallT) (run : RunT) (a0 : List UInt8) (a1 a2 : UInt8)
theorem text5 : unr (C mx) call run 5 Tryd.f5 400 [.code body5] (initF (C mx) 5 Tryd.f5.ntmps [.s a0, .u8 a1, .u8 a2]) = X5 call run a0 a1 a2 := by
  kernel_rfl
theorem c5 {r : AV} (h : X5 (semCall (C mx) Tryd.prog) (semRun (C mx) Tryd.prog 5 Tryd.f5) a0 a1 a2 = some r) : semCall (C mx) Tryd.prog 5 [.s a0, .u8 a1, .u8 a2] = some r :=
  semCall_unr (fn := Tryd.f5) (c := body5) (by kernel_rfl) (by kernel_rfl) 400 (by kernel_rfl) ((text5 _ _ a0 a1 a2).trans h)
end
noncomputable def X5_4 (call : CallT) (run : RunT) (a0 : List UInt8) (a1 a2 : UInt8) (a3 : Int) : Option AV :=
  condM (.b (decide (a3 < ((a0.length : Int)))))
  ((idxS (.s a0) (.int a3)).bind fun v1 => (binI .eql (v1) (.u8 123)).bind fun v2 => (selW (v2) false ((idxS (.s a0) (.int a3)).bind fun v3 => (binI .eql (v3) (.u8 125)).bind fun v4 => some (v4)) (.b true)).bind fun v5 => condM (v5)
  (some (.b true))
  (F5_4 run a0 a1 a2 (w64 (a3 + 1))))
  (F5_10 run a0 a1 a2 (.s [123, 123]) 0)
section
variable (call : CallT) (run : RunT) (a0 : List UInt8) (a1 a2 : UInt8) (a3 : Int)
theorem text5_4 : step (C mx) call 5 Tryd.f5 (unr (C mx) call run 5 Tryd.f5 400) K5_4 (S5_4 a0 a1 a2 a3) = X5_4 call run a0 a1 a2 a3 := by
  kernel_rfl
end
noncomputable def X5_10 (call : CallT) (run : RunT) (a0 : List UInt8) (a1 a2 : UInt8) (a3 : AV) (a4 : Int) : Option AV :=
  condM (.b (decide (a4 < (Int.tmod (w64 (a1.toNat : Int)) 9))))
  ((binS .add (a3) (.s [32])).bind fun v1 => F5_10 run a0 a1 a2 (v1) (w64 (a4 + 1)))
  ((binS .add (a3) (.s a0)).bind fun v2 => F5_15 run a0 a2 (v2) 0)
section
variable (call : CallT) (run : RunT) (a0 : List UInt8) (a1 a2 : UInt8) (a3 : AV) (a4 : Int)
theorem text5_10 : step (C mx) call 5 Tryd.f5 (unr (C mx) call run 5 Tryd.f5 400) K5_10 (S5_10 a0 a1 a2 a3 a4) = X5_10 call run a0 a1 a2 a3 a4 := by
  kernel_rfl
end
noncomputable def X5_15 (call : CallT) (run : RunT) (a0 : List UInt8) (a1 : UInt8) (a2 : AV) (a3 : Int) : Option AV :=
  condM (.b (decide (a3 < (Int.tmod (w64 (a1.toNat : Int)) 9))))
  ((binS .add (a2) (.s [32])).bind fun v1 => F5_15 run a0 a1 (v1) (w64 (a3 + 1)))
  ((binS .add (a2) (.s [125, 125])).bind fun v2 => (binS .add (.s [123, 123]) (.s a0)).bind fun v3 => (binS .add (v3) (.s [125, 125])).bind fun v4 => (call 23 [v4]).bind fun v5 => (tupI (v5) 0).bind fun v6 => (tupI (v5) 1).bind fun v7 => (tupI (v5) 2).bind fun v8 => (call 23 [v2]).bind fun v9 => (tupI (v9) 0).bind fun v10 => (tupI (v9) 1).bind fun v11 => (tupI (v9) 2).bind fun v12 => (lenS (v2)).bind fun v13 => (binI .gtr (v13) (.int 65536)).bind fun v14 => condM (v14)
  ((binI .eql (v12) (.int 2)).bind fun v15 => some (v15))
  ((binI .eql (v8) (v12)).bind fun v16 => (selW (v16) true ((call 25 [v6, v10]).bind fun v17 => some (v17)) (.b false)).bind fun v18 => some (v18)))
section
variable (call : CallT) (run : RunT) (a0 : List UInt8) (a1 : UInt8) (a2 : AV) (a3 : Int)
theorem text5_15 : step (C mx) call 5 Tryd.f5 (unr (C mx) call run 5 Tryd.f5 400) K5_15 (S5_15 a0 a1 a2 a3) = X5_15 call run a0 a1 a2 a3 := by
  kernel_rfl
end
section
variable (a0 : List UInt8) (a1 a2 : UInt8) (a3 : Int)
theorem r5_4 {r : AV} (h : X5_4 (semCall (C mx) Tryd.prog) (semRun (C mx) Tryd.prog 5 Tryd.f5) a0 a1 a2 a3 = some r) : F5_4 (semRun (C mx) Tryd.prog 5 Tryd.f5) a0 a1 a2 a3 = some r :=
  semRun_unr 400 ((text5_4 _ _ a0 a1 a2 a3).trans h)
end
section
variable (a0 : List UInt8) (a1 a2 : UInt8) (a3 : AV) (a4 : Int)
theorem r5_10 {r : AV} (h : X5_10 (semCall (C mx) Tryd.prog) (semRun (C mx) Tryd.prog 5 Tryd.f5) a0 a1 a2 a3 a4 = some r) : F5_10 (semRun (C mx) Tryd.prog 5 Tryd.f5) a0 a1 a2 a3 a4 = some r :=
  semRun_unr 400 ((text5_10 _ _ a0 a1 a2 a3 a4).trans h)
end
section
variable (a0 : List UInt8) (a1 : UInt8) (a2 : AV) (a3 : Int)
theorem r5_15 {r : AV} (h : X5_15 (semCall (C mx) Tryd.prog) (semRun (C mx) Tryd.prog 5 Tryd.f5) a0 a1 a2 a3 = some r) : F5_15 (semRun (C mx) Tryd.prog 5 Tryd.f5) a0 a1 a2 a3 = some r :=
  semRun_unr 400 ((text5_15 _ _ a0 a1 a2 a3).trans h)
end
end R3

namespace R3
open Go Go.Proofs Sx
variable {mx : Int}
noncomputable def body25 : Code := (Tryd.f25.body).getD .skip
section
variable (run : RunT) (a0 a1 : AV) (a2 : Int)
noncomputable def K25_4 : List Item := (kAt 4 body25 []).getD []
def S25_4 : St := St.ofL [(0, .cell (.val (a0))), (1, .cell (.val (a1))), (5, .cell (.val (.int a2)))] []
noncomputable def F25_4 : Option AV := run K25_4 (S25_4 a0 a1 a2)
end
noncomputable def X25 (call : CallT) (run : RunT) (a0 a1 : AV) : Option AV :=
  (lenR (a0)).bind fun v1 => (lenR (a1)).bind fun v2 => (binI .neq (v1) (v2)).bind fun v3 => condM (v3)
  (some (.b false))
  (F25_4 run (a0) (a1) 0)
section
variable (call : CallT) (run : RunT) (a0 a1 : AV)
theorem text25 : unr (C mx) call run 25 Tryd.f25 400 [.code body25] (initF (C mx) 25 Tryd.f25.ntmps [a0, a1]) = X25 call run a0 a1 := by
  kernel_rfl
theorem c25 {r : AV} (h : X25 (semCall (C mx) Tryd.prog) (semRun (C mx) Tryd.prog 25 Tryd.f25) a0 a1 = some r) : semCall (C mx) Tryd.prog 25 [a0, a1] = some r :=
  semCall_unr (fn := Tryd.f25) (c := body25) (by kernel_rfl) (by kernel_rfl) 400 (by kernel_rfl) ((text25 _ _ a0 a1).trans h)
end
noncomputable def X25_4 (call : CallT) (run : RunT) (a0 a1 : AV) (a2 : Int) : Option AV :=
  (lenR (a0)).bind fun v1 => (binI .lss (.int a2) (v1)).bind fun v2 => condM (v2)
  ((idx 5 (a0) (.int a2)).bind fun v3 => (idx 5 (a1) (.int a2)).bind fun v4 => (call 57 [.ag [AV.cell (v3) 0, AV.cell (v3) 1, AV.cell (v3) 2, AV.cell (v3) 3, AV.cell (v3) 4], .ag [AV.cell (v4) 0, AV.cell (v4) 1, AV.cell (v4) 2, AV.cell (v4) 3, AV.cell (v4) 4]]).bind fun v5 => (unop .not (v5)).bind fun v6 => condM (v6)
  (some (.b false))
  (F25_4 run (a0) (a1) (w64 (a2 + 1))))
  (some (.b true))
section
variable (call : CallT) (run : RunT) (a0 a1 : AV) (a2 : Int)
theorem text25_4 : step (C mx) call 25 Tryd.f25 (unr (C mx) call run 25 Tryd.f25 400) K25_4 (S25_4 a0 a1 a2) = X25_4 call run a0 a1 a2 := by
  kernel_rfl
end
section
variable (a0 a1 : AV) (a2 : Int)
theorem r25_4 {r : AV} (h : X25_4 (semCall (C mx) Tryd.prog) (semRun (C mx) Tryd.prog 25 Tryd.f25) a0 a1 a2 = some r) : F25_4 (semRun (C mx) Tryd.prog 25 Tryd.f25) a0 a1 a2 = some r :=
  semRun_unr 400 ((text25_4 _ _ a0 a1 a2).trans h)
end
end R3

namespace R3
open Go Go.Proofs Sx
variable {mx : Int}
noncomputable def body57 : Code := (Tryd.f57.body).getD .skip
noncomputable def X57 (call : CallT) (run : RunT) (a0 : UInt8) (a1 : Int) (a2 : List UInt8) (a3 : Bool) (a4 : AV) (a5 : UInt8) (a6 : Int) (a7 : List UInt8) (a8 : Bool) (a9 : AV) : Option AV :=
  (selW (.b (ueq a0 a5)) true (some (.b (a1 == a6))) (.b false)).bind fun v1 => (selW (v1) true (some (.b (a2 == a7))) (.b false)).bind fun v2 => (selW (v2) true ((call 31 [.ag [.b a3, a4], .ag [.b a8, a9]]).bind fun v3 => some (v3)) (.b false)).bind fun v4 => some (v4)
section
variable (call : CallT) (run : RunT) (a0 : UInt8) (a1 : Int) (a2 : List UInt8) (a3 : Bool) (a4 : AV) (a5 : UInt8) (a6 : Int) (a7 : List UInt8) (a8 : Bool) (a9 : AV)
theorem text57 : unr (C mx) call run 57 Tryd.f57 400 [.code body57] (initF (C mx) 57 Tryd.f57.ntmps [.ag [.u8 a0, .int a1, .s a2, .b a3, a4], .ag [.u8 a5, .int a6, .s a7, .b a8, a9]]) = X57 call run a0 a1 a2 a3 a4 a5 a6 a7 a8 a9 := by
  kernel_rfl
theorem c57 {r : AV} (h : X57 (semCall (C mx) Tryd.prog) (semRun (C mx) Tryd.prog 57 Tryd.f57) a0 a1 a2 a3 a4 a5 a6 a7 a8 a9 = some r) : semCall (C mx) Tryd.prog 57 [.ag [.u8 a0, .int a1, .s a2, .b a3, a4], .ag [.u8 a5, .int a6, .s a7, .b a8, a9]] = some r :=
  semCall_unr (fn := Tryd.f57) (c := body57) (by kernel_rfl) (by kernel_rfl) 400 (by kernel_rfl) ((text57 _ _ a0 a1 a2 a3 a4 a5 a6 a7 a8 a9).trans h)
end
end R3

namespace R3
open Go Go.Proofs Sx
variable {mx : Int}
noncomputable def body31 : Code := (Tryd.f31.body).getD .skip
section
variable (run : RunT) (a0 : Int) (a1 : Bool) (a2 : AV) (a3 : Bool) (a4 : AV)
noncomputable def K31_4 : List Item := (kAt 4 body31 []).getD []
def S31_4 : St := St.ofL [(2, .cell (.ptr 2 0)), (3, .cell (.ptr 3 0)), (5, .cell (.val (.int a0)))] [(2, some [.val (.b a1), .val (a2)]), (3, some [.val (.b a3), .val (a4)])]
noncomputable def F31_4 : Option AV := run K31_4 (S31_4 a0 a1 a2 a3 a4)
end
noncomputable def X31 (call : CallT) (run : RunT) (a0 : Bool) (a1 : AV) (a2 : Bool) (a3 : AV) : Option AV :=
  (selW (.b (a0 != a2)) false ((lenR (a1)).bind fun v1 => (lenR (a3)).bind fun v2 => (binI .neq (v1) (v2)).bind fun v3 => some (v3)) (.b true)).bind fun v4 => condM (v4)
  (some (.b false))
  (F31_4 run 0 a0 (a1) a2 (a3))
section
variable (call : CallT) (run : RunT) (a0 : Bool) (a1 : AV) (a2 : Bool) (a3 : AV)
theorem text31 : unr (C mx) call run 31 Tryd.f31 400 [.code body31] (initF (C mx) 31 Tryd.f31.ntmps [.ag [.b a0, a1], .ag [.b a2, a3]]) = X31 call run a0 a1 a2 a3 := by
  kernel_rfl
theorem c31 {r : AV} (h : X31 (semCall (C mx) Tryd.prog) (semRun (C mx) Tryd.prog 31 Tryd.f31) a0 a1 a2 a3 = some r) : semCall (C mx) Tryd.prog 31 [.ag [.b a0, a1], .ag [.b a2, a3]] = some r :=
  semCall_unr (fn := Tryd.f31) (c := body31) (by kernel_rfl) (by kernel_rfl) 400 (by kernel_rfl) ((text31 _ _ a0 a1 a2 a3).trans h)
end
noncomputable def X31_4 (call : CallT) (run : RunT) (a0 : Int) (a1 : Bool) (a2 : AV) (a3 : Bool) (a4 : AV) : Option AV :=
  (lenR (a2)).bind fun v1 => (binI .lss (.int a0) (v1)).bind fun v2 => condM (v2)
  ((idx 1 (a2) (.int a0)).bind fun v3 => (idx 1 (a4) (.int a0)).bind fun v4 => (binS .neq (AV.cell (v3) 0) (AV.cell (v4) 0)).bind fun v5 => condM (v5)
  (some (.b false))
  (F31_4 run (w64 (a0 + 1)) a1 (a2) a3 (a4)))
  (some (.b true))
section
variable (call : CallT) (run : RunT) (a0 : Int) (a1 : Bool) (a2 : AV) (a3 : Bool) (a4 : AV)
theorem text31_4 : step (C mx) call 31 Tryd.f31 (unr (C mx) call run 31 Tryd.f31 400) K31_4 (S31_4 a0 a1 a2 a3 a4) = X31_4 call run a0 a1 a2 a3 a4 := by
  kernel_rfl
end
section
variable (a0 : Int) (a1 : Bool) (a2 : AV) (a3 : Bool) (a4 : AV)
theorem r31_4 {r : AV} (h : X31_4 (semCall (C mx) Tryd.prog) (semRun (C mx) Tryd.prog 31 Tryd.f31) a0 a1 a2 a3 a4 = some r) : F31_4 (semRun (C mx) Tryd.prog 31 Tryd.f31) a0 a1 a2 a3 a4 = some r :=
  semRun_unr 400 ((text31_4 _ _ a0 a1 a2 a3 a4).trans h)
end
end R3

namespace R3
open Go Go.Proofs Sx
variable {mx : Int}
noncomputable def body81 : Code := (Tryd.f81.body).getD .skip
section
variable (run : RunT) (a0 : AV)
noncomputable def K81_1 : List Item := (kAt 1 body81 []).getD []
def S81_1 : St := St.ofL [(0, .cell (.val (a0)))] []
noncomputable def F81_1 : Option AV := run K81_1 (S81_1 a0)
end
section
variable (run : RunT) (a0 : AV)
noncomputable def K81_3 : List Item := (kAt 3 body81 []).getD []
def S81_3 : St := St.ofL [(0, .cell (.val (a0)))] []
noncomputable def F81_3 : Option AV := run K81_3 (S81_3 a0)
end
noncomputable def X81 (call : CallT) (run : RunT) (a0 : List UInt8) : Option AV :=
  F81_1 run (.s a0)
section
variable (call : CallT) (run : RunT) (a0 : List UInt8)
theorem text81 : unr (C mx) call run 81 Tryd.f81 400 [.code body81] (initF (C mx) 81 Tryd.f81.ntmps [.s a0]) = X81 call run a0 := by
  kernel_rfl
theorem c81 {r : AV} (h : X81 (semCall (C mx) Tryd.prog) (semRun (C mx) Tryd.prog 81 Tryd.f81) a0 = some r) : semCall (C mx) Tryd.prog 81 [.s a0] = some r :=
  semCall_unr (fn := Tryd.f81) (c := body81) (by kernel_rfl) (by kernel_rfl) 400 (by kernel_rfl) ((text81 _ _ a0).trans h)
end
noncomputable def X81_1 (call : CallT) (run : RunT) (a0 : AV) : Option AV :=
  (lenS (a0)).bind fun v1 => (binI .gtr (v1) (.int 0)).bind fun v2 => (selW (v2) true ((idxS (a0) (.int 0)).bind fun v3 => (binI .eql (v3) (.u8 32)).bind fun v4 => some (v4)) (.b false)).bind fun v5 => condM (v5)
  ((slS (a0) (some (.int 1)) none).bind fun v6 => F81_1 run (v6))
  (F81_3 run (a0))
section
variable (call : CallT) (run : RunT) (a0 : AV)
theorem text81_1 : step (C mx) call 81 Tryd.f81 (unr (C mx) call run 81 Tryd.f81 400) K81_1 (S81_1 a0) = X81_1 call run a0 := by
  kernel_rfl
end
noncomputable def X81_3 (call : CallT) (run : RunT) (a0 : AV) : Option AV :=
  (lenS (a0)).bind fun v1 => (binI .gtr (v1) (.int 0)).bind fun v2 => (selW (v2) true ((lenS (a0)).bind fun v3 => (binI .sub (v3) (.int 1)).bind fun v4 => (idxS (a0) (v4)).bind fun v5 => (binI .eql (v5) (.u8 32)).bind fun v6 => some (v6)) (.b false)).bind fun v7 => condM (v7)
  ((lenS (a0)).bind fun v8 => (binI .sub (v8) (.int 1)).bind fun v9 => (slS (a0) none (some (v9))).bind fun v10 => F81_3 run (v10))
  (some (a0))
section
variable (call : CallT) (run : RunT) (a0 : AV)
theorem text81_3 : step (C mx) call 81 Tryd.f81 (unr (C mx) call run 81 Tryd.f81 400) K81_3 (S81_3 a0) = X81_3 call run a0 := by
  kernel_rfl
end
section
variable (a0 : AV)
theorem r81_1 {r : AV} (h : X81_1 (semCall (C mx) Tryd.prog) (semRun (C mx) Tryd.prog 81 Tryd.f81) a0 = some r) : F81_1 (semRun (C mx) Tryd.prog 81 Tryd.f81) a0 = some r :=
  semRun_unr 400 ((text81_1 _ _ a0).trans h)
end
section
variable (a0 : AV)
theorem r81_3 {r : AV} (h : X81_3 (semCall (C mx) Tryd.prog) (semRun (C mx) Tryd.prog 81 Tryd.f81) a0 = some r) : F81_3 (semRun (C mx) Tryd.prog 81 Tryd.f81) a0 = some r :=
  semRun_unr 400 ((text81_3 _ _ a0).trans h)
end
end R3

namespace R3
open Go Go.Proofs Sx
variable {mx : Int}
noncomputable def body82 : Code := (Tryd.f82.body).getD .skip
noncomputable def X82 (call : CallT) (run : RunT) (a0 a1 : List UInt8) : Option AV :=
  (selW (.b (decide (((a0.length : Int)) > ((a1.length : Int))))) true ((slS (.s a0) none (some (.int ((a1.length : Int))))).bind fun v1 => (binS .eql (v1) (.s a1)).bind fun v2 => some (v2)) (.b false)).bind fun v3 => (selW (v3) true ((idxS (.s a0) (.int ((a1.length : Int)))).bind fun v4 => (binI .eql (v4) (.u8 32)).bind fun v5 => some (v5)) (.b false)).bind fun v6 => some (v6)
section
variable (call : CallT) (run : RunT) (a0 a1 : List UInt8)
theorem text82 : unr (C mx) call run 82 Tryd.f82 400 [.code body82] (initF (C mx) 82 Tryd.f82.ntmps [.s a0, .s a1]) = X82 call run a0 a1 := by
  kernel_rfl
theorem c82 {r : AV} (h : X82 (semCall (C mx) Tryd.prog) (semRun (C mx) Tryd.prog 82 Tryd.f82) a0 a1 = some r) : semCall (C mx) Tryd.prog 82 [.s a0, .s a1] = some r :=
  semCall_unr (fn := Tryd.f82) (c := body82) (by kernel_rfl) (by kernel_rfl) 400 (by kernel_rfl) ((text82 _ _ a0 a1).trans h)
end
end R3

namespace R3
open Go Go.Proofs Sx
variable {mx : Int}
noncomputable def body55 : Code := (Tryd.f55.body).getD .skip
noncomputable def X55 (call : CallT) (run : RunT) (a0 : List UInt8) (a1 : Int) (a2 : List UInt8) : Option AV :=
  (selW (.b (decide (a1 ≥ 0))) true (some (.b (decide ((w64 (((a0.length : Int)) - a1)) ≥ ((a2.length : Int)))))) (.b false)).bind fun v1 => (selW (v1) true ((slS (.s a0) (some (.int a1)) (some (.int (w64 (a1 + ((a2.length : Int))))))).bind fun v2 => (binS .eql (v2) (.s a2)).bind fun v3 => some (v3)) (.b false)).bind fun v4 => some (v4)
section
variable (call : CallT) (run : RunT) (a0 : List UInt8) (a1 : Int) (a2 : List UInt8)
theorem text55 : unr (C mx) call run 55 Tryd.f55 400 [.code body55] (initF (C mx) 55 Tryd.f55.ntmps [.s a0, .int a1, .s a2]) = X55 call run a0 a1 a2 := by
  kernel_rfl
theorem c55 {r : AV} (h : X55 (semCall (C mx) Tryd.prog) (semRun (C mx) Tryd.prog 55 Tryd.f55) a0 a1 a2 = some r) : semCall (C mx) Tryd.prog 55 [.s a0, .int a1, .s a2] = some r :=
  semCall_unr (fn := Tryd.f55) (c := body55) (by kernel_rfl) (by kernel_rfl) 400 (by kernel_rfl) ((text55 _ _ a0 a1 a2).trans h)
end
end R3

namespace R3
open Go Go.Proofs Sx
variable {mx : Int}
noncomputable def body30 : Code := (Tryd.f30.body).getD .skip
section
variable (run : RunT) (a0 : List UInt8) (a1 : Int)
noncomputable def K30_4 : List Item := (kAt 4 body30 []).getD []
def S30_4 : St := St.ofL [(0, .cell (.val (.s a0))), (3, .cell (.val (.int a1)))] []
noncomputable def F30_4 : Option AV := run K30_4 (S30_4 a0 a1)
end
noncomputable def X30 (call : CallT) (run : RunT) (a0 : List UInt8) : Option AV :=
  (selW (.b (((a0.length : Int)) == 0)) false (some (.b (decide (((a0.length : Int)) > 32)))) (.b true)).bind fun v1 => (selW (v1) false ((idxS (.s a0) (.int 0)).bind fun v2 => (binI .lss (v2) (.u8 97)).bind fun v3 => some (v3)) (.b true)).bind fun v4 => (selW (v4) false ((idxS (.s a0) (.int 0)).bind fun v5 => (binI .gtr (v5) (.u8 122)).bind fun v6 => some (v6)) (.b true)).bind fun v7 => condM (v7)
  (some (.b false))
  (F30_4 run a0 0)
section
variable (call : CallT) (run : RunT) (a0 : List UInt8)
theorem text30 : unr (C mx) call run 30 Tryd.f30 400 [.code body30] (initF (C mx) 30 Tryd.f30.ntmps [.s a0]) = X30 call run a0 := by
  kernel_rfl
theorem c30 {r : AV} (h : X30 (semCall (C mx) Tryd.prog) (semRun (C mx) Tryd.prog 30 Tryd.f30) a0 = some r) : semCall (C mx) Tryd.prog 30 [.s a0] = some r :=
  semCall_unr (fn := Tryd.f30) (c := body30) (by kernel_rfl) (by kernel_rfl) 400 (by kernel_rfl) ((text30 _ _ a0).trans h)
end
noncomputable def X30_4 (call : CallT) (run : RunT) (a0 : List UInt8) (a1 : Int) : Option AV :=
  condM (.b (decide (a1 < ((a0.length : Int)))))
  ((idxS (.s a0) (.int a1)).bind fun v1 => (binI .geq (v1) (.u8 97)).bind fun v2 => (selW (v2) true ((binI .leq (v1) (.u8 122)).bind fun v3 => some (v3)) (.b false)).bind fun v4 => (selW (v4) false ((binI .geq (v1) (.u8 48)).bind fun v5 => (selW (v5) true ((binI .leq (v1) (.u8 57)).bind fun v6 => some (v6)) (.b false)).bind fun v7 => some (v7)) (.b true)).bind fun v8 => (selW (v8) false ((binI .eql (v1) (.u8 95)).bind fun v9 => some (v9)) (.b true)).bind fun v10 => (unop .not (v10)).bind fun v11 => condM (v11)
  (some (.b false))
  (F30_4 run a0 (w64 (a1 + 1))))
  (some (.b true))
section
variable (call : CallT) (run : RunT) (a0 : List UInt8) (a1 : Int)
theorem text30_4 : step (C mx) call 30 Tryd.f30 (unr (C mx) call run 30 Tryd.f30 400) K30_4 (S30_4 a0 a1) = X30_4 call run a0 a1 := by
  kernel_rfl
end
section
variable (a0 : List UInt8) (a1 : Int)
theorem r30_4 {r : AV} (h : X30_4 (semCall (C mx) Tryd.prog) (semRun (C mx) Tryd.prog 30 Tryd.f30) a0 a1 = some r) : F30_4 (semRun (C mx) Tryd.prog 30 Tryd.f30) a0 a1 = some r :=
  semRun_unr 400 ((text30_4 _ _ a0 a1).trans h)
end
end R3

namespace R3
open Go Go.Proofs Sx
variable {mx : Int}
noncomputable def body28 : Code := (Tryd.f28.body).getD .skip
section
variable (run : RunT) (a0 : AV) (a1 : Bool) (a2 : AV) (a3 : Bool) (a4 : List AV)
noncomputable def K28_9 : List Item := (kAt 9 body28 []).getD []
def S28_9 : St := St.ofL [(0, .cell (.val (a0))), (2, .cell (.ptr 2 0)), (4, .cell (.ptr 4 0))] [(2, some [.val (.b a1), .val (a2)]), (4, some [.val (.b a3), .own 604001 9 1 a4])]
noncomputable def F28_9 : Option AV := run K28_9 (S28_9 a0 a1 a2 a3 a4)
end
section
variable (run : RunT) (a0 : AV) (a1 a2 : Int) (a3 : Bool) (a4 : AV) (a5 : Bool) (a6 : List AV)
noncomputable def K28_11 : List Item := (kAt 11 body28 []).getD []
def S28_11 : St := St.ofL [(0, .cell (.val (a0))), (2, .cell (.ptr 2 0)), (4, .cell (.ptr 4 0)), (5, .cell (.val (.int a1))), (6, .cell (.val (.int a2)))] [(2, some [.val (.b a3), .val (a4)]), (4, some [.val (.b a5), .own 604001 9 1 a6])]
noncomputable def F28_11 : Option AV := run K28_11 (S28_11 a0 a1 a2 a3 a4 a5 a6)
end
section
variable (run : RunT) (a0 : AV) (a1 a2 : Int) (a3 : Bool) (a4 : AV) (a5 : Bool) (a6 : List AV)
noncomputable def K28_12 : List Item := (kAt 12 body28 []).getD []
def S28_12 : St := St.ofL [(0, .cell (.val (a0))), (2, .cell (.ptr 2 0)), (4, .cell (.ptr 4 0)), (5, .cell (.val (.int a1))), (6, .cell (.val (.int a2)))] [(2, some [.val (.b a3), .val (a4)]), (4, some [.val (.b a5), .own 604001 9 1 a6])]
noncomputable def F28_12 : Option AV := run K28_12 (S28_12 a0 a1 a2 a3 a4 a5 a6)
end
noncomputable def X28 (call : CallT) (run : RunT) (a0 : List UInt8) : Option AV :=
  condM (.b (a0 == [46]))
  (some (.tu [.ag [.b false, .nils], .b true]))
  (condM (.b (a0 == [36]))
  (some (.tu [.ag [.b true, .nils], .b true]))
  ((selW (.b (decide (((a0.length : Int)) ≥ 2))) true ((idxS (.s a0) (.int 0)).bind fun v1 => (binI .eql (v1) (.u8 36)).bind fun v2 => some (v2)) (.b false)).bind fun v3 => (selW (v3) true ((idxS (.s a0) (.int 1)).bind fun v4 => (binI .eql (v4) (.u8 46)).bind fun v5 => some (v5)) (.b false)).bind fun v6 => condM (v6)
  ((slS (.s a0) (some (.int 2)) none).bind fun v7 => F28_9 run (v7) false (.nils) true [])
  (F28_9 run (.s a0) false (.nils) false [])))
section
variable (call : CallT) (run : RunT) (a0 : List UInt8)
theorem text28 : unr (C mx) call run 28 Tryd.f28 400 [.code body28] (initF (C mx) 28 Tryd.f28.ntmps [.s a0]) = X28 call run a0 := by
  kernel_rfl
theorem c28 {r : AV} (h : X28 (semCall (C mx) Tryd.prog) (semRun (C mx) Tryd.prog 28 Tryd.f28) a0 = some r) : semCall (C mx) Tryd.prog 28 [.s a0] = some r :=
  semCall_unr (fn := Tryd.f28) (c := body28) (by kernel_rfl) (by kernel_rfl) 400 (by kernel_rfl) ((text28 _ _ a0).trans h)
end
noncomputable def X28_9 (call : CallT) (run : RunT) (a0 : AV) (a1 : Bool) (a2 : AV) (a3 : Bool) (a4 : List AV) : Option AV :=
  F28_11 run (a0) 0 0 a1 (a2) a3 a4
section
variable (call : CallT) (run : RunT) (a0 : AV) (a1 : Bool) (a2 : AV) (a3 : Bool) (a4 : List AV)
theorem text28_9 : step (C mx) call 28 Tryd.f28 (unr (C mx) call run 28 Tryd.f28 400) K28_9 (S28_9 a0 a1 a2 a3 a4) = X28_9 call run a0 a1 a2 a3 a4 := by
  kernel_rfl
end
noncomputable def X28_11 (call : CallT) (run : RunT) (a0 : AV) (a1 a2 : Int) (a3 : Bool) (a4 : AV) (a5 : Bool) (a6 : List AV) : Option AV :=
  (lenS (a0)).bind fun v1 => (binI .leq (.int a2) (v1)).bind fun v2 => condM (v2)
  ((lenS (a0)).bind fun v3 => (binI .lss (.int a2) (v3)).bind fun v4 => (selW (v4) true ((idxS (a0) (.int a2)).bind fun v5 => (binI .neq (v5) (.u8 46)).bind fun v6 => some (v6)) (.b false)).bind fun v7 => condM (v7)
  (F28_12 run (a0) a1 a2 a3 (a4) a5 a6)
  ((slS (a0) (some (.int a1)) (some (.int a2))).bind fun v8 => (call 30 [v8]).bind fun v9 => (unop .not (v9)).bind fun v10 => (selW (v10) false (some (.b (decide (((a6.length : Int)) ≥ 8)))) (.b true)).bind fun v11 => condM (v11)
  (some (.tu [.ag [.b false, .nils], .b false]))
  ((slS (a0) (some (.int a1)) (some (.int a2))).bind fun v12 => (AV.one (v12)).bind fun v13 => (app 16 1 a6 (.ro 1 (([v13] : List AV)))).bind fun v14 => F28_12 run (a0) (w64 (a2 + 1)) a2 a3 (a4) a5 v14)))
  (some (.tu [.ag [.b a5, .ro 1 a6], .b true]))
section
variable (call : CallT) (run : RunT) (a0 : AV) (a1 a2 : Int) (a3 : Bool) (a4 : AV) (a5 : Bool) (a6 : List AV)
theorem text28_11 : step (C mx) call 28 Tryd.f28 (unr (C mx) call run 28 Tryd.f28 400) K28_11 (S28_11 a0 a1 a2 a3 a4 a5 a6) = X28_11 call run a0 a1 a2 a3 a4 a5 a6 := by
  kernel_rfl
end
noncomputable def X28_12 (call : CallT) (run : RunT) (a0 : AV) (a1 a2 : Int) (a3 : Bool) (a4 : AV) (a5 : Bool) (a6 : List AV) : Option AV :=
  F28_11 run (a0) a1 (w64 (a2 + 1)) a3 (a4) a5 a6
section
variable (call : CallT) (run : RunT) (a0 : AV) (a1 a2 : Int) (a3 : Bool) (a4 : AV) (a5 : Bool) (a6 : List AV)
theorem text28_12 : step (C mx) call 28 Tryd.f28 (unr (C mx) call run 28 Tryd.f28 400) K28_12 (S28_12 a0 a1 a2 a3 a4 a5 a6) = X28_12 call run a0 a1 a2 a3 a4 a5 a6 := by
  kernel_rfl
end
section
variable (a0 : AV) (a1 : Bool) (a2 : AV) (a3 : Bool) (a4 : List AV)
theorem r28_9 {r : AV} (h : X28_9 (semCall (C mx) Tryd.prog) (semRun (C mx) Tryd.prog 28 Tryd.f28) a0 a1 a2 a3 a4 = some r) : F28_9 (semRun (C mx) Tryd.prog 28 Tryd.f28) a0 a1 a2 a3 a4 = some r :=
  semRun_unr 400 ((text28_9 _ _ a0 a1 a2 a3 a4).trans h)
end
section
variable (a0 : AV) (a1 a2 : Int) (a3 : Bool) (a4 : AV) (a5 : Bool) (a6 : List AV)
theorem r28_11 {r : AV} (h : X28_11 (semCall (C mx) Tryd.prog) (semRun (C mx) Tryd.prog 28 Tryd.f28) a0 a1 a2 a3 a4 a5 a6 = some r) : F28_11 (semRun (C mx) Tryd.prog 28 Tryd.f28) a0 a1 a2 a3 a4 a5 a6 = some r :=
  semRun_unr 400 ((text28_11 _ _ a0 a1 a2 a3 a4 a5 a6).trans h)
end
section
variable (a0 : AV) (a1 a2 : Int) (a3 : Bool) (a4 : AV) (a5 : Bool) (a6 : List AV)
theorem r28_12 {r : AV} (h : X28_12 (semCall (C mx) Tryd.prog) (semRun (C mx) Tryd.prog 28 Tryd.f28) a0 a1 a2 a3 a4 a5 a6 = some r) : F28_12 (semRun (C mx) Tryd.prog 28 Tryd.f28) a0 a1 a2 a3 a4 a5 a6 = some r :=
  semRun_unr 400 ((text28_12 _ _ a0 a1 a2 a3 a4 a5 a6).trans h)
end
end R3

namespace R3
open Go Go.Proofs Sx
variable {mx : Int}
noncomputable def body56 : Code := (Tryd.f56.body).getD .skip
section
variable (run : RunT) (a0 : UInt8) (a1 : Int) (a2 : List UInt8) (a3 : Bool) (a4 : AV)
noncomputable def K56_11 : List Item := (kAt 11 body56 []).getD []
def S56_11 : St := St.ofL [(2, .cell (.ptr 2 0))] [(2, some [.val (.u8 a0), .val (.int a1), .val (.s a2), .val (.b a3), .val (a4)])]
noncomputable def F56_11 : Option AV := run K56_11 (S56_11 a0 a1 a2 a3 a4)
end
section
variable (run : RunT) (a0 : AV) (a1 : UInt8) (a2 : Int) (a3 : List UInt8) (a4 : Bool) (a5 : AV)
noncomputable def K56_12 : List Item := (kAt 12 body56 []).getD []
def S56_12 : St := St.ofL [(0, .cell (.val (a0))), (2, .cell (.ptr 2 0))] [(2, some [.val (.u8 a1), .val (.int a2), .val (.s a3), .val (.b a4), .val (a5)])]
noncomputable def F56_12 : Option AV := run K56_12 (S56_12 a0 a1 a2 a3 a4 a5)
end
section
variable (run : RunT) (a0 : AV) (a1 : Int) (a2 : UInt8) (a3 : Int) (a4 : List UInt8) (a5 : Bool) (a6 : AV)
noncomputable def K56_19 : List Item := (kAt 19 body56 []).getD []
def S56_19 : St := St.ofL [(0, .cell (.val (a0))), (2, .cell (.ptr 2 0)), (4, .cell (.val (.int a1)))] [(2, some [.val (.u8 a2), .val (.int a3), .val (.s a4), .val (.b a5), .val (a6)])]
noncomputable def F56_19 : Option AV := run K56_19 (S56_19 a0 a1 a2 a3 a4 a5 a6)
end
noncomputable def X56 (call : CallT) (run : RunT) (a0 : List UInt8) : Option AV :=
  (call 81 [.s a0]).bind fun v1 => (binS .eql (v1) (.s [101, 108, 115, 101])).bind fun v2 => condM (v2)
  (some (.tu [.ag [.u8 3, .int 0, .s [], .b false, .nils], .b true]))
  ((binS .eql (v1) (.s [101, 110, 100])).bind fun v3 => condM (v3)
  (some (.tu [.ag [.u8 5, .int 0, .s [], .b false, .nils], .b true]))
  ((binS .eql (v1) (.s [102, 108, 117, 115, 104])).bind fun v4 => condM (v4)
  (some (.tu [.ag [.u8 6, .int 0, .s [], .b false, .nils], .b true]))
  ((binS .eql (v1) (.s [105, 102])).bind fun v5 => condM (v5)
  (F56_11 run 0 0 [] false (.nils))
  ((binS .eql (v1) (.s [114, 97, 110, 103, 101])).bind fun v6 => condM (v6)
  (F56_11 run 0 0 [] false (.nils))
  (F56_12 run (v1) 0 0 [] false (.nils))))))
section
variable (call : CallT) (run : RunT) (a0 : List UInt8)
theorem text56 : unr (C mx) call run 56 Tryd.f56 400 [.code body56] (initF (C mx) 56 Tryd.f56.ntmps [.s a0]) = X56 call run a0 := by
  kernel_rfl
theorem c56 {r : AV} (h : X56 (semCall (C mx) Tryd.prog) (semRun (C mx) Tryd.prog 56 Tryd.f56) a0 = some r) : semCall (C mx) Tryd.prog 56 [.s a0] = some r :=
  semCall_unr (fn := Tryd.f56) (c := body56) (by kernel_rfl) (by kernel_rfl) 400 (by kernel_rfl) ((text56 _ _ a0).trans h)
end
noncomputable def X56_11 (call : CallT) (run : RunT) (a0 : UInt8) (a1 : Int) (a2 : List UInt8) (a3 : Bool) (a4 : AV) : Option AV :=
  some (.tu [.ag [.u8 0, .int 0, .s [], .b false, .nils], .b false])
section
variable (call : CallT) (run : RunT) (a0 : UInt8) (a1 : Int) (a2 : List UInt8) (a3 : Bool) (a4 : AV)
theorem text56_11 : step (C mx) call 56 Tryd.f56 (unr (C mx) call run 56 Tryd.f56 400) K56_11 (S56_11 a0 a1 a2 a3 a4) = X56_11 call run a0 a1 a2 a3 a4 := by
  kernel_rfl
end
noncomputable def X56_12 (call : CallT) (run : RunT) (a0 : AV) (a1 : UInt8) (a2 : Int) (a3 : List UInt8) (a4 : Bool) (a5 : AV) : Option AV :=
  (call 82 [a0, .s [105, 102]]).bind fun v1 => condM (v1)
  ((slS (a0) (some (.int 2)) none).bind fun v2 => (call 81 [v2]).bind fun v3 => F56_19 run (v3) 2 a1 a2 a3 a4 (a5))
  ((call 82 [a0, .s [114, 97, 110, 103, 101]]).bind fun v4 => condM (v4)
  ((slS (a0) (some (.int 5)) none).bind fun v5 => (call 81 [v5]).bind fun v6 => F56_19 run (v6) 4 a1 a2 a3 a4 (a5))
  (F56_19 run (a0) 1 a1 a2 a3 a4 (a5)))
section
variable (call : CallT) (run : RunT) (a0 : AV) (a1 : UInt8) (a2 : Int) (a3 : List UInt8) (a4 : Bool) (a5 : AV)
theorem text56_12 : step (C mx) call 56 Tryd.f56 (unr (C mx) call run 56 Tryd.f56 400) K56_12 (S56_12 a0 a1 a2 a3 a4 a5) = X56_12 call run a0 a1 a2 a3 a4 a5 := by
  kernel_rfl
end
noncomputable def X56_19 (call : CallT) (run : RunT) (a0 : AV) (a1 : Int) (a2 : UInt8) (a3 : Int) (a4 : List UInt8) (a5 : Bool) (a6 : AV) : Option AV :=
  (call 28 [a0]).bind fun v1 => (tupI (v1) 0).bind fun v2 => (tupI (v1) 1).bind fun v3 => (AV.asAg 2 (v2)).bind fun v4 => (conv .u8 (.int a1)).bind fun v5 => (AV.one (v5)).bind fun v6 => some (.tu [.ag [v6, .int 0, .s [], v4.getD 0 .un, v4.getD 1 .un], v3])
section
variable (call : CallT) (run : RunT) (a0 : AV) (a1 : Int) (a2 : UInt8) (a3 : Int) (a4 : List UInt8) (a5 : Bool) (a6 : AV)
theorem text56_19 : step (C mx) call 56 Tryd.f56 (unr (C mx) call run 56 Tryd.f56 400) K56_19 (S56_19 a0 a1 a2 a3 a4 a5 a6) = X56_19 call run a0 a1 a2 a3 a4 a5 a6 := by
  kernel_rfl
end
section
variable (a0 : UInt8) (a1 : Int) (a2 : List UInt8) (a3 : Bool) (a4 : AV)
theorem r56_11 {r : AV} (h : X56_11 (semCall (C mx) Tryd.prog) (semRun (C mx) Tryd.prog 56 Tryd.f56) a0 a1 a2 a3 a4 = some r) : F56_11 (semRun (C mx) Tryd.prog 56 Tryd.f56) a0 a1 a2 a3 a4 = some r :=
  semRun_unr 400 ((text56_11 _ _ a0 a1 a2 a3 a4).trans h)
end
section
variable (a0 : AV) (a1 : UInt8) (a2 : Int) (a3 : List UInt8) (a4 : Bool) (a5 : AV)
theorem r56_12 {r : AV} (h : X56_12 (semCall (C mx) Tryd.prog) (semRun (C mx) Tryd.prog 56 Tryd.f56) a0 a1 a2 a3 a4 a5 = some r) : F56_12 (semRun (C mx) Tryd.prog 56 Tryd.f56) a0 a1 a2 a3 a4 a5 = some r :=
  semRun_unr 400 ((text56_12 _ _ a0 a1 a2 a3 a4 a5).trans h)
end
section
variable (a0 : AV) (a1 : Int) (a2 : UInt8) (a3 : Int) (a4 : List UInt8) (a5 : Bool) (a6 : AV)
theorem r56_19 {r : AV} (h : X56_19 (semCall (C mx) Tryd.prog) (semRun (C mx) Tryd.prog 56 Tryd.f56) a0 a1 a2 a3 a4 a5 a6 = some r) : F56_19 (semRun (C mx) Tryd.prog 56 Tryd.f56) a0 a1 a2 a3 a4 a5 a6 = some r :=
  semRun_unr 400 ((text56_19 _ _ a0 a1 a2 a3 a4 a5 a6).trans h)
end
end R3

namespace R3
open Go Go.Proofs Sx
variable {mx : Int}
noncomputable def body24 : Code := (Tryd.f24.body).getD .skip
section
variable (run : RunT) (a0 : List UInt8) (a1 : List AV) (a2 : Int)
noncomputable def K24_3 : List Item := (kAt 3 body24 []).getD []
def S24_3 : St := St.ofL [(0, .cell (.val (.s a0))), (4, .cell (.own 300004 36 5 a1)), (5, .cell (.val (.int a2)))] []
noncomputable def F24_3 : Option AV := run K24_3 (S24_3 a0 a1 a2)
end
section
variable (run : RunT) (a0 : List UInt8) (a1 : List AV) (a2 a3 : Int)
noncomputable def K24_5 : List Item := (kAt 5 body24 []).getD []
def S24_5 : St := St.ofL [(0, .cell (.val (.s a0))), (4, .cell (.own 300004 36 5 a1)), (5, .cell (.val (.int a2))), (6, .cell (.val (.int a3)))] []
noncomputable def F24_5 : Option AV := run K24_5 (S24_5 a0 a1 a2 a3)
end
section
variable (run : RunT) (a0 : List UInt8) (a1 : List AV) (a2 a3 : Int)
noncomputable def K24_11 : List Item := (kAt 11 body24 []).getD []
def S24_11 : St := St.ofL [(0, .cell (.val (.s a0))), (4, .cell (.own 300004 36 5 a1)), (5, .cell (.val (.int a2))), (6, .cell (.val (.int a3)))] []
noncomputable def F24_11 : Option AV := run K24_11 (S24_11 a0 a1 a2 a3)
end
noncomputable def X24 (call : CallT) (run : RunT) (a0 : List UInt8) : Option AV :=
  F24_3 run a0 [] 0
section
variable (call : CallT) (run : RunT) (a0 : List UInt8)
theorem text24 : unr (C mx) call run 24 Tryd.f24 400 [.code body24] (initF (C mx) 24 Tryd.f24.ntmps [.s a0]) = X24 call run a0 := by
  kernel_rfl
theorem c24 {r : AV} (h : X24 (semCall (C mx) Tryd.prog) (semRun (C mx) Tryd.prog 24 Tryd.f24) a0 = some r) : semCall (C mx) Tryd.prog 24 [.s a0] = some r :=
  semCall_unr (fn := Tryd.f24) (c := body24) (by kernel_rfl) (by kernel_rfl) 400 (by kernel_rfl) ((text24 _ _ a0).trans h)
end
noncomputable def X24_3 (call : CallT) (run : RunT) (a0 : List UInt8) (a1 : List AV) (a2 : Int) : Option AV :=
  condM (.b (decide (a2 < ((a0.length : Int)))))
  (F24_5 run a0 a1 a2 a2)
  (some (.tu [.ro 5 a1, .int ((-1))]))
section
variable (call : CallT) (run : RunT) (a0 : List UInt8) (a1 : List AV) (a2 : Int)
theorem text24_3 : step (C mx) call 24 Tryd.f24 (unr (C mx) call run 24 Tryd.f24 400) K24_3 (S24_3 a0 a1 a2) = X24_3 call run a0 a1 a2 := by
  kernel_rfl
end
noncomputable def X24_5 (call : CallT) (run : RunT) (a0 : List UInt8) (a1 : List AV) (a2 a3 : Int) : Option AV :=
  (selW (.b (decide (a3 < ((a0.length : Int))))) true ((call 55 [.s a0, .int a3, .s [123, 123]]).bind fun v1 => (unop .not (v1)).bind fun v2 => some (v2)) (.b false)).bind fun v3 => condM (v3)
  (F24_5 run a0 a1 a2 (w64 (a3 + 1)))
  (condM (.b (decide (a3 > a2)))
  ((slS (.s a0) (some (.int a2)) (some (.int a3))).bind fun v4 => (AV.one (v4)).bind fun v5 => (app 64 5 a1 (.ro 5 (([.ag [.u8 0, .int a2, v5, .b false, .nils]] : List AV)))).bind fun v6 => F24_3 run a0 v6 a3)
  (F24_11 run a0 a1 a2 (w64 (a2 + 2))))
section
variable (call : CallT) (run : RunT) (a0 : List UInt8) (a1 : List AV) (a2 a3 : Int)
theorem text24_5 : step (C mx) call 24 Tryd.f24 (unr (C mx) call run 24 Tryd.f24 400) K24_5 (S24_5 a0 a1 a2 a3) = X24_5 call run a0 a1 a2 a3 := by
  kernel_rfl
end
noncomputable def X24_11 (call : CallT) (run : RunT) (a0 : List UInt8) (a1 : List AV) (a2 a3 : Int) : Option AV :=
  (selW (.b (decide (a3 < ((a0.length : Int))))) true ((call 55 [.s a0, .int a3, .s [125, 125]]).bind fun v1 => (unop .not (v1)).bind fun v2 => some (v2)) (.b false)).bind fun v3 => condM (v3)
  (F24_11 run a0 a1 a2 (w64 (a3 + 1)))
  (condM (.b (decide (a3 ≥ ((a0.length : Int)))))
  (some (.tu [.ro 5 a1, .int a2]))
  ((slS (.s a0) (some (.int (w64 (a2 + 2)))) (some (.int a3))).bind fun v4 => (call 56 [v4]).bind fun v5 => (tupI (v5) 0).bind fun v6 => (tupI (v5) 1).bind fun v7 => (AV.asAg 5 (v6)).bind fun v8 => (unop .not (v7)).bind fun v9 => condM (v9)
  (some (.tu [.ro 5 a1, .int a2]))
  ((app 64 5 a1 (.ro 5 (([.ag [v8.getD 0 .un, .int a2, v8.getD 2 .un, v8.getD 3 .un, v8.getD 4 .un]] : List AV)))).bind fun v10 => F24_3 run a0 v10 (w64 (a3 + 2)))))
section
variable (call : CallT) (run : RunT) (a0 : List UInt8) (a1 : List AV) (a2 a3 : Int)
theorem text24_11 : step (C mx) call 24 Tryd.f24 (unr (C mx) call run 24 Tryd.f24 400) K24_11 (S24_11 a0 a1 a2 a3) = X24_11 call run a0 a1 a2 a3 := by
  kernel_rfl
end
section
variable (a0 : List UInt8) (a1 : List AV) (a2 : Int)
theorem r24_3 {r : AV} (h : X24_3 (semCall (C mx) Tryd.prog) (semRun (C mx) Tryd.prog 24 Tryd.f24) a0 a1 a2 = some r) : F24_3 (semRun (C mx) Tryd.prog 24 Tryd.f24) a0 a1 a2 = some r :=
  semRun_unr 400 ((text24_3 _ _ a0 a1 a2).trans h)
end
section
variable (a0 : List UInt8) (a1 : List AV) (a2 a3 : Int)
theorem r24_5 {r : AV} (h : X24_5 (semCall (C mx) Tryd.prog) (semRun (C mx) Tryd.prog 24 Tryd.f24) a0 a1 a2 a3 = some r) : F24_5 (semRun (C mx) Tryd.prog 24 Tryd.f24) a0 a1 a2 a3 = some r :=
  semRun_unr 400 ((text24_5 _ _ a0 a1 a2 a3).trans h)
end
section
variable (a0 : List UInt8) (a1 : List AV) (a2 a3 : Int)
theorem r24_11 {r : AV} (h : X24_11 (semCall (C mx) Tryd.prog) (semRun (C mx) Tryd.prog 24 Tryd.f24) a0 a1 a2 a3 = some r) : F24_11 (semRun (C mx) Tryd.prog 24 Tryd.f24) a0 a1 a2 a3 = some r :=
  semRun_unr 400 ((text24_11 _ _ a0 a1 a2 a3).trans h)
end
end R3

namespace R3
open Go Go.Proofs Sx
variable {mx : Int}
noncomputable def body3 : Code := (Tryd.f3.body).getD .skip
noncomputable def X3 (call : CallT) (run : RunT) (a0 : List UInt8) : Option AV :=
  (call 22 []).bind fun v1 => (unop .not (v1)).bind fun v2 => (selW (v2) true (some (.b true)) (.b false)).bind fun v3 => (selW (v3) true (some (.b true)) (.b false)).bind fun v4 => condM (v4)
  (some (.b false))
  ((call 23 [.s a0]).bind fun v5 => (tupI (v5) 0).bind fun v6 => (tupI (v5) 1).bind fun v7 => (tupI (v5) 2).bind fun v8 => condM (.b (decide (((a0.length : Int)) > 65536)))
  ((binI .eql (v8) (.int 2)).bind fun v9 => (selW (v9) true ((binI .eql (v7) (.int 0)).bind fun v10 => some (v10)) (.b false)).bind fun v11 => (selW (v11) true ((lenR (v6)).bind fun v12 => (binI .eql (v12) (.int 0)).bind fun v13 => some (v13)) (.b false)).bind fun v14 => some (v14))
  ((call 24 [.s a0]).bind fun v15 => (tupI (v15) 0).bind fun v16 => (tupI (v15) 1).bind fun v17 => (binI .geq (v17) (.int 0)).bind fun v18 => condM (v18)
  ((binI .eql (v8) (.int 4)).bind fun v19 => (selW (v19) true ((binI .eql (v7) (v17)).bind fun v20 => some (v20)) (.b false)).bind fun v21 => (selW (v21) true ((lenR (v6)).bind fun v22 => (binI .eql (v22) (.int 0)).bind fun v23 => some (v23)) (.b false)).bind fun v24 => some (v24))
  ((binI .eql (v8) (.int 0)).bind fun v25 => (selW (v25) true ((binI .eql (v7) (.int 0)).bind fun v26 => some (v26)) (.b false)).bind fun v27 => (selW (v27) true ((call 25 [v6, v16]).bind fun v28 => some (v28)) (.b false)).bind fun v29 => some (v29))))
section
variable (call : CallT) (run : RunT) (a0 : List UInt8)
theorem text3 : unr (C mx) call run 3 Tryd.f3 400 [.code body3] (initF (C mx) 3 Tryd.f3.ntmps [.s a0]) = X3 call run a0 := by
  kernel_rfl
theorem c3 {r : AV} (h : X3 (semCall (C mx) Tryd.prog) (semRun (C mx) Tryd.prog 3 Tryd.f3) a0 = some r) : semCall (C mx) Tryd.prog 3 [.s a0] = some r :=
  semCall_unr (fn := Tryd.f3) (c := body3) (by kernel_rfl) (by kernel_rfl) 400 (by kernel_rfl) ((text3 _ _ a0).trans h)
end
end R3

namespace R3
open Go Go.Proofs Sx
variable {mx : Int}
noncomputable def body88 : Code := (Tryd.f88.body).getD .skip
section
variable (run : RunT) (a0 : Int) (a1 : List AV) (a2 a3 : AV) (a4 : List AV) (a5 : AV)
noncomputable def K88_2 : List Item := (kAt 2 body88 []).getD []
def S88_2 : St := St.ofL [(0, .cell (.ptr 61 0)), (1, .cell (.val (.int a0))), (6, .cell (.own 300006 3 1 a1))] [(61, some [.val (a2), .val (a3), .own 661002 61 9 a4, .val (a5)])]
noncomputable def F88_2 : Option AV := run K88_2 (S88_2 a0 a1 a2 a3 a4 a5)
end
noncomputable def X88 (call : CallT) (run : RunT) (a0 : Int) (a1 : AV) (a2 : Int) (a3 : List AV) (a4 : AV) : Option AV :=
  F88_2 run a0 [] (a1) (.int a2) a3 (a4)
section
variable (call : CallT) (run : RunT) (a0 : Int) (a1 : AV) (a2 : Int) (a3 : List AV) (a4 : AV)
theorem text88 : unr (C mx) call run 88 Tryd.f88 400 [.code body88] (initF (C mx) 88 Tryd.f88.ntmps [.un, .int a0, .ag [a1, .int a2, .ro 9 a3, a4]]) = X88 call run a0 a1 a2 a3 a4 := by
  kernel_rfl
theorem c88 {r : AV} (h : X88 (semCall (C mx) Tryd.prog) (semRun (C mx) Tryd.prog 88 Tryd.f88) a0 a1 a2 a3 a4 = some r) : semCall (C mx) Tryd.prog 88 [.un, .int a0, .ag [a1, .int a2, .ro 9 a3, a4]] = some r :=
  semCall_unr (fn := Tryd.f88) (c := body88) (by kernel_rfl) (by kernel_rfl) 400 (by kernel_rfl) ((text88 _ _ a0 a1 a2 a3 a4).trans h)
end
noncomputable def X88_2 (call : CallT) (run : RunT) (a0 : Int) (a1 : List AV) (a2 a3 : AV) (a4 : List AV) (a5 : AV) : Option AV :=
  (lenR (a2)).bind fun v1 => (binI .lss (a3) (v1)).bind fun v2 => condM (v2)
  ((idx 5 (a2) (a3)).bind fun v3 => (binI .eql (AV.cell (v3) 0) (.u8 3)).bind fun v4 => (selW (v4) false ((binI .eql (AV.cell (v3) 0) (.u8 5)).bind fun v5 => some (v5)) (.b true)).bind fun v6 => condM (v6)
  (some (.tu [.tu [.ro 1 a1, .nilp], .ag [a2, a3, .ro 9 a4, a5]]))
  ((binI .add (a3) (.int 1)).bind fun v7 => (AV.one (v7)).bind fun v8 => (call 106 [.un, .ag [AV.cell (v3) 0, AV.cell (v3) 1, AV.cell (v3) 2, AV.cell (v3) 3, AV.cell (v3) 4], .int a0, .ag [a2, v8, .ro 9 a4, a5]]).bind fun v9 => (tupI v9 0).bind fun v10 => (tupI v9 1).bind fun v11 => (AV.asAg 4 v11).bind fun v12 => (tupI (v10) 0).bind fun v13 => (tupI (v10) 1).bind fun v14 => (binP .neq (v14) (.nilp)).bind fun v15 => condM (v15)
  (some (.tu [.tu [.nils, v14], .ag [v12.getD 0 .un, v12.getD 1 .un, .ro 9 (AV.elems (v12.getD 2 .un)), v12.getD 3 .un]]))
  ((AV.one (v13)).bind fun v16 => (app 8 1 a1 (.ro 1 (([v16] : List AV)))).bind fun v17 => F88_2 run a0 v17 (v12.getD 0 .un) (v12.getD 1 .un) (AV.elems (v12.getD 2 .un)) (v12.getD 3 .un))))
  (some (.tu [.tu [.ro 1 a1, .nilp], .ag [a2, a3, .ro 9 a4, a5]]))
section
variable (call : CallT) (run : RunT) (a0 : Int) (a1 : List AV) (a2 a3 : AV) (a4 : List AV) (a5 : AV)
theorem text88_2 : step (C mx) call 88 Tryd.f88 (unr (C mx) call run 88 Tryd.f88 400) K88_2 (S88_2 a0 a1 a2 a3 a4 a5) = X88_2 call run a0 a1 a2 a3 a4 a5 := by
  kernel_rfl
end
section
variable (a0 : Int) (a1 : List AV) (a2 a3 : AV) (a4 : List AV) (a5 : AV)
theorem r88_2 {r : AV} (h : X88_2 (semCall (C mx) Tryd.prog) (semRun (C mx) Tryd.prog 88 Tryd.f88) a0 a1 a2 a3 a4 a5 = some r) : F88_2 (semRun (C mx) Tryd.prog 88 Tryd.f88) a0 a1 a2 a3 a4 a5 = some r :=
  semRun_unr 400 ((text88_2 _ _ a0 a1 a2 a3 a4 a5).trans h)
end
end R3

namespace R3
open Go Go.Proofs Sx
variable {mx : Int}
noncomputable def body106 : Code := (Tryd.f106.body).getD .skip
section
variable (run : RunT) (a0 : Int) (a1 : UInt8) (a2 a3 : AV) (a4 : List AV) (a5 : AV)
noncomputable def K106_19 : List Item := (kAt 19 body106 []).getD []
def S106_19 : St := St.ofL [(0, .cell (.ptr 71 0)), (8, .cell (.val (.int a0))), (9, .cell (.val (.u8 a1)))] [(71, some [.val (a2), .val (a3), .own 671002 61 9 a4, .val (a5)])]
noncomputable def F106_19 : Option AV := run K106_19 (S106_19 a0 a1 a2 a3 a4 a5)
end
section
variable (run : RunT) (a0 a1 : Int) (a2 : UInt8) (a3 : Int) (a4 : List UInt8) (a5 : Bool) (a6 a7 : AV) (a8 : Int) (a9 : List AV) (a10 : AV)
noncomputable def K106_11 : List Item := (kAt 11 body106 []).getD []
def S106_11 : St := St.ofL [(0, .cell (.ptr 71 0)), (2, .cell (.val (.int a0))), (4, .cell (.ptr 4 0)), (8, .cell (.val (.int a1)))] [(4, some [.val (.u8 a2), .val (.int a3), .val (.s a4), .val (.b a5), .val (a6)]), (71, some [.val (a7), .val (.int a8), .own 671002 61 9 a9, .val (a10)])]
noncomputable def F106_11 : Option AV := run K106_11 (S106_11 a0 a1 a2 a3 a4 a5 a6 a7 a8 a9 a10)
end
section
variable (run : RunT) (a0 a1 : Int) (a2 a3 : UInt8) (a4 : Int) (a5 : List UInt8) (a6 : Bool) (a7 a8 : AV) (a9 : Int) (a10 : List AV) (a11 : AV)
noncomputable def K106_14 : List Item := (kAt 14 body106 []).getD []
def S106_14 : St := St.ofL [(0, .cell (.ptr 71 0)), (2, .cell (.val (.int a0))), (4, .cell (.ptr 4 0)), (8, .cell (.val (.int a1))), (9, .cell (.val (.u8 a2)))] [(4, some [.val (.u8 a3), .val (.int a4), .val (.s a5), .val (.b a6), .val (a7)]), (71, some [.val (a8), .val (.int a9), .own 671002 61 9 a10, .val (a11)])]
noncomputable def F106_14 : Option AV := run K106_14 (S106_14 a0 a1 a2 a3 a4 a5 a6 a7 a8 a9 a10 a11)
end
noncomputable def X106 (call : CallT) (run : RunT) (a0 : UInt8) (a1 : Int) (a2 : List UInt8) (a3 : Bool) (a4 : AV) (a5 : Int) (a6 : AV) (a7 : Int) (a8 : List AV) (a9 : AV) : Option AV :=
  (app 120 9 a8 (.ro 9 (([.ag [.u8 0, .int a1, .s a2, .b a3, a4, .nils, .nils, .b false, .u8 0]] : List AV)))).bind fun v1 => condM (.b (ueq a0 1))
  (F106_19 run ((a8.length : Int)) 1 (a6) (.int a7) v1 (a9))
  (condM (.b (ueq a0 6))
  (F106_19 run ((a8.length : Int)) 4 (a6) (.int a7) v1 (a9))
  (condM (.b (ueq a0 2))
  (F106_11 run a5 ((a8.length : Int)) a0 a1 a2 a3 (a4) (a6) a7 v1 (a9))
  (condM (.b (ueq a0 4))
  (F106_11 run a5 ((a8.length : Int)) a0 a1 a2 a3 (a4) (a6) a7 v1 (a9))
  (F106_19 run ((a8.length : Int)) 0 (a6) (.int a7) v1 (a9)))))
section
variable (call : CallT) (run : RunT) (a0 : UInt8) (a1 : Int) (a2 : List UInt8) (a3 : Bool) (a4 : AV) (a5 : Int) (a6 : AV) (a7 : Int) (a8 : List AV) (a9 : AV)
theorem text106 : unr (C mx) call run 106 Tryd.f106 400 [.code body106] (initF (C mx) 106 Tryd.f106.ntmps [.un, .ag [.u8 a0, .int a1, .s a2, .b a3, a4], .int a5, .ag [a6, .int a7, .ro 9 a8, a9]]) = X106 call run a0 a1 a2 a3 a4 a5 a6 a7 a8 a9 := by
  kernel_rfl
theorem c106 {r : AV} (h : X106 (semCall (C mx) Tryd.prog) (semRun (C mx) Tryd.prog 106 Tryd.f106) a0 a1 a2 a3 a4 a5 a6 a7 a8 a9 = some r) : semCall (C mx) Tryd.prog 106 [.un, .ag [.u8 a0, .int a1, .s a2, .b a3, a4], .int a5, .ag [a6, .int a7, .ro 9 a8, a9]] = some r :=
  semCall_unr (fn := Tryd.f106) (c := body106) (by kernel_rfl) (by kernel_rfl) 400 (by kernel_rfl) ((text106 _ _ a0 a1 a2 a3 a4 a5 a6 a7 a8 a9).trans h)
end
noncomputable def X106_19 (call : CallT) (run : RunT) (a0 : Int) (a1 : UInt8) (a2 a3 : AV) (a4 : List AV) (a5 : AV) : Option AV :=
  (inN a4.length (.int a0)).bind fun v1 => some (.tu [.tu [.int a0, .nilp], .ag [a2, a3, .ro 9 (a4.set v1 (.ag [.u8 a1, AV.cell (a4.getD v1 .un) 1, AV.cell (a4.getD v1 .un) 2, AV.cell (a4.getD v1 .un) 3, AV.cell (a4.getD v1 .un) 4, AV.cell (a4.getD v1 .un) 5, AV.cell (a4.getD v1 .un) 6, AV.cell (a4.getD v1 .un) 7, AV.cell (a4.getD v1 .un) 8])), a5]])
section
variable (call : CallT) (run : RunT) (a0 : Int) (a1 : UInt8) (a2 a3 : AV) (a4 : List AV) (a5 : AV)
theorem text106_19 : step (C mx) call 106 Tryd.f106 (unr (C mx) call run 106 Tryd.f106 400) K106_19 (S106_19 a0 a1 a2 a3 a4 a5) = X106_19 call run a0 a1 a2 a3 a4 a5 := by
  kernel_rfl
end
noncomputable def X106_11 (call : CallT) (run : RunT) (a0 a1 : Int) (a2 : UInt8) (a3 : Int) (a4 : List UInt8) (a5 : Bool) (a6 a7 : AV) (a8 : Int) (a9 : List AV) (a10 : AV) : Option AV :=
  condM (.b (ueq a2 4))
  (F106_14 run a0 a1 3 a2 a3 a4 a5 (a6) (a7) a8 a9 (a10))
  (F106_14 run a0 a1 2 a2 a3 a4 a5 (a6) (a7) a8 a9 (a10))
section
variable (call : CallT) (run : RunT) (a0 a1 : Int) (a2 : UInt8) (a3 : Int) (a4 : List UInt8) (a5 : Bool) (a6 a7 : AV) (a8 : Int) (a9 : List AV) (a10 : AV)
theorem text106_11 : step (C mx) call 106 Tryd.f106 (unr (C mx) call run 106 Tryd.f106 400) K106_11 (S106_11 a0 a1 a2 a3 a4 a5 a6 a7 a8 a9 a10) = X106_11 call run a0 a1 a2 a3 a4 a5 a6 a7 a8 a9 a10 := by
  kernel_rfl
end
noncomputable def X106_14 (call : CallT) (run : RunT) (a0 a1 : Int) (a2 a3 : UInt8) (a4 : Int) (a5 : List UInt8) (a6 : Bool) (a7 a8 : AV) (a9 : Int) (a10 : List AV) (a11 : AV) : Option AV :=
  condM (.b (decide (a0 ≥ 16)))
  (some (.tu [.tu [.int 0, .pt [.int a4, .int 3]], .ag [a8, .int a9, .ro 9 a10, a11]]))
  ((call 131 [.un, .int a1, .ag [.u8 a3, .int a4, .s a5, .b a6, a7], .int a0, .ag [a8, .int a9, .ro 9 a10, a11]]).bind fun v1 => (tupI v1 0).bind fun v2 => (tupI v1 1).bind fun v3 => (AV.asAg 4 v3).bind fun v4 => (binP .neq (v2) (.nilp)).bind fun v5 => condM (v5)
  (some (.tu [.tu [.int 0, v2], .ag [v4.getD 0 .un, v4.getD 1 .un, .ro 9 (AV.elems (v4.getD 2 .un)), v4.getD 3 .un]]))
  (F106_19 run a1 a2 (v4.getD 0 .un) (v4.getD 1 .un) (AV.elems (v4.getD 2 .un)) (v4.getD 3 .un)))
section
variable (call : CallT) (run : RunT) (a0 a1 : Int) (a2 a3 : UInt8) (a4 : Int) (a5 : List UInt8) (a6 : Bool) (a7 a8 : AV) (a9 : Int) (a10 : List AV) (a11 : AV)
theorem text106_14 : step (C mx) call 106 Tryd.f106 (unr (C mx) call run 106 Tryd.f106 400) K106_14 (S106_14 a0 a1 a2 a3 a4 a5 a6 a7 a8 a9 a10 a11) = X106_14 call run a0 a1 a2 a3 a4 a5 a6 a7 a8 a9 a10 a11 := by
  kernel_rfl
end
section
variable (a0 : Int) (a1 : UInt8) (a2 a3 : AV) (a4 : List AV) (a5 : AV)
theorem r106_19 {r : AV} (h : X106_19 (semCall (C mx) Tryd.prog) (semRun (C mx) Tryd.prog 106 Tryd.f106) a0 a1 a2 a3 a4 a5 = some r) : F106_19 (semRun (C mx) Tryd.prog 106 Tryd.f106) a0 a1 a2 a3 a4 a5 = some r :=
  semRun_unr 400 ((text106_19 _ _ a0 a1 a2 a3 a4 a5).trans h)
end
section
variable (a0 a1 : Int) (a2 : UInt8) (a3 : Int) (a4 : List UInt8) (a5 : Bool) (a6 a7 : AV) (a8 : Int) (a9 : List AV) (a10 : AV)
theorem r106_11 {r : AV} (h : X106_11 (semCall (C mx) Tryd.prog) (semRun (C mx) Tryd.prog 106 Tryd.f106) a0 a1 a2 a3 a4 a5 a6 a7 a8 a9 a10 = some r) : F106_11 (semRun (C mx) Tryd.prog 106 Tryd.f106) a0 a1 a2 a3 a4 a5 a6 a7 a8 a9 a10 = some r :=
  semRun_unr 400 ((text106_11 _ _ a0 a1 a2 a3 a4 a5 a6 a7 a8 a9 a10).trans h)
end
section
variable (a0 a1 : Int) (a2 a3 : UInt8) (a4 : Int) (a5 : List UInt8) (a6 : Bool) (a7 a8 : AV) (a9 : Int) (a10 : List AV) (a11 : AV)
theorem r106_14 {r : AV} (h : X106_14 (semCall (C mx) Tryd.prog) (semRun (C mx) Tryd.prog 106 Tryd.f106) a0 a1 a2 a3 a4 a5 a6 a7 a8 a9 a10 a11 = some r) : F106_14 (semRun (C mx) Tryd.prog 106 Tryd.f106) a0 a1 a2 a3 a4 a5 a6 a7 a8 a9 a10 a11 = some r :=
  semRun_unr 400 ((text106_14 _ _ a0 a1 a2 a3 a4 a5 a6 a7 a8 a9 a10 a11).trans h)
end
end R3

namespace R3
open Go Go.Proofs Sx
variable {mx : Int}
noncomputable def body131 : Code := (Tryd.f131.body).getD .skip
section
variable (run : RunT) (a0 : UInt8) (a1 : Int) (a2 : List UInt8) (a3 : Bool) (a4 a5 a6 : AV) (a7 : List AV) (a8 : AV)
noncomputable def K131_13 : List Item := (kAt 13 body131 []).getD []
def S131_13 : St := St.ofL [(0, .cell (.ptr 152 0)), (6, .cell (.ptr 6 0))] [(6, some [.val (.u8 a0), .val (.int a1), .val (.s a2), .val (.b a3), .val (a4)]), (152, some [.val (a5), .val (a6), .own 752002 61 9 a7, .val (a8)])]
noncomputable def F131_13 : Option AV := run K131_13 (S131_13 a0 a1 a2 a3 a4 a5 a6 a7 a8)
end
noncomputable def X131 (call : CallT) (run : RunT) (a0 : Int) (a1 : UInt8) (a2 : Int) (a3 : List UInt8) (a4 : Bool) (a5 : AV) (a6 : Int) (a7 : AV) (a8 : Int) (a9 : List AV) (a10 : AV) : Option AV :=
  (call 88 [.un, .int (w64 (a6 + 1)), .ag [a7, .int a8, .ro 9 a9, a10]]).bind fun v1 => (tupI v1 0).bind fun v2 => (tupI v1 1).bind fun v3 => (AV.asAg 4 v3).bind fun v4 => (tupI (v2) 0).bind fun v5 => (tupI (v2) 1).bind fun v6 => (binP .neq (v6) (.nilp)).bind fun v7 => condM (v7)
  (some (.tu [v6, .ag [v4.getD 0 .un, v4.getD 1 .un, .ro 9 (AV.elems (v4.getD 2 .un)), v4.getD 3 .un]]))
  ((inN (AV.elems (v4.getD 2 .un)).length (.int a0)).bind fun v8 => (AV.one (v5)).bind fun v9 => (lenR (v4.getD 0 .un)).bind fun v10 => (binI .lss (v4.getD 1 .un) (v10)).bind fun v11 => (selW (v11) true ((idx 5 (v4.getD 0 .un) (v4.getD 1 .un)).bind fun v12 => (binI .eql (AV.cell (v12) 0) (.u8 3)).bind fun v13 => some (v13)) (.b false)).bind fun v14 => condM (v14)
  (condM (.b (ueq a1 4))
  ((idx 5 (v4.getD 0 .un) (v4.getD 1 .un)).bind fun v15 => (AV.one (AV.cell (v15) 1)).bind fun v16 => some (.tu [.pt [v16, .int 4], .ag [v4.getD 0 .un, v4.getD 1 .un, .ro 9 ((AV.elems (v4.getD 2 .un)).set v8 (.ag [AV.cell ((AV.elems (v4.getD 2 .un)).getD v8 .un) 0, AV.cell ((AV.elems (v4.getD 2 .un)).getD v8 .un) 1, AV.cell ((AV.elems (v4.getD 2 .un)).getD v8 .un) 2, AV.cell ((AV.elems (v4.getD 2 .un)).getD v8 .un) 3, AV.cell ((AV.elems (v4.getD 2 .un)).getD v8 .un) 4, v9, AV.cell ((AV.elems (v4.getD 2 .un)).getD v8 .un) 6, AV.cell ((AV.elems (v4.getD 2 .un)).getD v8 .un) 7, AV.cell ((AV.elems (v4.getD 2 .un)).getD v8 .un) 8])), v4.getD 3 .un]]))
  ((binI .add (v4.getD 1 .un) (.int 1)).bind fun v17 => (AV.one (v17)).bind fun v18 => (call 88 [.un, .int (w64 (a6 + 1)), .ag [v4.getD 0 .un, v18, .ro 9 ((AV.elems (v4.getD 2 .un)).set v8 (.ag [AV.cell ((AV.elems (v4.getD 2 .un)).getD v8 .un) 0, AV.cell ((AV.elems (v4.getD 2 .un)).getD v8 .un) 1, AV.cell ((AV.elems (v4.getD 2 .un)).getD v8 .un) 2, AV.cell ((AV.elems (v4.getD 2 .un)).getD v8 .un) 3, AV.cell ((AV.elems (v4.getD 2 .un)).getD v8 .un) 4, v9, AV.cell ((AV.elems (v4.getD 2 .un)).getD v8 .un) 6, AV.cell ((AV.elems (v4.getD 2 .un)).getD v8 .un) 7, AV.cell ((AV.elems (v4.getD 2 .un)).getD v8 .un) 8])), v4.getD 3 .un]]).bind fun v19 => (tupI v19 0).bind fun v20 => (tupI v19 1).bind fun v21 => (AV.asAg 4 v21).bind fun v22 => (tupI (v20) 0).bind fun v23 => (tupI (v20) 1).bind fun v24 => (binP .neq (v24) (.nilp)).bind fun v25 => condM (v25)
  (some (.tu [v24, .ag [v22.getD 0 .un, v22.getD 1 .un, .ro 9 (AV.elems (v22.getD 2 .un)), v22.getD 3 .un]]))
  ((inN (AV.elems (v22.getD 2 .un)).length (.int a0)).bind fun v26 => (AV.one (v23)).bind fun v27 => (inN ((AV.elems (v22.getD 2 .un)).set v26 (.ag [AV.cell ((AV.elems (v22.getD 2 .un)).getD v26 .un) 0, AV.cell ((AV.elems (v22.getD 2 .un)).getD v26 .un) 1, AV.cell ((AV.elems (v22.getD 2 .un)).getD v26 .un) 2, AV.cell ((AV.elems (v22.getD 2 .un)).getD v26 .un) 3, AV.cell ((AV.elems (v22.getD 2 .un)).getD v26 .un) 4, AV.cell ((AV.elems (v22.getD 2 .un)).getD v26 .un) 5, v27, AV.cell ((AV.elems (v22.getD 2 .un)).getD v26 .un) 7, AV.cell ((AV.elems (v22.getD 2 .un)).getD v26 .un) 8])).length (.int a0)).bind fun v28 => F131_13 run a1 a2 a3 a4 (a5) (v22.getD 0 .un) (v22.getD 1 .un) (((AV.elems (v22.getD 2 .un)).set v26 (.ag [AV.cell ((AV.elems (v22.getD 2 .un)).getD v26 .un) 0, AV.cell ((AV.elems (v22.getD 2 .un)).getD v26 .un) 1, AV.cell ((AV.elems (v22.getD 2 .un)).getD v26 .un) 2, AV.cell ((AV.elems (v22.getD 2 .un)).getD v26 .un) 3, AV.cell ((AV.elems (v22.getD 2 .un)).getD v26 .un) 4, AV.cell ((AV.elems (v22.getD 2 .un)).getD v26 .un) 5, v27, AV.cell ((AV.elems (v22.getD 2 .un)).getD v26 .un) 7, AV.cell ((AV.elems (v22.getD 2 .un)).getD v26 .un) 8])).set v28 (.ag [AV.cell (((AV.elems (v22.getD 2 .un)).set v26 (.ag [AV.cell ((AV.elems (v22.getD 2 .un)).getD v26 .un) 0, AV.cell ((AV.elems (v22.getD 2 .un)).getD v26 .un) 1, AV.cell ((AV.elems (v22.getD 2 .un)).getD v26 .un) 2, AV.cell ((AV.elems (v22.getD 2 .un)).getD v26 .un) 3, AV.cell ((AV.elems (v22.getD 2 .un)).getD v26 .un) 4, AV.cell ((AV.elems (v22.getD 2 .un)).getD v26 .un) 5, v27, AV.cell ((AV.elems (v22.getD 2 .un)).getD v26 .un) 7, AV.cell ((AV.elems (v22.getD 2 .un)).getD v26 .un) 8])).getD v28 .un) 0, AV.cell (((AV.elems (v22.getD 2 .un)).set v26 (.ag [AV.cell ((AV.elems (v22.getD 2 .un)).getD v26 .un) 0, AV.cell ((AV.elems (v22.getD 2 .un)).getD v26 .un) 1, AV.cell ((AV.elems (v22.getD 2 .un)).getD v26 .un) 2, AV.cell ((AV.elems (v22.getD 2 .un)).getD v26 .un) 3, AV.cell ((AV.elems (v22.getD 2 .un)).getD v26 .un) 4, AV.cell ((AV.elems (v22.getD 2 .un)).getD v26 .un) 5, v27, AV.cell ((AV.elems (v22.getD 2 .un)).getD v26 .un) 7, AV.cell ((AV.elems (v22.getD 2 .un)).getD v26 .un) 8])).getD v28 .un) 1, AV.cell (((AV.elems (v22.getD 2 .un)).set v26 (.ag [AV.cell ((AV.elems (v22.getD 2 .un)).getD v26 .un) 0, AV.cell ((AV.elems (v22.getD 2 .un)).getD v26 .un) 1, AV.cell ((AV.elems (v22.getD 2 .un)).getD v26 .un) 2, AV.cell ((AV.elems (v22.getD 2 .un)).getD v26 .un) 3, AV.cell ((AV.elems (v22.getD 2 .un)).getD v26 .un) 4, AV.cell ((AV.elems (v22.getD 2 .un)).getD v26 .un) 5, v27, AV.cell ((AV.elems (v22.getD 2 .un)).getD v26 .un) 7, AV.cell ((AV.elems (v22.getD 2 .un)).getD v26 .un) 8])).getD v28 .un) 2, AV.cell (((AV.elems (v22.getD 2 .un)).set v26 (.ag [AV.cell ((AV.elems (v22.getD 2 .un)).getD v26 .un) 0, AV.cell ((AV.elems (v22.getD 2 .un)).getD v26 .un) 1, AV.cell ((AV.elems (v22.getD 2 .un)).getD v26 .un) 2, AV.cell ((AV.elems (v22.getD 2 .un)).getD v26 .un) 3, AV.cell ((AV.elems (v22.getD 2 .un)).getD v26 .un) 4, AV.cell ((AV.elems (v22.getD 2 .un)).getD v26 .un) 5, v27, AV.cell ((AV.elems (v22.getD 2 .un)).getD v26 .un) 7, AV.cell ((AV.elems (v22.getD 2 .un)).getD v26 .un) 8])).getD v28 .un) 3, AV.cell (((AV.elems (v22.getD 2 .un)).set v26 (.ag [AV.cell ((AV.elems (v22.getD 2 .un)).getD v26 .un) 0, AV.cell ((AV.elems (v22.getD 2 .un)).getD v26 .un) 1, AV.cell ((AV.elems (v22.getD 2 .un)).getD v26 .un) 2, AV.cell ((AV.elems (v22.getD 2 .un)).getD v26 .un) 3, AV.cell ((AV.elems (v22.getD 2 .un)).getD v26 .un) 4, AV.cell ((AV.elems (v22.getD 2 .un)).getD v26 .un) 5, v27, AV.cell ((AV.elems (v22.getD 2 .un)).getD v26 .un) 7, AV.cell ((AV.elems (v22.getD 2 .un)).getD v26 .un) 8])).getD v28 .un) 4, AV.cell (((AV.elems (v22.getD 2 .un)).set v26 (.ag [AV.cell ((AV.elems (v22.getD 2 .un)).getD v26 .un) 0, AV.cell ((AV.elems (v22.getD 2 .un)).getD v26 .un) 1, AV.cell ((AV.elems (v22.getD 2 .un)).getD v26 .un) 2, AV.cell ((AV.elems (v22.getD 2 .un)).getD v26 .un) 3, AV.cell ((AV.elems (v22.getD 2 .un)).getD v26 .un) 4, AV.cell ((AV.elems (v22.getD 2 .un)).getD v26 .un) 5, v27, AV.cell ((AV.elems (v22.getD 2 .un)).getD v26 .un) 7, AV.cell ((AV.elems (v22.getD 2 .un)).getD v26 .un) 8])).getD v28 .un) 5, AV.cell (((AV.elems (v22.getD 2 .un)).set v26 (.ag [AV.cell ((AV.elems (v22.getD 2 .un)).getD v26 .un) 0, AV.cell ((AV.elems (v22.getD 2 .un)).getD v26 .un) 1, AV.cell ((AV.elems (v22.getD 2 .un)).getD v26 .un) 2, AV.cell ((AV.elems (v22.getD 2 .un)).getD v26 .un) 3, AV.cell ((AV.elems (v22.getD 2 .un)).getD v26 .un) 4, AV.cell ((AV.elems (v22.getD 2 .un)).getD v26 .un) 5, v27, AV.cell ((AV.elems (v22.getD 2 .un)).getD v26 .un) 7, AV.cell ((AV.elems (v22.getD 2 .un)).getD v26 .un) 8])).getD v28 .un) 6, .b true, AV.cell (((AV.elems (v22.getD 2 .un)).set v26 (.ag [AV.cell ((AV.elems (v22.getD 2 .un)).getD v26 .un) 0, AV.cell ((AV.elems (v22.getD 2 .un)).getD v26 .un) 1, AV.cell ((AV.elems (v22.getD 2 .un)).getD v26 .un) 2, AV.cell ((AV.elems (v22.getD 2 .un)).getD v26 .un) 3, AV.cell ((AV.elems (v22.getD 2 .un)).getD v26 .un) 4, AV.cell ((AV.elems (v22.getD 2 .un)).getD v26 .un) 5, v27, AV.cell ((AV.elems (v22.getD 2 .un)).getD v26 .un) 7, AV.cell ((AV.elems (v22.getD 2 .un)).getD v26 .un) 8])).getD v28 .un) 8])) (v22.getD 3 .un))))
  (F131_13 run a1 a2 a3 a4 (a5) (v4.getD 0 .un) (v4.getD 1 .un) ((AV.elems (v4.getD 2 .un)).set v8 (.ag [AV.cell ((AV.elems (v4.getD 2 .un)).getD v8 .un) 0, AV.cell ((AV.elems (v4.getD 2 .un)).getD v8 .un) 1, AV.cell ((AV.elems (v4.getD 2 .un)).getD v8 .un) 2, AV.cell ((AV.elems (v4.getD 2 .un)).getD v8 .un) 3, AV.cell ((AV.elems (v4.getD 2 .un)).getD v8 .un) 4, v9, AV.cell ((AV.elems (v4.getD 2 .un)).getD v8 .un) 6, AV.cell ((AV.elems (v4.getD 2 .un)).getD v8 .un) 7, AV.cell ((AV.elems (v4.getD 2 .un)).getD v8 .un) 8])) (v4.getD 3 .un)))
section
variable (call : CallT) (run : RunT) (a0 : Int) (a1 : UInt8) (a2 : Int) (a3 : List UInt8) (a4 : Bool) (a5 : AV) (a6 : Int) (a7 : AV) (a8 : Int) (a9 : List AV) (a10 : AV)
theorem text131 : unr (C mx) call run 131 Tryd.f131 400 [.code body131] (initF (C mx) 131 Tryd.f131.ntmps [.un, .int a0, .ag [.u8 a1, .int a2, .s a3, .b a4, a5], .int a6, .ag [a7, .int a8, .ro 9 a9, a10]]) = X131 call run a0 a1 a2 a3 a4 a5 a6 a7 a8 a9 a10 := by
  kernel_rfl
theorem c131 {r : AV} (h : X131 (semCall (C mx) Tryd.prog) (semRun (C mx) Tryd.prog 131 Tryd.f131) a0 a1 a2 a3 a4 a5 a6 a7 a8 a9 a10 = some r) : semCall (C mx) Tryd.prog 131 [.un, .int a0, .ag [.u8 a1, .int a2, .s a3, .b a4, a5], .int a6, .ag [a7, .int a8, .ro 9 a9, a10]] = some r :=
  semCall_unr (fn := Tryd.f131) (c := body131) (by kernel_rfl) (by kernel_rfl) 400 (by kernel_rfl) ((text131 _ _ a0 a1 a2 a3 a4 a5 a6 a7 a8 a9 a10).trans h)
end
noncomputable def X131_13 (call : CallT) (run : RunT) (a0 : UInt8) (a1 : Int) (a2 : List UInt8) (a3 : Bool) (a4 a5 a6 : AV) (a7 : List AV) (a8 : AV) : Option AV :=
  (lenR (a5)).bind fun v1 => (binI .geq (a6) (v1)).bind fun v2 => condM (v2)
  (some (.tu [.pt [.int a1, .int 4], .ag [a5, a6, .ro 9 a7, a8]]))
  ((idx 5 (a5) (a6)).bind fun v3 => (binI .eql (AV.cell (v3) 0) (.u8 3)).bind fun v4 => condM (v4)
  ((idx 5 (a5) (a6)).bind fun v5 => (AV.one (AV.cell (v5) 1)).bind fun v6 => some (.tu [.pt [v6, .int 4], .ag [a5, a6, .ro 9 a7, a8]]))
  ((binI .add (a6) (.int 1)).bind fun v7 => (AV.one (v7)).bind fun v8 => some (.tu [.nilp, .ag [a5, v8, .ro 9 a7, a8]])))
section
variable (call : CallT) (run : RunT) (a0 : UInt8) (a1 : Int) (a2 : List UInt8) (a3 : Bool) (a4 a5 a6 : AV) (a7 : List AV) (a8 : AV)
theorem text131_13 : step (C mx) call 131 Tryd.f131 (unr (C mx) call run 131 Tryd.f131 400) K131_13 (S131_13 a0 a1 a2 a3 a4 a5 a6 a7 a8) = X131_13 call run a0 a1 a2 a3 a4 a5 a6 a7 a8 := by
  kernel_rfl
end
section
variable (a0 : UInt8) (a1 : Int) (a2 : List UInt8) (a3 : Bool) (a4 a5 a6 : AV) (a7 : List AV) (a8 : AV)
theorem r131_13 {r : AV} (h : X131_13 (semCall (C mx) Tryd.prog) (semRun (C mx) Tryd.prog 131 Tryd.f131) a0 a1 a2 a3 a4 a5 a6 a7 a8 = some r) : F131_13 (semRun (C mx) Tryd.prog 131 Tryd.f131) a0 a1 a2 a3 a4 a5 a6 a7 a8 = some r :=
  semRun_unr 400 ((text131_13 _ _ a0 a1 a2 a3 a4 a5 a6 a7 a8).trans h)
end
end R3
