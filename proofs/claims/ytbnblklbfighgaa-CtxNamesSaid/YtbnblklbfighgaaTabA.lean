/-
  Tables of this seat's types and functions for the evaluator, and that the program is fit for it.
-/
import Derived.Test.YtbnblklbfighgaaSxD
import Derived.Test.YtbnblklbfighgaaSxC
import Derived.Test.YtbnblklbfighgaaProg
set_option linter.unusedVariables false
set_option linter.unusedSimpArgs false
set_option linter.unusedSectionVars false
set_option linter.unnecessarySimpa false
namespace R1
open Go Sx
def tyTab : List (Nat × Ty) := [
  (3, { size := 1, bytes := 8, kd := .int .i64, elem := 0, zero := [.int 0], fields := [], eqk := none }),
  (4, { size := 1, bytes := 1, kd := .bool, elem := 0, zero := [.b false], fields := [], eqk := none }),
  (5, { size := 1, bytes := 1, kd := .int .u8, elem := 0, zero := [.u8 0], fields := [], eqk := none }),
  (9, { size := 1, bytes := 16, kd := .str, elem := 0, zero := [.s []], fields := [], eqk := none }),
  (22, { size := 1, bytes := 24, kd := .slice, elem := 5, zero := [.nils], fields := [], eqk := none }),
  (30, { size := 1, bytes := 2, kd := .int .u16, elem := 0, zero := [.ik .u16 0], fields := [], eqk := none }),
  (32, { size := 1, bytes := 1, kd := .int .u8, elem := 0, zero := [.u8 0], fields := [], eqk := none }),
  (33, { size := 1, bytes := 1, kd := .int .u8, elem := 0, zero := [.u8 0], fields := [], eqk := none }),
  (34, { size := 1, bytes := 1, kd := .int .u8, elem := 0, zero := [.u8 0], fields := [], eqk := none }),
  (35, { size := 1, bytes := 1, kd := .int .u8, elem := 0, zero := [.u8 0], fields := [], eqk := none }),
  (36, { size := 1, bytes := 1, kd := .int .u8, elem := 0, zero := [.u8 0], fields := [], eqk := none }),
  (38, { size := 10, bytes := 32, kd := .struct, elem := 0, zero := [.u8 0, .u8 0, .b false, .u8 0, .u8 0, .u8 0, .u8 0, .b false, .u8 0, .s []], fields := [(0, 32), (1, 33), (2, 4), (3, 34), (4, 5), (5, 35), (6, 36), (7, 4), (8, 5), (9, 9)], eqk := some [.i, .i, .b, .i, .i, .i, .i, .b, .i, .s] }),
  (41, { size := 1, bytes := 1, kd := .int .u8, elem := 0, zero := [.u8 0], fields := [], eqk := none }),
  (56, { size := 1, bytes := 24, kd := .slice, elem := 9, zero := [.nils], fields := [], eqk := none })
]
def planTab : List ((Nat × Nat) × (List (Nat × Bool) × List Nat)) := [((3, 4), ([(0, true), (1, true), (4, true), (5, true), (2, false), (3, true), (6, false), (7, true), (8, true), (9, true), (10, true), (13, true), (14, true), (11, false), (12, true), (15, false), (16, true), (17, true)], [])),
  ((4, 1), ([(0, false), (1, true), (2, true), (5, true), (3, false), (4, true), (6, false), (7, true), (8, true), (9, true), (10, true), (13, true), (11, false), (12, true), (14, false), (15, true), (16, true), (17, true)], [])),
  ((5, 12), ([(0, true), (1, true), (2, true), (3, true), (4, true), (5, true), (8, true), (9, true), (10, true), (11, true), (12, true), (6, false), (7, true), (13, false), (14, true), (15, true), (16, false), (17, false), (18, true)], [])),
  ((6, 5), ([(0, true), (3, true), (4, true), (1, false), (2, true), (5, true), (6, true), (7, true), (8, true), (9, true), (12, true), (13, true), (14, true), (18, true), (19, true), (10, false), (11, true), (15, false), (16, true), (17, true), (20, true), (21, true), (22, true), (23, true), (24, true), (25, true), (28, true), (29, true), (30, true), (34, true), (26, false), (27, true), (31, false), (32, true), (33, true), (35, false), (36, true), (37, true), (38, true), (39, true)], [])),
  ((7, 1), ([(0, false), (1, true), (2, true), (4, true), (3, false), (5, false), (6, true), (7, true), (8, true)], [])),
  ((8, 7), ([(0, true), (1, true), (2, true), (3, true), (4, true), (6, true), (5, false), (7, true), (8, true), (9, true)], [])),
  ((9, 7), ([(0, true), (1, false), (2, true), (3, true), (4, false), (5, true), (6, true), (7, true), (8, true), (10, true), (9, false), (11, false), (12, true), (13, true)], [])),
  ((10, 1), ([(0, false), (1, true), (2, true), (5, true), (3, false), (4, true), (6, false), (7, true), (8, true), (9, true), (10, true), (12, true), (11, false), (13, false), (14, true), (15, true), (16, true), (17, true), (19, true), (18, false), (20, false), (21, true), (22, true), (23, true)], [])),
  ((12, 3), ([(0, true), (1, true), (2, true), (3, true), (4, true), (5, true), (6, false), (7, true)], [])),
  ((13, 4), ([(0, true), (1, true), (2, true), (3, true), (4, true), (5, true), (6, true), (7, true), (8, false), (9, true), (10, true)], [])),
  ((24, 29), ([(0, true), (1, true), (2, true), (3, true), (4, true), (5, true), (6, true), (7, true), (8, true), (9, true), (10, true), (11, true), (12, true), (13, true), (14, true), (15, true), (16, true)], [])),
  ((42, 1), ([(0, true), (1, true), (2, true), (3, true), (4, true), (5, false), (6, true), (7, false)], [3])),
  ((42, 12), ([(0, true), (1, true), (2, true), (3, true), (4, true), (5, false), (6, true), (7, false)], [3])),
  ((43, 5), ([(0, true), (1, true), (2, true), (3, true), (4, true), (5, false), (6, true), (7, false)], [3])),
  ((43, 6), ([(0, true), (1, true), (2, true), (3, true), (4, true), (5, true), (6, true), (7, true), (8, true), (9, true), (10, true), (12, true), (13, true), (11, false), (14, false), (15, true), (16, true), (17, true), (18, true), (19, true), (20, true), (21, false), (22, true), (23, true)], []))]
def stopTab : List (Nat × List (Nat × List (Nat × Option (Nat × Nat)) × List Nat)) := [(3, [(2, [(1, none)], [])]),
  (5, [(6, [(0, none), (3, none), (4, some (5, 1)), (5, none)], []), (18, [(6, none), (7, none)], [])]),
  (8, [(7, [(3, none), (4, none)], [3, 4])]),
  (17, [(3, [(3, some (5, 1)), (6, none), (7, none), (8, none)], [])]),
  (18, [(3, [(0, none), (3, some (5, 1)), (4, none)], [])]),
  (19, [(3, [(3, some (5, 1)), (6, none), (7, none), (8, none)], [])]),
  (20, [(3, [(0, none), (3, some (5, 1)), (4, none)], [])]),
  (23, [(11, [(1, none), (4, none)], [1, 4]), (12, [(1, none), (3, none), (4, none), (48, none)], [1, 3, 4]), (14, [(1, none), (4, none)], [1, 4]), (16, [(1, none), (3, none), (4, none), (48, none)], [1, 3, 4]), (27, [(1, none)], [1]), (28, [(1, none), (3, none)], [1, 3])]),
  (27, [(6, [(1, none), (2, none)], [1, 2])]),
  (28, [(32, [], [])]),
  (29, [(6, [(1, none), (2, none)], [1, 2])]),
  (30, [(7, [(1, none)], [1]), (8, [], [])]),
  (33, [(3, [(0, none), (3, none), (4, none)], [])]),
  (34, [(13, [], []), (14, [(0, none), (3, none)], []), (21, [], []), (22, [(0, none)], [])]),
  (35, [(3, [(0, none), (3, none), (4, none)], []), (9, [(0, none), (5, none), (6, none)], [])]),
  (39, [(2, [(0, none), (1, none), (5, none)], [])]),
  (41, [(2, [(0, none), (1, none), (7, none), (8, none)], [])]),
  (42, [(12, [(2, none), (3, none)], [2, 3]), (14, [(2, none), (3, none)], [2, 3])]),
  (43, [(4, [(1, none), (3, none)], [1, 3]), (6, [(1, none), (3, none)], [1, 3])]),
  (44, [(2, [(0, none), (1, none), (5, none)], [])])]
def ownTab : List (Nat × List (Option (Nat × Nat))) := []
def truncTab : List (Nat × List Nat) := []
def C : Cfg := mkCfg tyTab planTab stopTab ownTab truncTab (fun _ => none)
end R1

open Go Go.Proofs Sx
namespace R1
theorem tys : tyTab.all (fun p => tyB Try.prog p.1 p.2) = true := by kernel_rfl
theorem fns : fnsB C 0 Try.prog.funcs.toList = true := by kernel_rfl
theorem mixed : Try.prog.follows .mixedOrders = true := by kernel_rfl

theorem idxs : idxB 50 0 Try.prog.funcs.toList = true := by kernel_rfl
theorem run50 (s : ByteArray) (c : Int) (w : World) : (callFunc 50 #[.string s, .int .u8 c]).run Try.prog w = .ok (.value (.int .i64 (Lib.indexByte s.data.toList c.toNat.toUInt8))) w :=
  run_idx (fn := Try.f50) (by kernel_rfl) (by kernel_rfl) (by kernel_rfl) (by kernel_rfl) (by kernel_rfl) s c w
theorem fit : Fit C Try.prog := Fit.of (tab := tyTab) rfl tys fns mixed (ext_of idxs run50)
end R1
