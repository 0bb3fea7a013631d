/-
  Tables of this seat's types and functions for the evaluator, and that the program is fit for it.
-/
import Derived.Test.YtcmpmpnjidjenaaDoorSxC
import Derived.Test.YtcmpmpnjidjenaaDoorProg
set_option linter.unusedVariables false
set_option linter.unusedSimpArgs false
set_option linter.unusedSectionVars false
set_option linter.unnecessarySimpa false
namespace R2
open Go Sx
def tyTab : List (Nat × Ty) := [
  (3, { size := 1, bytes := 8, kd := .int .i64, elem := 0, zero := [.int 0], fields := [], eqk := none }),
  (4, { size := 1, bytes := 1, kd := .bool, elem := 0, zero := [.b false], fields := [], eqk := none }),
  (5, { size := 1, bytes := 1, kd := .int .u8, elem := 0, zero := [.u8 0], fields := [], eqk := none }),
  (9, { size := 1, bytes := 16, kd := .str, elem := 0, zero := [.s []], fields := [], eqk := none }),
  (22, { size := 1, bytes := 1, kd := .int .u8, elem := 0, zero := [.u8 0], fields := [], eqk := none }),
  (23, { size := 1, bytes := 1, kd := .int .u8, elem := 0, zero := [.u8 0], fields := [], eqk := none }),
  (24, { size := 1, bytes := 1, kd := .int .u8, elem := 0, zero := [.u8 0], fields := [], eqk := none }),
  (25, { size := 1, bytes := 1, kd := .int .u8, elem := 0, zero := [.u8 0], fields := [], eqk := none }),
  (26, { size := 1, bytes := 1, kd := .int .u8, elem := 0, zero := [.u8 0], fields := [], eqk := none }),
  (28, { size := 10, bytes := 32, kd := .struct, elem := 0, zero := [.u8 0, .u8 0, .b false, .u8 0, .u8 0, .u8 0, .u8 0, .b false, .u8 0, .s []], fields := [(0, 22), (1, 23), (2, 4), (3, 24), (4, 5), (5, 25), (6, 26), (7, 4), (8, 5), (9, 9)], eqk := some [.i, .i, .b, .i, .i, .i, .i, .b, .i, .s] }),
  (33, { size := 1, bytes := 24, kd := .slice, elem := 5, zero := [.nils], fields := [], eqk := none }),
  (46, { size := 1, bytes := 8, kd := .int .i64, elem := 0, zero := [.int 0], fields := [], eqk := none }),
  (55, { size := 1, bytes := 24, kd := .slice, elem := 74, zero := [.nils], fields := [], eqk := none }),
  (71, { size := 1, bytes := 1, kd := .int .u8, elem := 0, zero := [.u8 0], fields := [], eqk := none }),
  (72, { size := 1, bytes := 24, kd := .slice, elem := 101, zero := [.nils], fields := [], eqk := none }),
  (74, { size := 4, bytes := 64, kd := .struct, elem := 0, zero := [.u8 0, .s [], .nils, .s []], fields := [(0, 71), (1, 9), (2, 72), (3, 9)], eqk := none }),
  (75, { size := 1, bytes := 8, kd := .func, elem := 0, zero := [.nilf], fields := [], eqk := none }),
  (77, { size := 19, bytes := 168, kd := .struct, elem := 0, zero := [.u8 0, .u8 0, .b false, .u8 0, .u8 0, .u8 0, .u8 0, .b false, .u8 0, .s [], .nils, .nils, .b false, .u8 0, .s [], .nils, .s [], .nilf, .b false], fields := [(0, 28), (10, 33), (11, 33), (12, 4), (13, 74), (17, 75), (18, 4)], eqk := none }),
  (101, { size := 2, bytes := 32, kd := .struct, elem := 0, zero := [.s [], .s []], fields := [(0, 9), (1, 9)], eqk := some [.s, .s] })
]
def planTab : List ((Nat × Nat) × (Plan × List Nat)) := [((17, 9), (.seq [(0, true), (1, true), (2, true), (3, true), (4, true), (5, true), (6, true), (7, true), (8, true), (9, true), (10, true), (11, true), (12, true), (13, true), (14, true), (15, true), (16, true), (17, true), (18, true), (19, true), (20, true), (21, true), (22, true), (23, true), (24, true), (25, true), (26, true), (27, true), (28, true), (29, true), (30, true), (31, true), (32, true), (33, true), (34, true), (35, true), (36, true), (37, true)] .done, [])),
  ((34, 33), (.seq [(0, true), (2, true), (5, true), (6, true), (1, false), (3, true), (4, true), (7, false), (8, true), (9, true), (10, true)] .done, [])),
  ((39, 4), (.seq [(0, true), (1, true), (2, true), (3, true), (4, true), (5, true), (6, true), (7, false), (8, true)] .done, [3])),
  ((44, 1), (.seq [(0, true), (1, true), (2, true), (3, true), (4, true), (5, false), (6, true), (7, false)] .done, [3])),
  ((44, 12), (.seq [(0, true), (1, true), (2, true), (3, true), (4, true), (5, false), (6, true), (7, false)] .done, [3])),
  ((45, 5), (.seq [(0, true), (1, true), (2, true), (3, true), (4, true), (5, false), (6, true), (7, false)] .done, [3])),
  ((45, 6), (.seq [(0, true), (1, true), (2, true), (3, true), (4, true), (5, true), (6, true), (7, true), (8, true), (9, true), (10, true), (12, true), (13, true), (11, false), (14, false), (15, true), (16, true), (17, true), (18, true), (19, true), (20, true), (21, false), (22, true), (23, true)] .done, [])),
  ((54, 2), (.seq [(0, true), (2, true), (3, true), (1, false), (4, false), (5, true), (6, true)] .done, [])),
  ((54, 4), (.seq [(0, true), (1, true), (3, true), (4, true), (2, false), (5, false), (6, true), (7, true)] .done, [])),
  ((54, 7), (.seq [(0, true), (2, true), (3, true), (1, false), (4, false), (5, true), (6, true)] .done, [])),
  ((65, 12), (.seq [(0, true), (1, true), (2, true), (3, true), (4, true), (5, true), (6, true), (7, true), (8, false), (9, false), (10, true), (11, true), (12, false), (13, true), (14, true)] .done, [])),
  ((65, 13), (.seq [(0, true), (1, true), (2, true), (3, false), (4, false), (5, true), (6, true), (7, true), (8, false)] .done, [1000008])),
  ((84, 3), (.seq [(0, true), (1, true), (2, true), (3, false), (4, false), (5, true), (6, true), (7, true), (8, false)] .done, [1000008])),
  ((91, 3), (.seq [(0, true), (1, true), (6, true), (2, false)] (.fork 3 (.seq [(4, true), (5, true), (7, false), (8, true), (9, false)] .done) 7 (.seq [(3, false), (4, true), (5, true), (8, true), (9, false)] .done)), [2])),
  ((93, 7), (.seq [(0, true), (1, true), (2, true), (3, true), (4, true), (5, true), (6, true), (7, false), (8, false)] .done, [1000008])),
  ((102, 2), (.seq [(0, true), (1, true), (2, true), (3, true), (4, true), (5, true), (6, true), (7, true), (8, true), (9, true), (10, true), (11, true), (12, true), (13, true), (14, true), (15, true), (16, true), (17, false)] .done, [1000017])),
  ((102, 7), (.seq [(0, true), (1, true), (2, true), (3, true), (4, true), (5, true), (6, false), (7, true), (8, true), (9, true), (10, true), (11, true), (12, false)] .done, [1000012])),
  ((103, 9), (.seq [(0, true), (1, true), (2, true), (3, true), (4, true), (5, true), (6, true), (7, true), (8, true), (9, true), (10, true), (11, true), (12, true), (13, true), (14, false)] .done, [1000014])),
  ((103, 12), (.seq [(0, true), (1, true), (2, true), (3, true), (4, true), (5, true), (6, true), (7, true), (8, true), (9, true), (10, true), (11, false), (12, true), (13, true), (14, true), (15, true), (16, false)] .done, [1000016])),
  ((104, 1), (.seq [(0, true), (1, true), (2, true), (3, true), (4, true), (5, true), (6, true), (7, true), (8, true), (9, true), (10, true), (11, false), (12, true), (13, true)] .done, [1000011])),
  ((109, 0), (.seq [(0, true), (1, true), (2, true), (3, true), (4, true), (5, true), (6, true), (7, true), (8, true), (10, true), (9, false), (11, false), (12, true), (13, true), (14, false)] .done, [1000014]))]
def stopTab : List (Nat × List (Nat × List (Nat × Option (Nat × Nat)) × List (Nat × List (Nat × Nat × Nat)))) := [(21, [(11, [(1, none), (4, none)], [(1, []), (4, [])]), (12, [(1, none), (3, none), (4, none), (48, none)], [(1, []), (3, []), (4, [])]), (14, [(1, none), (4, none)], [(1, []), (4, [])]), (16, [(1, none), (3, none), (4, none), (48, none)], [(1, []), (3, []), (4, [])]), (27, [(1, none)], [(1, [])]), (28, [(1, none), (3, none)], [(1, []), (3, [])])]),
  (28, [(3, [(1, none), (2, none)], [(1, []), (2, [])])]),
  (34, [(16, [], []), (17, [(1, none), (9, none)], [(1, [])]), (20, [], []), (21, [(1, none), (9, none)], [(1, [])]), (26, [(1, none)], [(1, [])]), (27, [(1, none), (9, none)], [(1, [])]), (33, [(1, none), (4, none)], [(1, [])]), (37, [(1, none)], [(1, [])]), (38, [], [])]),
  (40, [(3, [(1, none), (2, none), (3, none), (6, none)], [(3, []), (6, [])]), (4, [(1, none), (3, none), (6, none)], [(3, []), (6, [])]), (22, [(1, none), (2, none), (3, none), (6, none)], [(3, []), (6, [])]), (26, [(1, none), (2, none), (3, none), (6, none), (16, none)], [(3, []), (6, [])]), (31, [(1, none), (2, none), (3, none), (6, none)], [(3, []), (6, [])]), (32, [(3, none), (6, none)], [(3, []), (6, [])])]),
  (43, [(2, [(0, none), (1, none), (7, none), (8, none)], [])]),
  (44, [(12, [(2, none), (3, none)], [(2, []), (3, [])]), (14, [(2, none), (3, none)], [(2, []), (3, [])])]),
  (45, [(4, [(1, none), (3, none)], [(1, []), (3, [])]), (6, [(1, none), (3, none)], [(1, []), (3, [])])]),
  (49, [(3, [(1, none), (2, none), (3, none), (6, none)], [(3, []), (6, [])]), (4, [(2, none), (3, none), (6, none), (14, none), (15, none), (16, none)], [(3, []), (6, [])])]),
  (53, [(4, [(1, none), (3, none)], [(1, [])]), (7, [(1, none), (3, none), (4, none)], [(1, [])])]),
  (60, [(2, [(0, none), (7, none), (8, none), (9, none)], [(34, [(10, 5, 1), (11, 5, 1), (15, 101, 2)]), (35, [(0, 74, 4)])])]),
  (63, [(7, [(2, none), (4, none)], [(2, []), (4, [])])]),
  (65, [(17, [(1, none), (2, none), (3, none), (6, none)], [(3, []), (6, [])]), (22, [(3, none), (6, none)], [(3, []), (6, [])])]),
  (66, [(4, [(1, none), (2, none), (4, none)], [(2, []), (4, [])]), (11, [(1, none), (2, none), (4, none), (6, none)], [(2, []), (4, [])]), (13, [(1, none), (2, none), (4, none)], [(2, []), (4, [])]), (20, [(1, none), (2, none), (4, none), (6, none)], [(2, []), (4, [])]), (31, [(2, none), (4, none)], [(2, []), (4, [])])]),
  (79, [(3, [(0, none), (1, none), (4, none)], [(4, []), (48, [(10, 5, 1), (11, 5, 1), (15, 101, 2)]), (49, [(0, 74, 4)])]), (7, [(0, none), (1, none), (4, none)], [(4, []), (48, [(10, 5, 1), (11, 5, 1), (15, 101, 2)]), (49, [(0, 74, 4)])]), (8, [(0, none), (1, none), (4, none), (16, none)], [(4, []), (48, [(10, 5, 1), (11, 5, 1), (15, 101, 2)]), (49, [(0, 74, 4)])]), (11, [(0, none), (1, none), (4, none)], [(4, []), (48, [(10, 5, 1), (11, 5, 1), (15, 101, 2)]), (49, [(0, 74, 4)])]), (12, [(0, none), (1, none), (4, none), (16, none)], [(4, []), (48, [(10, 5, 1), (11, 5, 1), (15, 101, 2)]), (49, [(0, 74, 4)])]), (18, [(0, none), (1, none), (4, none)], [(4, []), (48, [(10, 5, 1), (11, 5, 1), (15, 101, 2)]), (49, [(0, 74, 4)])])]),
  (80, [(2, [(0, none)], [(22, [(10, 5, 1), (11, 5, 1)]), (23, [(0, 74, 4)])])]),
  (91, [(24, [(2, none), (4, none)], [(2, []), (4, [])])]),
  (92, [(11, [(6, none)], [(6, [])]), (23, [(1, none), (3, none), (6, none)], [(3, []), (6, [])]), (24, [(1, none), (3, none), (6, none), (8, none)], [(3, []), (6, [])]), (36, [(3, none), (6, none)], [(3, []), (6, [])])]),
  (93, [(5, [(1, none), (3, none), (6, none), (19, none), (20, none)], [(3, []), (6, [])])]),
  (100, [(5, [(0, none), (2, none)], [(74, [(10, 5, 1), (11, 5, 1), (15, 101, 2)]), (75, [(0, 74, 4)])]), (12, [(0, none), (6, none)], [(74, [(10, 5, 1), (11, 5, 1), (15, 101, 2)]), (75, [(0, 74, 4)])])]),
  (101, [(12, [(0, none), (4, none)], [(4, []), (54, [(10, 5, 1), (11, 5, 1), (15, 101, 2)]), (55, [(0, 74, 4)])])]),
  (102, [(3, [(0, none)], [(58, [(10, 5, 1), (11, 5, 1), (15, 101, 2)]), (59, [(0, 74, 4)])])]),
  (103, [(9, [(0, none), (6, none)], [(96, [(10, 5, 1), (11, 5, 1), (15, 101, 2)]), (97, [(0, 74, 4)])]), (15, [(0, none)], [(96, [(10, 5, 1), (11, 5, 1), (15, 101, 2)]), (97, [(0, 74, 4)])])]),
  (105, [(13, [], []), (14, [(0, none), (3, none)], []), (21, [], []), (22, [(0, none)], [])]),
  (107, [(9, [(2, none), (4, none)], [(2, []), (4, [])])]),
  (108, [(7, [(1, none)], [(1, [])]), (8, [], [])]),
  (111, [(2, [(0, none)], [(19, [(10, 5, 1), (11, 5, 1), (15, 0, 0)]), (20, [(0, 74, 4)])])])]
def ownTab : List (Nat × List (Option (Nat × Nat))) := [(39, [some (74, 4), none, none])]
def sigTab : List (Nat × Sig) := [(59, { ps := [.v, .obj 0], objs := [((.arg 1), [.own 74 4])], outs := [((.arg 1), [.own 74 4])] }),
  (60, { ps := [.obj 0, .v], objs := [((.arg 0), [.v, .v, .v, .v, .v, .v, .v, .v, .v, .v, .own 5 1, .own 5 1, .v, .v, .v, .own 101 2, .v, .clo 59 [1], .v]), ((.fld 0 17 0), [.own 74 4])], outs := [((.arg 0), [.v, .v, .v, .v, .v, .v, .v, .v, .v, .v, .own 5 1, .own 5 1, .v, .v, .v, .v, .v, .clo 59 [1], .v]), ((.fld 0 17 0), [.own 74 4])] }),
  (79, { ps := [.obj 0, .v], objs := [((.arg 0), [.v, .v, .v, .v, .v, .v, .v, .v, .v, .v, .own 5 1, .own 5 1, .v, .v, .v, .own 101 2, .v, .clo 59 [1], .v]), ((.fld 0 17 0), [.own 74 4])], outs := [((.arg 0), [.v, .v, .v, .v, .v, .v, .v, .v, .v, .v, .own 5 1, .own 5 1, .v, .v, .v, .own 101 2, .v, .clo 59 [1], .v]), ((.fld 0 17 0), [.own 74 4])] }),
  (80, { ps := [.obj 0], objs := [((.arg 0), [.v, .v, .v, .v, .v, .v, .v, .v, .v, .v, .own 5 1, .own 5 1, .v, .v, .v, .v, .v, .clo 59 [1], .v]), ((.fld 0 17 0), [.own 74 4])], outs := [((.arg 0), [.v, .v, .v, .v, .v, .v, .v, .v, .v, .v, .own 5 1, .own 5 1, .v, .v, .v, .v, .v, .clo 59 [1], .v]), ((.fld 0 17 0), [.own 74 4])] }),
  (100, { ps := [.obj 0, .v, .v], objs := [((.arg 0), [.v, .v, .v, .v, .v, .v, .v, .v, .v, .v, .own 5 1, .own 5 1, .v, .v, .v, .own 101 2, .v, .clo 59 [1], .v]), ((.fld 0 17 0), [.own 74 4])], outs := [((.arg 0), [.v, .v, .v, .v, .v, .v, .v, .v, .v, .v, .own 5 1, .own 5 1, .v, .v, .v, .own 101 2, .v, .clo 59 [1], .v]), ((.fld 0 17 0), [.own 74 4])] }),
  (101, { ps := [.obj 0, .v, .v], objs := [((.arg 0), [.v, .v, .v, .v, .v, .v, .v, .v, .v, .v, .own 5 1, .own 5 1, .v, .v, .v, .own 101 2, .v, .clo 59 [1], .v]), ((.fld 0 17 0), [.own 74 4])], outs := [((.arg 0), [.v, .v, .v, .v, .v, .v, .v, .v, .v, .v, .own 5 1, .own 5 1, .v, .v, .v, .own 101 2, .v, .clo 59 [1], .v]), ((.fld 0 17 0), [.own 74 4])] }),
  (102, { ps := [.obj 0, .v, .v], objs := [((.arg 0), [.v, .v, .v, .v, .v, .v, .v, .v, .v, .v, .own 5 1, .own 5 1, .v, .v, .v, .own 101 2, .v, .clo 59 [1], .v]), ((.fld 0 17 0), [.own 74 4])], outs := [((.arg 0), [.v, .v, .v, .v, .v, .v, .v, .v, .v, .v, .own 5 1, .own 5 1, .v, .v, .v, .own 101 2, .v, .clo 59 [1], .v]), ((.fld 0 17 0), [.own 74 4])] }),
  (103, { ps := [.obj 0, .v, .v], objs := [((.arg 0), [.v, .v, .v, .v, .v, .v, .v, .v, .v, .v, .own 5 1, .own 5 1, .v, .v, .v, .own 101 2, .v, .clo 59 [1], .v]), ((.fld 0 17 0), [.own 74 4])], outs := [((.arg 0), [.v, .v, .v, .v, .v, .v, .v, .v, .v, .v, .own 5 1, .own 5 1, .v, .v, .v, .own 101 2, .v, .clo 59 [1], .v]), ((.fld 0 17 0), [.own 74 4])] }),
  (104, { ps := [.obj 0, .v], objs := [((.arg 0), [.v, .v, .v, .v, .v, .v, .v, .v, .v, .v, .own 5 1, .own 5 1, .v, .v, .v, .v, .v, .clo 59 [1], .v]), ((.fld 0 17 0), [.own 74 4])], outs := [((.arg 0), [.v, .v, .v, .v, .v, .v, .v, .v, .v, .v, .own 5 1, .own 5 1, .v, .v, .v, .v, .v, .clo 59 [1], .v]), ((.fld 0 17 0), [.own 74 4])] }),
  (109, { ps := [.obj 0, .v], objs := [((.arg 0), [.v, .v, .v, .v, .v, .v, .v, .v, .v, .v, .own 5 1, .own 5 1, .v, .v, .v, .own 101 2, .v, .clo 59 [1], .v]), ((.fld 0 17 0), [.own 74 4])], outs := [((.arg 0), [.v, .v, .v, .v, .v, .v, .v, .v, .v, .v, .own 5 1, .own 5 1, .v, .v, .v, .own 101 2, .v, .clo 59 [1], .v]), ((.fld 0 17 0), [.own 74 4])] }),
  (110, { ps := [.obj 0, .v, .v, .v], objs := [((.arg 0), [.v, .v, .v, .v, .v, .v, .v, .v, .v, .v, .own 5 1, .own 5 1, .v, .v, .v, .own 101 2, .v, .clo 59 [1], .v]), ((.fld 0 17 0), [.own 74 4])], outs := [((.arg 0), [.v, .v, .v, .v, .v, .v, .v, .v, .v, .v, .own 5 1, .own 5 1, .v, .v, .v, .own 101 2, .v, .clo 59 [1], .v]), ((.fld 0 17 0), [.own 74 4])] }),
  (111, { ps := [.obj 0], objs := [((.arg 0), [.v, .v, .v, .v, .v, .v, .v, .v, .v, .v, .own 5 1, .own 5 1, .v, .v, .v, .own 101 2, .v, .clo 59 [1], .v]), ((.fld 0 17 0), [.own 74 4])], outs := [((.arg 0), [.v, .v, .v, .v, .v, .v, .v, .v, .v, .v, .own 5 1, .own 5 1, .v, .v, .v, .own 101 2, .v, .clo 59 [1], .v]), ((.fld 0 17 0), [.own 74 4])] })]
def truncTab : List (Nat × List Nat) := []
def C : Cfg := mkCfg tyTab planTab stopTab ownTab truncTab (fun g => bif Nat.beq g 0 then some (10, .ag [.u8 20, .u8 0, .b false, .u8 0, .u8 0, .u8 0, .u8 0, .b false, .u8 0, .s []]) else none) sigTab
end R2

open Go Go.Proofs Sx
namespace R2
theorem tys : tyTab.all (fun p => tyB Tryd.prog p.1 p.2) = true := by kernel_rfl
theorem fns : fnsB C 0 Tryd.prog.funcs.toList = true := by kernel_rfl
theorem mixed : Tryd.prog.follows .mixedOrders = true := by kernel_rfl

theorem idxs : idxB 112 0 Tryd.prog.funcs.toList = true := by kernel_rfl
theorem run112 (s : ByteArray) (c : Int) (w : World) : (callFunc 112 #[.string s, .int .u8 c]).run Tryd.prog w = .ok (.value (.int .i64 (Lib.indexByte s.data.toList c.toNat.toUInt8))) w :=
  run_idx (fn := Tryd.f112) (by kernel_rfl) (by kernel_rfl) (by kernel_rfl) (by kernel_rfl) (by kernel_rfl) s c w
theorem fit : Fit C Tryd.prog := Fit.of (tab := tyTab) rfl tys fns mixed (ext_of idxs run112)
end R2

namespace R2
open Go Go.Proofs Sx
theorem globC : ∀ g' k' e', C.glob g' = some (k', e') → g' = 0 ∧ k' = 10 ∧ e' = (.ag [.u8 20, .u8 0, .b false, .u8 0, .u8 0, .u8 0, .u8 0, .b false, .u8 0, .s []] : AV) := by
  intro g k e h
  have h : (bif Nat.beq g 0 then some (10, (.ag [.u8 20, .u8 0, .b false, .u8 0, .u8 0, .u8 0, .u8 0, .b false, .u8 0, .s []] : AV)) else none) = some (k, e) := h
  cases hg : Nat.beq g 0 with
  | false => rw [hg] at h; cases h
  | true => rw [hg] at h; cases h; exact ⟨Nat.eq_of_beq_eq_true hg, rfl, rfl⟩
theorem globE : ∀ j, j < 10 → (AV.ag [.u8 20, .u8 0, .b false, .u8 0, .u8 0, .u8 0, .u8 0, .b false, .u8 0, .s []]).cell j = avL (([.lit (.int .u8 20), .lit (.int .u8 0), .lit (.bool false), .lit (.int .u8 0), .lit (.int .u8 0), .lit (.int .u8 0), .lit (.int .u8 0), .lit (.bool false), .lit (.int .u8 0), .lit (.string [])] : List (DataW Unit)).getD j .nil) := by
  intro j hj
  match j, hj with
  | 0, _ | 1, _ | 2, _ | 3, _ | 4, _ | 5, _ | 6, _ | 7, _ | 8, _ | 9, _ => rfl
end R2
