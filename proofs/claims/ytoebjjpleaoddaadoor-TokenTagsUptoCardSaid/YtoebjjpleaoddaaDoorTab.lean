/-
  Tables of this seat's types and functions for the evaluator, and that the program is fit for it.
-/
import Derived.Test.YtoebjjpleaoddaaDoorSxC
import Derived.Test.YtoebjjpleaoddaaDoorProg
set_option linter.unusedVariables false
set_option linter.unusedSimpArgs false
set_option linter.unusedSectionVars false
set_option linter.unnecessarySimpa false
namespace R4
open Go Sx
def tyTab : List (Nat × Ty) := [
  (3, { size := 1, bytes := 8, kd := .int .i64, elem := 0, zero := [.int 0], fields := [], eqk := none }),
  (4, { size := 1, bytes := 1, kd := .bool, elem := 0, zero := [.b false], fields := [], eqk := none }),
  (5, { size := 1, bytes := 1, kd := .int .u8, elem := 0, zero := [.u8 0], fields := [], eqk := none }),
  (9, { size := 1, bytes := 16, kd := .str, elem := 0, zero := [.s []], fields := [], eqk := none }),
  (22, { size := 1, bytes := 24, kd := .slice, elem := 5, zero := [.nils], fields := [], eqk := none }),
  (24, { size := 1, bytes := 24, kd := .slice, elem := 39, zero := [.nils], fields := [], eqk := none }),
  (25, { size := 1, bytes := 1, kd := .int .u8, elem := 0, zero := [.u8 0], fields := [], eqk := none }),
  (26, { size := 1, bytes := 1, kd := .int .u8, elem := 0, zero := [.u8 0], fields := [], eqk := none }),
  (27, { size := 1, bytes := 1, kd := .int .u8, elem := 0, zero := [.u8 0], fields := [], eqk := none }),
  (28, { size := 1, bytes := 1, kd := .int .u8, elem := 0, zero := [.u8 0], fields := [], eqk := none }),
  (29, { size := 1, bytes := 1, kd := .int .u8, elem := 0, zero := [.u8 0], fields := [], eqk := none }),
  (31, { size := 10, bytes := 32, kd := .struct, elem := 0, zero := [.u8 0, .u8 0, .b false, .u8 0, .u8 0, .u8 0, .u8 0, .b false, .u8 0, .s []], fields := [(0, 25), (1, 26), (2, 4), (3, 27), (4, 5), (5, 28), (6, 29), (7, 4), (8, 5), (9, 9)], eqk := some [.i, .i, .b, .i, .i, .i, .i, .b, .i, .s] }),
  (36, { size := 1, bytes := 1, kd := .int .u8, elem := 0, zero := [.u8 0], fields := [], eqk := none }),
  (37, { size := 1, bytes := 24, kd := .slice, elem := 45, zero := [.nils], fields := [], eqk := none }),
  (39, { size := 4, bytes := 64, kd := .struct, elem := 0, zero := [.u8 0, .s [], .nils, .s []], fields := [(0, 36), (1, 9), (2, 37), (3, 9)], eqk := none }),
  (41, { size := 1, bytes := 24, kd := .slice, elem := 22, zero := [.nils], fields := [], eqk := none }),
  (43, { size := 1, bytes := 24, kd := .slice, elem := 9, zero := [.nils], fields := [], eqk := none }),
  (45, { size := 2, bytes := 32, kd := .struct, elem := 0, zero := [.s [], .s []], fields := [(0, 9), (1, 9)], eqk := some [.s, .s] }),
  (55, { size := 1, bytes := 8, kd := .func, elem := 0, zero := [.nilf], fields := [], eqk := none }),
  (57, { size := 19, bytes := 168, kd := .struct, elem := 0, zero := [.u8 0, .u8 0, .b false, .u8 0, .u8 0, .u8 0, .u8 0, .b false, .u8 0, .s [], .nils, .nils, .b false, .u8 0, .s [], .nils, .s [], .nilf, .b false], fields := [(0, 31), (10, 22), (11, 22), (12, 4), (13, 39), (17, 55), (18, 4)], eqk := none })
]
def planTab : List ((Nat × Nat) × (Plan × List Nat)) := [((4, 12), (.seq [(0, true), (1, true), (2, true), (3, true), (4, true), (5, true), (6, true), (7, true), (8, true), (9, true), (10, true), (11, true), (12, true), (13, true), (14, true), (15, false)] .done, [1000015])),
  ((5, 13), (.seq [(0, true), (1, true), (2, true), (3, true), (4, true), (5, true), (6, true), (7, true), (8, true), (9, true), (10, true), (11, true), (12, true), (13, true), (14, true), (15, true), (16, true), (17, true), (18, true), (19, true), (20, true), (21, true), (22, true), (23, true), (24, true), (25, true), (26, true), (27, true), (28, true)] .done, [])),
  ((6, 30), (.seq [(0, true), (1, true), (2, true), (3, true), (4, true), (5, true), (6, true), (7, true), (8, true), (9, true), (10, true), (11, true), (12, false), (13, true), (14, true), (15, true), (16, true), (17, true), (18, true), (19, true), (20, true), (21, true), (22, true), (23, true), (24, true), (25, true), (26, true), (27, true), (28, true)] .done, [])),
  ((7, 18), (.seq [(0, true), (1, true), (2, true), (3, true), (4, true), (5, true), (6, true), (7, true), (8, true), (9, true), (10, true), (11, true), (12, true), (13, true), (14, true), (15, true), (16, true), (17, true), (18, true)] .done, [])),
  ((8, 14), (.seq [(0, true), (1, true), (2, true), (3, true), (4, true), (5, true), (6, true), (7, true), (8, true), (9, true), (10, true), (11, true), (12, true), (13, true), (14, true), (15, true), (16, true), (17, true), (18, true), (19, true), (20, true), (21, true), (22, true), (23, true), (24, true), (25, true), (26, true), (27, true), (28, true), (29, true), (30, true), (31, true), (32, true), (33, true), (34, true), (35, true), (36, true), (37, true), (38, true), (39, true), (40, true), (41, true), (42, true), (43, true), (44, true), (45, true), (46, true), (47, true)] .done, [])),
  ((10, 19), (.seq [(0, true), (1, true), (2, true), (3, true), (4, true), (5, true), (6, true), (7, true), (8, true), (9, true), (10, true), (11, true), (12, true), (13, true), (14, true), (15, true)] .done, [])),
  ((12, 4), (.seq [(0, true), (1, true), (2, true), (3, true), (4, true), (5, true), (6, true), (7, false), (8, true)] .done, [3])),
  ((14, 6), (.seq [(0, true), (1, true), (2, true), (3, true), (4, true), (5, true), (6, true), (7, true), (8, false), (9, true), (10, true), (11, true), (12, true), (13, true), (14, true), (15, true), (16, true), (17, true), (18, true), (19, true), (20, true), (21, true), (22, true)] .done, [])),
  ((14, 11), (.seq [(0, true), (1, true), (2, true), (3, true), (4, true), (5, true), (6, true), (7, true), (8, true), (9, true), (10, true), (11, true), (12, true), (13, true), (14, true), (15, true), (16, true), (17, true), (18, true)] .done, [])),
  ((25, 6), (.seq [(0, true), (1, true), (2, true), (3, true), (4, true), (5, true), (6, true), (7, true), (8, true), (9, true), (10, true), (11, true), (12, true)] .done, [])),
  ((20, 16), (.seq [(0, true), (1, true), (2, true), (3, false), (4, true), (5, true)] .done, [])),
  ((31, 29), (.seq [(0, true), (1, true), (2, true), (3, true), (4, true), (5, true), (6, true), (7, true), (8, true), (9, true), (10, true), (11, true), (12, true), (13, true), (14, true), (15, true), (16, true)] .done, [])),
  ((48, 2), (.seq [(0, true), (1, true), (2, true), (3, true), (4, true), (5, true), (6, true), (7, true), (8, true), (9, true), (10, true), (11, true), (12, true), (13, true), (14, true), (15, true), (16, true), (17, false)] .done, [1000017])),
  ((48, 7), (.seq [(0, true), (1, true), (2, true), (3, true), (4, true), (5, true), (6, false), (7, true), (8, true), (9, true), (10, true), (11, true), (12, false)] .done, [1000012])),
  ((49, 9), (.seq [(0, true), (1, true), (2, true), (3, true), (4, true), (5, true), (6, true), (7, true), (8, true), (9, true), (10, true), (11, true), (12, true), (13, true), (14, false)] .done, [1000014])),
  ((49, 12), (.seq [(0, true), (1, true), (2, true), (3, true), (4, true), (5, true), (6, true), (7, true), (8, true), (9, true), (10, true), (11, false), (12, true), (13, true), (14, true), (15, true), (16, false)] .done, [1000016])),
  ((50, 1), (.seq [(0, true), (1, true), (2, true), (3, true), (4, true), (5, true), (6, true), (7, true), (8, true), (9, true), (10, true), (11, false), (12, true), (13, true)] .done, [1000011])),
  ((56, 3), (.seq [(0, true), (1, true), (2, true), (3, false), (4, true), (5, true), (6, false)] .done, [1000006])),
  ((60, 13), (.seq [(0, true), (1, true), (2, true), (3, false), (4, true), (5, true)] .done, [])),
  ((63, 1), (.seq [(0, true), (1, true), (2, true), (3, true), (4, true), (5, false), (6, true), (7, false)] .done, [3])),
  ((63, 12), (.seq [(0, true), (1, true), (2, true), (3, true), (4, true), (5, false), (6, true), (7, false)] .done, [3])),
  ((64, 5), (.seq [(0, true), (1, true), (2, true), (3, true), (4, true), (5, false), (6, true), (7, false)] .done, [3])),
  ((64, 6), (.seq [(0, true), (1, true), (2, true), (3, true), (4, true), (5, true), (6, true), (7, true), (8, true), (9, true), (10, true), (12, true), (13, true), (11, false), (14, false), (15, true), (16, true), (17, true), (18, true), (19, true), (20, true), (21, false), (22, true), (23, true)] .done, [])),
  ((69, 12), (.seq [(0, true), (1, true), (2, true), (3, true), (4, true), (5, true), (6, true), (7, true), (8, false), (9, false), (10, true), (11, true), (12, false), (13, true), (14, true)] .done, [])),
  ((69, 13), (.seq [(0, true), (1, true), (2, true), (3, false), (4, false), (5, true), (6, true), (7, true), (8, false)] .done, [1000008])),
  ((71, 0), (.seq [(0, true), (1, true), (2, true), (3, true), (4, true), (5, true), (6, true), (7, true), (8, true), (10, true), (9, false), (11, false), (12, true), (13, true), (14, false)] .done, [1000014])),
  ((75, 26), (.seq [(0, true), (1, true), (2, true), (3, false), (4, true), (5, true), (6, false)] .done, [1000006])),
  ((77, 6), (.seq [(0, true), (1, true), (2, true), (3, true), (4, true), (5, true), (6, true), (7, false), (8, false)] .done, [1000008])),
  ((84, 3), (.seq [(0, true), (1, true), (2, true), (3, false), (4, false), (5, true), (6, true), (7, true), (8, false)] .done, [1000008])),
  ((92, 3), (.seq [(0, true), (1, true), (6, true), (2, false)] (.fork 3 (.seq [(4, true), (5, true), (7, false), (8, true), (9, false)] .done) 7 (.seq [(3, false), (4, true), (5, true), (8, true), (9, false)] .done)), [2])),
  ((94, 7), (.seq [(0, true), (1, true), (2, true), (3, true), (4, true), (5, true), (6, true), (7, false), (8, false)] .done, [1000008]))]
def stopTab : List (Nat × List (Nat × List (Nat × Option (Nat × Nat)) × List (Nat × List (Nat × Nat × Nat)))) := [(4, [(14, [(5, some (39, 4)), (8, none), (12, none)], [])]),
  (5, [(5, [(0, none), (3, some (5, 1)), (4, none)], []), (6, [(0, none), (3, some (5, 1)), (4, none)], [])]),
  (6, [(9, [(1, none), (2, none), (9, none), (10, none), (11, none)], []), (13, [(1, none), (2, none), (9, none), (10, none), (11, none), (12, none), (13, some (9, 1)), (14, none)], []), (17, [(1, none), (2, none), (9, none), (10, none), (11, none), (12, none), (13, some (9, 1)), (14, none), (15, none), (16, none)], []), (18, [(1, none), (2, none), (9, none), (10, none), (11, none), (12, none), (13, some (9, 1)), (14, none), (15, none), (16, none)], []), (28, [(1, none), (12, none), (13, some (9, 1)), (17, none), (20, none)], [])]),
  (7, [(6, [(1, none), (5, none), (6, some (5, 1)), (7, none)], []), (7, [(1, none), (5, none), (6, some (5, 1)), (7, none)], []), (16, [(5, none), (6, some (5, 1)), (8, none), (11, none)], [])]),
  (8, [(5, [(0, none), (3, some (5, 1)), (4, none)], []), (6, [(0, none), (3, some (5, 1)), (4, none)], [])]),
  (10, [(9, [(0, none), (3, none), (8, none), (9, none)], []), (17, [(0, none), (3, none), (8, none), (9, none)], []), (19, [(0, none), (3, none), (8, none), (9, none)], [])]),
  (14, [(4, [(0, none), (1, none), (5, none)], []), (9, [(0, none), (1, none), (5, none), (6, none)], [])]),
  (15, [(3, [(0, none), (3, none), (4, none)], [])]),
  (19, [(2, [(0, none), (7, none), (8, none), (9, none)], [(34, [(10, 5, 1), (11, 5, 1), (15, 45, 2)]), (35, [(0, 39, 4)])])]),
  (25, [(4, [(2, none), (3, none), (5, none)], [(2, []), (3, [])])]),
  (27, [(3, [(1, none), (2, none), (3, none), (6, none)], [(3, []), (6, [])]), (4, [(2, none), (3, none), (6, none), (14, none), (15, none), (16, none)], [(3, []), (6, [])])]),
  (29, [(3, [(0, none), (1, none), (4, none)], [(4, []), (48, [(10, 5, 1), (11, 5, 1), (15, 45, 2)]), (49, [(0, 39, 4)])]), (7, [(0, none), (1, none), (4, none)], [(4, []), (48, [(10, 5, 1), (11, 5, 1), (15, 45, 2)]), (49, [(0, 39, 4)])]), (8, [(0, none), (1, none), (4, none), (16, none)], [(4, []), (48, [(10, 5, 1), (11, 5, 1), (15, 45, 2)]), (49, [(0, 39, 4)])]), (11, [(0, none), (1, none), (4, none)], [(4, []), (48, [(10, 5, 1), (11, 5, 1), (15, 45, 2)]), (49, [(0, 39, 4)])]), (12, [(0, none), (1, none), (4, none), (16, none)], [(4, []), (48, [(10, 5, 1), (11, 5, 1), (15, 45, 2)]), (49, [(0, 39, 4)])]), (18, [(0, none), (1, none), (4, none)], [(4, []), (48, [(10, 5, 1), (11, 5, 1), (15, 45, 2)]), (49, [(0, 39, 4)])])]),
  (30, [(2, [(0, none)], [(22, [(10, 5, 1), (11, 5, 1)]), (23, [(0, 39, 4)])])]),
  (20, [(20, [(1, none), (2, none), (4, none)], [(2, []), (4, [])]), (24, [(2, none), (4, none)], [(2, []), (4, [])])]),
  (33, [(4, [(2, none), (3, none)], [(2, []), (3, [])])]),
  (34, [(27, [(1, none), (4, none), (5, none)], [(4, []), (5, [])]), (57, [(1, none), (2, none), (4, none), (5, none)], [(2, []), (4, []), (5, [])]), (58, [(1, none), (2, none), (4, none), (5, none), (13, none)], [(2, []), (4, []), (5, [])]), (73, [(1, none), (2, none), (4, none)], [(2, []), (4, [])]), (74, [(1, none), (2, none), (4, none)], [(2, []), (4, [])])]),
  (37, [(3, [(0, none)], [])]),
  (43, [(11, [(1, none), (4, none)], [(1, []), (4, [])]), (12, [(1, none), (3, none), (4, none), (48, none)], [(1, []), (3, []), (4, [])]), (14, [(1, none), (4, none)], [(1, []), (4, [])]), (16, [(1, none), (3, none), (4, none), (48, none)], [(1, []), (3, []), (4, [])]), (27, [(1, none)], [(1, [])]), (28, [(1, none), (3, none)], [(1, []), (3, [])])]),
  (44, [(3, [(1, none), (2, none)], [(1, []), (2, [])])]),
  (45, [(3, [(1, none), (2, none), (3, none), (6, none)], [(3, []), (6, [])]), (4, [(1, none), (3, none), (6, none)], [(3, []), (6, [])]), (22, [(1, none), (2, none), (3, none), (6, none)], [(3, []), (6, [])]), (26, [(1, none), (2, none), (3, none), (6, none), (16, none)], [(3, []), (6, [])]), (31, [(1, none), (2, none), (3, none), (6, none)], [(3, []), (6, [])]), (32, [(3, none), (6, none)], [(3, []), (6, [])])]),
  (46, [(5, [(0, none), (2, none)], [(74, [(10, 5, 1), (11, 5, 1), (15, 45, 2)]), (75, [(0, 39, 4)])]), (12, [(0, none), (6, none)], [(74, [(10, 5, 1), (11, 5, 1), (15, 45, 2)]), (75, [(0, 39, 4)])])]),
  (47, [(12, [(0, none), (4, none)], [(4, []), (54, [(10, 5, 1), (11, 5, 1), (15, 45, 2)]), (55, [(0, 39, 4)])])]),
  (48, [(3, [(0, none)], [(58, [(10, 5, 1), (11, 5, 1), (15, 45, 2)]), (59, [(0, 39, 4)])])]),
  (49, [(9, [(0, none), (6, none)], [(96, [(10, 5, 1), (11, 5, 1), (15, 45, 2)]), (97, [(0, 39, 4)])]), (15, [(0, none)], [(96, [(10, 5, 1), (11, 5, 1), (15, 45, 2)]), (97, [(0, 39, 4)])])]),
  (52, [(2, [(0, none), (1, none), (5, none)], [])]),
  (55, [(3, [(0, none), (3, none), (4, none)], [])]),
  (59, [(17, [(2, none), (3, none), (6, none)], [(3, []), (6, [])]), (22, [(2, none), (3, none), (6, none)], [(3, []), (6, [])]), (25, [(3, none), (6, none)], [(3, []), (6, [])])]),
  (60, [(8, [(1, none), (2, none), (4, none), (5, none)], [(2, []), (4, [])]), (20, [(1, none), (2, none), (4, none)], [(2, []), (4, [])]), (23, [(2, none), (4, none)], [(2, []), (4, [])])]),
  (61, [(4, [(1, none), (2, none), (4, none)], [(2, []), (4, [])]), (11, [(1, none), (2, none), (4, none), (7, none)], [(2, []), (4, [])]), (13, [(1, none), (2, none), (4, none)], [(2, []), (4, [])]), (20, [(1, none), (2, none), (4, none), (7, none)], [(2, []), (4, [])]), (24, [(2, none), (4, none)], [(2, []), (4, [])]), (33, [(2, none), (4, none)], [(2, []), (4, [])])]),
  (62, [(2, [(0, none), (1, none), (7, none), (8, none)], [])]),
  (63, [(12, [(2, none), (3, none)], [(2, []), (3, [])]), (14, [(2, none), (3, none)], [(2, []), (3, [])])]),
  (64, [(4, [(1, none), (3, none)], [(1, []), (3, [])]), (6, [(1, none), (3, none)], [(1, []), (3, [])])]),
  (67, [(7, [(2, none), (4, none)], [(2, []), (4, [])])]),
  (69, [(17, [(1, none), (2, none), (3, none), (6, none)], [(3, []), (6, [])]), (22, [(3, none), (6, none)], [(3, []), (6, [])])]),
  (70, [(4, [(1, none), (2, none), (4, none)], [(2, []), (4, [])]), (11, [(1, none), (2, none), (4, none), (6, none)], [(2, []), (4, [])]), (13, [(1, none), (2, none), (4, none)], [(2, []), (4, [])]), (20, [(1, none), (2, none), (4, none), (6, none)], [(2, []), (4, [])]), (31, [(2, none), (4, none)], [(2, []), (4, [])])]),
  (73, [(2, [(0, none)], [(19, [(10, 5, 1), (11, 5, 1), (15, 0, 0)]), (20, [(0, 39, 4)])])]),
  (74, [(3, [(0, none), (3, none), (4, none)], []), (9, [(0, none), (5, none), (6, none)], [])]),
  (75, [(21, [(4, none), (5, none)], [(4, []), (5, [])]), (27, [(2, none), (4, none)], [(2, []), (4, [])])]),
  (76, [(8, [(1, none), (3, none), (6, none)], [(3, []), (6, [])]), (10, [(1, none), (3, none), (6, none)], [(3, []), (6, [])]), (14, [(1, none), (3, none), (6, none), (7, none)], [(3, []), (6, [])]), (19, [(1, none), (3, none), (6, none), (7, none)], [(3, []), (6, [])]), (23, [(1, none), (2, none), (3, none), (6, none), (11, none)], [(3, []), (6, [])]), (45, [(3, none), (6, none)], [(3, []), (6, [])])]),
  (77, [(4, [(1, none), (2, none), (4, none), (5, none)], [(2, []), (4, [])])]),
  (92, [(24, [(2, none), (4, none)], [(2, []), (4, [])])]),
  (93, [(11, [(6, none)], [(6, [])]), (23, [(1, none), (3, none), (6, none)], [(3, []), (6, [])]), (24, [(1, none), (3, none), (6, none), (8, none)], [(3, []), (6, [])]), (36, [(3, none), (6, none)], [(3, []), (6, [])])]),
  (94, [(5, [(1, none), (3, none), (6, none), (19, none), (20, none)], [(3, []), (6, [])])]),
  (96, [(13, [], []), (14, [(0, none), (3, none)], []), (21, [], []), (22, [(0, none)], [])]),
  (98, [(9, [(2, none), (4, none)], [(2, []), (4, [])])]),
  (99, [(7, [(1, none)], [(1, [])]), (8, [], [])])]
def ownTab : List (Nat × List (Option (Nat × Nat))) := [(12, [some (39, 4), none, none])]
def sigTab : List (Nat × Sig) := [(18, { ps := [.v, .obj 0], objs := [((.arg 1), [.own 39 4])], outs := [((.arg 1), [.own 39 4])] }),
  (19, { ps := [.obj 0, .v], objs := [((.arg 0), [.v, .v, .v, .v, .v, .v, .v, .v, .v, .v, .own 5 1, .own 5 1, .v, .v, .v, .own 45 2, .v, .clo 18 [1], .v]), ((.fld 0 17 0), [.own 39 4])], outs := [((.arg 0), [.v, .v, .v, .v, .v, .v, .v, .v, .v, .v, .own 5 1, .own 5 1, .v, .v, .v, .v, .v, .clo 18 [1], .v]), ((.fld 0 17 0), [.own 39 4])] }),
  (29, { ps := [.obj 0, .v], objs := [((.arg 0), [.v, .v, .v, .v, .v, .v, .v, .v, .v, .v, .own 5 1, .own 5 1, .v, .v, .v, .own 45 2, .v, .clo 18 [1], .v]), ((.fld 0 17 0), [.own 39 4])], outs := [((.arg 0), [.v, .v, .v, .v, .v, .v, .v, .v, .v, .v, .own 5 1, .own 5 1, .v, .v, .v, .own 45 2, .v, .clo 18 [1], .v]), ((.fld 0 17 0), [.own 39 4])] }),
  (30, { ps := [.obj 0], objs := [((.arg 0), [.v, .v, .v, .v, .v, .v, .v, .v, .v, .v, .own 5 1, .own 5 1, .v, .v, .v, .v, .v, .clo 18 [1], .v]), ((.fld 0 17 0), [.own 39 4])], outs := [((.arg 0), [.v, .v, .v, .v, .v, .v, .v, .v, .v, .v, .own 5 1, .own 5 1, .v, .v, .v, .v, .v, .clo 18 [1], .v]), ((.fld 0 17 0), [.own 39 4])] }),
  (46, { ps := [.obj 0, .v, .v], objs := [((.arg 0), [.v, .v, .v, .v, .v, .v, .v, .v, .v, .v, .own 5 1, .own 5 1, .v, .v, .v, .own 45 2, .v, .clo 18 [1], .v]), ((.fld 0 17 0), [.own 39 4])], outs := [((.arg 0), [.v, .v, .v, .v, .v, .v, .v, .v, .v, .v, .own 5 1, .own 5 1, .v, .v, .v, .own 45 2, .v, .clo 18 [1], .v]), ((.fld 0 17 0), [.own 39 4])] }),
  (47, { ps := [.obj 0, .v, .v], objs := [((.arg 0), [.v, .v, .v, .v, .v, .v, .v, .v, .v, .v, .own 5 1, .own 5 1, .v, .v, .v, .own 45 2, .v, .clo 18 [1], .v]), ((.fld 0 17 0), [.own 39 4])], outs := [((.arg 0), [.v, .v, .v, .v, .v, .v, .v, .v, .v, .v, .own 5 1, .own 5 1, .v, .v, .v, .own 45 2, .v, .clo 18 [1], .v]), ((.fld 0 17 0), [.own 39 4])] }),
  (48, { ps := [.obj 0, .v, .v], objs := [((.arg 0), [.v, .v, .v, .v, .v, .v, .v, .v, .v, .v, .own 5 1, .own 5 1, .v, .v, .v, .own 45 2, .v, .clo 18 [1], .v]), ((.fld 0 17 0), [.own 39 4])], outs := [((.arg 0), [.v, .v, .v, .v, .v, .v, .v, .v, .v, .v, .own 5 1, .own 5 1, .v, .v, .v, .own 45 2, .v, .clo 18 [1], .v]), ((.fld 0 17 0), [.own 39 4])] }),
  (49, { ps := [.obj 0, .v, .v], objs := [((.arg 0), [.v, .v, .v, .v, .v, .v, .v, .v, .v, .v, .own 5 1, .own 5 1, .v, .v, .v, .own 45 2, .v, .clo 18 [1], .v]), ((.fld 0 17 0), [.own 39 4])], outs := [((.arg 0), [.v, .v, .v, .v, .v, .v, .v, .v, .v, .v, .own 5 1, .own 5 1, .v, .v, .v, .own 45 2, .v, .clo 18 [1], .v]), ((.fld 0 17 0), [.own 39 4])] }),
  (50, { ps := [.obj 0, .v], objs := [((.arg 0), [.v, .v, .v, .v, .v, .v, .v, .v, .v, .v, .own 5 1, .own 5 1, .v, .v, .v, .v, .v, .clo 18 [1], .v]), ((.fld 0 17 0), [.own 39 4])], outs := [((.arg 0), [.v, .v, .v, .v, .v, .v, .v, .v, .v, .v, .own 5 1, .own 5 1, .v, .v, .v, .v, .v, .clo 18 [1], .v]), ((.fld 0 17 0), [.own 39 4])] }),
  (71, { ps := [.obj 0, .v], objs := [((.arg 0), [.v, .v, .v, .v, .v, .v, .v, .v, .v, .v, .own 5 1, .own 5 1, .v, .v, .v, .own 45 2, .v, .clo 18 [1], .v]), ((.fld 0 17 0), [.own 39 4])], outs := [((.arg 0), [.v, .v, .v, .v, .v, .v, .v, .v, .v, .v, .own 5 1, .own 5 1, .v, .v, .v, .own 45 2, .v, .clo 18 [1], .v]), ((.fld 0 17 0), [.own 39 4])] }),
  (72, { ps := [.obj 0, .v, .v, .v], objs := [((.arg 0), [.v, .v, .v, .v, .v, .v, .v, .v, .v, .v, .own 5 1, .own 5 1, .v, .v, .v, .own 45 2, .v, .clo 18 [1], .v]), ((.fld 0 17 0), [.own 39 4])], outs := [((.arg 0), [.v, .v, .v, .v, .v, .v, .v, .v, .v, .v, .own 5 1, .own 5 1, .v, .v, .v, .own 45 2, .v, .clo 18 [1], .v]), ((.fld 0 17 0), [.own 39 4])] }),
  (73, { ps := [.obj 0], objs := [((.arg 0), [.v, .v, .v, .v, .v, .v, .v, .v, .v, .v, .own 5 1, .own 5 1, .v, .v, .v, .own 45 2, .v, .clo 18 [1], .v]), ((.fld 0 17 0), [.own 39 4])], outs := [((.arg 0), [.v, .v, .v, .v, .v, .v, .v, .v, .v, .v, .own 5 1, .own 5 1, .v, .v, .v, .own 45 2, .v, .clo 18 [1], .v]), ((.fld 0 17 0), [.own 39 4])] })]
def truncTab : List (Nat × List Nat) := [(4, [88])]
def C : Cfg := mkCfg tyTab planTab stopTab ownTab truncTab (fun g => bif Nat.beq g 0 then some (10, .ag [.u8 20, .u8 0, .b false, .u8 0, .u8 0, .u8 0, .u8 0, .b false, .u8 0, .s []]) else none) sigTab
end R4

open Go Go.Proofs Sx
namespace R4
theorem tys : tyTab.all (fun p => tyB Tryd.prog p.1 p.2) = true := by kernel_rfl
theorem fns : fnsB C 0 Tryd.prog.funcs.toList = true := by kernel_rfl
theorem mixed : Tryd.prog.follows .mixedOrders = true := by kernel_rfl

theorem idxs : idxB 100 0 Tryd.prog.funcs.toList = true := by kernel_rfl
theorem run100 (s : ByteArray) (c : Int) (w : World) : (callFunc 100 #[.string s, .int .u8 c]).run Tryd.prog w = .ok (.value (.int .i64 (Lib.indexByte s.data.toList c.toNat.toUInt8))) w :=
  run_idx (fn := Tryd.f100) (by kernel_rfl) (by kernel_rfl) (by kernel_rfl) (by kernel_rfl) (by kernel_rfl) s c w
theorem fit : Fit C Tryd.prog := Fit.of (tab := tyTab) rfl tys fns mixed (ext_of idxs run100)
end R4

namespace R4
open Go Go.Proofs Sx
theorem globC : ∀ g' k' e', C.glob g' = some (k', e') → g' = 0 ∧ k' = 10 ∧ e' = (.ag [.u8 20, .u8 0, .b false, .u8 0, .u8 0, .u8 0, .u8 0, .b false, .u8 0, .s []] : AV) := by
  intro g k e h
  have h : (bif Nat.beq g 0 then some (10, (.ag [.u8 20, .u8 0, .b false, .u8 0, .u8 0, .u8 0, .u8 0, .b false, .u8 0, .s []] : AV)) else none) = some (k, e) := h
  cases hg : Nat.beq g 0 with
  | false => rw [hg] at h; cases h
  | true => rw [hg] at h; cases h; exact ⟨Nat.eq_of_beq_eq_true hg, rfl, rfl⟩
theorem globE : ∀ j, j < 10 → (AV.ag [.u8 20, .u8 0, .b false, .u8 0, .u8 0, .u8 0, .u8 0, .b false, .u8 0, .s []]).cell j = avL (([.lit (.int .u8 20), .lit (.int .u8 0), .lit (.bool false), .lit (.int .u8 0), .lit (.int .u8 0), .lit (.int .u8 0), .lit (.int .u8 0), .lit (.bool false), .lit (.int .u8 0), .lit (.string [])] : List (DataW Unit)).getD j .nil) := by
  intro j hj
  match j, hj with
  | 0, _ | 1, _ | 2, _ | 3, _ | 4, _ | 5, _ | 6, _ | 7, _ | 8, _ | 9, _ => rfl
end R4
