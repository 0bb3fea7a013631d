/-
  Tables of this seat's types and functions for the evaluator, and that the program is fit for it.
-/
import Derived.Test.YtgjfbalafdifgaaDoorSxC
import Derived.Test.YtgjfbalafdifgaaDoorWayA
import Derived.Shelf.Vars
set_option linter.unusedVariables false
set_option linter.unusedSimpArgs false
set_option linter.unusedSectionVars false
set_option linter.unnecessarySimpa false
namespace R3
open Go Sx
def tyTab : List (Nat × Ty) := [
  (3, { size := 1, bytes := 8, kd := .int .i64, elem := 0, zero := [.int 0], fields := [], eqk := none }),
  (4, { size := 1, bytes := 1, kd := .bool, elem := 0, zero := [.b false], fields := [], eqk := none }),
  (5, { size := 1, bytes := 1, kd := .int .u8, elem := 0, zero := [.u8 0], fields := [], eqk := none }),
  (9, { size := 1, bytes := 16, kd := .str, elem := 0, zero := [.s []], fields := [], eqk := none }),
  (23, { size := 1, bytes := 24, kd := .slice, elem := 36, zero := [.nils], fields := [], eqk := none }),
  (24, { size := 1, bytes := 8, kd := .int .i64, elem := 0, zero := [.int 0], fields := [], eqk := none }),
  (31, { size := 1, bytes := 1, kd := .int .u8, elem := 0, zero := [.u8 0], fields := [], eqk := none }),
  (32, { size := 1, bytes := 24, kd := .slice, elem := 9, zero := [.nils], fields := [], eqk := none }),
  (34, { size := 2, bytes := 32, kd := .struct, elem := 0, zero := [.b false, .nils], fields := [(0, 4), (1, 32)], eqk := none }),
  (36, { size := 5, bytes := 64, kd := .struct, elem := 0, zero := [.u8 0, .int 0, .s [], .b false, .nils], fields := [(0, 31), (1, 3), (2, 9), (3, 34)], eqk := none }),
  (47, { size := 1, bytes := 24, kd := .slice, elem := 61, zero := [.nils], fields := [], eqk := none }),
  (48, { size := 1, bytes := 24, kd := .slice, elem := 3, zero := [.nils], fields := [], eqk := none }),
  (50, { size := 2, bytes := 48, kd := .struct, elem := 0, zero := [.nils, .nils], fields := [(0, 47), (1, 48)], eqk := none }),
  (58, { size := 1, bytes := 1, kd := .int .u8, elem := 0, zero := [.u8 0], fields := [], eqk := none }),
  (59, { size := 1, bytes := 1, kd := .int .u8, elem := 0, zero := [.u8 0], fields := [], eqk := none }),
  (61, { size := 9, bytes := 120, kd := .struct, elem := 0, zero := [.u8 0, .int 0, .s [], .b false, .nils, .nils, .nils, .b false, .u8 0], fields := [(0, 58), (1, 3), (2, 9), (3, 34), (5, 48), (6, 48), (7, 4), (8, 59)], eqk := none }),
  (146, { size := 4, bytes := 80, kd := .struct, elem := 0, zero := [.nils, .int 0, .nils, .nils], fields := [(0, 23), (1, 3), (2, 50)], eqk := none }),
  (147, { size := 1, bytes := 8, kd := .ptr, elem := 0, zero := [.nilp], fields := [], eqk := none }),
  (151, { size := 2, bytes := 16, kd := .struct, elem := 0, zero := [.int 0, .int 0], fields := [(0, 3), (1, 24)], eqk := some [.i, .i] })
]
def planTab : List ((Nat × Nat) × (Plan × List Nat)) := [((8, 5), (.seq [(0, true), (2, true), (1, false), (3, false), (4, true), (5, true), (6, true), (7, true), (8, true), (9, true), (10, true), (11, true), (12, true), (13, false), (14, true), (15, true), (16, true), (18, true), (17, false), (19, false), (20, true), (21, true), (22, true)] .done, [])),
  ((25, 6), (.seq [(0, true), (1, true), (2, true), (3, true), (4, true), (5, true), (6, true), (7, true), (8, false), (9, true)] .done, [])),
  ((28, 16), (.seq [(0, true), (1, true), (2, true), (3, true), (4, true), (5, true), (6, false), (7, false), (8, true), (9, false)] .done, [1000009])),
  ((31, 6), (.seq [(0, true), (1, true), (2, true), (3, true), (4, true), (5, true), (6, true), (7, true), (8, true), (9, true), (10, true)] .done, [])),
  ((99, 4), (.seq [(0, true), (1, true), (2, true), (4, true), (5, true), (3, false), (6, false), (7, true)] .done, [])),
  ((88, 2), (.seq [(0, true), (1, true), (2, true), (3, true), (4, true), (5, true), (6, true), (7, true), (8, true), (9, true)] .done, [])),
  ((88, 3), (.seq [(0, true), (1, true), (2, true), (3, true), (4, true), (5, true), (6, true), (7, true), (8, true), (9, true), (10, false), (11, false)] .done, [1000011])),
  ((106, 2), (.seq [(0, true), (1, true), (2, true), (3, true), (4, true), (5, true), (6, true), (7, true), (8, true), (9, true), (10, true), (11, true), (12, true), (13, false), (14, false), (15, true), (16, true), (17, true), (18, false)] .done, [1000018])),
  ((106, 15), (.seq [(0, true), (1, true), (2, true), (4, true), (3, false), (5, true)] .done, [])),
  ((131, 5), (.seq [(0, true), (1, true), (2, true), (3, true), (4, true), (5, true), (6, true), (7, true), (8, true), (9, true), (10, true), (11, true), (12, true), (13, true), (14, true), (15, true), (16, true), (17, true), (18, true), (19, true), (20, true), (21, true), (22, true), (23, true)] .done, [])),
  ((131, 7), (.seq [(0, true), (1, true), (2, true), (3, true), (4, true), (5, true), (6, true), (7, true), (8, true), (9, true), (10, true), (11, true), (12, false), (13, true)] .done, [])),
  ((131, 12), (.seq [(0, true), (1, true), (2, true), (3, true), (4, true), (5, true), (6, true), (7, true), (8, true), (9, true), (10, true), (11, true), (12, true), (13, true), (14, true), (15, false), (16, true), (17, true), (18, false)] .done, [1000015, 1000018])),
  ((131, 13), (.seq [(0, true), (1, true), (2, true), (3, true), (4, true), (5, true), (6, true), (7, true), (8, true), (9, true), (10, true)] .done, [])),
  ((131, 15), (.seq [(0, true), (1, true), (2, true), (3, true), (4, true), (5, true), (6, true), (7, true), (8, true), (9, true), (10, true), (11, true), (12, true)] .done, [])),
  ((131, 16), (.seq [(0, true), (1, true), (2, true), (3, true), (4, true), (5, true), (6, true), (7, true), (8, true), (9, true), (10, true), (11, true), (12, false), (13, true)] .done, []))]
def stopTab : List (Nat × List (Nat × List (Nat × Option (Nat × Nat)) × List (Nat × List (Nat × Nat × Nat)))) := [(4, [(7, [(0, none), (3, none), (6, none)], []), (8, [(0, none), (3, none), (6, none)], []), (13, [(0, none), (3, none), (6, none), (7, none), (8, none)], [])]),
  (5, [(4, [(0, none), (1, none), (2, none), (7, none)], []), (10, [(0, none), (1, none), (2, none), (8, none), (9, none)], []), (15, [(0, none), (2, none), (8, none), (10, none)], [])]),
  (24, [(3, [(0, none), (4, some (36, 5)), (5, none)], []), (5, [(0, none), (4, some (36, 5)), (5, none), (6, none)], []), (11, [(0, none), (4, some (36, 5)), (5, none), (6, none)], [])]),
  (25, [(4, [(0, none), (1, none), (5, none)], [])]),
  (28, [(9, [(0, none), (2, none), (4, none)], [(2, []), (4, [(1, 9, 1)])]), (11, [(0, none), (2, none), (4, none), (5, none), (6, none)], [(2, []), (4, [(1, 9, 1)])]), (12, [(0, none), (2, none), (4, none), (5, none), (6, none)], [(2, []), (4, [(1, 9, 1)])])]),
  (29, [(2, [(0, none), (6, none), (7, none)], [])]),
  (30, [(4, [(0, none), (3, none)], [])]),
  (31, [(4, [(2, none), (3, none), (5, none)], [(2, []), (3, [])])]),
  (33, [(3, [(1, none), (3, none), (4, none)], [(1, [])]), (7, [(1, none), (3, none), (4, none)], [(1, [])])]),
  (53, [(2, [(0, none), (1, none), (5, none)], [(71, [(0, 36, 5)])]), (6, [(0, none), (1, none), (5, none), (6, none)], [(71, [(0, 36, 5)])])]),
  (56, [(11, [(2, none)], [(2, [])]), (12, [(0, none), (2, none)], [(2, [])]), (19, [(0, none), (2, none), (4, none)], [(2, [])])]),
  (80, [(18, [(0, none), (2, none), (4, none)], [(2, [])])]),
  (81, [(1, [(0, none)], []), (3, [(0, none)], [])]),
  (120, [(1, [(0, none), (1, none)], [])]),
  (121, [(1, [(0, none), (1, none)], [])]),
  (88, [(2, [(0, none), (1, none), (6, some (3, 1))], [(61, [(2, 61, 9)])])]),
  (106, [(11, [(0, none), (2, none), (4, none), (8, none)], [(4, []), (71, [(2, 61, 9)])]), (14, [(0, none), (2, none), (4, none), (8, none), (9, none)], [(4, []), (71, [(2, 61, 9)])]), (19, [(0, none), (8, none), (9, none)], [(71, [(2, 61, 9)])])]),
  (131, [(13, [(0, none), (6, none)], [(6, []), (152, [(2, 61, 9)])])])]
def ownTab : List (Nat × List (Option (Nat × Nat))) := []
def sigTab : List (Nat × Sig) := [(53, { ps := [.v, .clo 54 [0]], objs := [((.cap 1 0), [.own 36 5])], outs := [((.cap 1 0), [.own 36 5])] }),
  (54, { ps := [.v, .obj 0], objs := [((.arg 1), [.own 36 5])], outs := [((.arg 1), [.own 36 5])] }),
  (88, { ps := [.obj 0, .v], objs := [((.arg 0), [.v, .v, .own 61 9, .v])], outs := [((.arg 0), [.v, .v, .own 61 9, .v])] }),
  (106, { ps := [.obj 0, .v, .v], objs := [((.arg 0), [.v, .v, .own 61 9, .v])], outs := [((.arg 0), [.v, .v, .own 61 9, .v])] }),
  (131, { ps := [.obj 0, .v, .v, .v], objs := [((.arg 0), [.v, .v, .own 61 9, .v])], outs := [((.arg 0), [.v, .v, .own 61 9, .v])] })]
def truncTab : List (Nat × List Nat) := []
def C (mx : Int) : Cfg := mkCfg tyTab planTab stopTab ownTab truncTab (fun g => bif Nat.beq g 1 then some (1, .int mx) else none) sigTab (fun g => bif Nat.beq g 27 then some G27 else bif Nat.beq g 79 then some G79 else bif Nat.beq g 61 then some G61 else none) (fun t => Nat.beq t 151)
end R3

open Go Go.Proofs Sx
namespace R3
theorem tys : tyTab.all (fun p => tyB Tryd.prog p.1 p.2) = true := by kernel_rfl
theorem fns (mx : Int) : fnsB (C mx) 0 Tryd.prog.funcs.toList = true := by kernel_rfl
theorem mixed : Tryd.prog.follows .mixedOrders = true := by kernel_rfl

theorem idxs : idxB 145 0 Tryd.prog.funcs.toList = true := by kernel_rfl
theorem gvs (mx : Int) : ∀ (g : Nat) (G : List AV → Option AV), (C mx).gv g = some G → ((C mx).own g).all Option.isNone = true → ∀ (args : List AV) (r : AV), G args = some r → ∀ (w : World) (F : Nat → Prop) (vs : Array Value), GlobOk (C mx) w F → vs.size = args.length →
      (∀ (j : Nat) (a : AV) (v : Value), args[j]? = some a → vs[j]? = some v → Rel w F a v) → CallRuns Tryd.prog g vs w (PostOk (C mx) g w F r) := by
  intro g G h ho args r hr w F vs hG hl hv
  have h : (bif Nat.beq g 27 then some G27 else bif Nat.beq g 79 then some G79 else bif Nat.beq g 61 then some G61 else none) = some G := h
  cases h1 : Nat.beq g 27 with
  | true =>
    rw [h1] at h; cases h
    obtain rfl := Nat.eq_of_beq_eq_true h1
    exact gv27_ok ho args r hr w F vs hl hv
  | false =>
    rw [h1] at h
    cases h2 : Nat.beq g 79 with
    | true =>
      rw [h2] at h; cases h
      obtain rfl := Nat.eq_of_beq_eq_true h2
      exact gv79_ok (mx := mx) rfl ho args r hr w F vs hG hl hv
    | false =>
      rw [h2] at h
      cases h3 : Nat.beq g 61 with
      | true =>
        rw [h3] at h; cases h
        obtain rfl := Nat.eq_of_beq_eq_true h3
        exact gv61_ok ho args r hr w F vs hG hl hv
      | false => rw [h3] at h; cases h
theorem fit (mx : Int) : Fit (C mx) Tryd.prog := Fit.of (tab := tyTab) rfl tys (fns mx) mixed (ext_of idxs run145) (gvs mx)
end R3

namespace R3
open Go Go.Proofs Sx
theorem maxLen {W : World} (h : W.ShapedOpen Tryd.prog) : ∃ m, W.cell? ⟨1, 0, none⟩ = some (.int .i64 m) :=
  cell_of_shapedOpen_int (zero := #[.int .i64 0]) (t := 3) h (of_decide_eq_true (by kernel_rfl)) (by kernel_rfl) rfl (by kernel_rfl) (by kernel_rfl) Tryd.underlying3
theorem globOk {W : World} {m : Int} (h : W.cell? ⟨1, 0, none⟩ = some (.int .i64 m)) : GlobOk (C m) W (fun _ => True) := by
  intro g k e hg
  have hg : (bif Nat.beq g 1 then some (1, AV.int m) else none) = some (k, e) := hg
  cases h1 : Nat.beq g 1 with
  | false => rw [h1] at hg; cases hg
  | true =>
    rw [h1] at hg; cases hg
    obtain rfl := Nat.eq_of_beq_eq_true h1
    refine ⟨1, 0, rfl, trivial, cell_lt h, fun j hj => ?_⟩
    obtain rfl : j = 0 := by omega
    exact ⟨.int .i64 m, h, rfl, Rel.int m⟩
mutual
/-- The cells of a datum that is plain. -/
def flatV : DataW Unit → List Value
  | .lit (.int k n) => [.int k n]
  | .agg ps => flatVs ps
  | _ => []
def flatVs : List (DataW Unit) → List Value
  | [] => []
  | d :: r => flatV d ++ flatVs r
end
end R3
