/-
  PercentSettles, for arguments of bulk at most 1048576: the call returns true and its arguments read as before.
-/
import Derived.Test.YtbnblklbfighgaaTabA
import Derived.Test.YtbnblklbfighgaaSxD
import Derived.Test.YtbnblklbfighgaaLawA
import Derived.Test.YtbnblklbfighgaaRows
import Derived.ProofKit
import Derived.JoinedCond
import Derived.Test.YtbnblklbfighgaaBulk
set_option linter.unusedVariables false
set_option linter.unusedSimpArgs false
set_option linter.unusedSectionVars false
set_option linter.unnecessarySimpa false
namespace Go.Proofs.Ytbnblklbfighgaa.percentSettles
open Go.ChangeShapes Go.WideShapes Go.ChangeAt Go.RowKit Sx

theorem own : ownKnob Try.prog.godebug = none := by kernel_rfl

theorem contract (H : Type) (enc : TypeId × Value → H) (W : World) (base : Nat) (args : Array Value) (ds gs : List (DataW H)) (before : List MemPlace)
    (hval : ∀ (j : Nat) t v, Try.f6.params[j]? = some t → args[j]? = some v → Value.okWide Try.prog W .any base t v)
    (hW : DataW.Whole enc Try.prog Try.f6.params.toList Rows.percentSettlesSpec.vars false W args.toList ds gs before) (hk : Rows.uptoSmall H (ds ++ gs) = true) :
    Calls Try.prog 6 args W fun e W' => ∃ v, e = .returned v ∧ Rows.percentSettlesSpec.post enc Try.prog Try.f6 false true false false W args v W' := by
  refine law_contract (C := R1.C) (c := R1.body6) (shs := [(false, [.sl false [.u8]]), (false, [.ik .u16])]) R1.fit (by kernel_rfl) (by kernel_rfl) (by kernel_rfl) (tb := 4) (by kernel_rfl) (by kernel_rfl) (by kernel_rfl) (by kernel_rfl) (by kernel_rfl) (by kernel_rfl) rfl
    (fun H ds h => ?_) (by kernel_rfl) hval hW (fun g k e h => by cases h) (fun xs h hb => ?_)
  · have h : ds.length = 2 := h.trans (by kernel_rfl)
    match ds, h with
    | [d0, d1], _ => rfl
  · have hk : Rows.uptoBulkAll (ds ++ gs) ≤ 1048576 := of_decide_eq_true hk
    rw [bulkAll_eq] at hk
    obtain ⟨a, b, rfl, ha, hb'⟩ := args2 h
    obtain ⟨l, rfl⟩ := is_bytes ha
    obtain ⟨n, rfl, hn⟩ := is_u16 hb'
    simp only [wts, wt_bytes] at hb
    exact R1.s6 l n hn (by omega)

set_option maxRecDepth 100000 in
theorem lifted (os : Os) (started : os.Started) (H : Type) (enc : TypeId × Value → H) (F : Stop.Interp) :
    ReturnsInHanded {} Try.checked os 6 .any ((Rows.OpenSpec.upto Rows.percentSettlesSpec).pre6 enc Try.prog Try.f6 Rows.percentSettlesUptoRow.domain false) (((Rows.OpenSpec.upto Rows.percentSettlesSpec).at F).post enc Try.prog Try.f6 false true false false) := by
  refine returnsInHanded_of_cond (C := Try.checked) (s := Rows.OpenSpec.upto Rows.percentSettlesSpec) (k := Rows.uptoSmall) rfl own started (by kernel_rfl) Try.func6
    (OpenSpec.witness (enc := enc) (C := Try.checked) (s := Rows.OpenSpec.upto Rows.percentSettlesSpec) (k := Rows.uptoSmall) rfl false ⟨#[], #[.slice none 0 0, .int .u16 0], []⟩ 8 (by kernel_rfl) (by kernel_rfl) (by kernel_rfl)
      (x := ([.nil, .lit (.int .u16 0)], [], [])) (by kernel_rfl) rfl (by kernel_rfl)) ?_
  intro W base args ds gs before hval hW _ hk _
  exact contract H enc W base args ds gs before hval hW hk

theorem over : Rows.percentSettlesUptoRow.holds Try.pinned (Rows.OpenSpec.upto Rows.percentSettlesSpec) :=
  OpenClaim.holds_of_cond 6 Try.f6 rfl rfl rfl rfl rfl rfl rfl ⟨rfl, rfl, rfl, rfl, rfl⟩ rfl rfl rfl rfl rfl (by kernel_rfl) Try.func6 (by kernel_rfl)
    (of_decide_eq_true (by kernel_rfl)) (by unfold Func.isWrapper; first | (rw [if_pos (by decide +kernel)]; kernel_rfl) | (rw [if_neg (by decide +kernel)]; exact ⟨rfl, rfl⟩))
    (fun os started H enc _ F => lifted os started H enc F)

theorem proved : Rows.PercentSettlesUptoSaid := over
end Go.Proofs.Ytbnblklbfighgaa.percentSettles
