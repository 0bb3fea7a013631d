/-
  CtxNames: the call returns true and its arguments read as before.
-/
import Derived.Test.YtbnblklbfighgaaTabA
import Derived.Test.YtbnblklbfighgaaSxD
import Derived.Test.YtbnblklbfighgaaLawB
import Derived.Test.YtbnblklbfighgaaRows
import Derived.ProofKit
import Derived.SizedLaws
set_option linter.unusedVariables false
set_option linter.unusedSimpArgs false
set_option linter.unusedSectionVars false
set_option linter.unnecessarySimpa false
namespace Go.Proofs.Ytbnblklbfighgaa.ctxNames
open Go.ChangeShapes Go.WideShapes Go.ChangeAt Go.RowKit Sx

theorem own : ownKnob Try.prog.godebug = none := by kernel_rfl

theorem contract (H : Type) (enc : TypeId × Value → H) (W : World) (base : Nat) (args : Array Value) (ds gs : List (DataW H)) (before : List MemPlace)
    (hval : ∀ (j : Nat) t v, Try.f11.params[j]? = some t → args[j]? = some v → Value.okWide Try.prog W .any base t v)
    (hW : DataW.Whole enc Try.prog Try.f11.params.toList Rows.ctxNamesSpec.vars false W args.toList ds gs before) :
    Calls Try.prog 11 args W fun e W' => ∃ v, e = .returned v ∧ Rows.ctxNamesSpec.post enc Try.prog Try.f11 false true false false W args v W' := by
  refine law_contract (C := R1.C) (c := R1.body11) (shs := [(false, [.s]), (false, [.u8])]) R1.fit (by kernel_rfl) (by kernel_rfl) (by kernel_rfl) (tb := 4) (by kernel_rfl) (by kernel_rfl) (by kernel_rfl) (by kernel_rfl) (by kernel_rfl) (by kernel_rfl) rfl
    (fun H ds h => ?_) (by kernel_rfl) hval hW (fun g k e h => by cases h) (fun xs h hb => ?_)
  · have h : ds.length = 2 := h.trans (by kernel_rfl)
    match ds, h with
    | [d0, d1], _ => rfl
  · obtain ⟨a, b, rfl, ha, hb'⟩ := args2 h
    obtain ⟨l, rfl, hl⟩ := is_str ha
    obtain ⟨x, rfl⟩ := is_byte hb'
    exact R1.s11 l x

set_option maxRecDepth 100000 in
theorem lifted (os : Os) (started : os.Started) (H : Type) (enc : TypeId × Value → H) :
    ReturnsInHanded {} Try.checked os 11 .any (Rows.ctxNamesSpec.pre6 enc Try.prog Try.f11 Rows.ctxNamesRow.domain false) (Rows.ctxNamesSpec.post enc Try.prog Try.f11 false true false false) := by
  refine returnsInHanded_of_change_sized (C := Try.checked) own started (by kernel_rfl) Try.func11
    (ChangeSpec.witness6 (enc := enc) (C := Try.checked) false ⟨#[], #[.string ByteArray.empty, .int .u8 0], []⟩ 8 (by kernel_rfl) (by kernel_rfl) (by kernel_rfl) (by kernel_rfl)) ?_
  intro W base args ds gs before hval hW _ _ _
  exact contract H enc W base args ds gs before hval hW

theorem over : Rows.ctxNamesRow.holds Try.pinned (OpenSpec.ofChange Rows.ctxNamesSpec) :=
  OpenClaim.holds_of_wide 11 Try.f11 rfl rfl rfl rfl rfl rfl rfl ⟨rfl, rfl, rfl, rfl, rfl⟩ rfl rfl rfl rfl rfl (by kernel_rfl) Try.func11 (by kernel_rfl)
    (of_decide_eq_true (by kernel_rfl)) (by unfold Func.isWrapper; first | (rw [if_pos (by decide +kernel)]; kernel_rfl) | (rw [if_neg (by decide +kernel)]; exact ⟨rfl, rfl⟩))
    (fun os started H enc _ => lifted os started H enc)

theorem proved : Rows.CtxNamesSaid := over
end Go.Proofs.Ytbnblklbfighgaa.ctxNames
