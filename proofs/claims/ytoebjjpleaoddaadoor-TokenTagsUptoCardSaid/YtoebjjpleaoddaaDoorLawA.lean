/-
  What functions of this seat compute, and laws on plain data.
-/
import Derived.Test.YtoebjjpleaoddaaDoorPureA
import Derived.Test.YtoebjjpleaoddaaDoorSxC
import Derived.Test.YtoebjjpleaoddaaDoorTxtA
import Derived.Test.YtoebjjpleaoddaaDoorTxtB
set_option linter.unusedVariables false
set_option linter.unusedSimpArgs false
set_option linter.unusedSectionVars false
set_option linter.unnecessarySimpa false
namespace R4
open Go Go.Proofs Sx

section
variable (st el : UInt8) (en : Bool) (at' qu pa su : UInt8) (es : Bool) (da : UInt8) (nm : List UInt8)

theorem s51 : semCall C Tryd.prog 51 [cx st el en at' qu pa su es da nm] = some (.b (coded st el at')) := by
  apply c51
  simp only [X51, ueq_eq, une_eq, ult_eq, ule_eq, ugt_eq, uge_eq, Option.bind_some, selW_and, selW_or, condM_b, w64_u8, ge_iff_le, coded]
  simp only [i_beq _ _ (show 8 < 256 by decide), i_ge _ _ (show 17 < 256 by decide), i_le _ _ (show 19 < 256 by decide)]

theorem l52 (n : Nat) : ∀ (r p : List UInt8), (p ++ r).length < 9223372036854775808 → low p = true → F52_2 (semRun C Tryd.prog 52 Tryd.f52) (p ++ r) (n : Int) (p.length : Int) = some (.b (small (p ++ r) n))
  | [], p, h, hp => by
    apply r52_2
    simp only [X52_2, nlt_len, nlt_self, List.append_nil, Option.bind_some, condM_b, Bool.false_eq_true, if_false, selW_and, small, hp, Bool.true_and, gt_iff_lt]
    congr 3
    rw [decide_eq_decide]; omega
  | c :: r, p, h, hp => by
    apply r52_2
    simp only [X52_2, lt_len, idxS_at, w64_inc p c r h, u8_geq, u8_leq, Option.bind_some, condM_b, if_true, selW_and]
    cases hc : (decide (65 ≤ c) && decide (c ≤ 90)) with
    | true =>
      have : low (p ++ c :: r) = false := by simp only [low, List.all_append, List.all_cons, hc, Bool.not_true, Bool.false_and, Bool.and_false]
      simp [small, this]
    | false =>
      simp only [Bool.false_eq_true, if_false]
      rw [snoc_app]
      exact l52 n r (p ++ [c]) (by rw [← snoc_app]; exact h) (by simp only [low, List.all_append, List.all_cons, List.all_nil, hc] at hp ⊢; simpa using hp)
theorem s52 (n : Nat) (h : nm.length < 9223372036854775808) : semCall C Tryd.prog 52 [.s nm, .int (n : Int)] = some (.b (small nm n)) := by
  apply c52
  exact l52 n nm [] h rfl
theorem l62 (n : Nat) : ∀ (r p : List UInt8), (p ++ r).length < 9223372036854775808 → low p = true → F62_2 (semRun C Tryd.prog 62 Tryd.f62) (p ++ r) (n : Int) ((p ++ r).length : Int) (p.length : Int) = some (.b (small (p ++ r) n))
  | [], p, h, hp => by
    apply r62_2
    simp only [X62_2, nlt_len, nlt_self, List.append_nil, Option.bind_some, condM_b, Bool.false_eq_true, if_false, selW_and, small, hp, Bool.true_and, ge_iff_le]
    congr 3
    rw [decide_eq_decide]; omega
  | c :: r, p, h, hp => by
    apply r62_2
    simp only [X62_2, lt_len, idxS_at, w64_inc p c r h, u8_geq, u8_leq, Option.bind_some, condM_b, if_true, selW_and]
    cases hc : (decide (65 ≤ c) && decide (c ≤ 90)) with
    | true =>
      have : low (p ++ c :: r) = false := by simp only [low, List.all_append, List.all_cons, hc, Bool.not_true, Bool.false_and, Bool.and_false]
      simp [small, this]
    | false =>
      simp only [Bool.false_eq_true, if_false]
      rw [snoc_app]
      exact l62 n r (p ++ [c]) (by rw [← snoc_app]; exact h) (by simp only [low, List.all_append, List.all_cons, List.all_nil, hc] at hp ⊢; simpa using hp)
theorem s62 (n : Nat) (h : nm.length < 9223372036854775808) : semCall C Tryd.prog 62 [.s nm, .int (n : Int)] = some (.b (small nm n)) := by
  apply c62
  simp only [X62]
  exact l62 n nm [] h rfl

theorem s80 : semCall C Tryd.prog 80 [.u8 el] = some (.s (nameOf el)) := by
  apply c80
  refine of_isStr ?_
  revert el
  exact all_u8 (by kernel_rfl)
theorem s35 : semCall C Tryd.prog 35 [.int el.toNat] = some (.s (nameOf el)) := by
  apply c35
  refine of_isStr ?_
  revert el
  exact all_u8 (by kernel_rfl)
theorem s95 (l p : List UInt8) : semCall C Tryd.prog 95 [.s l, .s p] = some (.b (pre p l)) := by
  apply c95
  simp only [X95, Option.bind_some, ge_iff_le]
  by_cases h : p.length ≤ l.length
  · rw [slS_hi h]
    simp [pre, h]
  · have : decide ((p.length : Int) ≤ (l.length : Int)) = false := by simp; omega
    rw [this, selW_tf]
    simp [pre, h]
theorem s79 (l p : List UInt8) : semCall C Tryd.prog 79 [.s l, .s p] = some (.b (pre p l)) := by
  apply c79
  simp only [X79, s95, Option.bind_some]

theorem s78 (b : Bool) : semCall C Tryd.prog 78 [cx st el en at' qu pa su es da nm, .b b] = some (.b (subOk su es b)) := by
  apply c78
  simp only [X78, ueq_eq, une_eq, ult_eq, ule_eq, ugt_eq, uge_eq, Option.bind_some, selW_and, selW_or, condM_b, subOk]
  cases b <;> by_cases h : su = 4 <;> simp [h]
end


section
variable (st el : UInt8) (en : Bool) (at' qu pa su : UInt8) (es : Bool) (da : UInt8) (nm : List UInt8)

theorem s31 (h : nm.length < 9223372036854775808) : semCall C Tryd.prog 31 [cx st el en at' qu pa su es da nm] = some (.b (form ⟨st, el, en, at', qu, pa, su, es, da, nm⟩)) := by
  apply c31
  have e1 : semCall C Tryd.prog 52 [.s nm, .int 32] = some (.b (small nm 32)) := s52 nm 32 h
  have e2 : semCall C Tryd.prog 52 [.s nm, .int 16] = some (.b (small nm 16)) := s52 nm 16 h
  simp only [X31, cxeq, Bool.and_true, ueq_eq, une_eq, ult_eq, ule_eq, ugt_eq, uge_eq, Option.bind_some, selW_and, selW_or, condM_b, s51, e1, e2, s35, lenS_s, s_eql, w64_u8, ge_iff_le, gt_iff_lt, unop_not, int_leq]
  simp only [i_beq _ _ (show 3 < 256 by decide), i_beq _ _ (show 5 < 256 by decide), i_beq _ _ (show 6 < 256 by decide), i_beq _ _ (show 8 < 256 by decide), i_beq _ _ (show 19 < 256 by decide), i_bne _ _ (show 3 < 256 by decide), i_bne _ _ (show 7 < 256 by decide), i_bne _ _ (show 8 < 256 by decide), i_bne _ _ (show 15 < 256 by decide),
    i_ge _ _ (show 17 < 256 by decide), i_le _ _ (show 19 < 256 by decide), i_ge _ _ (show 4 < 256 by decide), i_le _ _ (show 10 < 256 by decide), i_gt _ _ (show 20 < 256 by decide)]
  have e3 : (selW (.b (decide ((nm.length : Int) ≤ ((nameOf el).length : Int)))) true ((slS (.s (nameOf el)) none (some (.int (nm.length : Int)))).bind fun v90 => (binS .eql v90 (.s nm)).bind fun v91 => some v91) (.b false)) = some (.b (pre nm (nameOf el))) := by
    by_cases hl : nm.length ≤ (nameOf el).length
    · rw [slS_hi hl]; simp [pre, hl]
    · have : decide ((nm.length : Int) ≤ ((nameOf el).length : Int)) = false := by simp; omega
      rw [this, selW_tf]; simp [pre, hl]
  rw [e3]
  simp only [Option.bind_some, some_ite, form, isTag, isRaw]

section two
variable (st1 el1 : UInt8) (en1 : Bool) (at1 qu1 pa1 su1 : UInt8) (es1 : Bool) (da1 : UInt8) (nm1 : List UInt8)
theorem f63_14 : F63_14 (semRun C Tryd.prog 63 Tryd.f63) st el en at' qu pa su es da nm st1 el1 en1 at1 qu1 pa1 su1 es1 da1 nm1 =
    some (.b (cxeq ⟨st, el, en, at', qu, pa, su, es, da, nm⟩ ⟨st1, el1, en1, at1, qu1, pa1, su1, es1, da1, nm1⟩)) := by
  apply r63_14
  simp only [X63_14, cxeq, Bool.and_true, ueq_eq, une_eq, ult_eq, ule_eq, ugt_eq, uge_eq, Option.bind_some, selW_and, selW_or, condM_b, Option.bind_some]
theorem f63_12 : F63_12 (semRun C Tryd.prog 63 Tryd.f63) st el en at' qu pa su es da nm st1 el1 en1 at1 qu1 pa1 su1 es1 da1 nm1 =
    some (.b (cxeq ⟨st, el, en, at', qu, pa, su, es, da, nm⟩ ⟨st1, el1, en1, at1, qu1, pa1, su, es, da1, nm1⟩ && subOk su es (at' == 2))) := by
  apply r63_12
  simp only [X63_12, cxeq, Bool.and_true, ueq_eq, une_eq, ult_eq, ule_eq, ugt_eq, uge_eq, Option.bind_some, selW_and, selW_or, condM_b, s78, selW_and]
theorem f64_6 : F64_6 (semRun C Tryd.prog 64 Tryd.f64) st el en at' qu pa su es da nm st1 el1 en1 at1 qu1 pa1 su1 es1 da1 nm1 =
    some (.b (cxeq ⟨st, el, en, at', qu, pa, su, es, da, nm⟩ ⟨st1, el1, en1, at1, qu1, pa1, su1, es1, da1, nm1⟩ && (el != 0) && pre nm (nameOf el) && subOk su es (el == 3))) := by
  apply r64_6
  simp only [X64_6, cxeq, Bool.and_true, ueq_eq, une_eq, ult_eq, ule_eq, ugt_eq, uge_eq, Option.bind_some, selW_and, selW_or, condM_b, s78, s80, s79, selW_and]
theorem f64_4 : F64_4 (semRun C Tryd.prog 64 Tryd.f64) st el en at' qu pa su es da nm st1 el1 en1 at1 qu1 pa1 su1 es1 da1 nm1 =
    some (.b (cxeq ⟨st, el, en, at', qu, pa, su, es, da, nm⟩ ⟨st1, el1, en1, at1, qu1, pa1, if (el == 3 || el == 4) = true then su else su1, if (el == 3 || el == 4) = true then es else es1, da1, nm1⟩ && (el != 0) && pre nm (nameOf el) && subOk su es (el == 3))) := by
  apply r64_4
  simp only [X64_4, cxeq, Bool.and_true, ueq_eq, une_eq, ult_eq, ule_eq, ugt_eq, uge_eq, Option.bind_some, selW_and, selW_or, condM_b, f64_6, condM_b]
  split <;> rfl
theorem s64 : semCall C Tryd.prog 64 [cx st el en at' qu pa su es da nm] =
    some (.b (cxeq ⟨st, el, en, at', qu, pa, su, es, da, nm⟩ ⟨st, el, false, 0, 0, 0, if (el == 3 || el == 4) = true then su else 0, if (el == 3 || el == 4) = true then es else false, 0, if (st == 19) = true then nm else []⟩ && (el != 0) && pre nm (nameOf el) && subOk su es (el == 3))) := by
  apply c64
  simp only [X64, cxeq, Bool.and_true, ueq_eq, une_eq, ult_eq, ule_eq, ugt_eq, uge_eq, Option.bind_some, selW_and, selW_or, condM_b, f64_4, condM_b]
  split <;> rfl
theorem s63 (h : nm.length < 9223372036854775808) : semCall C Tryd.prog 63 [cx st el en at' qu pa su es da nm, cx st1 el1 en1 at1 qu1 pa1 su1 es1 da1 nm1] =
    some (.b (valOk ⟨st, el, en, at', qu, pa, su, es, da, nm⟩ ⟨st1, el1, en1, at1, qu1, pa1, su1, es1, da1, nm1⟩)) := by
  apply c63
  have e2 : semCall C Tryd.prog 62 [.s nm, .int 16] = some (.b (small nm 16)) := s62 nm 16 h
  simp only [X63, cxeq, Bool.and_true, ueq_eq, une_eq, ult_eq, ule_eq, ugt_eq, uge_eq, Option.bind_some, selW_and, selW_or, condM_b, f63_12, f63_14, e2, valOk, if_true]
  cases h1 : (qu != 0 && qu != 34 && qu != 39) <;> cases h2 : (at' == 1) <;> cases h3 : (pa == 1) <;> cases h4 : (at' == 2) <;> cases h5 : (at' == 3) <;> simp
end two

theorem f43_11 : F43_11 (semRun C Tryd.prog 43 Tryd.f43) st el en at' qu pa su es da nm st el en 0 0 0 0 false 0 [] =
    some (.b (cxeq ⟨st, el, en, at', qu, pa, su, es, da, nm⟩ ⟨st, el, en, 0, 0, 0, 0, false, 0, []⟩)) := by
  apply r43_11
  simp only [X43_11, cxeq, Bool.and_true, ueq_eq, une_eq, ult_eq, ule_eq, ugt_eq, uge_eq, Option.bind_some, selW_and, selW_or, condM_b, Option.bind_some]
theorem f43_14 (h : nm.length < 9223372036854775808) : F43_14 (semRun C Tryd.prog 43 Tryd.f43) st el en at' qu pa su es da nm st el en 0 0 0 0 false 0 [] =
    some (.b (cxeq ⟨st, el, en, at', qu, pa, su, es, da, nm⟩ ⟨st, el, en, 0, 0, 0, 0, false, 0, nm⟩ && small nm 32)) := by
  apply r43_14
  have e2 : semCall C Tryd.prog 62 [.s nm, .int 32] = some (.b (small nm 32)) := s62 nm 32 h
  simp only [X43_14, cxeq, Bool.and_true, ueq_eq, une_eq, ult_eq, ule_eq, ugt_eq, uge_eq, Option.bind_some, selW_and, selW_or, condM_b, e2, selW_and]
theorem f43_27 : F43_27 (semRun C Tryd.prog 43 Tryd.f43) st el en at' qu pa su es da nm =
    some (.b (cxeq ⟨st, el, en, at', qu, pa, su, es, da, nm⟩ ⟨st, el, false, 0, 0, 0, if (el == 3 || el == 4) = true then su else 0, if (el == 3 || el == 4) = true then es else false, 0, if (st == 19) = true then nm else []⟩ && (el != 0) && pre nm (nameOf el) && subOk su es (el == 3))) := by
  apply r43_27
  simp only [X43_27, cxeq, Bool.and_true, ueq_eq, une_eq, ult_eq, ule_eq, ugt_eq, uge_eq, Option.bind_some, selW_and, selW_or, condM_b, s64, Option.bind_some]
theorem f43_28 : F43_28 (semRun C Tryd.prog 43 Tryd.f43) st el en at' qu pa su es da nm st 0 false 0 0 0 0 false 0 [] =
    some (.b (cxeq ⟨st, el, en, at', qu, pa, su, es, da, nm⟩ ⟨st, 0, false, 0, 0, 0, 0, false, 0, []⟩)) := by
  apply r43_28
  simp only [X43_28, cxeq, Bool.and_true, ueq_eq, une_eq, ult_eq, ule_eq, ugt_eq, uge_eq, Option.bind_some, selW_and, selW_or, condM_b, Option.bind_some]
theorem f43_16 (h : nm.length < 9223372036854775808) : F43_16 (semRun C Tryd.prog 43 Tryd.f43) st st el en at' qu pa su es da nm st 0 false 0 0 0 0 false 0 []
    st el en 0 0 0 0 false 0 [] =
    some (.b (if (st == 7) = true then cxeq ⟨st, el, en, at', qu, pa, su, es, da, nm⟩ ⟨st, el, en, at', 0, 0, 0, false, 0, []⟩
      else if (st == 8) = true then valOk ⟨st, el, en, at', qu, pa, su, es, da, nm⟩ ⟨st, el, en, 0, 0, 0, 0, false, 0, []⟩
      else if (st == 15) = true then cxeq ⟨st, el, en, at', qu, pa, su, es, da, nm⟩ ⟨st, 0, false, 0, 0, 0, 0, false, da, []⟩ && decide (da ≤ 2)
      else if (st == 17 || st == 18 || st == 19) = true then (cxeq ⟨st, el, en, at', qu, pa, su, es, da, nm⟩ ⟨st, el, false, 0, 0, 0, if (el == 3 || el == 4) = true then su else 0, if (el == 3 || el == 4) = true then es else false, 0, if (st == 19) = true then nm else []⟩ && (el != 0) && pre nm (nameOf el) && subOk su es (el == 3))
      else cxeq ⟨st, el, en, at', qu, pa, su, es, da, nm⟩ ⟨st, 0, false, 0, 0, 0, 0, false, 0, []⟩)) := by
  apply r43_16
  simp only [X43_16, cxeq, Bool.and_true, ueq_eq, une_eq, ult_eq, ule_eq, ugt_eq, uge_eq, Option.bind_some, selW_and, selW_or, condM_b, s63 (h := h), f43_27, f43_28, if_true]
  cases h1 : (st == 7) <;> cases h2 : (st == 8) <;> cases h3 : (st == 15) <;> cases h4 : (st == 17) <;> cases h5 : (st == 18) <;> cases h6 : (st == 19) <;> rfl
theorem f43_12 (h : nm.length < 9223372036854775808) : F43_12 (semRun C Tryd.prog 43 Tryd.f43) st st el en at' qu pa su es da nm st 0 false 0 0 0 0 false 0 []
    st el en 0 0 0 0 false 0 [] =
    some (.b (if (st == 5 || st == 6) = true then cxeq ⟨st, el, en, at', qu, pa, su, es, da, nm⟩ ⟨st, el, en, 0, 0, 0, 0, false, 0, nm⟩ && small nm 32
      else if (st == 7) = true then cxeq ⟨st, el, en, at', qu, pa, su, es, da, nm⟩ ⟨st, el, en, at', 0, 0, 0, false, 0, []⟩
      else if (st == 8) = true then valOk ⟨st, el, en, at', qu, pa, su, es, da, nm⟩ ⟨st, el, en, 0, 0, 0, 0, false, 0, []⟩
      else if (st == 15) = true then cxeq ⟨st, el, en, at', qu, pa, su, es, da, nm⟩ ⟨st, 0, false, 0, 0, 0, 0, false, da, []⟩ && decide (da ≤ 2)
      else if (st == 17 || st == 18 || st == 19) = true then (cxeq ⟨st, el, en, at', qu, pa, su, es, da, nm⟩ ⟨st, el, false, 0, 0, 0, if (el == 3 || el == 4) = true then su else 0, if (el == 3 || el == 4) = true then es else false, 0, if (st == 19) = true then nm else []⟩ && (el != 0) && pre nm (nameOf el) && subOk su es (el == 3))
      else cxeq ⟨st, el, en, at', qu, pa, su, es, da, nm⟩ ⟨st, 0, false, 0, 0, 0, 0, false, 0, []⟩)) := by
  apply r43_12
  simp only [X43_12, cxeq, Bool.and_true, ueq_eq, une_eq, ult_eq, ule_eq, ugt_eq, uge_eq, Option.bind_some, selW_and, selW_or, condM_b, f43_14 (h := h), f43_16 (h := h), if_true]
  cases h1 : (st == 5) <;> cases h2 : (st == 6) <;> rfl
theorem s43a (h : nm.length < 9223372036854775808) : semCall C Tryd.prog 43 [cx st el en at' qu pa su es da nm] = some (.b (form1 ⟨st, el, en, at', qu, pa, su, es, da, nm⟩)) := by
  apply c43
  have e1 : semCall C Tryd.prog 62 [.s nm, .int 32] = some (.b (small nm 32)) := s62 nm 32 h
  simp only [X43, Bool.and_true, ueq_eq, une_eq, ult_eq, ule_eq, ugt_eq, uge_eq]
  simp only [Option.bind_some, selW_and, selW_or, condM_b, e1]
  rw [f43_12 (h := h)]
  simp only [f43_11]
  unfold form1
  dsimp only
  cases h0 : (decide (20 < st) || decide (4 < el) || decide (4 < at') || decide (5 < pa) || decide (6 < su) || en && el != 0) with
  | true => rfl
  | false => cases h2 : (st == 3) <;> cases h3 : (st == 4) <;> cases h4 : (st == 9) <;> cases h5 : (st == 10) <;> rfl
end


section
variable (st el : UInt8) (en : Bool) (at' qu pa su : UInt8) (es : Bool) (da : UInt8) (nm : List UInt8)

theorem s43 (h : nm.length < 9223372036854775808) : semCall C Tryd.prog 43 [cx st el en at' qu pa su es da nm] = some (.b (form ⟨st, el, en, at', qu, pa, su, es, da, nm⟩)) := by
  rw [s43a (h := h), form_eq]
section
variable (st1 el1 : UInt8) (en1 : Bool) (at1 qu1 pa1 su1 : UInt8) (es1 : Bool) (da1 : UInt8) (nm1 : List UInt8)
end
theorem s99 : semCall C Tryd.prog 99 [cx st el en at' qu pa su es da nm] = some (.b (coded st el at')) := by
  apply c99
  have e1 : F99_7 (semRun C Tryd.prog 99 Tryd.f99) st el en at' qu pa su es da nm = some (.b (el == 3 || el == 4)) := by
    apply r99_7
    simp only [X99_7, ueq_eq, selW_or, Option.bind_some]
  have e2 : F99_8 (semRun C Tryd.prog 99 Tryd.f99) = some (.b false) := by
    apply r99_8
    rfl
  simp only [X99, ueq_eq, Option.bind_some, selW_or, condM_b, e1, e2, coded]
  rcases st_cases st with h | h | h | h | h | h | h | h | h | h | h | h | h | h | h | h | h | h | h | h | h | h <;> first | (subst h; rfl) | (subst h; simp; done) | skip
  obtain ⟨-, -, -, -, -, -, -, -, h8, -, -, -, -, -, -, -, -, h17, h18, h19⟩ := nlt st h
  have h2 : ¬ st ≤ 19 := by
    have := UInt8.lt_iff_toNat_lt.1 h
    rw [UInt8.le_iff_toNat_le]; simp at this ⊢; omega
  simp [h8, h17, h18, h19, h2]
end


section
variable (st el : UInt8) (en : Bool) (at' qu pa su : UInt8) (es : Bool) (da : UInt8) (nm : List UInt8)
end

theorem s85 (nm : List UInt8) : semCall C Tryd.prog 85 [.s nm] = some (.u8 (elOf nm)) := by
  apply c85
  simp only [X85, condM_b, elOf]
  split
  · rfl
  · split
    · rfl
    · split
      · rfl
      · split <;> rfl
theorem s55 (nm : List UInt8) : semCall C Tryd.prog 55 [.s nm] = some (.int ((elOf nm).toNat : Int)) := by
  apply c55
  simp only [X55]
  apply r55_3
  show condM (.b ([116, 101, 120, 116, 97, 114, 101, 97] == nm)) (some (.int 1)) (F55_3 _ _ _ 2) = _
  rw [condM_b]
  cases h1 : ([116, 101, 120, 116, 97, 114, 101, 97] == nm) with
  | true => rw [← eq_of_beq h1]; rfl
  | false =>
  rw [if_neg (by simp)]
  apply r55_3
  show condM (.b ([116, 105, 116, 108, 101] == nm)) (some (.int 2)) (F55_3 _ _ _ 3) = _
  rw [condM_b]
  cases h2 : ([116, 105, 116, 108, 101] == nm) with
  | true => rw [← eq_of_beq h2]; rfl
  | false =>
  rw [if_neg (by simp)]
  apply r55_3
  show condM (.b ([115, 99, 114, 105, 112, 116] == nm)) (some (.int 3)) (F55_3 _ _ _ 4) = _
  rw [condM_b]
  cases h3 : ([115, 99, 114, 105, 112, 116] == nm) with
  | true => rw [← eq_of_beq h3]; rfl
  | false =>
  rw [if_neg (by simp)]
  apply r55_3
  show condM (.b ([115, 116, 121, 108, 101] == nm)) (some (.int 4)) (F55_3 _ _ _ 5) = _
  rw [condM_b]
  cases h4 : ([115, 116, 121, 108, 101] == nm) with
  | true => rw [← eq_of_beq h4]; rfl
  | false =>
  rw [if_neg (by simp)]
  apply r55_3
  simp only [elOf, beqf h1, beqf h2, beqf h3, beqf h4]
  rfl

theorem f96_13 : F96_13 (semRun C Tryd.prog 96 Tryd.f96) = some (.u8 1) := by apply r96_13; rfl
theorem f96_21 : F96_21 (semRun C Tryd.prog 96 Tryd.f96) = some (.u8 4) := by apply r96_21; rfl
theorem f96_22 (nm : List UInt8) : F96_22 (semRun C Tryd.prog 96 Tryd.f96) nm = some (.u8 (if decide (2 < nm.length) && pre [111, 110] nm then 2 else 0)) := by
  apply r96_22
  simp only [X96_22, s79, Option.bind_some, selW_and, condM_b]
  have : decide ((nm.length : Int) > 2) = decide (2 < nm.length) := by rw [decide_eq_decide]; omega
  rw [this]
  split <;> rfl
theorem f96_14 (nm : List UInt8) : F96_14 (semRun C Tryd.prog 96 Tryd.f96) nm nm = some (.u8 (if nm == [115, 116, 121, 108, 101] then 3 else if odds.contains nm then 4 else if decide (2 < nm.length) && pre [111, 110] nm then 2 else 0)) := by
  apply r96_14
  simp only [X96_14, f96_21, f96_22, condM_b, odds, List.contains_cons, List.contains_nil, Bool.or_false]
  cases nm == [115, 116, 121, 108, 101] <;> cases nm == [115, 114, 99, 100, 111, 99] <;> cases nm == [115, 114, 99, 115, 101, 116] <;> cases nm == [105, 109, 97, 103, 101, 115, 114, 99, 115, 101, 116] <;> cases nm == [99, 111, 110, 116, 101, 110, 116] <;> cases nm == [104, 116, 116, 112, 45, 101, 113, 117, 105, 118] <;> rfl
theorem s96 (nm : List UInt8) : semCall C Tryd.prog 96 [.s nm] = some (.u8 (attrOf nm)) := by
  apply c96
  simp only [X96, f96_13, f96_14, condM_b, attrOf, urls, List.contains_cons, List.contains_nil, Bool.or_false]
  generalize (if (nm == [115, 116, 121, 108, 101]) = true then (3 : UInt8) else if odds.contains nm = true then 4 else if (decide (2 < nm.length) && pre [111, 110] nm) = true then 2 else 0) = z
  cases nm == [97, 99, 116, 105, 111, 110] with
  | true => rfl
  | false =>
  cases nm == [98, 97, 99, 107, 103, 114, 111, 117, 110, 100] with
  | true => rfl
  | false =>
  cases nm == [99, 105, 116, 101] with
  | true => rfl
  | false =>
  cases nm == [100, 97, 116, 97] with
  | true => rfl
  | false =>
  cases nm == [102, 111, 114, 109, 97, 99, 116, 105, 111, 110] with
  | true => rfl
  | false =>
  cases nm == [104, 114, 101, 102] with
  | true => rfl
  | false =>
  cases nm == [108, 111, 110, 103, 100, 101, 115, 99] with
  | true => rfl
  | false =>
  cases nm == [109, 97, 110, 105, 102, 101, 115, 116] with
  | true => rfl
  | false =>
  cases nm == [112, 111, 115, 116, 101, 114] with
  | true => rfl
  | false =>
  cases nm == [115, 114, 99] with
  | true => rfl
  | false =>
  cases nm == [120, 108, 105, 110, 107, 58, 104, 114, 101, 102] <;> rfl

theorem l74_9 (nm : List UInt8) : ∀ (R P : List (List UInt8)), (P ++ R).length < 100 → F74_9 (semRun C Tryd.prog 74 Tryd.f74) nm ((P ++ R).map .s) (P.length : Int) = some (.int (if R.contains nm then 4 else if nm == [115, 116, 121, 108, 101] then 3 else if decide (2 < nm.length) && pre [111, 110] nm then 2 else 0))
  | [], P, h => by
    apply r74_9
    have e1 : decide ((P.length : Int) < (((P ++ []).map AV.s).length : Int)) = false := by simp
    simp only [X74_9, e1, condM_b, Bool.false_eq_true, if_false, List.contains_nil]
    cases h3 : (nm == [115, 116, 121, 108, 101]) with
    | true => rfl
    | false =>
      rw [if_neg (by simp), if_neg (by simp)]
      match nm with
      | [] => rfl
      | [a] => rfl
      | [a, b] => rfl
      | a :: b :: c :: r =>
        have e2 : decide (((a :: b :: c :: r).length : Int) ≥ 3) = true := by simp; omega
        have i0 : idxS (.s (a :: b :: c :: r)) (.int 0) = some (.u8 a) := idxS_int (i := 0) (l := a :: b :: c :: r) (by simp)
        have i1 : idxS (.s (a :: b :: c :: r)) (.int 1) = some (.u8 b) := idxS_int (i := 1) (l := a :: b :: c :: r) (by simp)
        have e3 : decide (2 < (a :: b :: c :: r).length) = true := by simp
        have e4 : pre [111, 110] (a :: b :: c :: r) = (a == 111 && b == 110) := by simp [pre]
        simp only [e2, i0, i1, e3, e4, u8_eql, Option.bind_some, selW_and, Bool.true_and, condM_b]
        split <;> rfl
  | c :: R, P, h => by
    apply r74_9
    have e1 : decide ((P.length : Int) < (((P ++ c :: R).map AV.s).length : Int)) = true := by simp; omega
    simp only [X74_9, e1, condM_b, if_true, inN_s, getD_s, cell_s, s_eql, Option.bind_some, List.contains_cons]
    cases hc : (c == nm) with
    | true => rw [if_pos rfl, eq_of_beq hc]; simp
    | false =>
      rw [if_neg (by simp), beqf hc, Bool.false_or]
      have h' : P.length < 100 := by simp at h; omega
      rw [w64_eq (by omega) (by omega), show ((P.length : Int) + 1) = ((P ++ [c]).length : Int) by simp, show P ++ c :: R = (P ++ [c]) ++ R by simp]
      exact l74_9 nm R (P ++ [c]) (by simpa using h)
theorem l74_3 (nm : List UInt8) : ∀ (R P : List (List UInt8)), (P ++ R).length < 100 → F74_3 (semRun C Tryd.prog 74 Tryd.f74) nm ((P ++ R).map .s) (P.length : Int) = some (.int (if R.contains nm then 1 else if odds.contains nm then 4 else if nm == [115, 116, 121, 108, 101] then 3 else if decide (2 < nm.length) && pre [111, 110] nm then 2 else 0))
  | [], P, h => by
    apply r74_3
    have e1 : decide ((P.length : Int) < (((P ++ []).map AV.s).length : Int)) = false := by simp
    simp only [X74_3, e1, condM_b, Bool.false_eq_true, if_false, List.contains_nil]
    exact l74_9 nm odds [] (by decide)
  | c :: R, P, h => by
    apply r74_3
    have e1 : decide ((P.length : Int) < (((P ++ c :: R).map AV.s).length : Int)) = true := by simp; omega
    simp only [X74_3, e1, condM_b, if_true, inN_s, getD_s, cell_s, s_eql, Option.bind_some, List.contains_cons]
    cases hc : (c == nm) with
    | true => rw [if_pos rfl, eq_of_beq hc]; simp
    | false =>
      rw [if_neg (by simp), beqf hc, Bool.false_or]
      have h' : P.length < 100 := by simp at h; omega
      rw [w64_eq (by omega) (by omega), show ((P.length : Int) + 1) = ((P ++ [c]).length : Int) by simp, show P ++ c :: R = (P ++ [c]) ++ R by simp]
      exact l74_3 nm R (P ++ [c]) (by simpa using h)
theorem s74 (nm : List UInt8) : semCall C Tryd.prog 74 [.s nm] = some (.int ((attrOf nm).toNat : Int)) := by
  apply c74
  have h := l74_3 nm urls [] (by decide)
  refine Eq.trans h ?_
  unfold attrOf
  cases h1 : urls.contains nm with
  | true => rfl
  | false =>
    cases h3 : (nm == [115, 116, 121, 108, 101]) with
    | true => rw [eq_of_beq h3]; rfl
    | false => cases odds.contains nm <;> cases (decide (2 < nm.length) && pre [111, 110] nm) <;> rfl
end R4

namespace R4
open Go Go.Proofs Sx

theorem s100 (l : List UInt8) (x : UInt8) : semCall C Tryd.prog 100 [.s l, .u8 x] = some (.int (idxByte l x)) :=
  semCall_ext (fn := Tryd.f100) (by kernel_rfl) (by kernel_rfl) (by kernel_rfl) (by
    show (bif (Tryd.f100.name == "internal/bytealg.IndexByteString") then some (AV.int (idxByte l x)) else none) = _
    rw [show (Tryd.f100.name == "internal/bytealg.IndexByteString") = true by kernel_rfl]
    rfl)
theorem s97 (l : List UInt8) (x : UInt8) : semCall C Tryd.prog 97 [.s l, .u8 x] = some (.int (idxByte l x)) := by
  apply c97
  simp only [X97, s100, Option.bind_some]
theorem s91 (l : List UInt8) (x : UInt8) : semCall C Tryd.prog 91 [.s l, .u8 x] = some (.int (idxByte l x)) := by
  apply c91
  simp only [X91, s97, Option.bind_some]
section
variable (c : Ctx) (b : UInt8)

theorem sForm (h : c.nm.length < 9223372036854775808) : semCall C Tryd.prog 43 [c.toAV] = some (.b (form c)) := s43 (h := h) ..
theorem sRForm (h : c.nm.length < 9223372036854775808) : semCall C Tryd.prog 31 [c.toAV] = some (.b (form c)) := s31 (h := h) ..
theorem sCoded : semCall C Tryd.prog 99 [c.toAV] = some (.b (coded c.st c.el c.at')) := s99 ..

theorem s81 : semCall C Tryd.prog 81 [.u8 b] = some (.b (letter b)) := by
  apply c81
  simp only [X81, uge_eq, ule_eq, Option.bind_some, selW_and, selW_or, letter]
theorem s82 : semCall C Tryd.prog 82 [.u8 b] = some (.u8 (lowb b)) := by
  apply c82
  refine of_isU8 ?_
  revert b
  exact all_u8 (by kernel_rfl)
theorem s83 : semCall C Tryd.prog 83 [.u8 b] = some (.b (blankB b)) := by
  apply c83
  simp only [X83, ueq_eq, Option.bind_some, selW_and, selW_or, blankB]
theorem s90 : semCall C Tryd.prog 90 [c.toAV] = some (.b (ends c)) := by
  apply c90
  simp only [X90, ueq_eq, Option.bind_some, selW_and, selW_or, ends]
theorem s86 (s : UInt8) : semCall C Tryd.prog 86 [c.toAV, .u8 s] = some (within c s).toAV := by
  apply c86
  rfl
theorem s87 (el : UInt8) : semCall C Tryd.prog 87 [.u8 el] = some (tagEnd el).toAV := by
  apply c87
  simp only [X87, une_eq, condM_b, tagEnd, toAV_ite]
  rfl
theorem s65 : semCall C Tryd.prog 65 [.u8 b] = some (tv (opened b)) := by
  apply c65
  simp only [X65, s81, s82, ueq_eq, Option.bind_some, one_u8, b2s_one, one_s, condM_b, opened, tv_ite]
  rfl
theorem s66 : semCall C Tryd.prog 66 [.u8 b] = some (closed b).toAV := by
  apply c66
  simp only [X66, s81, s82, ueq_eq, Option.bind_some, one_u8, b2s_one, one_s, condM_b, closed, toAV_ite]
  rfl
theorem s84 : semCall C Tryd.prog 84 [c.toAV, .u8 b] = some (grown c b).toAV := by
  apply c84
  simp only [X84, s82, Option.bind_some, one_u8, b2s_one, condM_b, grown, toAV_ite]
  have e : decide ((c.nm.length : Int) ≥ 32) = decide (32 ≤ c.nm.length) := by rw [decide_eq_decide]; omega
  rw [e]
  by_cases h : 32 ≤ c.nm.length
  · rw [if_pos (by simpa using h), if_pos (by simpa using h)]; rfl
  · rw [if_neg (by simpa using h), if_neg (by simpa using h), s_add' (by simp; omega)]; rfl
theorem s88 : semCall C Tryd.prog 88 [c.toAV, .u8 b] = some (tv (begunV c b)) := by
  apply c88
  simp only [X88, s83, ueq_eq, Option.bind_some, selW_or, condM_b, begunV, tv_ite]
  rfl
theorem s89 : semCall C Tryd.prog 89 [c.toAV, .u8 b] = some (tv (named c b)) := by
  apply c89
  simp only [X89, s83, s96, mk_toAV, mk_eta, s84, s86, asAg_toAV, ten0, ten1, ten2, ten3, ten4, ten5, ten6, ten7, ten8, ten9, tv_mk, ueq_eq, Option.bind_some, selW_or, selW_and, condM_b, named, tv_ite, one_u8]
  rfl
theorem s67 : semCall C Tryd.prog 67 [c.toAV, .u8 b] = some (tv (tag c b)) := by
  have f (el : UInt8) : F67_7 (semRun C Tryd.prog 67 Tryd.f67) c.st (.u8 el) c.en c.at' c.qu c.pa c.su c.es c.da c.nm 0 0 false 0 0 0 0 false 0 [] = some (tv (within { c with el := el } 9, true)) := by
    apply r67_7
    simp only [X67_7, mk_toAV, s86, asAg_toAV, ten0, ten1, ten2, ten3, ten4, ten5, ten6, ten7, ten8, ten9, mk_eta, tv_mk, Option.bind_some]
  apply c67
  simp only [X67, f, s83, s85, mk_toAV, mk_eta, s84, s86, s87, s88, s89, asAg_toAV, ten0, ten1, ten2, ten3, ten4, ten5, ten6, ten7, ten8, ten9, tv_mk, tv_0, tv_1, ueq_eq, une_eq, unop_not, Option.bind_some, selW_or, selW_and, condM_b, tag, tv_ite, one_u8]
  rfl
theorem s98 : semCall C Tryd.prog 98 [c.toAV, .u8 b] = some (text c b).toAV := by
  have f (d : Ctx) : F98_9 (semRun C Tryd.prog 98 Tryd.f98) d.st d.el d.en d.at' d.qu d.pa d.su d.es d.da d.nm 0 0 false 0 0 0 0 false 0 [] = some d.toAV := by
    apply r98_9
    rfl
  apply c98
  simp only [X98, ueq_eq, Option.bind_some, selW_or, selW_and, condM_b, text, toAV_ite]
  rw [f c, f { c with su := 0 }, f { c with es := true }, f { c with es := false }]
  rfl
theorem s930 (script : Bool) (h : (c.su == 0) = true) : semCall C Tryd.prog 93 [c.toAV, .u8 b, .b script] = some (code0 c b script).toAV := by
  have f (d : Ctx) : F93_36 (semRun C Tryd.prog 93 Tryd.f93) d.st d.el d.en d.at' d.qu d.pa d.su d.es d.da d.nm 0 0 false 0 0 0 0 false 0 [] = some d.toAV := by
    apply r93_36
    rfl
  have g : F93_11 (semRun C Tryd.prog 93 Tryd.f93) 0 0 false 0 0 0 0 false 0 [] = some badC.toAV := by
    apply r93_11
    rfl
  apply c93
  simp only [X93, ueq_eq, Option.bind_some, selW_or, selW_and, condM_b, code0, toAV_ite, h, if_true]
  rw [f c, f { c with su := 1 }, f { c with su := 2 }, f { c with su := 3 }, g]
theorem s93 (script : Bool) : semCall C Tryd.prog 93 [c.toAV, .u8 b, .b script] = some (code c b script).toAV := by
  have f (d : Ctx) : F93_36 (semRun C Tryd.prog 93 Tryd.f93) d.st d.el d.en d.at' d.qu d.pa d.su d.es d.da d.nm 0 0 false 0 0 0 0 false 0 [] = some d.toAV := by
    apply r93_36
    rfl
  have g : F93_11 (semRun C Tryd.prog 93 Tryd.f93) 0 0 false 0 0 0 0 false 0 [] = some badC.toAV := by
    apply r93_11
    rfl
  have t (d : Ctx) : F93_23 (semRun C Tryd.prog 93 Tryd.f93) b d.st d.el d.en d.at' d.qu d.pa d.su d.es d.da d.nm 0 0 false 0 0 0 0 false 0 [] = some (text d b).toAV := by
    apply r93_23
    simp only [X93_23, mk_toAV, mk_eta, s98, asAg_toAV, ten0, ten1, ten2, ten3, ten4, ten5, ten6, ten7, ten8, ten9, Option.bind_some]
  have u (d : Ctx) : F93_24 (semRun C Tryd.prog 93 Tryd.f93) b d.su d.st d.el d.en d.at' d.qu d.pa d.su d.es d.da d.nm 0 0 false 0 0 0 0 false 0 [] =
      some (if d.su == 4 then (if b == 10 || b == 13 then { d with su := 0 } else d) else if d.su == 5 then (if b == 42 then { d with su := 6 } else d) else if d.su == 6 then (if b == 47 then { d with su := 0 } else if b == 42 then d else { d with su := 5 }) else d : Ctx).toAV := by
    apply r93_24
    simp only [X93_24, ueq_eq, Option.bind_some, selW_or, selW_and, condM_b, toAV_ite]
    rw [f d, f { d with su := 0 }, f { d with su := 6 }, f { d with su := 5 }]
  apply c93
  have z : semCall C Tryd.prog 93 [Ctx.toAV { c with su := 0 }, .u8 b, .b script] = some (code0 { c with su := 0 } b script).toAV := s930 _ b script rfl
  simp only [X93, ueq_eq, Option.bind_some, selW_or, selW_and, condM_b, code, toAV_ite, mk_toAV, mk_eta]
  rw [f c, f { c with su := 1 }, f { c with su := 2 }, f { c with su := 3 }, f { c with su := 4 }, f { c with su := 5 }, g, t c, u c, z]
  simp only [asAg_toAV, ten0, ten1, ten2, ten3, ten4, ten5, ten6, ten7, ten8, ten9, Option.bind_some, mk_toAV, mk_eta]
  simp only [code0, toAV_ite]
  rfl
theorem s92 : semCall C Tryd.prog 92 [c.toAV, .u8 b] = some (url c b).toAV := by
  have f (d : Ctx) : F92_24 (semRun C Tryd.prog 92 Tryd.f92) d.st d.el d.en d.at' d.qu d.pa d.su d.es d.da (.s d.nm) 0 0 false 0 0 0 0 false 0 [] = some d.toAV := by
    apply r92_24
    rfl
  apply c92
  simp only [X92, ueq_eq, Option.bind_some, selW_or, selW_and, condM_b, s82, one_u8, b2s_one, same_eq, url, toAV_ite]
  rw [f { c with pa := 4, nm := [] }, f { c with pa := 3, nm := [] }, f { c with pa := 5, nm := [] }, f { c with pa := 1 }]
  have e : decide ((c.nm.length : Int) ≥ 16) = decide (16 ≤ c.nm.length) := by rw [decide_eq_decide]; omega
  rw [e, show (c.nm == [104, 116, 116, 112] || c.nm == [104, 116, 116, 112, 115] || c.nm == [109, 97, 105, 108, 116, 111]) = httpS c.nm from rfl]
  by_cases h : 16 ≤ c.nm.length
  · simp only [decide_eq_true h, if_true]; rfl
  · rw [s_add' (by simp; omega)]
    simp only [Option.bind_some, one_s]
    rw [f { c with pa := 1, nm := c.nm ++ [lowb b] }]
    rfl
theorem quote_ix : decide (idxByte [34, 39, 60, 61, 96] b ≥ 0) = quoteB b := by
  revert b
  exact all_u8_eq (by kernel_rfl)
theorem s68 : semCall C Tryd.prog 68 [c.toAV, .u8 b] = some (value c b).toAV := by
  apply c68
  simp only [X68, ueq_eq, Option.bind_some, selW_or, selW_and, condM_b, s83, s91, mk_toAV, mk_eta, s90, s86, s87, s92, s93, asAg_toAV, ten0, ten1, ten2, ten3, ten4, ten5, ten6, ten7, ten8, ten9, unop_not, value, toAV_ite, int_geq, quote_ix]
  rfl
theorem l94 : ∀ (r p : List UInt8) (c : Ctx), (p ++ r).length < 9223372036854775808 → F94_5 (semRun C Tryd.prog 94 Tryd.f94) (p ++ r) ((p ++ r).length : Int) (p.length : Int) (.u8 c.st) (.u8 c.el) (.b c.en) (.u8 c.at') (.u8 c.qu) (.u8 c.pa) (.u8 c.su) (.b c.es) (.u8 c.da) (.s c.nm) 0 0 false 0 0 0 0 false 0 [] = some (feedL c r).toAV
  | [], p, c, h => by
    apply r94_5
    simp only [X94_5, nlt_len, nlt_self, List.append_nil, Option.bind_some, condM_b, Bool.false_eq_true, if_false, mk_toAV, mk_eta, feedL]
  | b :: r, p, c, h => by
    apply r94_5
    simp only [X94_5, lt_len, idxS_at, w64_inc p b r h, u8_eql, Option.bind_some, condM_b, if_true, mk_toAV, mk_eta, s93, asAg_toAV, ten0, ten1, ten2, ten3, ten4, ten5, ten6, ten7, ten8, ten9, feedL, toAV_ite]
    rw [snoc_app, l94 r (p ++ [b]) _ (by rw [← snoc_app]; exact h)]
    rfl
theorem s94 (s : List UInt8) (feed : Bool) (h : s.length < 9223372036854775808) : semCall C Tryd.prog 94 [c.toAV, .s s, .b feed] = some (fed c s feed).toAV := by
  apply c94
  have l := l94 s [] { c with st := 17, nm := [] } h
  simp only [X94, ueq_eq, Option.bind_some, mk_toAV, mk_eta, sCoded, unop_not, selW_or, condM_b, fed, toAV_ite]
  split
  · rfl
  · exact l
theorem s69 (feed : Bool) (h : c.nm.length < 1000) : semCall C Tryd.prog 69 [c.toAV, .u8 b, .b feed] = some (raw c b feed).toAV := by
  have f (d : Ctx) : F69_22 (semRun C Tryd.prog 69 Tryd.f69) (.u8 d.st) (.u8 d.el) (.b d.en) (.u8 d.at') (.u8 d.qu) (.u8 d.pa) (.u8 d.su) (.b d.es) (.u8 d.da) (.s d.nm) 0 0 false 0 0 0 0 false 0 [] = some d.toAV := by
    apply r69_22
    rfl
  have g (d : Ctx) : F69_17 (semRun C Tryd.prog 69 Tryd.f69) b feed (.u8 d.st) (.u8 d.el) (.b d.en) (.u8 d.at') (.u8 d.qu) (.u8 d.pa) (.u8 d.su) (.b d.es) (.u8 d.da) (.s d.nm) 0 0 false 0 0 0 0 false 0 [] = some (raw2 d b feed).toAV := by
    apply r69_17
    simp only [X69_17, u8_eql, Option.bind_some, condM_b, b2s_one, mk_toAV, mk_eta]
    rw [s94 d [b] feed (by simp)]
    simp only [Option.bind_some, asAg_toAV, ten0, ten1, ten2, ten3, ten4, ten5, ten6, ten7, ten8, ten9, u8_eql, ueq_eq, selW_and, condM_b]
    rw [f (fed d [b] feed), f { fed d [b] feed with st := 18 }]
    simp only [raw2, toAV_ite]
    rfl
  apply c69
  have a1 : binS .add (.s c.nm) (.s [lowb b]) = some (.s (c.nm ++ [lowb b])) := s_add' (by simp; omega)
  have a2 : binS .add (.s [47]) (.s c.nm) = some (.s (47 :: c.nm)) := s_add' (by simp; omega)
  have a3 := s94 c (47 :: c.nm) feed (by simp; omega)
  simp only [X69, s80, ueq_eq, Option.bind_some, selW_or, selW_and, condM_b, s83, s82, one_u8, b2s_one, one_s, a1, a2, s_eql, s79, mk_toAV, mk_eta, s90, s67, tv_0, tv_1, a3, asAg_toAV, ten0, ten1, ten2, ten3, ten4, ten5, ten6, ten7, ten8, ten9, unop_not, raw, toAV_ite]
  rw [g c, g (fed c (47 :: c.nm) feed)]
  rfl
theorem s70 : semCall C Tryd.prog 70 [c.toAV, .u8 b] = some (note c b).toAV := by
  have f (d : Ctx) : F70_31 (semRun C Tryd.prog 70 Tryd.f70) d.st d.el d.en d.at' d.qu d.pa d.su d.es d.da d.nm 0 0 false 0 0 0 0 false 0 [] = some d.toAV := by
    apply r70_31
    rfl
  have f4 : F70_4 (semRun C Tryd.prog 70 Tryd.f70) b c.st c.el c.en c.at' c.qu c.pa c.su c.es c.da c.nm 0 0 false 0 0 0 0 false 0 [] = some (if b == 62 then st1 0 else if b == 45 && c.st == 11 then st1 12 else if b == 45 then st1 13 else st1 16 : Ctx).toAV := by
    apply r70_4
    simp only [X70_4, ueq_eq, Option.bind_some, selW_and, condM_b, toAV_ite]
    rfl
  have f13 : F70_13 (semRun C Tryd.prog 70 Tryd.f70) b c.st c.el c.en c.at' c.qu c.pa c.su c.es c.da c.nm 0 0 false 0 0 0 0 false 0 [] = some (if b == 62 then badC else if b == 45 && c.st == 13 then st1 14 else if b == 45 then ⟨15, 0, false, 0, 0, 0, 0, false, 2, []⟩ else st1 15 : Ctx).toAV := by
    apply r70_13
    simp only [X70_13, ueq_eq, Option.bind_some, selW_and, condM_b, toAV_ite]
    rfl
  have hm : (binI .add (.u8 c.da) (.u8 1)).bind (fun v3 => (mm true v3 (.u8 2)).bind fun v4 => (AV.one v4).bind fun v5 => some (AV.ag [.u8 15, .u8 0, .b false, .u8 0, .u8 0, .u8 0, .u8 0, .b false, v5, .s []])) = some (Ctx.toAV ⟨15, 0, false, 0, 0, 0, 0, false, (if decide (2 < c.da + 1) then 2 else c.da + 1), []⟩) := by
    rw [u8_add]
    simp only [Option.bind_some, mm_u8, one_u8, mk_toAV, decide_eq_true_eq]
  have f20 : F70_20 (semRun C Tryd.prog 70 Tryd.f70) b c.st c.st c.el c.en c.at' c.qu c.pa c.su c.es c.da c.nm 0 0 false 0 0 0 0 false 0 [] =
      some (if c.st == 15 then (if b == 62 && c.da == 2 then st1 0 else if b == 33 && c.da == 2 then badC else if b == 45 then ⟨15, 0, false, 0, 0, 0, 0, false, (if decide (2 < c.da + 1) then 2 else c.da + 1), []⟩ else st1 15)
  else if c.st == 16 then (if b == 62 then st1 0 else c) else c : Ctx).toAV := by
    apply r70_20
    simp only [X70_20, ueq_eq, Option.bind_some, selW_and, condM_b, toAV_ite]
    rw [hm, f c]
    rfl
  have f11 : F70_11 (semRun C Tryd.prog 70 Tryd.f70) b c.st c.st c.el c.en c.at' c.qu c.pa c.su c.es c.da c.nm 0 0 false 0 0 0 0 false 0 [] =
      some (if c.st == 13 || c.st == 14 then (if b == 62 then badC else if b == 45 && c.st == 13 then st1 14 else if b == 45 then ⟨15, 0, false, 0, 0, 0, 0, false, 2, []⟩ else st1 15)
  else if c.st == 15 then (if b == 62 && c.da == 2 then st1 0 else if b == 33 && c.da == 2 then badC else if b == 45 then ⟨15, 0, false, 0, 0, 0, 0, false, (if decide (2 < c.da + 1) then 2 else c.da + 1), []⟩ else st1 15)
  else if c.st == 16 then (if b == 62 then st1 0 else c) else c : Ctx).toAV := by
    apply r70_11
    simp only [X70_11, ueq_eq, Option.bind_some, selW_and, condM_b, f13, f20]
    cases (c.st == 13) <;> cases (c.st == 14) <;> rfl
  apply c70
  simp only [X70, ueq_eq, Option.bind_some, selW_and, condM_b, f4, f11, note]
  cases (c.st == 11) <;> cases (c.st == 12) <;> rfl
theorem l45 (feed : Bool) : ∀ (n : Nat) (c d : Ctx), c.nm.length < 1000 → again n c b feed = some d → F45_3 (semRun C Tryd.prog 45 Tryd.f45) b feed (.u8 c.st) (.u8 c.el) (.b c.en) (.u8 c.at') (.u8 c.qu) (.u8 c.pa) (.u8 c.su) (.b c.es) (.u8 c.da) (.s c.nm) 0 0 false 0 0 0 0 false 0 [] = some d.toAV
  | 0, c, d, hn, h => by cases h
  | n + 1, c, d, hn, h => by
    have f32 (d : Ctx) : F45_32 (semRun C Tryd.prog 45 Tryd.f45) (.u8 d.st) (.u8 d.el) (.b d.en) (.u8 d.at') (.u8 d.qu) (.u8 d.pa) (.u8 d.su) (.b d.es) (.u8 d.da) (.s d.nm) 0 0 false 0 0 0 0 false 0 [] = some d.toAV := by
      apply r45_32
      rfl
    have f31 : F45_31 (semRun C Tryd.prog 45 Tryd.f45) b feed (.u8 c.st) (.u8 c.el) (.b c.en) (.u8 c.at') (.u8 c.qu) (.u8 c.pa) (.u8 c.su) (.b c.es) (.u8 c.da) (.s c.nm) 0 0 false 0 0 0 0 false 0 [] = some (raw c b feed).toAV := by
      apply r45_31
      simp only [X45_31, mk_toAV, mk_eta, s69 (h := hn), Option.bind_some, asAg_toAV, ten0, ten1, ten2, ten3, ten4, ten5, ten6, ten7, ten8, ten9]
    have f4 : F45_4 (semRun C Tryd.prog 45 Tryd.f45) b (.u8 c.st) (.u8 c.el) (.b c.en) (.u8 c.at') (.u8 c.qu) (.u8 c.pa) (.u8 c.su) (.b c.es) (.u8 c.da) (.s c.nm) 0 0 false 0 0 0 0 false 0 [] = some (note c b).toAV := by
      apply r45_4
      simp only [X45_4, mk_toAV, mk_eta, s70, Option.bind_some, asAg_toAV, ten0, ten1, ten2, ten3, ten4, ten5, ten6, ten7, ten8, ten9]
    have f26 : F45_26 (semRun C Tryd.prog 45 Tryd.f45) b feed (.u8 c.st) (.u8 c.st) (.u8 c.el) (.b c.en) (.u8 c.at') (.u8 c.qu) (.u8 c.pa) (.u8 c.su) (.b c.es) (.u8 c.da) (.s c.nm) 0 0 false 0 0 0 0 false 0 [] = some (if c.st == 8 then value c b else if c.st == 17 || c.st == 18 || c.st == 19 then raw c b feed else note c b : Ctx).toAV := by
      apply r45_26
      simp only [X45_26, u8_eql, mk_toAV, mk_eta, s68, f31, f4, Option.bind_some, condM_b, asAg_toAV, ten0, ten1, ten2, ten3, ten4, ten5, ten6, ten7, ten8, ten9]
      cases (c.st == 8) <;> cases (c.st == 17) <;> cases (c.st == 18) <;> cases (c.st == 19) <;> rfl
    have f22 (hh : (if (tag c b).2 then again n (tag c b).1 b feed else some (tag c b).1) = some d) : F45_22 (semRun C Tryd.prog 45 Tryd.f45) b feed (.u8 c.st) (.u8 c.el) (.b c.en) (.u8 c.at') (.u8 c.qu) (.u8 c.pa) (.u8 c.su) (.b c.es) (.u8 c.da) (.s c.nm) 0 0 false 0 0 0 0 false 0 [] = some d.toAV := by
      apply r45_22
      simp only [X45_22, mk_toAV, mk_eta, s67, tv_0, tv_1, Option.bind_some, condM_b, asAg_toAV, ten0, ten1, ten2, ten3, ten4, ten5, ten6, ten7, ten8, ten9]
      cases ht : (tag c b).2 with
      | true =>
        rw [ht, if_pos rfl] at hh
        rw [if_pos rfl]
        exact l45 feed n _ d (Nat.lt_of_le_of_lt (tag_nm c b ht) hn) hh
      | false =>
        rw [ht, if_neg (by simp)] at hh
        rw [if_neg (by simp)]
        cases hh; rfl
    apply r45_3
    unfold again at h
    simp only [X45_3, u8_eql, ueq_eq, mk_toAV, mk_eta, s65, s66, tv_0, tv_1, Option.bind_some, condM_b, asAg_toAV, ten0, ten1, ten2, ten3, ten4, ten5, ten6, ten7, ten8, ten9]
    cases h0 : (c.st == 0) with
    | true =>
      rw [h0, if_pos rfl] at h
      rw [if_pos rfl, f32 c, f32 { c with st := 1 }]
      split <;> rename_i hb
      · rw [if_pos hb] at h; cases h; rfl
      · rw [if_neg hb] at h; cases h; rfl
    | false =>
    rw [h0, if_neg (by simp)] at h
    rw [if_neg (by simp)]
    cases h1 : (c.st == 1) with
    | true =>
      rw [h1, if_pos rfl] at h
      rw [if_pos rfl]
      split <;> rename_i hb
      · rw [if_pos hb] at h; cases h; rfl
      · rw [if_neg hb] at h
        exact l45 feed n { c with st := 0 } d hn h
    | false =>
    rw [h1, if_neg (by simp)] at h
    rw [if_neg (by simp)]
    cases h2 : (c.st == 2) with
    | true =>
      rw [h2, if_pos rfl] at h
      rw [if_pos rfl]
      cases h; rfl
    | false =>
    rw [h2, if_neg (by simp)] at h
    rw [if_neg (by simp)]
    cases hT : isT c.st with
    | true =>
      rw [hT, if_pos rfl] at h
      rw [f22 h]
      unfold isT at hT
      cases h3 : (c.st == 3) <;> cases h4 : (c.st == 4) <;> cases h5 : (c.st == 5) <;> cases h6 : (c.st == 6) <;> cases h7 : (c.st == 7) <;> cases h9 : (c.st == 9) <;> cases h10 : (c.st == 10) <;> first | rfl | (rw [h3, h4, h5, h6, h7, h9, h10] at hT; cases hT)
    | false =>
      rw [hT, if_neg (by simp)] at h
      unfold isT at hT
      simp only [Bool.or_eq_false_iff] at hT
      obtain ⟨⟨⟨⟨⟨⟨h3, h4⟩, h5⟩, h6⟩, h7⟩, h9⟩, h10⟩ := hT
      rw [h3, h4, h5, h6, h7, h9, h10, f26]
      simp only [Bool.false_eq_true, if_false]
      cases h8 : (c.st == 8) <;> cases h17 : (c.st == 17) <;> cases h18 : (c.st == 18) <;> cases h19 : (c.st == 19) <;> (rw [h8, h17, h18, h19] at h; cases h; rfl)
end
end R4

namespace R4
open Go Go.Proofs Sx

theorem s45 (c : Ctx) (b : UInt8) (feed : Bool) (h : c.nm.length < 9223372036854775808) : semCall C Tryd.prog 45 [c.toAV, .u8 b, .b feed] = some (mv c b feed).toAV := by
  apply c45
  simp only [X45, mk_toAV, mk_eta, sForm (h := h), Option.bind_some, unop_not, condM_b]
  cases hf : form c with
  | true =>
    rw [if_neg (by simp)]
    exact l45 b feed 4 c _ (by have := form_nm c hf; omega) (mv_some c b feed hf)
  | false =>
    rw [if_pos (by simp), mv_bad c b feed hf]; rfl
section
variable (c : Ctx) (b : UInt8)
theorem s32 : semCall C Tryd.prog 32 [] = some badC.toAV := by
  apply c32
  rfl
theorem s53 (x : UInt8) : semCall C Tryd.prog 53 [.int (x.toNat : Int)] = some (st1 x).toAV := by
  apply c53
  simp only [X53, conv_back, Option.bind_some, one_u8]
  rfl
theorem s54 : semCall C Tryd.prog 54 [.u8 b] = some (.b (letter b)) := by
  apply c54
  simp only [X54, uge_eq, ule_eq, Option.bind_some, selW_and, selW_or, letter]
theorem s36 : semCall C Tryd.prog 36 [.u8 b] = some (.b (blankB b)) := by
  apply c36
  refine of_isB ?_
  revert b
  exact all_u8 (by kernel_rfl)
theorem s37 : semCall C Tryd.prog 37 [.u8 b] = some (.s [lowb b]) := by
  have f (x : UInt8) : F37_3 (semRun C Tryd.prog 37 Tryd.f37) (.u8 x) = some (.s [x]) := by
    apply r37_3
    simp only [X37_3, one_u8, b2s_one, Option.bind_some]
  apply c37
  simp only [X37, uge_eq, ule_eq, Option.bind_some, selW_and, condM_b, u8_add, f, lowb]
  split <;> rfl
theorem s56 : semCall C Tryd.prog 56 [c.toAV, .u8 b] = some (grown c b).toAV := by
  apply c56
  simp only [X56, s37, s32, Option.bind_some, condM_b, grown, toAV_ite, asAg_toAV, ten0, ten1, ten2, ten3, ten4, ten5, ten6, ten7, ten8, ten9]
  have e : decide ((c.nm.length : Int) ≥ 32) = decide (32 ≤ c.nm.length) := by rw [decide_eq_decide]; omega
  rw [e]
  by_cases h : 32 ≤ c.nm.length
  · rw [if_pos (by simpa using h), if_pos (by simpa using h)]; rfl
  · rw [if_neg (by simpa using h), if_neg (by simpa using h), s_add' (by simp; omega)]; rfl
theorem s57 : semCall C Tryd.prog 57 [c.toAV] = some (tagEnd c.el).toAV := by
  apply c57
  have := s53 0
  simp only [X57, ueq_eq, condM_b, show ((0 : UInt8).toNat : Int) = 0 from rfl] at this ⊢
  simp only [this, Option.bind_some, asAg_toAV, ten0, ten1, ten2, ten3, ten4, ten5, ten6, ten7, ten8, ten9, tagEnd_eq, toAV_ite]
  rfl
theorem s75 (h : c.nm.length ≤ 100) : semCall C Tryd.prog 75 [c.toAV, .u8 b] = some (rurl c b).toAV := by
  have f (d : Ctx) : F75_27 (semRun C Tryd.prog 75 Tryd.f75) d.st d.el d.en d.at' d.qu d.pa d.su d.es d.da (.s d.nm) 0 0 false 0 0 0 0 false 0 [] = some d.toAV := by
    apply r75_27
    rfl
  have g (d : Ctx) : F75_21 (semRun C Tryd.prog 75 Tryd.f75) 0 0 false 0 0 0 0 false 0 [] d.st d.el d.en d.at' d.qu d.pa d.su d.es d.da d.nm = some d.toAV := by
    apply r75_21
    rfl
  have e : decide ((c.nm.length : Int) < 16) = decide (c.nm.length < 16) := by rw [decide_eq_decide]; omega
  have a1 : binS .add (.s c.nm) (.s [lowb b]) = some (.s (c.nm ++ [lowb b])) := s_add' (by simp; omega)
  apply c75
  simp only [X75, ueq_eq, uge_eq, Option.bind_some, selW_or, selW_and, condM_b, s37, s32, a1, e, one_s, asAg_toAV, ten0, ten1, ten2, ten3, ten4, ten5, ten6, ten7, ten8, ten9, rurl, toAV_ite]
  rw [g { c with pa := 3, nm := [] }, g { c with pa := 5, nm := [] }, f { c with pa := 1 }, f { c with pa := 1, nm := c.nm ++ [lowb b] }, show (c.nm == [104, 116, 116, 112] || c.nm == [104, 116, 116, 112, 115] || c.nm == [109, 97, 105, 108, 116, 111]) = httpS c.nm from rfl]
  rfl
theorem s76 (script : Bool) : semCall C Tryd.prog 76 [c.toAV, .u8 b, .b script] = some (code c b script).toAV := by
  have f (d : Ctx) : F76_45 (semRun C Tryd.prog 76 Tryd.f76) d.st d.el d.en d.at' d.qu d.pa d.su d.es d.da d.nm 0 0 false 0 0 0 0 false 0 [] = some d.toAV := by
    apply r76_45
    rfl
  have f10 (d : Ctx) : F76_10 (semRun C Tryd.prog 76 Tryd.f76) b d.st d.el d.en d.at' d.qu d.pa d.su d.es d.da d.nm 0 0 false 0 0 0 0 false 0 [] = some (if b == 47 then { d with su := 3 } else d : Ctx).toAV := by
    apply r76_10
    simp only [X76_10, ueq_eq, condM_b, toAV_ite]
    rw [f d, f { d with su := 3 }]
  have f8 (d : Ctx) : F76_8 (semRun C Tryd.prog 76 Tryd.f76) b d.st d.el d.en d.at' d.qu d.pa d.su d.es d.da d.nm 0 0 false 0 0 0 0 false 0 [] = some (if b == 39 then (if b == 47 then { d with su := 3 } else { d with su := 2 }) else (if b == 47 then { d with su := 3 } else d) : Ctx).toAV := by
    apply r76_8
    simp only [X76_8, ueq_eq, condM_b, toAV_ite]
    rw [f10 d, f10 { d with su := 2 }]
    simp only [toAV_ite]
  have z (d : Ctx) (hd : (d.su == 0) = true) : semCall C Tryd.prog 76 [d.toAV, .u8 b, .b script] = some (rcode0 d b script).toAV := by
    apply c76
    simp only [X76, w64_u8, i_beq _ _ (show 0 < 256 by decide), ueq_eq, Option.bind_some, selW_or, selW_and, condM_b, s32, asAg_toAV, ten0, ten1, ten2, ten3, ten4, ten5, ten6, ten7, ten8, ten9]
    rw [show (d.su == OfNat.ofNat 0) = true from hd, if_pos rfl, f8 d, f8 { d with su := 1 }]
    simp only [rcode0, toAV_ite]
    rfl
  have f19 (d : Ctx) : F76_19 (semRun C Tryd.prog 76 Tryd.f76) b (d.su.toNat : Int) d.st d.el d.en d.at' d.qu d.pa d.su d.es d.da d.nm 0 0 false 0 0 0 0 false 0 [] = some (if b == 10 || b == 13 then badC else if d.su == 1 && b == 34 || d.su == 2 && b == 39 then { d with su := 0 } else d : Ctx).toAV := by
    apply r76_19
    simp only [X76_19, i_beq _ _ (show 1 < 256 by decide), i_beq _ _ (show 2 < 256 by decide), ueq_eq, Option.bind_some, selW_or, selW_and, condM_b, s32, asAg_toAV, ten0, ten1, ten2, ten3, ten4, ten5, ten6, ten7, ten8, ten9, toAV_ite]
    rw [f d, f { d with su := 0 }]
    rfl
  have f14 (d : Ctx) : F76_14 (semRun C Tryd.prog 76 Tryd.f76) b (d.su.toNat : Int) d.st d.el d.en d.at' d.qu d.pa d.su d.es d.da d.nm 0 0 false 0 0 0 0 false 0 [] = some (rtext d b).toAV := by
    apply r76_14
    simp only [X76_14, ueq_eq, Option.bind_some, condM_b]
    rw [f19 d, f19 { d with es := true }]
    simp only [rtext, toAV_ite]
    rfl
  have f23 (d : Ctx) : F76_23 (semRun C Tryd.prog 76 Tryd.f76) b script (d.su.toNat : Int) d.st d.el d.en d.at' d.qu d.pa d.su d.es d.da d.nm 0 0 false 0 0 0 0 false 0 [] =
      some (if d.su == 3 then (if b == 42 then { d with su := 5 } else if script && b == 47 then { d with su := 4 } else if script then badC else rcode0 { d with su := 0 } b script)
  else if d.su == 4 then (if b == 10 || b == 13 then { d with su := 0 } else d)
  else if d.su == 5 then (if b == 42 then { d with su := 6 } else d)
  else if d.su == 6 then (if b == 47 then { d with su := 0 } else if b != 42 then { d with su := 5 } else d) else d : Ctx).toAV := by
    apply r76_23
    have z' := z { d with su := 0 } rfl
    simp only [X76_23, i_beq _ _ (show 3 < 256 by decide), i_beq _ _ (show 4 < 256 by decide), i_beq _ _ (show 5 < 256 by decide), i_beq _ _ (show 6 < 256 by decide), ueq_eq, une_eq, Option.bind_some, selW_or, selW_and, condM_b, s32, mk_toAV, z', asAg_toAV, ten0, ten1, ten2, ten3, ten4, ten5, ten6, ten7, ten8, ten9, toAV_ite]
    rw [f d, f { d with su := 0 }, f { d with su := 5 }, f { d with su := 6 }]
    try rfl
  rw [← rcode_eq]
  apply c76
  simp only [X76, w64_u8, i_beq _ _ (show 0 < 256 by decide), i_beq _ _ (show 1 < 256 by decide), i_beq _ _ (show 2 < 256 by decide), ueq_eq, Option.bind_some, selW_or, selW_and, condM_b, s32, asAg_toAV, ten0, ten1, ten2, ten3, ten4, ten5, ten6, ten7, ten8, ten9]
  rw [f8 c, f8 { c with su := 1 }, f14 c, f23 c]
  simp only [rcode, rcode0, toAV_ite]
  rfl
end
end R4

namespace R4
open Go Go.Proofs Sx

section
variable (c : Ctx) (b : UInt8)
theorem s59 (h : c.nm.length ≤ 100) : semCall C Tryd.prog 59 [c.toAV, (within c 0).toAV, .u8 b] = some (rvalue c b).toAV := by
  have f25 : F59_25 (semRun C Tryd.prog 59 Tryd.f59) c.st c.el c.en c.at' c.qu c.pa c.su c.es c.da c.nm 0 0 false 0 0 0 0 false 0 [] = some c.toAV := by
    apply r59_25
    rfl
  have f22 : F59_22 (semRun C Tryd.prog 59 Tryd.f59) b c.st c.el c.en c.at' c.qu c.pa c.su c.es c.da c.nm 0 0 false 0 0 0 0 false 0 [] = some (if b == 38 then badC else rcode c b (c.at' == 2) : Ctx).toAV := by
    apply r59_22
    simp only [X59_22, ueq_eq, Option.bind_some, condM_b, s32, mk_toAV, mk_eta, s76, rcode_eq, asAg_toAV, ten0, ten1, ten2, ten3, ten4, ten5, ten6, ten7, ten8, ten9, toAV_ite]
  have f17 : F59_17 (semRun C Tryd.prog 59 Tryd.f59) b c.st c.el c.en c.at' c.qu c.pa c.su c.es c.da c.nm 0 0 false 0 0 0 0 false 0 [] = some (if c.at' == 1 then rurl c b else if c.at' == 2 then (if b == 38 then badC else rcode c b (c.at' == 2)) else if c.at' == 3 then (if b == 38 then badC else rcode c b (c.at' == 2)) else c : Ctx).toAV := by
    apply r59_17
    simp only [X59_17, ueq_eq, Option.bind_some, condM_b, mk_toAV, mk_eta, s75 (h := h), f22, f25, asAg_toAV, ten0, ten1, ten2, ten3, ten4, ten5, ten6, ten7, ten8, ten9, toAV_ite]
  apply c59
  simp only [X59, ueq_eq, une_eq, Option.bind_some, selW_or, selW_and, condM_b, unop_not, s32, s36, mk_toAV, mk_eta, s57, asAg_toAV, ten0, ten1, ten2, ten3, ten4, ten5, ten6, ten7, ten8, ten9, f17]
  rw [show (b == 34 || b == 39 || b == 60 || b == 61 || b == 96) = quoteB b from rfl]
  simp only [rvalue, toAV_ite]
  rfl
theorem l77 : ∀ (r p : List UInt8) (c : Ctx), (p ++ r).length < 9223372036854775808 → F77_4 (semRun C Tryd.prog 77 Tryd.f77) (p ++ r) (p.length : Int) (.u8 c.st) (.u8 c.el) (.b c.en) (.u8 c.at') (.u8 c.qu) (.u8 c.pa) (.u8 c.su) (.b c.es) (.u8 c.da) (.s c.nm) 0 0 false 0 0 0 0 false 0 [] = some (rfeedL c r).toAV
  | [], p, c, h => by
    apply r77_4
    simp only [X77_4, nlt_len, nlt_self, List.append_nil, Option.bind_some, selW_tf, condM_b, Bool.false_eq_true, if_false, mk_toAV, mk_eta, rfeedL]
  | b :: r, p, c, h => by
    apply r77_4
    simp only [X77_4, lt_len, idxS_at, w64_inc p b r h, u8_eql, conv_int_u8, int_eql, i_beq _ _ (show 17 < 256 by decide), Option.bind_some, selW_or, selW_and, Bool.true_and, condM_b, mk_toAV, mk_eta, s76, asAg_toAV, ten0, ten1, ten2, ten3, ten4, ten5, ten6, ten7, ten8, ten9, rfeedL, toAV_ite]
    rw [snoc_app, l77 r (p ++ [b]) _ (by rw [← snoc_app]; exact h)]
theorem s77 (s : List UInt8) (h : s.length < 9223372036854775808) : semCall C Tryd.prog 77 [c.toAV, .s s] = some (fed c s true).toAV := by
  apply c77
  rw [← rfeed_eq]
  exact l77 s [] { c with st := 17, nm := [] } h
theorem s61 : semCall C Tryd.prog 61 [c.toAV, .u8 b] = some (rnote c b).toAV := by
  have t0 := s53 0
  have t12 := s53 12
  have t13 := s53 13
  have t14 := s53 14
  have t15 := s53 15
  have t16 := s53 16
  simp only [show ((0 : UInt8).toNat : Int) = 0 from rfl, show ((12 : UInt8).toNat : Int) = 12 from rfl, show ((13 : UInt8).toNat : Int) = 13 from rfl, show ((14 : UInt8).toNat : Int) = 14 from rfl, show ((15 : UInt8).toNat : Int) = 15 from rfl, show ((16 : UInt8).toNat : Int) = 16 from rfl] at t0 t12 t13 t14 t15 t16
  have f33 : F61_33 (semRun C Tryd.prog 61 Tryd.f61) c.st c.el c.en c.at' c.qu c.pa c.su c.es c.da c.nm 0 0 false 0 0 0 0 false 0 [] = some c.toAV := by
    apply r61_33
    rfl
  have f24 (d : Ctx) : F61_24 (semRun C Tryd.prog 61 Tryd.f61) d.st d.el d.en d.at' d.qu d.pa d.su d.es (.u8 d.da) d.nm 0 0 false 0 0 0 0 false 0 [] = some d.toAV := by
    apply r61_24
    rfl
  have f4 : F61_4 (semRun C Tryd.prog 61 Tryd.f61) b c.st c.el c.en c.at' c.qu c.pa c.su c.es c.da c.nm 0 0 false 0 0 0 0 false 0 [] = some (if b == 62 then st1 0 else if b == 45 then (if c.st == 11 then st1 12 else st1 13) else st1 16 : Ctx).toAV := by
    apply r61_4
    simp only [X61_4, ueq_eq, w64_u8, i_beq _ _ (show 11 < 256 by decide), Option.bind_some, condM_b, t0, t12, t13, t16, asAg_toAV, ten0, ten1, ten2, ten3, ten4, ten5, ten6, ten7, ten8, ten9, toAV_ite]
    rfl
  have f13 : F61_13 (semRun C Tryd.prog 61 Tryd.f61) b c.st c.el c.en c.at' c.qu c.pa c.su c.es c.da c.nm 0 0 false 0 0 0 0 false 0 [] = some (if b == 62 then badC else if b != 45 then st1 15 else if c.st == 13 then st1 14 else ⟨15, 0, false, 0, 0, 0, 0, false, 2, []⟩ : Ctx).toAV := by
    apply r61_13
    simp only [X61_13, ueq_eq, une_eq, w64_u8, i_beq _ _ (show 13 < 256 by decide), Option.bind_some, condM_b, t15, t14, s32, asAg_toAV, ten0, ten1, ten2, ten3, ten4, ten5, ten6, ten7, ten8, ten9, toAV_ite]
    rfl
  have f20 : F61_20 (semRun C Tryd.prog 61 Tryd.f61) b (c.st.toNat : Int) c.st c.el c.en c.at' c.qu c.pa c.su c.es c.da c.nm 0 0 false 0 0 0 0 false 0 [] =
      some (if c.st == 15 then (if b == 45 then (if decide (c.da < 2) then { c with da := c.da + 1 } else c) else if c.da == 2 && b == 62 then st1 0 else if c.da == 2 && b == 33 then badC else st1 15)
  else if c.st == 16 then (if b == 62 then st1 0 else c) else c : Ctx).toAV := by
    apply r61_20
    simp only [X61_20, ueq_eq, ult_eq, u8_add, one_u8, i_beq _ _ (show 15 < 256 by decide), i_beq _ _ (show 16 < 256 by decide), Option.bind_some, selW_and, condM_b, t0, t15, s32, asAg_toAV, ten0, ten1, ten2, ten3, ten4, ten5, ten6, ten7, ten8, ten9, toAV_ite, f33]
    rw [f24 c, f24 { c with da := c.da + 1 }]
    rfl
  have f11 : F61_11 (semRun C Tryd.prog 61 Tryd.f61) b (c.st.toNat : Int) c.st c.el c.en c.at' c.qu c.pa c.su c.es c.da c.nm 0 0 false 0 0 0 0 false 0 [] =
      some (if c.st == 13 || c.st == 14 then (if b == 62 then badC else if b != 45 then st1 15 else if c.st == 13 then st1 14 else ⟨15, 0, false, 0, 0, 0, 0, false, 2, []⟩)
  else if c.st == 15 then (if b == 45 then (if decide (c.da < 2) then { c with da := c.da + 1 } else c) else if c.da == 2 && b == 62 then st1 0 else if c.da == 2 && b == 33 then badC else st1 15)
  else if c.st == 16 then (if b == 62 then st1 0 else c) else c : Ctx).toAV := by
    apply r61_11
    simp only [X61_11, i_beq _ _ (show 13 < 256 by decide), i_beq _ _ (show 14 < 256 by decide), condM_b, f13, f20]
    show (if (c.st == 13) = true then _ else if (c.st == 14) = true then _ else _) = _
    by_cases h1 : (c.st == 13) = true
    · rw [if_pos h1]; exact congrArg (fun x => some (Ctx.toAV x)) (if_pos (by rw [h1]; rfl)).symm
    · rw [if_neg h1]
      by_cases h2 : (c.st == 14) = true
      · rw [if_pos h2]; exact congrArg (fun x => some (Ctx.toAV x)) (if_pos (by rw [h2]; simp)).symm
      · rw [if_neg h2]; exact congrArg (fun x => some (Ctx.toAV x)) (if_neg (by simp only [Bool.or_eq_true]; exact fun e => e.elim h1 h2)).symm
  apply c61
  simp only [X61, w64_u8, i_beq _ _ (show 11 < 256 by decide), i_beq _ _ (show 12 < 256 by decide), condM_b, f4, f11]
  unfold rnote
  show (if (c.st == 11) = true then _ else if (c.st == 12) = true then _ else _) = _
  by_cases h1 : (c.st == 11) = true
  · rw [if_pos h1]; exact congrArg (fun x => some (Ctx.toAV x)) (if_pos (by rw [h1]; rfl)).symm
  · rw [if_neg h1]
    by_cases h2 : (c.st == 12) = true
    · rw [if_pos h2]; exact congrArg (fun x => some (Ctx.toAV x)) (if_pos (by rw [h2]; simp)).symm
    · rw [if_neg h2]; exact congrArg (fun x => some (Ctx.toAV x)) (if_neg (by simp only [Bool.or_eq_true]; exact fun e => e.elim h1 h2)).symm
theorem x34_9 (h : c.st = 9) : X34 (semCall C Tryd.prog) (semRun C Tryd.prog 34 Tryd.f34) c.st c.el c.en c.at' c.qu c.pa c.su c.es c.da c.nm b = some (tag c b).1.toAV := by
  obtain ⟨st, el, en, at', qu, pa, su, es, da, nm⟩ := c
  simp only at h
  subst h
  have w9 : w64 ((9 : UInt8).toNat : Int) = 9 := rfl
  simp only [X34, w9, condM_b]
  simp only [show ((9 : Int) == 0) = false from rfl, show ((9 : Int) == 1) = false from rfl, show ((9 : Int) == 2) = false from rfl, show ((9 : Int) == 3) = false from rfl, show ((9 : Int) == 9) = true from rfl, Bool.false_eq_true, if_false, if_true, s36, s32, mk_toAV, mk_eta, s57, ueq_eq, Option.bind_some, condM_b, asAg_toAV, ten0, ten1, ten2, ten3, ten4, ten5, ten6, ten7, ten8, ten9]
  unfold tag
  simp only [show ((9 : UInt8) == 3) = false from rfl, show ((9 : UInt8) == 9) = true from rfl, Bool.false_eq_true, if_false, if_true]
  cases blankB b <;> cases (b == 47) <;> cases (b == 62) <;> rfl
theorem s34_9 (h : c.st = 9) : semCall C Tryd.prog 34 [c.toAV, .u8 b] = some (tag c b).1.toAV := by
  apply c34
  exact x34_9 c b h
end
end R4

namespace R4
open Go Go.Proofs Sx

section
variable (c : Ctx) (b : UInt8)
theorem pre_sel (m n : List UInt8) : selW (.b (decide ((m.length : Int) ≤ (n.length : Int)))) true ((slS (.s n) none (some (.int (m.length : Int)))).bind fun v90 => (binS .eql v90 (.s m)).bind fun v91 => some v91) (.b false) = some (.b (pre m n)) := by
  by_cases hl : m.length ≤ n.length
  · rw [slS_hi hl]; simp [pre, hl]
  · have : decide ((m.length : Int) ≤ (n.length : Int)) = false := by simp; omega
    rw [this, selW_tf]; simp [pre, hl]
theorem s60 (h : c.nm.length ≤ 100) (hs : c.st = 17 ∨ c.st = 18 ∨ c.st = 19) : semCall C Tryd.prog 60 [c.toAV, .u8 b] = some (raw c b true).toAV := by
  have f23 (d : Ctx) : F60_23 (semRun C Tryd.prog 60 Tryd.f60) (.u8 d.st) (.u8 d.el) (.b d.en) (.u8 d.at') (.u8 d.qu) (.u8 d.pa) (.u8 d.su) (.b d.es) (.u8 d.da) (.s d.nm) 0 0 false 0 0 0 0 false 0 [] = some d.toAV := by
    apply r60_23
    rfl
  have f20 (d : Ctx) (hd : (d.st == 20) = false) : F60_20 (semRun C Tryd.prog 60 Tryd.f60) b (.u8 d.st) (.u8 d.el) (.b d.en) (.u8 d.at') (.u8 d.qu) (.u8 d.pa) (.u8 d.su) (.b d.es) (.u8 d.da) (.s d.nm) 0 0 false 0 0 0 0 false 0 [] = some (raw2 d b true).toAV := by
    apply r60_20
    simp only [X60_20, Option.bind_some, b2s_one, mk_toAV, mk_eta]
    rw [s77 d [b] (by simp)]
    simp only [Option.bind_some, asAg_toAV, ten0, ten1, ten2, ten3, ten4, ten5, ten6, ten7, ten8, ten9, conv_int_u8, int_eql, i_beq _ _ (show 17 < 256 by decide), ueq_eq, selW_and, condM_b]
    rw [f23 (fed d [b] true), f23 { fed d [b] true with st := 18 }]
    simp only [raw2, hd, toAV_ite, Bool.false_eq_true, if_false]
    try rfl
  have a1 : binS .add (.s c.nm) (.s [lowb b]) = some (.s (c.nm ++ [lowb b])) := s_add' (by simp; omega)
  have a2 : binS .add (.s [47]) (.s c.nm) = some (.s (47 :: c.nm)) := s_add' (by simp; omega)
  have a3 := s77 c (47 :: c.nm) (by simp; omega)
  have lk := s34_9 ⟨9, 0, true, 0, 0, 0, 0, false, 0, []⟩ b rfl
  have f8 : F60_8 (semRun C Tryd.prog 60 Tryd.f60) b (.s (nameOf c.el)) c.st c.el c.en c.at' c.qu c.pa c.su c.es c.da c.nm 0 0 false 0 0 0 0 false 0 [] =
      some (if c.st == 19 then (if c.nm == nameOf c.el && (blankB b || b == 47 || b == 62) then (if !ends c then badC else (tag ⟨9, 0, true, 0, 0, 0, 0, false, 0, []⟩ b).1) else if pre (c.nm ++ [lowb b]) (nameOf c.el) then { c with nm := c.nm ++ [lowb b] } else raw2 (fed c (47 :: c.nm) true) b true) else raw2 c b true : Ctx).toAV := by
    apply r60_8
    simp only [X60_8, w64_u8, ueq_eq, une_eq, s_eql, Option.bind_some, selW_or, selW_and, condM_b, s36, s37, s32, a1, a2, lenS_s, int_leq, mk_toAV, mk_eta, lk, a3, pre_sel, asAg_toAV, ten0, ten1, ten2, ten3, ten4, ten5, ten6, ten7, ten8, ten9, one_s, conv_int_u8, int_eql, i_beq _ _ (show 19 < 256 by decide), i_beq _ _ (show 20 < 256 by decide), toAV_ite]
    have hb : (if ((fed c (47 :: c.nm) true).st == OfNat.ofNat 20) = true then some badC.toAV else F60_20 (semRun C Tryd.prog 60 Tryd.f60) b (.u8 (fed c (47 :: c.nm) true).st) (.u8 (fed c (47 :: c.nm) true).el) (.b (fed c (47 :: c.nm) true).en) (.u8 (fed c (47 :: c.nm) true).at') (.u8 (fed c (47 :: c.nm) true).qu) (.u8 (fed c (47 :: c.nm) true).pa) (.u8 (fed c (47 :: c.nm) true).su) (.b (fed c (47 :: c.nm) true).es) (.u8 (fed c (47 :: c.nm) true).da) (.s (fed c (47 :: c.nm) true).nm) 0 0 false 0 0 0 0 false 0 []) = some (raw2 (fed c (47 :: c.nm) true) b true).toAV := by
      by_cases hx : ((fed c (47 :: c.nm) true).st == 20) = true
      · rw [if_pos hx]
        unfold raw2
        rw [if_pos hx]
      · rw [if_neg hx, f20 _ (by simpa using hx)]
    have he : (c.su != 0 && c.su != 4) = !ends c := by unfold ends bne; cases (c.su == 0) <;> cases (c.su == 4) <;> rfl
    rw [he]
    by_cases h19 : (c.st == 19) = true
    · refine (if_pos h19).trans (Eq.trans ?_ (if_pos h19).symm)
      exact congrArg _ (congrArg _ hb)
    · refine (if_neg h19).trans (Eq.trans ?_ (if_neg h19).symm)
      exact f20 c (by rcases hs with e | e | e <;> rw [e] <;> rfl)
  apply c60
  simp only [X60, w64_u8, s35, i_beq _ _ (show 18 < 256 by decide), ueq_eq, Option.bind_some, selW_and, condM_b, f8, s32, mk_toAV, asAg_toAV, ten0, ten1, ten2, ten3, ten4, ten5, ten6, ten7, ten8, ten9]
  unfold raw
  rcases hs with e | e | e
  · rw [e]; rfl
  · rw [e]
    cases (b == 47) <;> cases (b == 33) <;> cases (c.el == 3) <;> rfl
  · rw [e]
    simp only [toAV_ite]
    cases (c.nm == nameOf c.el) <;> cases (blankB b || b == 47 || b == 62) <;> cases pre (c.nm ++ [lowb b]) (nameOf c.el) <;> cases ends c <;> rfl
end
end R4

namespace R4
open Go Go.Proofs Sx

section
variable (b : UInt8)
theorem l34 : ∀ (n : Nat) (c d : Ctx), Q c b → again n c b true = some d → semCall C Tryd.prog 34 [c.toAV, .u8 b] = some d.toAV
  | 0, c, d, hQ, h => by cases h
  | n + 1, c, d, hQ, h => by
    have IH := l34 n
    have hnm := Q_nm hQ
    have t0 := s53 0
    have t1 := s53 1
    have t2 := s53 2
    have t11 := s53 11
    have t16 := s53 16
    simp only [show ((0 : UInt8).toNat : Int) = 0 from rfl, show ((1 : UInt8).toNat : Int) = 1 from rfl, show ((2 : UInt8).toNat : Int) = 2 from rfl, show ((11 : UInt8).toNat : Int) = 11 from rfl, show ((16 : UInt8).toNat : Int) = 16 from rfl] at t0 t1 t2 t11 t16
    -- what names lead to
    have nmd (h56 : c.st = 5 ∨ c.st = 6) (hh : (if (named c b).2 then again n (named c b).1 b true else some (named c b).1) = some d) : semCall C Tryd.prog 58 [c.toAV, (within c 0).toAV, .u8 b] = some d.toAV := by
      apply c58
      simp only [X58, ueq_eq, w64_u8, i_beq _ _ (show 6 < 256 by decide), Option.bind_some, selW_or, condM_b, s74, conv_back, one_u8, s36, s32, s56, mk_toAV, mk_eta, asAg_toAV, ten0, ten1, ten2, ten3, ten4, ten5, ten6, ten7, ten8, ten9]
      have hne : (b == 61) = true → (c.nm != []) = true := by
        intro hb
        rcases hQ with hf | ⟨_, h61, _⟩
        · have := (form_st5 c hf h56).2
          have := small_len this
          cases hn : c.nm with
          | nil => rw [hn] at this; exact absurd this.1 (by simp)
          | cons x r => rfl
        · rw [hb] at h61; cases h61
      unfold named at hh
      cases h61 : (b == 61) with
      | true =>
        rw [h61, hne h61] at hh
        rw [if_pos rfl]
        cases hh; rfl
      | false =>
      rw [h61, Bool.false_and] at hh
      rw [if_neg (by simp)]
      cases h47 : (b == 47 || b == 62) with
      | true =>
        rw [h47] at hh
        rw [if_pos rfl]
        have hf : form c = true := by
          rcases hQ with hf | ⟨_, _, hx, _⟩
          · exact hf
          · rw [h47] at hx; cases hx
        have := IH (within c 9) d (.inl (form_within c hf 9 (by simp))) hh
        rw [show (⟨9, (within c 0).el, (within c 0).en, (within c 0).at', (within c 0).qu, (within c 0).pa, (within c 0).su, (within c 0).es, (within c 0).da, (within c 0).nm⟩ : Ctx) = within c 9 from rfl, this]
        simp only [Option.bind_some, asAg_toAV, ten0, ten1, ten2, ten3, ten4, ten5, ten6, ten7, ten8, ten9, mk_toAV, mk_eta]
      | false =>
      rw [h47] at hh
      rw [if_neg (by simp)]
      cases hbl : blankB b with
      | true =>
        rw [hbl] at hh
        rw [if_pos rfl]
        cases hh; rfl
      | false =>
      rw [hbl] at hh
      rw [if_neg (by simp)]
      cases h6 : (c.st == 6) with
      | true =>
        rw [h6] at hh
        rw [if_pos (by simp)]
        have hf : form c = true := by
          rcases hQ with hf | ⟨hx, _⟩
          · exact hf
          · rw [hx] at h6; cases h6
        have := IH (within c 4) d (.inl (form_within c hf 4 (by simp))) hh
        rw [show (⟨4, (within c 0).el, (within c 0).en, (within c 0).at', (within c 0).qu, (within c 0).pa, (within c 0).su, (within c 0).es, (within c 0).da, (within c 0).nm⟩ : Ctx) = within c 4 from rfl, this]
        simp only [Option.bind_some, asAg_toAV, ten0, ten1, ten2, ten3, ten4, ten5, ten6, ten7, ten8, ten9, mk_toAV, mk_eta]
      | false =>
      rw [h6] at hh
      rw [if_neg (by simp)]
      cases hq : (b == 34 || b == 39 || b == 60) with
      | true => rw [hq] at hh; cases hh; rfl
      | false => rw [hq] at hh; cases hh; rfl
    have f57 (h56 : c.st = 5 ∨ c.st = 6) (hh : (if (named c b).2 then again n (named c b).1 b true else some (named c b).1) = some d) : F34_57 (semRun C Tryd.prog 34 Tryd.f34) b c.st c.el c.en c.at' c.qu c.pa c.su c.es c.da c.nm 0 0 false 0 0 0 0 false 0 [] 0 c.el c.en 0 0 0 0 false 0 [] = some d.toAV := by
      apply r34_57
      have := nmd h56 hh
      simp only [X34_57, mk_toAV, mk_eta]
      rw [show (⟨0, c.el, c.en, 0, 0, 0, 0, false, 0, []⟩ : Ctx) = within c 0 from rfl, this]
      simp only [Option.bind_some, asAg_toAV, ten0, ten1, ten2, ten3, ten4, ten5, ten6, ten7, ten8, ten9, mk_toAV, mk_eta]
    have f27 (el : UInt8) (hf : form (within { c with el := el } 9) = true) (hh : again n (within { c with el := el } 9) b true = some d) : F34_27 (semRun C Tryd.prog 34 Tryd.f34) b 0 0 false 0 0 0 0 false 0 [] 0 (.u8 el) c.en 0 0 0 0 false 0 [] = some d.toAV := by
      apply r34_27
      have := IH (within { c with el := el } 9) d (.inl hf) hh
      simp only [X34_27, mk_toAV, mk_eta]
      rw [show (⟨9, el, c.en, 0, 0, 0, 0, false, 0, []⟩ : Ctx) = within { c with el := el } 9 from rfl, this]
      simp only [Option.bind_some, asAg_toAV, ten0, ten1, ten2, ten3, ten4, ten5, ten6, ten7, ten8, ten9, mk_toAV, mk_eta]
    have f73 (hs : c.st = 17 ∨ c.st = 18 ∨ c.st = 19) : F34_73 (semRun C Tryd.prog 34 Tryd.f34) b c.st c.el c.en c.at' c.qu c.pa c.su c.es c.da c.nm 0 0 false 0 0 0 0 false 0 [] = some (raw c b true).toAV := by
      apply r34_73
      simp only [X34_73, mk_toAV, mk_eta, s60 c b (by omega) hs, Option.bind_some, asAg_toAV, ten0, ten1, ten2, ten3, ten4, ten5, ten6, ten7, ten8, ten9]
    have f74 : F34_74 (semRun C Tryd.prog 34 Tryd.f34) b c.st c.el c.en c.at' c.qu c.pa c.su c.es c.da c.nm 0 0 false 0 0 0 0 false 0 [] = some (rnote c b).toAV := by
      apply r34_74
      simp only [X34_74, mk_toAV, mk_eta, s61, Option.bind_some, asAg_toAV, ten0, ten1, ten2, ten3, ten4, ten5, ten6, ten7, ten8, ten9]
    have val := s59 c b (by omega)
    unfold again at h
    apply c34
    -- the special one
    rcases hQ with hf | ⟨hx, h61, h47, hbl⟩
    case inr =>
      have e : c.st = 5 := by rw [hx]; rfl
      rw [e] at h
      have h : (if (named c b).2 then again n (named c b).1 b true else some (named c b).1) = some d := by
        unfold tag at h
        rw [e] at h
        exact h
      have := f57 (.inl e) h
      rw [e] at this ⊢
      exact this
    rcases st_cases c.st with e | e | e | e | e | e | e | e | e | e | e | e | e | e | e | e | e | e | e | e | e | e
    · -- text
      have hc := form_pl c hf (by simp [e])
      rw [e] at hc
      subst hc
      rw [show (if ((st1 0).st == 0) = true then (if (b == 60) = true then some { st1 0 with st := 1 } else some (st1 0)) else _ : Option Ctx) = (if (b == 60) = true then some (st1 1) else some (st1 0)) from rfl] at h
      show condM (.b (ueq b 60)) ((semCall C Tryd.prog 53 [.int 1]).bind _) (some (st1 0).toAV) = _
      rw [condM_b, ueq_eq, t1]
      cases hb : (b == 60) with
      | true => rw [hb] at h; cases h; rfl
      | false => rw [hb] at h; cases h; rfl
    · have hc := form_pl c hf (by simp [e])
      rw [e] at hc
      subst hc
      have h : (if (opened b).2 then some (opened b).1 else again n (st1 0) b true) = some d := h
      show (semCall C Tryd.prog 54 [.u8 b]).bind _ = _
      simp only [s54, s37, Option.bind_some, condM_b, ueq_eq, one_s, t0, t2, t11, t16, asAg_toAV, ten0, ten1, ten2, ten3, ten4, ten5, ten6, ten7, ten8, ten9, mk_toAV, mk_eta]
      unfold opened at h
      cases hl : letter b with
      | true => rw [hl] at h; cases h; rfl
      | false =>
      rw [hl] at h
      rw [if_neg (by simp)]
      cases h1 : (b == 47) with
      | true => rw [h1] at h; cases h; rfl
      | false =>
      rw [h1] at h
      rw [if_neg (by simp)]
      cases h2 : (b == 33) with
      | true => rw [h2] at h; cases h; rfl
      | false =>
      rw [h2] at h
      rw [if_neg (by simp)]
      cases h3 : (b == 63) with
      | true => rw [h3] at h; cases h; rfl
      | false =>
      rw [h3] at h
      rw [if_neg (by simp), IH (st1 0) d (.inl rfl) h]
      simp only [Option.bind_some, asAg_toAV, ten0, ten1, ten2, ten3, ten4, ten5, ten6, ten7, ten8, ten9, mk_toAV, mk_eta]
    · have hc := form_pl c hf (by simp [e])
      rw [e] at hc
      subst hc
      have h : some (closed b) = some d := h
      show (semCall C Tryd.prog 54 [.u8 b]).bind _ = _
      simp only [s54, s37, Option.bind_some, condM_b, ueq_eq, one_s, t0, t2, t11, t16, asAg_toAV, ten0, ten1, ten2, ten3, ten4, ten5, ten6, ten7, ten8, ten9, mk_toAV, mk_eta]
      cases h
      unfold closed
      cases hl : letter b <;> cases h1 : (b == 62) <;> rfl
    · have hh : (if (tag c b).2 then again n (tag c b).1 b true else some (tag c b).1) = some d := by rw [e] at h; exact h
      unfold X34
      rw [e]
      simp only [show w64 ((3 : UInt8).toNat : Int) = 3 from rfl, Int.reduceBEq, condM_b, Bool.false_eq_true, if_false, if_true]
      simp only [s36, s55, conv_back, one_u8, s56, ueq_eq, selW_or, Option.bind_some, condM_b]
      obtain ⟨hc, _⟩ := form_st3 c hf e
      have hel : c.el = 0 := by rw [hc]
      unfold tag at hh
      rw [e] at hh
      have e3 : ((3 : UInt8) == 3) = true := rfl
      rw [e3, if_pos rfl] at hh
      have hneg : (!blankB b && b != 47 && b != 62) = !(blankB b || b == 47 || b == 62) := by unfold bne; cases blankB b <;> cases (b == 47) <;> cases (b == 62) <;> rfl
      rw [hneg] at hh
      cases hx : (blankB b || b == 47 || b == 62) with
      | false =>
        rw [hx] at hh
        rw [if_neg (by simp)]
        have g := s56 c b
        unfold Ctx.toAV cx at g
        rw [e] at g
        rw [g]
        cases hh
        rfl
      | true =>
        rw [hx] at hh
        rw [if_pos rfl]
        cases hen : c.en with
        | true =>
          rw [hen] at hh
          rw [if_neg (by simp)]
          have := f27 c.el (form_within c hf 9 (by simp)) hh
          rw [hen] at this
          exact this
        | false =>
          rw [hen] at hh
          rw [if_pos (by simp)]
          have hfe : form (within { c with el := elOf c.nm } 9) = true := by
            have := form_tagS 9 (elOf c.nm) c.en (by simp)
            unfold within
            rw [this, hen, decide_eq_true (elOf_le c.nm)]; rfl
          have := f27 (elOf c.nm) hfe (by
            show again n ⟨9, elOf c.nm, c.en, 0, 0, 0, 0, false, 0, []⟩ b true = some d
            rw [hen]; exact hh)
          rw [hen] at this
          exact this
    · have hh : (if (tag c b).2 then again n (tag c b).1 b true else some (tag c b).1) = some d := by rw [e] at h; exact h
      unfold X34
      rw [e]
      simp only [show w64 ((4 : UInt8).toNat : Int) = 4 from rfl, Int.reduceBEq, condM_b, Bool.false_eq_true, if_false, if_true]
      have hc := form_st4 c hf (by simp [e])
      unfold tag at hh
      rw [e] at hh
      simp only [show ((4 : UInt8) == 3) = false from rfl, show ((4 : UInt8) == 9) = false from rfl, show ((4 : UInt8) == 10) = false from rfl, show ((4 : UInt8) == 4) = true from rfl, Bool.false_eq_true, if_false, if_true] at hh
      simp only [s36, s32, ueq_eq, selW_or, Option.bind_some, condM_b, asAg_toAV, ten0, ten1, ten2, ten3, ten4, ten5, ten6, ten7, ten8, ten9, mk_toAV, mk_eta]
      cases hbl : blankB b with
      | true => rw [hbl] at hh; cases hh; rw [if_pos rfl, ← e]; rfl
      | false =>
      rw [hbl] at hh
      rw [if_neg (by simp)]
      cases h47 : (b == 47 || b == 62) with
      | true =>
        rw [h47] at hh
        rw [if_pos rfl, show (⟨9, c.el, c.en, 0, 0, 0, 0, false, 0, []⟩ : Ctx) = within c 9 from rfl, IH (within c 9) d (.inl (form_within c hf 9 (by simp))) hh]
        simp only [Option.bind_some, asAg_toAV, ten0, ten1, ten2, ten3, ten4, ten5, ten6, ten7, ten8, ten9, mk_toAV, mk_eta]
      | false =>
      rw [h47] at hh
      rw [if_neg (by simp)]
      cases h61 : (b == 61) with
      | true => rw [h61] at hh; cases hh; rfl
      | false =>
        rw [h61] at hh
        have hcw : { c with st := 5 } = within c 5 := by rw [hc]; rfl
        rw [if_neg (by simp), show (⟨5, c.el, c.en, 0, 0, 0, 0, false, 0, []⟩ : Ctx) = within c 5 from rfl, IH (within c 5) d (.inr ⟨rfl, h61, h47, hbl⟩) (by rw [← hcw]; exact hh)]
        simp only [Option.bind_some, asAg_toAV, ten0, ten1, ten2, ten3, ten4, ten5, ten6, ten7, ten8, ten9, mk_toAV, mk_eta]
    · have hh : (if (tag c b).2 then again n (tag c b).1 b true else some (tag c b).1) = some d := by rw [e] at h; exact h
      unfold X34
      rw [e]
      simp only [show w64 ((5 : UInt8).toNat : Int) = 5 from rfl, Int.reduceBEq, condM_b, Bool.false_eq_true, if_false, if_true]
      have hh' : (if (named c b).2 then again n (named c b).1 b true else some (named c b).1) = some d := by
        unfold tag at hh
        rw [e] at hh
        exact hh
      have := f57 (by simp [e]) hh'
      rw [e] at this
      exact this
    · have hh : (if (tag c b).2 then again n (tag c b).1 b true else some (tag c b).1) = some d := by rw [e] at h; exact h
      unfold X34
      rw [e]
      simp only [show w64 ((6 : UInt8).toNat : Int) = 6 from rfl, Int.reduceBEq, condM_b, Bool.false_eq_true, if_false, if_true]
      have hh' : (if (named c b).2 then again n (named c b).1 b true else some (named c b).1) = some d := by
        unfold tag at hh
        rw [e] at hh
        exact hh
      have := f57 (by simp [e]) hh'
      rw [e] at this
      exact this
    · have hh : (if (tag c b).2 then again n (tag c b).1 b true else some (tag c b).1) = some d := by rw [e] at h; exact h
      unfold X34
      rw [e]
      simp only [show w64 ((7 : UInt8).toNat : Int) = 7 from rfl, Int.reduceBEq, condM_b, Bool.false_eq_true, if_false, if_true]
      have hc := form_st7 c hf e
      have hh' : (if (begunV c b).2 then again n (begunV c b).1 b true else some (begunV c b).1) = some d := by
        unfold tag at hh
        rw [e] at hh
        exact hh
      apply r34_58
      simp only [X34_58, Int.reduceBEq, condM_b, Bool.false_eq_true, if_false, if_true, s36, s32, ueq_eq, selW_or, Option.bind_some, condM_b, asAg_toAV, ten0, ten1, ten2, ten3, ten4, ten5, ten6, ten7, ten8, ten9, mk_toAV, mk_eta]
      unfold begunV at hh'
      cases hbl : blankB b with
      | true => rw [hbl] at hh'; cases hh'; rw [if_pos rfl, ← e]; rfl
      | false =>
      rw [hbl] at hh'
      rw [if_neg (by simp)]
      cases h62 : (b == 62) with
      | true => rw [h62] at hh'; cases hh'; rfl
      | false =>
      rw [h62] at hh'
      rw [if_neg (by simp)]
      cases hq : (b == 34 || b == 39) with
      | true => rw [hq] at hh'; cases hh'; rfl
      | false =>
        rw [hq] at hh'
        obtain ⟨q1, q2⟩ := form_en c hf
        have hf8 : form { c with st := 8 } = true := by
          have := form_st8mk c.el c.at' 0 c.en q1 q2 (form_at c hf) (.inl rfl)
          rw [hc]; exact this
        rw [if_neg (by simp), show (⟨8, c.el, c.en, c.at', c.qu, c.pa, c.su, c.es, c.da, c.nm⟩ : Ctx) = { c with st := 8 } from rfl, IH { c with st := 8 } d (.inl hf8) hh']
        simp only [Option.bind_some, asAg_toAV, ten0, ten1, ten2, ten3, ten4, ten5, ten6, ten7, ten8, ten9, mk_toAV, mk_eta]
    · have hh : some (value c b) = some d := by rw [e] at h; exact h
      unfold X34
      rw [e]
      simp only [show w64 ((8 : UInt8).toNat : Int) = 8 from rfl, Int.reduceBEq, condM_b, Bool.false_eq_true, if_false, if_true]
      have hv : rvalue c b = value c b := rvalue_eq c b fun _ => rurl_eq c b (form_pa c hf) (form_url c hf e)
      rw [hv] at val
      apply r34_58
      rw [← e]
      simp only [X34_58, Int.reduceBEq, condM_b, Bool.false_eq_true, if_false, if_true, asAg_toAV, ten0, ten1, ten2, ten3, ten4, ten5, ten6, ten7, ten8, ten9, mk_toAV, mk_eta]
      rw [show (⟨0, c.el, c.en, 0, 0, 0, 0, false, 0, []⟩ : Ctx) = within c 0 from rfl, val]
      simp only [Option.bind_some, asAg_toAV, ten0, ten1, ten2, ten3, ten4, ten5, ten6, ten7, ten8, ten9, mk_toAV, mk_eta]
      exact congrArg _ (congrArg _ (Option.some.inj hh))
    · have hh : (if (tag c b).2 then again n (tag c b).1 b true else some (tag c b).1) = some d := by rw [e] at h; exact h
      rw [tag9 c b e, if_neg (by simp)] at hh
      rw [x34_9 c b e]
      cases hh; rfl
    · have hh : (if (tag c b).2 then again n (tag c b).1 b true else some (tag c b).1) = some d := by rw [e] at h; exact h
      unfold X34
      rw [e]
      simp only [show w64 ((10 : UInt8).toNat : Int) = 10 from rfl, Int.reduceBEq, condM_b, Bool.false_eq_true, if_false, if_true]
      unfold tag at hh
      rw [e] at hh
      simp only [show ((10 : UInt8) == 3) = false from rfl, show ((10 : UInt8) == 9) = false from rfl, show ((10 : UInt8) == 10) = true from rfl, Bool.false_eq_true, if_false, if_true] at hh
      have en := s57 c
      unfold Ctx.toAV cx at en
      rw [e] at en
      simp only [en, ueq_eq, Option.bind_some, condM_b]
      cases h62 : (b == 62) with
      | true => rw [h62] at hh; cases hh; rfl
      | false =>
        rw [h62] at hh
        rw [if_neg (by simp), show (.ag [.u8 4, .u8 c.el, .b c.en, .u8 0, .u8 0, .u8 0, .u8 0, .b false, .u8 0, .s []] : AV) = (within c 4).toAV from rfl, IH (within c 4) d (.inl (form_within c hf 4 (by simp))) hh]
        simp only [Option.bind_some, asAg_toAV, ten0, ten1, ten2, ten3, ten4, ten5, ten6, ten7, ten8, ten9, mk_toAV, mk_eta]
    · have hh : some (note c b) = some d := by rw [e] at h; exact h
      unfold X34
      rw [e]
      simp only [show w64 ((11 : UInt8).toNat : Int) = 11 from rfl, Int.reduceBEq, condM_b, Bool.false_eq_true, if_false, if_true]
      rw [rnote_eq c b (fun hx => (by rw [e] at hx; cases hx))] at f74
      apply r34_58
      rw [← e]
      simp only [X34_58, Int.reduceBEq, condM_b, Bool.false_eq_true, if_false, f74]
      exact congrArg _ (congrArg _ (Option.some.inj hh))
    · have hh : some (note c b) = some d := by rw [e] at h; exact h
      unfold X34
      rw [e]
      simp only [show w64 ((12 : UInt8).toNat : Int) = 12 from rfl, Int.reduceBEq, condM_b, Bool.false_eq_true, if_false, if_true]
      rw [rnote_eq c b (fun hx => (by rw [e] at hx; cases hx))] at f74
      apply r34_58
      rw [← e]
      simp only [X34_58, Int.reduceBEq, condM_b, Bool.false_eq_true, if_false, f74]
      exact congrArg _ (congrArg _ (Option.some.inj hh))
    · have hh : some (note c b) = some d := by rw [e] at h; exact h
      unfold X34
      rw [e]
      simp only [show w64 ((13 : UInt8).toNat : Int) = 13 from rfl, Int.reduceBEq, condM_b, Bool.false_eq_true, if_false, if_true]
      rw [rnote_eq c b (fun hx => (by rw [e] at hx; cases hx))] at f74
      apply r34_58
      rw [← e]
      simp only [X34_58, Int.reduceBEq, condM_b, Bool.false_eq_true, if_false, f74]
      exact congrArg _ (congrArg _ (Option.some.inj hh))
    · have hh : some (note c b) = some d := by rw [e] at h; exact h
      unfold X34
      rw [e]
      simp only [show w64 ((14 : UInt8).toNat : Int) = 14 from rfl, Int.reduceBEq, condM_b, Bool.false_eq_true, if_false, if_true]
      rw [rnote_eq c b (fun hx => (by rw [e] at hx; cases hx))] at f74
      apply r34_58
      rw [← e]
      simp only [X34_58, Int.reduceBEq, condM_b, Bool.false_eq_true, if_false, f74]
      exact congrArg _ (congrArg _ (Option.some.inj hh))
    · have hh : some (note c b) = some d := by rw [e] at h; exact h
      unfold X34
      rw [e]
      simp only [show w64 ((15 : UInt8).toNat : Int) = 15 from rfl, Int.reduceBEq, condM_b, Bool.false_eq_true, if_false, if_true]
      rw [rnote_eq c b (fun hx => form_st15 c hf e)] at f74
      apply r34_58
      rw [← e]
      simp only [X34_58, Int.reduceBEq, condM_b, Bool.false_eq_true, if_false, f74]
      exact congrArg _ (congrArg _ (Option.some.inj hh))
    · have hh : some (note c b) = some d := by rw [e] at h; exact h
      unfold X34
      rw [e]
      simp only [show w64 ((16 : UInt8).toNat : Int) = 16 from rfl, Int.reduceBEq, condM_b, Bool.false_eq_true, if_false, if_true]
      rw [rnote_eq c b (fun hx => (by rw [e] at hx; cases hx))] at f74
      apply r34_58
      rw [← e]
      simp only [X34_58, Int.reduceBEq, condM_b, Bool.false_eq_true, if_false, f74]
      exact congrArg _ (congrArg _ (Option.some.inj hh))
    · have hh : some (raw c b true) = some d := by rw [e] at h; exact h
      unfold X34
      rw [e]
      simp only [show w64 ((17 : UInt8).toNat : Int) = 17 from rfl, Int.reduceBEq, condM_b, Bool.false_eq_true, if_false, if_true]
      apply r34_58
      rw [← e]
      simp only [X34_58, Int.reduceBEq, condM_b, Bool.false_eq_true, if_false, if_true, f73 (by simp [e])]
      exact congrArg _ (congrArg _ (Option.some.inj hh))
    · have hh : some (raw c b true) = some d := by rw [e] at h; exact h
      unfold X34
      rw [e]
      simp only [show w64 ((18 : UInt8).toNat : Int) = 18 from rfl, Int.reduceBEq, condM_b, Bool.false_eq_true, if_false, if_true]
      apply r34_58
      rw [← e]
      simp only [X34_58, Int.reduceBEq, condM_b, Bool.false_eq_true, if_false, if_true, f73 (by simp [e])]
      exact congrArg _ (congrArg _ (Option.some.inj hh))
    · have hh : some (raw c b true) = some d := by rw [e] at h; exact h
      unfold X34
      rw [e]
      simp only [show w64 ((19 : UInt8).toNat : Int) = 19 from rfl, Int.reduceBEq, condM_b, Bool.false_eq_true, if_false, if_true]
      apply r34_58
      rw [← e]
      simp only [X34_58, Int.reduceBEq, condM_b, Bool.false_eq_true, if_false, if_true, f73 (by simp [e])]
      exact congrArg _ (congrArg _ (Option.some.inj hh))
    · have hh : some (note c b) = some d := by rw [e] at h; exact h
      unfold X34
      rw [e]
      simp only [show w64 ((20 : UInt8).toNat : Int) = 20 from rfl, Int.reduceBEq, condM_b, Bool.false_eq_true, if_false, if_true]
      rw [rnote_eq c b (fun hx => (by rw [e] at hx; cases hx))] at f74
      apply r34_58
      rw [← e]
      simp only [X34_58, Int.reduceBEq, condM_b, Bool.false_eq_true, if_false, f74]
      exact congrArg _ (congrArg _ (Option.some.inj hh))
    · exfalso
      have t := (of_ite (form1_of c hf)).1
      rw [decide_eq_true e] at t
      exact t rfl
theorem s34 (c : Ctx) (h : form c = true) : semCall C Tryd.prog 34 [c.toAV, .u8 b] = some (stepB c b).toAV :=
  l34 b 4 c _ (.inl h) (mv_some c b true h)
end
end R4

namespace R4
open Go Go.Proofs Sx


end R4

namespace R4
open Go Go.Proofs Sx

section
/-- Bytes by a rule. -/
theorem l27 (g : Nat) (f : Ctx → UInt8 → Ctx) (hform : ∀ c b, form (f c b) = true) (hg : ∀ (c : Ctx) (b : UInt8), form c = true → callV C (semCall C Tryd.prog) g [c.toAV, .u8 b] = some (f c b).toAV) : ∀ (r p : List UInt8) (c : Ctx), (p ++ r).length < 9223372036854775808 → form c = true →
    F27_4 (semRun C Tryd.prog 27 Tryd.f27) g (.ro 1 ((p ++ r).map .u8)) (.int (((p ++ r).map AV.u8).length : Int)) (p.length : Int) (.u8 c.st) (.u8 c.el) (.b c.en) (.u8 c.at') (.u8 c.qu) (.u8 c.pa) (.u8 c.su) (.b c.es) (.u8 c.da) (.s c.nm) 0 0 false 0 0 0 0 false 0 [] = some (ti (runL f c r (p.length : Int)))
  | [], p, c, h, hf => by
    apply r27_4
    simp only [X27_4, int_lss, nlt_map, Option.bind_some, condM_b, Bool.false_eq_true, if_false, List.append_nil, mk_toAV, mk_eta, runL, ti_mk]
  | b :: r, p, c, h, hf => by
    apply r27_4
    have hi := idx_at p b r
    simp only [X27_4, int_lss, lt_len', hi, w64_inc p b r h, Option.bind_some, condM_b, if_true, cell_u8, mk_toAV, mk_eta, hg c b hf, asAg_toAV, ten0, ten1, ten2, ten3, ten4, ten5, ten6, ten7, ten8, ten9, u8_eql, runL, ti_mk]
    split
    · rfl
    · rw [snoc_app, l27 g f hform hg r (p ++ [b]) (f c b) (by rw [← snoc_app]; exact h) (hform c b), ← snoc_len p b]
theorem s27 (g : Nat) (f : Ctx → UInt8 → Ctx) (hform : ∀ c b, form (f c b) = true) (hg : ∀ (c : Ctx) (b : UInt8), form c = true → callV C (semCall C Tryd.prog) g [c.toAV, .u8 b] = some (f c b).toAV) (c : Ctx) (l : List UInt8) (hc : c.nm.length < 9223372036854775808) (h : l.length < 9223372036854775808) :
    semCall C Tryd.prog 27 [c.toAV, .ro 1 (l.map .u8), .fn g] = some (ti (runL f (inF c) l 0)) := by
  have key (d : Ctx) (hd : form d = true) : F27_3 (semRun C Tryd.prog 27 Tryd.f27) (.ro 1 (l.map .u8)) g d.st d.el d.en d.at' d.qu d.pa d.su d.es d.da d.nm 0 0 false 0 0 0 0 false 0 [] = some (ti (runL f d l 0)) := by
    apply r27_3
    simp only [X27_3, lenR_ro, Option.bind_some]
    exact l27 g f hform hg l [] d h hd
  apply c27
  simp only [X27, mk_toAV, mk_eta, sForm (h := hc), Option.bind_some, unop_not, condM_b]
  unfold inF
  cases hf : form c with
  | true => rw [if_neg (by simp), if_pos rfl]; exact key c hf
  | false => rw [if_pos (by simp), if_neg (by simp)]; exact key badC rfl
end
end R4

namespace R4
open Go Go.Proofs Sx

/-- A place within. -/
theorem rem_within (n len : Nat) (h1 : n < 65536) (h2 : len < 9223372036854775808) : ((binI .add (.int (len : Int)) (.int 1)).bind fun v4 => binI .rem (.int (n : Int)) v4) = some (.int ((n % (len + 1) : Nat) : Int)) := by
  by_cases h : len + 1 < 9223372036854775808
  · rw [int_add (by omega) (by omega)]
    simp only [Option.bind_some]
    rw [show ((len : Int) + 1) = ((len + 1 : Nat) : Int) by simp]
    exact int_rem_nat (by omega)
  · have e : len = 9223372036854775807 := by omega
    subst e
    rw [show binI .add (.int ((9223372036854775807 : Nat) : Int)) (.int 1) = some (.int (-9223372036854775808)) by rfl]
    simp only [Option.bind_some]
    rw [int_rem (by decide), Nat.mod_eq_of_lt (by omega), Int.tmod_neg, Int.tmod_eq_of_lt (by omega) (by omega)]
theorem rem26 (x : UInt8) : binI .rem (.u8 x) (.u8 26) = some (.u8 (x % 26)) := of_isU8 (all_u8 (p := fun x => isU8 (binI .rem (.u8 x) (.u8 26)) (x % 26)) (by kernel_rfl) x)
end R4

namespace R4
open Go Go.Proofs Sx

section
variable (c : Ctx) (b : UInt8)
theorem s44 : semCall C Tryd.prog 44 [c.toAV] = some (flat c).toAV := by
  apply c44
  simp only [X44, condM_b, ueq_eq]
  have key (nm : List UInt8) : F44_3 (semRun C Tryd.prog 44 Tryd.f44) c.st c.el c.en c.at' c.qu c.pa c.su c.es c.da nm 0 0 false 0 0 0 0 false 0 [] = some (Ctx.toAV ⟨c.st, c.el, c.en, 0, c.qu, 0, 0, false, c.da, nm⟩) := by
    apply r44_3
    rfl
  rw [key, key]
  unfold flat
  cases (c.st == 8) <;> rfl
theorem s33 : semCall C Tryd.prog 33 [c.toAV] = some (flat c).toAV := by
  apply c33
  simp only [X33, condM_b, w64_u8, i_beq _ _ (show 8 < 256 by decide)]
  have key (nm : List UInt8) : F33_4 (semRun C Tryd.prog 33 Tryd.f33) 0 0 false 0 0 0 0 false 0 [] c.st c.el c.en 0 c.qu 0 0 false c.da nm = some (Ctx.toAV ⟨c.st, c.el, c.en, 0, c.qu, 0, 0, false, c.da, nm⟩) := by
    apply r33_4
    rfl
  rw [key, key]
  unfold flat
  cases (c.st == 8) <;> rfl
theorem s28 (h : c.nm.length < 9223372036854775808) : semCall C Tryd.prog 28 [c.toAV, .u8 b] = some (plainB c b).toAV := by
  apply c28
  have hn : (flat c).nm.length < 9223372036854775808 := by
    unfold flat
    simp only
    split
    · decide
    · exact h
  simp only [X28, mk_toAV, mk_eta, sForm (h := h), Option.bind_some, unop_not, condM_b, s44, s45 _ _ _ hn, asAg_toAV, ten0, ten1, ten2, ten3, ten4, ten5, ten6, ten7, ten8, ten9]
  unfold plainB
  cases form c <;> rfl
theorem tag9_flat : flat (tag ⟨9, 0, true, 0, 0, 0, 0, false, 0, []⟩ b).1 = (tag ⟨9, 0, true, 0, 0, 0, 0, false, 0, []⟩ b).1 := by
  show flat (if blankB b then (⟨4, 0, true, 0, 0, 0, 0, false, 0, []⟩, false) else if b == 47 then (⟨10, 0, true, 0, 0, 0, 0, false, 0, []⟩, false) else if b == 62 then (tagEnd 0, false) else (badC, false) : Ctx × Bool).1 = (if blankB b then (⟨4, 0, true, 0, 0, 0, 0, false, 0, []⟩, false) else if b == 47 then (⟨10, 0, true, 0, 0, 0, 0, false, 0, []⟩, false) else if b == 62 then (tagEnd 0, false) else (badC, false) : Ctx × Bool).1
  cases blankB b <;> cases (b == 47) <;> cases (b == 62) <;> rfl
theorem s20 (h : form c = true) : semCall C Tryd.prog 20 [c.toAV, .u8 b] = some (plainB c b).toAV := by
  have f24 (d : Ctx) : F20_24 (semRun C Tryd.prog 20 Tryd.f20) d.st (.u8 d.el) (.b d.en) (.u8 d.at') (.u8 d.qu) (.u8 d.pa) (.u8 d.su) (.b d.es) (.u8 d.da) d.nm 0 0 false 0 0 0 0 false 0 [] = some d.toAV := by
    apply r20_24
    rfl
  have f20 (d : Ctx) : F20_20 (semRun C Tryd.prog 20 Tryd.f20) b (.u8 d.st) (.u8 d.el) (.b d.en) (.u8 d.at') (.u8 d.qu) (.u8 d.pa) (.u8 d.su) (.b d.es) (.u8 d.da) (.s d.nm) 0 0 false 0 0 0 0 false 0 [] = some (Ctx.toAV { d with st := (if b == 60 then 18 else 17), nm := [] }) := by
    apply r20_20
    simp only [X20_20, condM_b, ueq_eq]
    rw [f24 { d with st := 18, nm := [] }, f24 { d with st := 17, nm := [] }]
    cases (b == 60) <;> rfl
  have hd := flat_form c h
  have hp : plainB c b = flat (mv (flat c) b false) := by unfold plainB; rw [if_pos h]
  have hfs : (flat c).su = 0 ∧ (flat c).es = false := ⟨rfl, rfl⟩
  apply c20
  rw [hp]
  simp only [X20, mk_toAV, mk_eta, sRForm (h := form_lt h), Option.bind_some, unop_not, condM_b, s33, asAg_toAV, ten0, ten1, ten2, ten3, ten4, ten5, ten6, ten7, ten8, ten9, conv_int_u8, int_lss, int_gtr, selW_or, u8_lss, h, Bool.not_true, Bool.false_eq_true, if_false, s35, s32]
  generalize flat c = d at hd hfs
  have hm := mv_some d b false hd
  by_cases hs : (d.st = 17 ∨ d.st = 18 ∨ d.st = 19) ∧ (d.el == 3 || d.el == 4) = true
  · obtain ⟨hs, he⟩ := hs
    obtain ⟨su, es, e1, e2, e3, _⟩ := form_raw d hd hs
    have e4 : su = 0 := by rw [e1] at hfs; exact hfs.1
    have e5 : es = false := by rw [e1] at hfs; exact hfs.2
    subst e4; subst e5
    have a1 : binS .add (.s d.nm) (.s [lowb b]) = some (.s (d.nm ++ [lowb b])) := s_add' (by have := form_nm d hd; simp; omega)
    have lk := s34_9 ⟨9, 0, true, 0, 0, 0, 0, false, 0, []⟩ b rfl
    have hc : (decide ((d.st.toNat : Int) < 17) || decide (19 < (d.st.toNat : Int)) || decide (d.el < 3)) = false := by
      simp only [Bool.or_eq_true, beq_iff_eq] at he
      rcases hs with e | e | e <;> rcases he with e' | e' <;> rw [e, e'] <;> rfl
    rw [hc]
    simp only [Bool.false_eq_true, if_false, int_eql, i_beq _ _ (show 18 < 256 by decide), i_beq _ _ (show 19 < 256 by decide), ueq_eq, une_eq, selW_and, selW_or, condM_b, u8_eql, s_eql, Option.bind_some, s36, s37, a1, lenS_s, int_leq, pre_sel, mk_toAV, mk_eta, lk, f20, one_s, asAg_toAV, ten0, ten1, ten2, ten3, ten4, ten5, ten6, ten7, ten8, ten9]
    obtain ⟨st, el, en, at', qu, pa, su, es, da, nm⟩ := d
    simp only [Ctx.mk.injEq, true_and] at e1 hs he
    obtain ⟨rfl, rfl, rfl, rfl, rfl, rfl, rfl, e9⟩ := e1
    rcases hs with rfl | rfl | rfl
    · have e9 : nm = [] := e9
      subst e9
      have h2 : again 4 ⟨17, el, false, 0, 0, 0, 0, false, 0, []⟩ b false = some (if b == 60 then ⟨18, el, false, 0, 0, 0, 0, false, 0, []⟩ else ⟨17, el, false, 0, 0, 0, 0, false, 0, []⟩) := rfl
      rw [← Option.some.inj (h2.symm.trans hm)]
      cases (b == 60) <;> rfl
    · have e9 : nm = [] := e9
      subst e9
      have h2 : again 4 ⟨18, el, false, 0, 0, 0, 0, false, 0, []⟩ b false = some (if b == 47 then ⟨19, el, false, 0, 0, 0, 0, false, 0, []⟩ else if b == 33 && el == 3 then badC else if b == 60 then ⟨18, el, false, 0, 0, 0, 0, false, 0, []⟩ else ⟨17, el, false, 0, 0, 0, 0, false, 0, []⟩) := rfl
      rw [← Option.some.inj (h2.symm.trans hm)]
      cases h47 : (b == 47) with
      | true =>
        have : (b == 33) = false := by rw [eq_of_beq h47]; rfl
        rw [this]; rfl
      | false => cases (b == 33) <;> cases (el == 3) <;> cases (b == 60) <;> rfl
    · have h2 : again 4 ⟨19, el, false, 0, 0, 0, 0, false, 0, nm⟩ b false = some (if nm == nameOf el && (blankB b || b == 47 || b == 62) then (tag ⟨9, 0, true, 0, 0, 0, 0, false, 0, []⟩ b).1 else if pre (nm ++ [lowb b]) (nameOf el) then ⟨19, el, false, 0, 0, 0, 0, false, 0, nm ++ [lowb b]⟩ else if b == 60 then ⟨18, el, false, 0, 0, 0, 0, false, 0, []⟩ else ⟨17, el, false, 0, 0, 0, 0, false, 0, []⟩) := rfl
      rw [← Option.some.inj (h2.symm.trans hm)]
      cases (nm == nameOf el && (blankB b || b == 47 || b == 62)) with
      | true =>
        show some _ = some (flat (tag ⟨9, 0, true, 0, 0, 0, 0, false, 0, []⟩ b).1).toAV
        rw [tag9_flat]
      | false => cases pre (nm ++ [lowb b]) (nameOf el) <;> cases (b == 60) <;> rfl
  · have hc : (decide ((d.st.toNat : Int) < 17) || decide (19 < (d.st.toNat : Int)) || decide (d.el < 3)) = true := by
      simp only [Bool.or_eq_true, decide_eq_true_eq, beq_iff_eq] at hs ⊢
      by_cases hr : d.st = 17 ∨ d.st = 18 ∨ d.st = 19
      case neg =>
        have hs := hr
        simp only [not_or] at hs
        left
        have n1 : d.st.toNat ≠ 17 := fun e => hs.1 (UInt8.toNat_inj.1 e)
        have n2 : d.st.toNat ≠ 18 := fun e => hs.2.1 (UInt8.toNat_inj.1 e)
        have n3 : d.st.toNat ≠ 19 := fun e => hs.2.2 (UInt8.toNat_inj.1 e)
        omega
      case pos =>
        have hs : ¬ (d.el = 3 ∨ d.el = 4) := fun h => hs ⟨hr, h⟩
        simp only [not_or] at hs
        right
        have n1 : d.el.toNat ≠ 3 := fun e => hs.1 (UInt8.toNat_inj.1 e)
        have n2 : d.el.toNat ≠ 4 := fun e => hs.2 (UInt8.toNat_inj.1 e)
        have n3 := UInt8.le_iff_toNat_le.1 (form_en d hd).1
        have n4 : (4 : UInt8).toNat = 4 := rfl
        rw [UInt8.lt_iff_toNat_lt]
        show d.el.toNat < 3
        omega
    rw [hc, if_pos rfl, s34 b d hd]
    simp only [Option.bind_some, s33, asAg_toAV, ten0, ten1, ten2, ten3, ten4, ten5, ten6, ten7, ten8, ten9, mk_toAV, mk_eta]
    rw [mv_uncoded d b (fun h => Bool.eq_false_iff.2 fun h' => hs ⟨h, h'⟩)]
end

section
theorem s17 (c : Ctx) (l : List UInt8) (hc : c.nm.length < 9223372036854775808) (h : l.length < 9223372036854775808) : semCall C Tryd.prog 17 [c.toAV, .ro 1 (l.map .u8)] = some (ti (plainsB c l)) := by
  apply c17
  have := s27 28 plainB plain_form (fun c b hf => s28 c b (form_lt hf)) c l hc h
  simp only [X17, mk_toAV, mk_eta, this, Option.bind_some, ti_0, ti_1, asAg_toAV, ten0, ten1, ten2, ten3, ten4, ten5, ten6, ten7, ten8, ten9]
  rfl
/-- The document's Plain of any context. -/
theorem s20' (c : Ctx) (b : UInt8) (hc : c.nm.length < 9223372036854775808) : semCall C Tryd.prog 20 [c.toAV, .u8 b] = some (plainB c b).toAV := by
  cases hf : form c with
  | true => exact s20 c b hf
  | false =>
    apply c20
    simp only [X20, mk_toAV, mk_eta, sRForm (h := hc), hf, s32, Option.bind_some, unop_not, condM_b, Bool.not_false, if_true, asAg_toAV, ten0, ten1, ten2, ten3, ten4, ten5, ten6, ten7, ten8, ten9]
    unfold plainB
    rw [hf]; rfl
theorem plain_badC (b : UInt8) : plainB badC b = badC := rfl
theorem run_badC (f : Ctx → UInt8 → Ctx) (hf : ∀ b, f badC b = badC) (l : List UInt8) : runL f badC l 0 = (badC, if 0 < l.length then 0 else -1) := by
  cases l with
  | nil => rfl
  | cons b r =>
    unfold runL
    rw [hf]; rfl
end
end R4

namespace R4
open Go Go.Proofs Sx

theorem asAv (r : Rd) : AV.ag [.u8 r.c.st, .u8 r.c.el, .b r.c.en, .u8 r.c.at', .u8 r.c.qu, .u8 r.c.pa, .u8 r.c.su, .b r.c.es, .u8 r.c.da, .s r.c.nm, .ro 1 (r.text.map .u8), .ro 1 (r.pend.map .u8), .b r.op, .u8 r.kind, .s r.name, .ro 2 (r.attrs.map pairAV), .s r.data, .un, .b false] = r.av := rfl
theorem s18 (t : Tok) (l : List Tok) (h : l.length ≤ 1000000000) : semCall C Tryd.prog 18 [t.av, .un, outAV l] = some (.tu [.b true, outAV (l ++ [t])]) := by
  apply c18
  have : app 64 4 (l.map Tok.av) (.ro 4 [.ag [.u8 t.kind, .s t.name, t.atAV, .s t.data]]) = some ((l ++ [t]).map Tok.av) := by
    simp only [app, AV.items, if_true, Option.bind_some, List.length_map, List.length_cons, List.length_nil]
    rw [if_pos (by have : big = 70368744177664 := by decide
                   omega)]
    simp [Tok.av]
  simp only [X18, this, Option.bind_some]
  rfl
theorem s50 (r : Rd) (t : Tok) (A : AV) (h : r.out.length ≤ 1000000000) : semCall C Tryd.prog 50 [.un, t.av, r.av' A, outAV r.out] = some ((r.give t).bk' A) := by
  apply c50
  have := s18 t r.out h
  simp only [Tok.av, outAV] at this
  simp only [X50, this, Option.bind_some, tu2_0, tu2_1, asAg1, n1_0, elems_ro, unop_not, condM_b, Bool.not_true, Bool.not_false, Bool.false_eq_true, if_true, if_false]
  rfl
theorem s30 (r : Rd) (A : AV) (h : r.out.length ≤ 1000000000) (h2 : r.text.length ≤ 1000000000) : semCall C Tryd.prog 30 [.un, r.av' A, outAV r.out] = some (r.flush.bk' A) := by
  apply c30
  simp only [X30, condM_b, List.length_map, gt_iff_lt]
  cases ht : r.text with
  | nil =>
    rw [if_neg (by simp)]
    apply r30_2
    simp only [X30_2]
    simp [Rd.bk', Rd.av', Rd.flush, outAV, ht]
  | cons x l =>
    rw [if_pos (by simp)]
    have hb : b2s (.ro 1 ((x :: l).map .u8)) = some (.s (x :: l)) := b2s_u8 (by rw [← ht]; exact Nat.le_trans h2 (by decide))
    have hg := s50 r ⟨0, [], [], x :: l, true⟩ A h
    simp only [Rd.av', ht] at hg
    rw [hb]
    simp only [Option.bind_some, one_s]
    rw [show AV.ag [.u8 0, .s [], .nils, .s (x :: l)] = Tok.av ⟨0, [], [], x :: l, true⟩ from rfl]
    simp only [outAV] at hg
    rw [hg]
    simp only [Rd.bk', Rd.av', outAV, Option.bind_some, tu3_0, tu3_1, tu3_2, asAg19, asAg1, n1_0, elems_ro, n19_0, n19_1, n19_2, n19_3, n19_4, n19_5, n19_6, n19_7, n19_8, n19_9, n19_10, n19_11, n19_12, n19_13, n19_14, n19_15, n19_16, n19_17, n19_18]
    apply r30_2
    simp only [X30_2]
    simp [Rd.bk', Rd.av', Rd.flush, Rd.give, outAV, ht]
theorem s71 (r : Rd) (more : List UInt8) (h : r.text.length + r.pend.length + more.length ≤ 1000000000) : semCall C Tryd.prog 71 [.un, .ro 1 (more.map .u8), r.av, outAV r.out] = some (r.settle more).bk := by
  apply c71
  have e1 : app 1 1 (r.text.map .u8) (.ro 1 (r.pend.map .u8)) = some ((r.text ++ r.pend).map .u8) := app_u8 (Nat.le_trans (by omega) (show 1000000000 ≤ big by decide))
  have e2 : app 1 1 ((r.text ++ r.pend).map .u8) (.ro 1 (more.map .u8)) = some ((r.text ++ r.pend ++ more).map .u8) := app_u8 (Nat.le_trans (by simp; omega) (show 1000000000 ≤ big by decide))
  simp only [X71, e1, e2, Option.bind_some]
  rfl
theorem s71' (r : Rd) (h : r.text.length + r.pend.length ≤ 1000000000) : semCall C Tryd.prog 71 [.un, .nils, r.av, outAV r.out] = some (r.settle []).bk := by
  apply c71
  have e1 : app 1 1 (r.text.map .u8) (.ro 1 (r.pend.map .u8)) = some ((r.text ++ r.pend).map .u8) := app_u8 (Nat.le_trans (by omega) (show 1000000000 ≤ big by decide))
  have e2 : app 1 1 ((r.text ++ r.pend).map .u8) .nils = some ((r.text ++ r.pend ++ []).map .u8) := by
    simp only [app, AV.items, Option.bind_some, List.length_map, List.length_append, List.length_nil]
    rw [if_pos (by have : big = 70368744177664 := by decide
                   omega)]
    simp
  simp only [X71, e1, e2, Option.bind_some]
  rfl
theorem s72 (r : Rd) (k : UInt8) (name data : List UInt8) (h : r.out.length ≤ 1000000000) (h2 : r.text.length ≤ 1000000000) : semCall C Tryd.prog 72 [.un, .u8 k, .s name, .s data, r.av, outAV r.out] = some (r.begin' k name data).bk := by
  apply c72
  have hf := s30 r (.ro 2 (r.attrs.map pairAV)) h h2
  simp only [Rd.av', outAV] at hf
  simp only [X72, hf]
  simp only [Rd.bk', Rd.av', outAV, Option.bind_some, tu3_0, tu3_1, tu3_2, asAg19, asAg1, n1_0, elems_ro, n19_0, n19_1, n19_2, n19_3, n19_4, n19_5, n19_6, n19_7, n19_8, n19_9, n19_10, n19_11, n19_12, n19_13, n19_14, n19_15, n19_16, n19_17, n19_18]
  rfl
theorem s73 (r : Rd) (h : r.out.length ≤ 1000000000) : semCall C Tryd.prog 73 [.un, r.av, outAV r.out] = some r.fin.bk := by
  apply c73
  simp only [X73, condM_b]
  cases ho : r.op with
  | false =>
    simp only [Bool.false_eq_true, if_false]
    apply r73_2
    simp only [X73_2]
    simp [Rd.bk, Rd.av, Rd.av', Rd.fin, outAV, ho]
  | true =>
    simp only [if_true]
    have hg := s50 r ⟨r.kind, r.name, r.attrs, r.data, false⟩ (.ro 2 (r.attrs.map pairAV)) h
    simp only [Rd.av', ho, outAV] at hg
    rw [show AV.ag [.u8 r.kind, .s r.name, .ro 2 (r.attrs.map pairAV), .s r.data] = Tok.av ⟨r.kind, r.name, r.attrs, r.data, false⟩ from rfl]
    rw [hg]
    simp only [Rd.bk', Rd.av', outAV, Option.bind_some, tu3_0, tu3_1, tu3_2, asAg19, asAg1, n1_0, elems_ro, n19_0, n19_1, n19_2, n19_3, n19_4, n19_5, n19_6, n19_7, n19_8, n19_9, n19_10, n19_11, n19_12, n19_13, n19_14, n19_15, n19_16, n19_17, n19_18]
    apply r73_2
    simp only [X73_2]
    simp [Rd.bk, Rd.av, Rd.av', Rd.fin, Rd.give, outAV, ho]
end R4

namespace R4
open Go Go.Proofs Sx

/-- Is there room? -/
def room (r : Rd) : Prop := r.text.length + r.pend.length + 1 ≤ 1000000000 ∧ r.out.length + 1 ≤ 1000000000 ∧ r.data.length + 1 ≤ 1000000000 ∧ r.attrs.length + 1 ≤ 1000000000 ∧ ∀ p ∈ r.attrs, p.2.length + 1 ≤ 1000000000
theorem s_add9 {p q : List UInt8} (h : p.length + q.length ≤ 1000000000) : binS .add (.s p) (.s q) = some (.s (p ++ q)) := s_add (Nat.le_trans h (by decide))
theorem s46 (r : Rd) (f : Ctx) (b : UInt8) (h : room r) : semCall C Tryd.prog 46 [.un, f.toAV, .u8 b, r.av, outAV r.out] = some (r.dataR f b).bk := by
  apply c46
  obtain ⟨g1, g2, _⟩ := h
  have hb := s72 r
  have hs := s71' r (by omega)
  have ht := s71 r [b] (by simpa using g1)
  simp only [Rd.av, Rd.av', Rd.bk, outAV, List.map_cons, List.map_nil] at hb hs ht
  have app1 : app 1 1 (r.pend.map .u8) (.ro 1 [.u8 b]) = some ((r.pend ++ [b]).map .u8) := app_u8 (m := [b]) (Nat.le_trans (by simp; omega) (show 1000000000 ≤ big by decide))
  simp only [X46, ueq_eq, condM_b, b2s_one, hs, ht, app1, Option.bind_some, tu3_0, tu3_1, tu3_2, asAg19, asAg1, n1_0, elems_ro, n19_0, n19_1, n19_2, n19_3, n19_4, n19_5, n19_6, n19_7, n19_8, n19_9, n19_10, n19_11, n19_12, n19_13, n19_14, n19_15, n19_16, n19_17, n19_18]
  unfold Rd.dataR
  cases h1 : (r.c.st == 1) with
  | true =>
    simp only [if_true]
    cases h2 : (f.st == 1) with
    | true => simp only [if_true]; apply r46_5; rfl
    | false => simp only [Bool.false_eq_true, if_false]; apply r46_5; rfl
  | false =>
  simp only [Bool.false_eq_true, if_false]
  cases h3 : (r.c.st == 2) with
  | true => rfl
  | false =>
  simp only [Bool.false_eq_true, if_false]
  cases h4 : (r.c.st == 3) with
  | true =>
    simp only [if_true]
    cases h5 : r.c.en with
    | true =>
      simp only [if_true]
      apply r46_12
      have := hb 2 r.c.nm [] (by omega) (by omega)
      rw [h5] at this
      simp only [X46_12, this, Option.bind_some, tu3_0, tu3_1, tu3_2, asAg19, asAg1, n1_0, elems_ro, n19_0, n19_1, n19_2, n19_3, n19_4, n19_5, n19_6, n19_7, n19_8, n19_9, n19_10, n19_11, n19_12, n19_13, n19_14, n19_15, n19_16, n19_17, n19_18]
      simp [Rd.bk, Rd.av, Rd.av', outAV, Rd.begin', Rd.flush]
    | false =>
      simp only [Bool.false_eq_true, if_false]
      apply r46_12
      have := hb 1 r.c.nm [] (by omega) (by omega)
      rw [h5] at this
      simp only [X46_12, this, Option.bind_some, tu3_0, tu3_1, tu3_2, asAg19, asAg1, n1_0, elems_ro, n19_0, n19_1, n19_2, n19_3, n19_4, n19_5, n19_6, n19_7, n19_8, n19_9, n19_10, n19_11, n19_12, n19_13, n19_14, n19_15, n19_16, n19_17, n19_18]
      simp [Rd.bk, Rd.av, Rd.av', outAV, Rd.begin', Rd.flush]
  | false =>
  simp only [Bool.false_eq_true, if_false]
  cases h5 : (r.c.st == 11) with
  | true =>
    simp only [if_true, hb 4 [] [] (by omega) (by omega), Option.bind_some, tu3_0, tu3_1, tu3_2, asAg19, asAg1, n1_0, elems_ro, n19_0, n19_1, n19_2, n19_3, n19_4, n19_5, n19_6, n19_7, n19_8, n19_9, n19_10, n19_11, n19_12, n19_13, n19_14, n19_15, n19_16, n19_17, n19_18]
    rfl
  | false =>
  simp only [Bool.false_eq_true, if_false]
  cases h6 : (r.c.st == 16) with
  | true =>
    simp only [if_true, hb 4 [] [b] (by omega) (by omega), Option.bind_some, tu3_0, tu3_1, tu3_2, asAg19, asAg1, n1_0, elems_ro, n19_0, n19_1, n19_2, n19_3, n19_4, n19_5, n19_6, n19_7, n19_8, n19_9, n19_10, n19_11, n19_12, n19_13, n19_14, n19_15, n19_16, n19_17, n19_18]
    rfl
  | false =>
  simp only [Bool.false_eq_true, if_false]
  cases h7 : (r.c.st == 0) with
  | true =>
    simp only [if_true]
    cases h8 : (f.st == 2) with
    | true => rfl
    | false => rfl
  | false => rfl
theorem s47 (r : Rd) (f : Ctx) (b : UInt8) (h : room r) : semCall C Tryd.prog 47 [.un, f.toAV, .u8 b, r.av, outAV r.out] = some (r.rawR f b).bk := by
  apply c47
  obtain ⟨g1, g2, _⟩ := h
  have hb := s72 r 2 f.nm [] (by omega) (by omega)
  have he := s73 (r.begin' 2 f.nm []) (by simp only [Rd.begin', Rd.flush]; split <;> (try simp) <;> omega)
  have hs := s71' r (by omega)
  have ht := s71 r [b] (by simpa using g1)
  simp only [Rd.av, Rd.av', Rd.bk, outAV, List.map_cons, List.map_nil] at hb hs ht he
  have app1 : app 1 1 (r.pend.map .u8) (.ro 1 [.u8 b]) = some ((r.pend ++ [b]).map .u8) := app_u8 (m := [b]) (Nat.le_trans (by simp; omega) (show 1000000000 ≤ big by decide))
  have key : F47_12 (semRun C Tryd.prog 47 Tryd.f47) f.st f.el f.en f.at' f.qu f.pa f.su f.es f.da f.nm r.c.st r.c.el r.c.en r.c.at' r.c.qu r.c.pa r.c.su r.c.es r.c.da r.c.nm (r.text.map .u8) (r.pend.map .u8) r.op r.kind r.name (r.attrs.map pairAV) r.data false (r.out.map Tok.av) = some (r.rawE f).bk := by
    apply r47_12
    simp only [X47_12, hb, Option.bind_some, tu3_0, tu3_1, tu3_2, asAg19, asAg1, n1_0, elems_ro, n19_0, n19_1, n19_2, n19_3, n19_4, n19_5, n19_6, n19_7, n19_8, n19_9, n19_10, n19_11, n19_12, n19_13, n19_14, n19_15, n19_16, n19_17, n19_18]
    rw [show (r.begin' 2 f.nm []).c.st = r.c.st from rfl] at he ⊢
    rw [u8_eql]
    simp only [Option.bind_some, condM_b]
    unfold Rd.rawE
    cases h0 : (r.c.st == 0) with
    | true => simp only [if_true, he, Option.bind_some, tu3_0, tu3_1, tu3_2, asAg19, asAg1, n1_0, elems_ro, n19_0, n19_1, n19_2, n19_3, n19_4, n19_5, n19_6, n19_7, n19_8, n19_9, n19_10, n19_11, n19_12, n19_13, n19_14, n19_15, n19_16, n19_17, n19_18]; rfl
    | false => rfl
  simp only [X47, ueq_eq, condM_b, hs, ht, app1, key, Option.bind_some, tu3_0, tu3_1, tu3_2, asAg19, asAg1, n1_0, elems_ro, n19_0, n19_1, n19_2, n19_3, n19_4, n19_5, n19_6, n19_7, n19_8, n19_9, n19_10, n19_11, n19_12, n19_13, n19_14, n19_15, n19_16, n19_17, n19_18]
  unfold Rd.rawR
  cases h1 : (r.c.st == 17) <;> cases h2 : (r.c.st == 18) <;> cases h3 : (r.c.st == 19) <;> cases h4 : (r.c.st == 4) <;> cases h5 : (r.c.st == 10) <;> cases h6 : (r.c.st == 0) <;> rfl
end R4

namespace R4
open Go Go.Proofs Sx

theorem s48 (r : Rd) (f : Ctx) (b : UInt8) (h : room r) (hn : r.c.st = 0 → f.st = 15 → 2 ≤ r.data.length) : semCall C Tryd.prog 48 [.un, f.toAV, .u8 b, r.av, outAV r.out] = some (r.noteR f b).bk := by
  apply c48
  obtain ⟨g1, g2, g3, _⟩ := h
  have key (d : List UInt8) : F48_3 (semRun C Tryd.prog 48 Tryd.f48) r.c.st r.c.el r.c.en r.c.at' r.c.qu r.c.pa r.c.su r.c.es r.c.da r.c.nm (r.text.map .u8) (r.pend.map .u8) r.op r.kind r.name (r.attrs.map pairAV) (.s d) false (r.out.map Tok.av) = some ({ r with data := d }.fin).bk := by
    apply r48_3
    have he := s73 { r with data := d } (by show r.out.length ≤ _; omega)
    simp only [Rd.av, Rd.av', Rd.bk, outAV] at he
    simp only [X48_3, he, Option.bind_some, tu3_0, tu3_1, tu3_2, asAg19, asAg1, n1_0, elems_ro, n19_0, n19_1, n19_2, n19_3, n19_4, n19_5, n19_6, n19_7, n19_8, n19_9, n19_10, n19_11, n19_12, n19_13, n19_14, n19_15, n19_16, n19_17, n19_18]
    rfl
  have hadd : binS .add (.s r.data) (.s [b]) = some (.s (r.data ++ [b])) := s_add9 (by simpa using g3)
  simp only [X48, ueq_eq, une_eq, condM_b, b2s_one, hadd, one_s, key, Option.bind_some, tu3_0, tu3_1, tu3_2, asAg19, asAg1, n1_0, elems_ro, n19_0, n19_1, n19_2, n19_3, n19_4, n19_5, n19_6, n19_7, n19_8, n19_9, n19_10, n19_11, n19_12, n19_13, n19_14, n19_15, n19_16, n19_17, n19_18]
  unfold Rd.noteR
  cases h1 : (r.c.st == 13) with
  | true => rfl
  | false =>
  simp only [Bool.false_eq_true, if_false]
  cases h2 : (r.c.st != 0) with
  | true => rfl
  | false =>
  simp only [Bool.false_eq_true, if_false]
  cases h3 : (f.st == 15) with
  | true =>
    have e0 : r.c.st = 0 := by simpa using h2
    have hl := hn e0 (by simpa using h3)
    have : slS (.s r.data) none (some (.int (w64 ((r.data.length : Int) - 2)))) = some (.s (r.data.take (r.data.length - 2))) := by
      rw [w64_eq (by omega) (by omega), show ((r.data.length : Int) - 2) = ((r.data.length - 2 : Nat) : Int) by omega]
      exact slS_hi (by omega)
    simp only [if_true, this, Option.bind_some, one_s, key]
  | false => rfl
theorem getD_pairs (l : List (List UInt8 × List UInt8)) (n : Nat) (h : n < l.length) : (l.map pairAV).getD n .un = pairAV (l.getD n ([], [])) := by
  simp [List.getD_eq_getElem?_getD, h]
theorem onLast_pairs (l : List (List UInt8 × List UInt8)) (g : List UInt8 × List UInt8 → List UInt8 × List UInt8) : (l.map pairAV).set (l.length - 1) (pairAV (g (l.getD (l.length - 1) ([], [])))) = (onLast g l).map pairAV := by
  simp [onLast, List.map_set]
theorem s49 (r : Rd) (f : Ctx) (b : UInt8) (h : room r) (hn : r.c.st = 5 → f.st = 5 → r.attrs ≠ []) (hv : r.c.st = 8 → (f.st == 8 || r.c.qu == 0) = true → r.attrs ≠ []) : semCall C Tryd.prog 49 [.un, f.toAV, .u8 b, r.av, outAV r.out] = some (r.tagR f b).bk := by
  apply c49
  obtain ⟨g1, g2, g3, g4, g5⟩ := h
  have he := s73 r (by omega)
  simp only [Rd.av, Rd.av', Rd.bk, outAV] at he
  have key15 : F49_15 (semRun C Tryd.prog 49 Tryd.f49) r.c.st r.c.el r.c.en r.c.at' r.c.qu r.c.pa r.c.su r.c.es r.c.da r.c.nm (r.text.map .u8) (r.pend.map .u8) r.op r.kind r.name (r.attrs.map pairAV) r.data false (r.out.map Tok.av) = some r.fin.bk := by
    apply r49_15
    simp only [X49_15, he, Option.bind_some, tu3_0, tu3_1, tu3_2, asAg19, asAg1, n1_0, elems_ro, n19_0, n19_1, n19_2, n19_3, n19_4, n19_5, n19_6, n19_7, n19_8, n19_9, n19_10, n19_11, n19_12, n19_13, n19_14, n19_15, n19_16, n19_17, n19_18]
    rfl
  have key9 (l : List (List UInt8 × List UInt8)) (hl : l ≠ []) (hl2 : l.length ≤ 1000000001) : F49_9 (semRun C Tryd.prog 49 Tryd.f49) (l.length : Int) r.c.st r.c.el r.c.en r.c.at' r.c.qu r.c.pa r.c.su r.c.es r.c.da r.c.nm (r.text.map .u8) (r.pend.map .u8) r.op r.kind r.name (l.map pairAV) r.data false (r.out.map Tok.av) = some ({ r with attrs := onLast (fun p => (r.c.nm, p.2)) l } : Rd).bk := by
    apply r49_9
    have hp : 0 < l.length := List.length_pos_iff.2 hl
    have e1 : inN (l.map pairAV).length (.int (w64 ((l.length : Int) - 1))) = some (l.length - 1) := by
      rw [w64_eq (by omega) (by omega), show ((l.length : Int) - 1) = ((l.length - 1 : Nat) : Int) by omega]
      exact inN_int (by simp; omega)
    simp only [X49_9, e1, Option.bind_some]
    rw [getD_pairs _ _ (by omega)]
    have e2 := onLast_pairs l (fun p => (r.c.nm, p.2))
    simp only [pairAV] at e2
    simp only [pairAV, AV.cell, Rd.bk, Rd.av, Rd.av', outAV]
    rw [← e2]
    rfl
  simp only [X49, ueq_eq, une_eq, condM_b, key15, selW_or, Option.bind_some, tu3_0, tu3_1, tu3_2, asAg19, asAg1, n1_0, elems_ro, n19_0, n19_1, n19_2, n19_3, n19_4, n19_5, n19_6, n19_7, n19_8, n19_9, n19_10, n19_11, n19_12, n19_13, n19_14, n19_15, n19_16, n19_17, n19_18]
  unfold Rd.tagR
  cases h1 : (r.c.st == 3) with
  | true => rfl
  | false =>
  simp only [Bool.false_eq_true, if_false]
  cases h2 : (r.c.st == 5) with
  | true =>
    simp only [if_true]
    cases h3 : (f.st != 5) with
    | true =>
      simp only [if_true]
      have e1 : app 32 2 (r.attrs.map pairAV) (.ro 2 [.ag [.s [], .s []]]) = some ((r.attrs ++ [([], [])]).map pairAV) := by
        simp only [app, AV.items, if_true, Option.bind_some, List.length_map, List.length_cons, List.length_nil]
        rw [if_pos (by have : big = 70368744177664 := by decide
                       omega)]
        simp [pairAV]
      have := key9 (r.attrs ++ [([], [])]) (by simp) (by simp; omega)
      simp only [e1, Option.bind_some, List.length_map]
      rw [w64_eq (by omega) (by omega), show ((r.attrs.length : Int) + 1) = (((r.attrs ++ [(([] : List UInt8), ([] : List UInt8))]).length : Nat) : Int) by simp, this]
    | false =>
      simp only [Bool.false_eq_true, if_false, List.length_map]
      exact key9 r.attrs (hn (by simpa using h2) (by simpa using h3)) (by omega)
  | false =>
  simp only [Bool.false_eq_true, if_false]
  cases h3 : (r.c.st == 8) with
  | true =>
    simp only [if_true]
    cases h4 : (f.st == 8 || r.c.qu == 0) with
    | true =>
      simp only [if_true]
      have hl := hv (by simpa using h3) h4
      have hp : 0 < r.attrs.length := List.length_pos_iff.2 hl
      have e1 : inN (r.attrs.map pairAV).length (.int (w64 ((r.attrs.length : Int) - 1))) = some (r.attrs.length - 1) := by
        rw [w64_eq (by omega) (by omega), show ((r.attrs.length : Int) - 1) = ((r.attrs.length - 1 : Nat) : Int) by omega]
        exact inN_int (by simp; omega)
      have e2 := onLast_pairs r.attrs (fun p => (p.1, p.2 ++ [b]))
      simp only [pairAV] at e2
      have hm : (r.attrs.getD (r.attrs.length - 1) ([], [])) ∈ r.attrs := by
        rw [List.getD_eq_getElem?_getD, List.getElem?_eq_getElem (by omega)]
        exact List.getElem_mem _
      have e3 : binS .add (.s (r.attrs.getD (r.attrs.length - 1) ([], [])).2) (.s [b]) = some (.s ((r.attrs.getD (r.attrs.length - 1) ([], [])).2 ++ [b])) := s_add9 (by have := g5 _ hm; simpa using this)
      simp only [List.length_map] at e1 ⊢
      simp only [e1, Option.bind_some, b2s_one]
      rw [getD_pairs _ _ (by omega)]
      simp only [pairAV, AV.cell, List.getD_cons_zero, List.getD_cons_succ, e3, Option.bind_some, one_s]
      simp only [Rd.bk, Rd.av, Rd.av', outAV]
      rw [← e2]
    | false => rfl
  | false =>
  simp only [Bool.false_eq_true, if_false]
  cases h4 : (r.c.st == 0) <;> cases h5 : (r.c.st == 17) <;> rfl
end R4

namespace R4
open Go Go.Proofs Sx

theorem k29_7 (r : Rd) (f : Ctx) (b : UInt8) (h : room r) : F29_7 (semRun C Tryd.prog 29 Tryd.f29) b f.st f.el f.en f.at' f.qu f.pa f.su f.es f.da f.nm (.u8 r.c.st) (.u8 r.c.el) (.b r.c.en) (.u8 r.c.at') (.u8 r.c.qu) (.u8 r.c.pa) (.u8 r.c.su) (.b r.c.es) (.u8 r.c.da) (.s r.c.nm) (r.text.map .u8) (r.pend.map .u8) r.op r.kind r.name (r.attrs.map pairAV) r.data false (r.out.map Tok.av) = some (r.dataR f b).bk := by
  apply r29_7
  have he := s46 r f b h
  simp only [Rd.av, Rd.av', Rd.bk, outAV] at he
  simp only [X29_7, ← mk_toAV, cx]
  simp only [Ctx.toAV, cx] at he
  simp only [he, Option.bind_some, tu3_0, tu3_1, tu3_2, asAg19, asAg1, n1_0, elems_ro, n19_0, n19_1, n19_2, n19_3, n19_4, n19_5, n19_6, n19_7, n19_8, n19_9, n19_10, n19_11, n19_12, n19_13, n19_14, n19_15, n19_16, n19_17, n19_18]
  rfl
theorem k29_11 (r : Rd) (f : Ctx) (b : UInt8) (h : room r) : F29_11 (semRun C Tryd.prog 29 Tryd.f29) b f.st f.el f.en f.at' f.qu f.pa f.su f.es f.da f.nm (.u8 r.c.st) (.u8 r.c.el) (.b r.c.en) (.u8 r.c.at') (.u8 r.c.qu) (.u8 r.c.pa) (.u8 r.c.su) (.b r.c.es) (.u8 r.c.da) (.s r.c.nm) (r.text.map .u8) (r.pend.map .u8) r.op r.kind r.name (r.attrs.map pairAV) r.data false (r.out.map Tok.av) = some (r.rawR f b).bk := by
  apply r29_11
  have he := s47 r f b h
  simp only [Rd.av, Rd.av', Rd.bk, outAV] at he
  simp only [X29_11, ← mk_toAV, cx]
  simp only [Ctx.toAV, cx] at he
  simp only [he, Option.bind_some, tu3_0, tu3_1, tu3_2, asAg19, asAg1, n1_0, elems_ro, n19_0, n19_1, n19_2, n19_3, n19_4, n19_5, n19_6, n19_7, n19_8, n19_9, n19_10, n19_11, n19_12, n19_13, n19_14, n19_15, n19_16, n19_17, n19_18]
  rfl
theorem k29_18 (r : Rd) (f : Ctx) (b : UInt8) (h : room r) (hn : r.c.st = 0 → f.st = 15 → 2 ≤ r.data.length) : F29_18 (semRun C Tryd.prog 29 Tryd.f29) b f.st f.el f.en f.at' f.qu f.pa f.su f.es f.da f.nm (.u8 r.c.st) (.u8 r.c.el) (.b r.c.en) (.u8 r.c.at') (.u8 r.c.qu) (.u8 r.c.pa) (.u8 r.c.su) (.b r.c.es) (.u8 r.c.da) (.s r.c.nm) (r.text.map .u8) (r.pend.map .u8) r.op r.kind r.name (r.attrs.map pairAV) r.data false (r.out.map Tok.av) = some (r.noteR f b).bk := by
  apply r29_18
  have he := s48 r f b h hn
  simp only [Rd.av, Rd.av', Rd.bk, outAV] at he
  simp only [X29_18, ← mk_toAV, cx]
  simp only [Ctx.toAV, cx] at he
  simp only [he, Option.bind_some, tu3_0, tu3_1, tu3_2, asAg19, asAg1, n1_0, elems_ro, n19_0, n19_1, n19_2, n19_3, n19_4, n19_5, n19_6, n19_7, n19_8, n19_9, n19_10, n19_11, n19_12, n19_13, n19_14, n19_15, n19_16, n19_17, n19_18]
  rfl
theorem k29_3 (r : Rd) (f : Ctx) (b : UInt8) (h : room r) (hn : r.c.st = 5 → f.st = 5 → r.attrs ≠ []) (hv : r.c.st = 8 → (f.st == 8 || r.c.qu == 0) = true → r.attrs ≠ []) : F29_3 (semRun C Tryd.prog 29 Tryd.f29) b f.st f.el f.en f.at' f.qu f.pa f.su f.es f.da f.nm (.u8 r.c.st) (.u8 r.c.el) (.b r.c.en) (.u8 r.c.at') (.u8 r.c.qu) (.u8 r.c.pa) (.u8 r.c.su) (.b r.c.es) (.u8 r.c.da) (.s r.c.nm) (r.text.map .u8) (r.pend.map .u8) r.op r.kind r.name (r.attrs.map pairAV) r.data false (r.out.map Tok.av) = some (r.tagR f b).bk := by
  apply r29_3
  have he := s49 r f b h hn hv
  simp only [Rd.av, Rd.av', Rd.bk, outAV] at he
  simp only [X29_3, ← mk_toAV, cx]
  simp only [Ctx.toAV, cx] at he
  simp only [he, Option.bind_some, tu3_0, tu3_1, tu3_2, asAg19, asAg1, n1_0, elems_ro, n19_0, n19_1, n19_2, n19_3, n19_4, n19_5, n19_6, n19_7, n19_8, n19_9, n19_10, n19_11, n19_12, n19_13, n19_14, n19_15, n19_16, n19_17, n19_18]
  rfl
theorem s29 (r : Rd) (b : UInt8) (n : Nat) (h : Good r n) (hn : n ≤ 100000000) : semCall C Tryd.prog 29 [.un, .u8 b, r.av, outAV r.out] = some (r.take b).bk := by
  apply c29
  obtain ⟨g0, g5, g8⟩ := good_room h b
  have hrm : room { r with c := plainB r.c b } := ⟨by show r.text.length + r.pend.length + 1 ≤ _; have := h.tx; omega, by show r.out.length + 1 ≤ _; have := h.ot; omega, by show r.data.length + 1 ≤ _; have := h.dt; omega, by show r.attrs.length + 1 ≤ _; have := h.al; omega, fun p hp => by have := h.av p hp; omega⟩
  have hp := s28 r.c b (form_lt h.fm)
  simp only [Ctx.toAV, cx] at hp
  have k7 := k29_7 { r with c := plainB r.c b } r.c b hrm
  have k11 := k29_11 { r with c := plainB r.c b } r.c b hrm
  have k18 := k29_18 { r with c := plainB r.c b } r.c b hrm g0
  have k3 := k29_3 { r with c := plainB r.c b } r.c b hrm g5 (fun e _ => g8 e)
  dsimp only at k7 k11 k18 k3
  simp only [X29, hp, Option.bind_some, asAg_ten, ten0, ten1, ten2, ten3, ten4, ten5, ten6, ten7, ten8, ten9, ueq_eq, condM_b, k7]
  unfold Rd.take Rd.take1
  cases e0 : (r.c.st == 0) with
  | true => rfl
  | false =>
  simp only [Bool.false_eq_true, if_false, Bool.false_or]
  cases e1 : (r.c.st == 1) with
  | true => rfl
  | false =>
  simp only [Bool.false_eq_true, if_false, Bool.false_or]
  cases e2 : (r.c.st == 2) with
  | true => rfl
  | false =>
  simp only [Bool.false_eq_true, if_false]
  apply r29_8
  simp only [X29_8, ueq_eq, condM_b, k11]
  cases e3 : (r.c.st == 17) with
  | true => rfl
  | false =>
  simp only [Bool.false_eq_true, if_false, Bool.false_or]
  cases e4 : (r.c.st == 18) with
  | true => rfl
  | false =>
  simp only [Bool.false_eq_true, if_false, Bool.false_or]
  cases e5 : (r.c.st == 19) with
  | true => rfl
  | false =>
  simp only [Bool.false_eq_true, if_false]
  apply r29_12
  simp only [X29_12, ueq_eq, condM_b, k18, k3]
  cases e6 : (r.c.st == 11) <;> cases e7 : (r.c.st == 12) <;> cases e8 : (r.c.st == 13) <;> cases e9 : (r.c.st == 14) <;> cases e10 : (r.c.st == 15) <;> cases e11 : (r.c.st == 16) <;> rfl
/-- What is left in the reader's variable by 'run'. -/
def runAV (r : Rd) (at' : Int) (A : AV) : AV := .tu [.int at', r.av' A, outAV r.out]
theorem l19 : ∀ (l p : List UInt8) (r : Rd), (p ++ l).length ≤ 10000000 → Good r p.length → ∃ A,
    F19_2 (semRun C Tryd.prog 19 Tryd.f19) (.ro 1 ((p ++ l).map .u8)) (.int (((p ++ l).map AV.u8).length : Int)) (p.length : Int) (.u8 r.c.st) (.u8 r.c.el) (.b r.c.en) (.u8 r.c.at') (.u8 r.c.qu) (.u8 r.c.pa) (.u8 r.c.su) (.b r.c.es) (.u8 r.c.da) (.s r.c.nm) (r.text.map .u8) (r.pend.map .u8) (.b r.op) (.u8 r.kind) (.s r.name) (r.attrs.map pairAV) (.s r.data) (.b false) (r.out.map Tok.av) = some (runAV (r.run l (p.length : Int)).1 (r.run l (p.length : Int)).2 A)
  | [], p, r, hp, h => by
    refine ⟨.ro 2 (r.attrs.map pairAV), ?_⟩
    apply r19_2
    have hf := s30 { r with pend := [] } (.ro 2 (r.attrs.map pairAV)) (by show r.out.length ≤ _; have := h.ot; simp at hp; omega) (by show r.text.length ≤ _; have := h.tx; simp at hp; omega)
    simp only [Rd.av', Rd.bk', outAV, List.map_nil] at hf
    simp only [X19_2, int_lss, nlt_map, Option.bind_some, condM_b, Bool.false_eq_true, if_false, List.append_nil, hf, Option.bind_some, tu3_0, tu3_1, tu3_2, asAg19, asAg1, n1_0, elems_ro, n19_0, n19_1, n19_2, n19_3, n19_4, n19_5, n19_6, n19_7, n19_8, n19_9, n19_10, n19_11, n19_12, n19_13, n19_14, n19_15, n19_16, n19_17, n19_18]
    rfl
  | b :: l, p, r, hp, h => by
    have hi : idx 1 (.ro 1 ((p ++ b :: l).map .u8)) (.int (p.length : Int)) = some (.u8 b) := idx_at p b l
    have ht := s29 r b p.length h (by simp at hp; omega)
    simp only [Rd.av, Rd.av', Rd.bk, outAV] at ht
    cases h20 : ((r.take b).c.st == 20) with
    | true =>
      refine ⟨.ro 2 ((r.take b).attrs.map pairAV), ?_⟩
      apply r19_2
      simp only [X19_2, int_lss, lt_len', hi, cell_u8, w64_inc p b l (by simp at hp ⊢; omega), Option.bind_some, condM_b, Bool.false_eq_true, if_false, if_true, ht, Option.bind_some, tu3_0, tu3_1, tu3_2, asAg19, asAg1, n1_0, elems_ro, n19_0, n19_1, n19_2, n19_3, n19_4, n19_5, n19_6, n19_7, n19_8, n19_9, n19_10, n19_11, n19_12, n19_13, n19_14, n19_15, n19_16, n19_17, n19_18, u8_eql, h20]
      unfold Rd.run
      rw [if_pos h20]
      rfl
    | false =>
      obtain ⟨A, hA⟩ := l19 l (p ++ [b]) (r.take b) (by rw [← snoc_app]; exact hp) (by have := good_take h b (by simpa using h20); simpa using this)
      refine ⟨A, ?_⟩
      apply r19_2
      simp only [X19_2, int_lss, lt_len', hi, cell_u8, w64_inc p b l (by simp at hp ⊢; omega), Option.bind_some, condM_b, Bool.false_eq_true, if_false, if_true, ht, Option.bind_some, tu3_0, tu3_1, tu3_2, asAg19, asAg1, n1_0, elems_ro, n19_0, n19_1, n19_2, n19_3, n19_4, n19_5, n19_6, n19_7, n19_8, n19_9, n19_10, n19_11, n19_12, n19_13, n19_14, n19_15, n19_16, n19_17, n19_18, u8_eql, h20]
      rw [← snoc_app] at hA
      rw [hA]
      conv => rhs; unfold Rd.run
      rw [if_neg (by simp [h20]), snoc_len p b]
theorem s12 (l : List UInt8) (h : l.length ≤ 10000000) : semCall C Tryd.prog 12 [.ro 1 (l.map .u8)] = some (.tu [.ro 4 ((tokAll l).1.map Tok.av), (tokAll l).2.1.toAV, .int (tokAll l).2.2]) := by
  apply c12
  obtain ⟨A, hA⟩ := l19 l [] Rd.new h good_new
  have hr : semCall C Tryd.prog 19 [.un, .ro 1 (l.map .u8), Rd.new.av, outAV []] = some (runAV (Rd.new.run l 0).1 (Rd.new.run l 0).2 A) := by
    apply c19
    simp only [X19, lenR_ro, Option.bind_some]
    exact hA
  simp only [Rd.av, Rd.av', Rd.new, st1, outAV, List.map_nil] at hr
  simp only [X12, hr, runAV, Rd.av', outAV, Option.bind_some, tu3_0, tu3_1, tu3_2, asAg19, asAg1, n1_0, elems_ro, n19_0, n19_1, n19_2, n19_3, n19_4, n19_5, n19_6, n19_7, n19_8, n19_9, n19_10, n19_11, n19_12, n19_13, n19_14, n19_15, n19_16, n19_17, n19_18]
  rfl
end R4

namespace R4
open Go Go.Proofs Sx

theorem s11 : semCall C Tryd.prog 11 [] = some (.b true) := by
  apply c11
  have h := s12 [60, 98, 62] (by decide)
  have e : tokAll [60, 98, 62] = ([⟨1, [98], [], [], false⟩], st1 0, -1) := by kernel_rfl
  rw [e] at h
  simp only [List.map_cons, List.map_nil] at h
  simp only [X11, h, Option.bind_some]
  rfl
theorem comp3_0 (a b c : AV) : AV.comp (.tu [a, b, c]) 0 = a := rfl
theorem comp3_1 (a b c : AV) : AV.comp (.tu [a, b, c]) 1 = b := rfl
theorem comp3_2 (a b c : AV) : AV.comp (.tu [a, b, c]) 2 = c := rfl
/-- What the statement makes of a text's bytes. -/
def escL (l : List UInt8) : List UInt8 := l.flatMap fun b => if b == 60 then [38, 108, 116, 59] else [b]
theorem escL_app (p q : List UInt8) : escL (p ++ q) = escL p ++ escL q := by simp [escL]
theorem escL_len (l : List UInt8) : (escL l).length ≤ 4 * l.length := by
  induction l with
  | nil => simp [escL]
  | cons b l ih =>
    have e : escL (b :: l) = (if b == 60 then [38, 108, 116, 59] else [b]) ++ escL l := rfl
    rw [e]
    split <;> simp <;> omega
theorem escL_all (l : List UInt8) : (escL l).all (fun b => !(b == 60)) = true := by
  induction l with
  | nil => rfl
  | cons b l ih =>
    have e : escL (b :: l) = (if b == 60 then [38, 108, 116, 59] else [b]) ++ escL l := rfl
    rw [e, List.all_append, ih, Bool.and_true]
    split
    · rfl
    · rename_i h; simpa using h
theorem app9 {l m : List UInt8} (h : l.length + m.length ≤ 1000000000) : app 1 1 (l.map .u8) (.ro 1 (m.map .u8)) = some ((l ++ m).map .u8) := app_u8 (Nat.le_trans h (by decide))
theorem app9s {l m : List UInt8} (h : l.length + m.length ≤ 1000000000) : app 1 1 (l.map .u8) (.s m) = some ((l ++ m).map .u8) := app_s (Nat.le_trans h (by decide))
theorem b2s9 {l : List UInt8} (h : l.length ≤ 1000000000) : b2s (.ro 1 (l.map .u8)) = some (.s l) := b2s_u8 (Nat.le_trans h (by decide))
theorem l5 : ∀ (r p : List UInt8), (p ++ r).length ≤ 2000000 → F5_5 (semRun C Tryd.prog 5 Tryd.f5) (.ro 1 ((p ++ r).map .u8)) ((escL p).map .u8) (p.length : Int) = some (.b true)
  | [], p, hp => by
    apply r5_5
    have hl := escL_len p
    have h := s12 (escL p) (by simp at hp; omega)
    rw [tok_text _ (escL_all p)] at h
    simp only [X5_5, lenR_ro, Option.bind_some, List.append_nil, List.length_map, int_lss, nlt_self, condM_b, Bool.false_eq_true, if_false, h, comp3_0, comp3_1, comp3_2, asAg_toAV, elems_ro, b2s9 (l := escL p) (by simp at hp; omega)]
    cases he : escL p with
    | nil => rfl
    | cons x l =>
      have : (((x :: l).length : Int) == 0) = false := by simp; omega
      rw [this]
      simp only [Bool.false_eq_true, if_false, List.isEmpty_cons, List.map_cons, List.map_nil, List.length_cons, List.length_nil, Tok.av]
      have hi : inN (0 + 1) (.int 0) = some 0 := rfl
      have hs : binS .eql (.s (x :: l)) (.s (x :: l)) = some (.b true) := by simp [binS, strOp]
      simp only [hi, Option.bind_some, List.getD_cons_zero, AV.cell, List.getD_cons_succ, hs]
      rfl
  | b :: r, p, hp => by
    have hi : idx 1 (.ro 1 ((p ++ b :: r).map .u8)) (.int (p.length : Int)) = some (.u8 b) := idx_at p b r
    have hl := escL_len p
    have hpl : p.length ≤ 2000000 := by simp at hp; omega
    have ih := l5 r (p ++ [b]) (by rw [← snoc_app]; exact hp)
    rw [← snoc_app] at ih
    apply r5_5
    simp only [X5_5, lenR_ro, Option.bind_some, int_lss, lt_len', condM_b, if_true, hi, cell_u8, u8_eql, one_u8]
    cases hb : (b == 60) with
    | true =>
      simp only [if_true]
      rw [app9s (by simp; omega)]
      simp only [Option.bind_some]
      apply r5_6
      simp only [X5_6]
      rw [w64_inc p b r (by simp at hp ⊢; omega), show escL p ++ [38, 108, 116, 59] = escL (p ++ [b]) by rw [escL_app]; simp only [escL, List.flatMap_cons, List.flatMap_nil, List.append_nil, hb, if_true, Bool.false_eq_true, if_false]]
      exact ih
    | false =>
      simp only [Bool.false_eq_true, if_false]
      rw [show (AV.ro 1 [.u8 b]) = .ro 1 ([b].map .u8) from rfl, app9 (by simp; omega)]
      simp only [Option.bind_some]
      apply r5_6
      simp only [X5_6]
      rw [w64_inc p b r (by simp at hp ⊢; omega), show escL p ++ [b] = escL (p ++ [b]) by rw [escL_app]; simp only [escL, List.flatMap_cons, List.flatMap_nil, List.append_nil, hb, if_true, Bool.false_eq_true, if_false]]
      exact ih
theorem law5 (l : List UInt8) (h : l.length ≤ 2000000) : semCall C Tryd.prog 5 [.ro 1 (l.map .u8)] = some (.b true) := by
  apply c5
  simp only [X5, s11, Option.bind_some, unop_not, Bool.not_true, condM_b, Bool.false_eq_true, if_false]
  exact l5 l [] h

/-- .. of a comment's bytes. -/
def cmtL (l : List UInt8) : List UInt8 := l.filter fun b => !(b == 45 || b == 62 || b == 33)
theorem cmtL_all (l : List UInt8) : (cmtL l).all (fun b => !(b == 45 || b == 62 || b == 33)) = true := List.all_eq_true.2 fun x hx => (List.mem_filter.1 hx).2
theorem cmtL_in (p : List UInt8) (b : UInt8) (h : (b == 45 || b == 62 || b == 33) = false) : cmtL (p ++ [b]) = cmtL p ++ [b] := by
  unfold cmtL; rw [List.filter_append, List.filter_cons_of_pos (by rw [h]; rfl)]; rfl
theorem cmtL_out (p : List UInt8) (b : UInt8) (h : (b == 45 || b == 62 || b == 33) = true) : cmtL (p ++ [b]) = cmtL p := by
  unfold cmtL; rw [List.filter_append, List.filter_cons_of_neg (by rw [h]; decide)]; exact List.append_nil _
theorem s2b_s (l : List UInt8) : s2b (.s l) = some (.ro 1 (l.map .u8)) := rfl
theorem ne_eq3 (b : UInt8) : ((b != 45) && (b != 62) && (b != 33)) = !(b == 45 || b == 62 || b == 33) := by
  cases h1 : (b == 45) <;> cases h2 : (b == 62) <;> cases h3 : (b == 33) <;> simp [bne, h1, h2, h3]
theorem l8 : ∀ (r p : List UInt8), (p ++ r).length ≤ 2000000 → F8_5 (semRun C Tryd.prog 8 Tryd.f8) (.ro 1 ((p ++ r).map .u8)) ((cmtL p).map .u8) (p.length : Int) = some (.b true)
  | [], p, hp => by
    apply r8_5
    have hl : (cmtL p).length ≤ p.length := List.length_filter_le _ _
    have hp' : p.length ≤ 2000000 := by simpa using hp
    have h1 := s12 ([60, 33, 45, 45] ++ cmtL p ++ [45, 45, 62]) (by simp; omega)
    have h2 := s12 ([60, 33] ++ cmtL p ++ [62]) (by simp; omega)
    have h3 := s12 ([60, 63] ++ cmtL p ++ [62]) (by simp; omega)
    rw [tok_comment _ (cmtL_all p)] at h1
    rw [tok_bogus _ (cmtL_all p)] at h2
    rw [tok_quest _ (cmtL_all p)] at h3
    have hb := b2s9 (l := cmtL p) (by omega)
    have a1 : binS .add (.s [60, 33, 45, 45]) (.s (cmtL p)) = some (.s ([60, 33, 45, 45] ++ cmtL p)) := s_add9 (by simp; omega)
    have a2 : binS .add (.s ([60, 33, 45, 45] ++ cmtL p)) (.s [45, 45, 62]) = some (.s ([60, 33, 45, 45] ++ cmtL p ++ [45, 45, 62])) := s_add9 (by simp; omega)
    have a3 : binS .add (.s [60, 33]) (.s (cmtL p)) = some (.s ([60, 33] ++ cmtL p)) := s_add9 (by simp; omega)
    have a4 : binS .add (.s ([60, 33] ++ cmtL p)) (.s [62]) = some (.s ([60, 33] ++ cmtL p ++ [62])) := s_add9 (by simp; omega)
    have a5 : binS .add (.s [60, 63]) (.s (cmtL p)) = some (.s ([60, 63] ++ cmtL p)) := s_add9 (by simp; omega)
    have a6 : binS .add (.s ([60, 63] ++ cmtL p)) (.s [62]) = some (.s ([60, 63] ++ cmtL p ++ [62])) := s_add9 (by simp; omega)
    have a7 : binS .add (.s [63]) (.s (cmtL p)) = some (.s (63 :: cmtL p)) := s_add9 (by simp; omega)
    have hs : ∀ x : List UInt8, binS .eql (.s x) (.s x) = some (.b true) := fun x => by simp [binS, strOp]
    have hi : inN ([Tok.av ⟨3, [], [], cmtL p, false⟩] : List AV).length (.int 0) = some 0 := rfl
    have hi : ∀ x : AV, inN ([x] : List AV).length (.int 0) = some 0 := fun _ => rfl
    simp only [X8_5, lenR_ro, Option.bind_some, List.append_nil, List.length_map, int_lss, nlt_self, condM_b, Bool.false_eq_true, if_false, hb, a1, a2, a3, a4, a5, a6, a7, s2b_s, h1, h2, h3, comp3_0, comp3_1, comp3_2, asAg_toAV, elems_ro, List.map_cons, List.map_nil, Tok.av, hi, List.getD_cons_zero, AV.cell, List.getD_cons_succ, hs]
    rfl
  | b :: r, p, hp => by
    have hi : idx 1 (.ro 1 ((p ++ b :: r).map .u8)) (.int (p.length : Int)) = some (.u8 b) := idx_at p b r
    have hl : (cmtL p).length ≤ p.length := List.length_filter_le _ _
    have hpl : p.length ≤ 2000000 := by simp at hp; omega
    have ih := l8 r (p ++ [b]) (by rw [← snoc_app]; exact hp)
    rw [← snoc_app] at ih
    apply r8_5
    simp only [X8_5, lenR_ro, Option.bind_some, int_lss, lt_len', condM_b, if_true, hi, cell_u8, u8_neq, selW_and, one_u8, ne_eq3]
    cases hb : (b == 45 || b == 62 || b == 33) with
    | false =>
      simp only [Bool.not_false, if_true]
      rw [show (AV.ro 1 [.u8 b]) = .ro 1 ([b].map .u8) from rfl, app9 (by simp; omega)]
      simp only [Option.bind_some]
      apply r8_6
      simp only [X8_6]
      rw [w64_inc p b r (by simp at hp ⊢; omega), ← cmtL_in p b hb]
      exact ih
    | true =>
      simp only [Bool.not_true, Bool.false_eq_true, if_false]
      apply r8_6
      simp only [X8_6]
      rw [w64_inc p b r (by simp at hp ⊢; omega)]
      rw [cmtL_out p b hb] at ih
      exact ih
theorem law8 (l : List UInt8) (h : l.length ≤ 2000000) : semCall C Tryd.prog 8 [.ro 1 (l.map .u8)] = some (.b true) := by
  apply c8
  simp only [X8, s11, Option.bind_some, unop_not, Bool.not_true, condM_b, Bool.false_eq_true, if_false]
  exact l8 l [] h
end R4

namespace R4
open Go Go.Proofs Sx

theorem s_neq_self' (x : List UInt8) : binS .neq (.s x) (.s x) = some (.b false) := by simp [binS, strOp]
theorem l15 : ∀ (r p : List UInt8), (p ++ r).length < 9223372036854775808 → p.length ≤ 11 →
    F15_3 (semRun C Tryd.prog 15 Tryd.f15) (.ro 1 ((p ++ r).map .u8)) (.s (113 :: p.map letter26)) (p.length : Int) = some (.s (nameL (p ++ r)))
  | [], p, h, h11 => by
    apply r15_3
    have : nameL p = 113 :: p.map letter26 := by unfold nameL; rw [List.take_of_length_le h11]
    simp only [X15_3, lenR_ro, int_lss, nlt_map, Option.bind_some, condM_b, Bool.false_eq_true, if_false, List.append_nil, selW_and, Bool.false_and, this]
  | b :: r, p, h, h11 => by
    apply r15_3
    have hi := idx_at p b r
    simp only [X15_3, lenR_ro, int_lss, lt_len', hi, w64_inc p b r h, Option.bind_some, condM_b, selW_and, Bool.true_and, cell_u8, rem26, u8_add, one_u8, b2s_one]
    by_cases hp : p.length < 11
    · rw [if_pos (by simp; omega), s_add' (by simp; omega)]
      simp only [Option.bind_some]
      rw [snoc_app, show (113 :: List.map letter26 p ++ [97 + b % 26]) = 113 :: List.map letter26 (p ++ [b]) by rw [List.map_append]; rfl]
      exact l15 r (p ++ [b]) (by rw [← snoc_app]; exact h) (by simp; omega)
    · rw [if_neg (by simp; omega)]
      have : nameL (p ++ b :: r) = 113 :: p.map letter26 := by
        unfold nameL
        rw [List.take_append_of_le_length (by omega), List.take_of_length_le (by omega)]
      rw [this]
theorem s15 (l : List UInt8) (h : l.length < 9223372036854775808) : semCall C Tryd.prog 15 [.ro 1 (l.map .u8)] = some (.s (nameL l)) := by
  apply c15
  exact l15 l [] h (by decide)
/-- Lists of bytes. -/
def ro2 (L : List (List UInt8)) : AV := .ro 1 (L.map fun l => .ro 1 (l.map .u8))
theorem idx_ro2 {L : List (List UInt8)} {k : Nat} {l : List UInt8} (h : L[k]? = some l) : idx 1 (ro2 L) (.int (k : Int)) = some (.ro 1 (l.map .u8)) := by
  have hk : k < L.length := (List.getElem?_eq_some_iff.1 h).1
  show (if 1 = 1 then (inN (L.map fun l => AV.ro 1 (l.map .u8)).length (.int (k : Int))).bind fun n => some ((L.map fun l => AV.ro 1 (l.map .u8)).getD n .un) else none) = _
  rw [if_pos rfl, inN_int (by simpa using hk)]
  simp [List.getD_eq_getElem?_getD, h]
theorem len_ro2 (L : List (List UInt8)) : lenR (ro2 L) = some (.int (L.length : Int)) := by simp [ro2]
/-- Without its quotes. -/
def unq (l : List UInt8) : List UInt8 := l.filter fun b => !(b == 34)
theorem unq_all (l : List UInt8) : (unq l).all (fun b => !(b == 34)) = true := List.all_eq_true.2 fun x hx => (List.mem_filter.1 hx).2
theorem unq_len (l : List UInt8) : (unq l).length ≤ l.length := List.length_filter_le _ _
theorem unq_in (p : List UInt8) (b : UInt8) (h : (b != 34) = true) : unq (p ++ [b]) = unq p ++ [b] := by
  unfold unq; rw [List.filter_append, List.filter_cons_of_pos (by simpa [bne] using h)]; rfl
theorem unq_out (p : List UInt8) (b : UInt8) (h : (b != 34) = false) : unq (p ++ [b]) = unq p := by
  unfold unq; rw [List.filter_append, List.filter_cons_of_neg (by simpa [bne] using h)]; exact List.append_nil _
/-- The pairs that are written. -/
def prs (N V : List (List UInt8)) : List (List UInt8 × List UInt8) := (N.zip (V.map unq)).take 6
theorem prs_at {N V : List (List UInt8)} {k : Nat} {x : List UInt8 × List UInt8} (h : (prs N V)[k]? = some x) : N[k]? = some x.1 ∧ ∃ v, V[k]? = some v ∧ x.2 = unq v := by
  unfold prs at h
  rw [List.getElem?_take] at h
  split at h
  · obtain ⟨a, b⟩ := List.getElem?_zip_eq_some.1 h
    rw [List.getElem?_map, Option.map_eq_some_iff] at b
    obtain ⟨v, q1, q2⟩ := b
    exact ⟨a, v, q1, q2.symm⟩
  · cases h
theorem prs_len (N V : List (List UInt8)) : (prs N V).length = min (min N.length V.length) 6 := by
  unfold prs
  simp [Nat.min_comm]
theorem attrB_len (x : List UInt8 × List UInt8) : (attrB x).length ≤ x.2.length + 16 := by
  unfold attrB nameL
  simp
  omega
theorem attrs_len (B : Nat) : ∀ (L : List (List UInt8 × List UInt8)), (∀ x ∈ L, x.2.length ≤ B) → (L.flatMap attrB).length ≤ L.length * (B + 16)
  | [], _ => by simp
  | x :: L, h => by
    have h1 := attrB_len x
    have h2 := h x (by simp)
    have h3 := attrs_len B L (fun y hy => h y (by simp [hy]))
    simp only [List.flatMap_cons, List.length_append, List.length_cons, Nat.add_mul]
    omega
theorem name_len (l : List UInt8) : (nameL l).length ≤ 12 := by unfold nameL; simp; omega
theorem l6_in (N V : List (List UInt8)) (a2 : AV) (s : List UInt8) (kind : UInt8) (a5 : AV) (want : List AV) (i : Nat) (nm v : List UInt8) (hN : N[i]? = some nm) (hV : V[i]? = some v)
    (hs : s.length ≤ 100000000) (hv : v.length ≤ 2000000) (hw : want.length ≤ 6) (hnm : nm.length < 9223372036854775808)
    (k : F6_13 (semRun C Tryd.prog 6 Tryd.f6) (ro2 N) (ro2 V) a2 (.s (s ++ attrB (nm, unq v))) kind a5 (want ++ [.s (unq v)]) (w64 ((i : Int) + 1)) = some (.b true)) :
    ∀ (r p : List UInt8), v = p ++ r → F6_17 (semRun C Tryd.prog 6 Tryd.f6) (ro2 N) (ro2 V) a2 (.s s) kind a5 want (i : Int) (.s (unq p)) (p.length : Int) = some (.b true)
  | [], p, e => by
    apply r6_17
    have e : v = p := by rw [e, List.append_nil]
    subst e
    have hl := unq_len v
    have hn := name_len nm
    have h1 : app 16 1 want (.ro 1 [AV.s (unq v)]) = some (want ++ [.s (unq v)]) := by
      show ((if 1 = 1 then some [AV.s (unq v)] else none).bind fun q => if (want.length + q.length) * 16 ≤ big then some (want ++ q) else none) = _
      rw [if_pos rfl]
      have : big = 70368744177664 := rfl
      simp only [Option.bind_some, List.length_cons, List.length_nil, this]
      rw [if_pos (by omega)]
    have a1 : binS .add (.s [32]) (.s (nameL nm)) = some (.s ([32] ++ nameL nm)) := s_add9 (by simp; omega)
    have a2' : binS .add (.s ([32] ++ nameL nm)) (.s [61, 34]) = some (.s ([32] ++ nameL nm ++ [61, 34])) := s_add9 (by simp; omega)
    have a3 : binS .add (.s ([32] ++ nameL nm ++ [61, 34])) (.s (unq v)) = some (.s ([32] ++ nameL nm ++ [61, 34] ++ unq v)) := s_add9 (by simp; omega)
    have a4 : binS .add (.s ([32] ++ nameL nm ++ [61, 34] ++ unq v)) (.s [34]) = some (.s ([32] ++ nameL nm ++ [61, 34] ++ unq v ++ [34])) := s_add9 (by simp; omega)
    have e6 : ([32] ++ nameL nm ++ [61, 34] ++ unq v ++ [34]) = attrB (nm, unq v) := by simp [attrB]
    have a5' : binS .add (.s s) (.s (attrB (nm, unq v))) = some (.s (s ++ attrB (nm, unq v))) := s_add9 (by have := attrB_len (nm, unq v); simp only at this; omega)
    rw [e6] at a4
    simp only [X6_17, idx_ro2 hV, idx_ro2 hN, cell_ro, lenR_ro, List.length_map, Option.bind_some, int_lss, nlt_self, condM_b, Bool.false_eq_true, if_false, one_s, h1, s15 nm hnm, a1, a2', a3, a4, a5']
    exact k
  | b :: r, p, e => by
    apply r6_17
    have hi := idx_at p b r
    have hv' : (p ++ b :: r).length ≤ 2000000 := by rw [← e]; exact hv
    have hl := unq_len p
    have ih := l6_in N V a2 s kind a5 want i nm v hN hV hs hv hw hnm k r (p ++ [b]) (by rw [e]; simp)
    have hw' : w64 ((p.length : Int) + 1) = ((p ++ [b]).length : Int) := by rw [w64_eq (by omega) (by simp at hv'; omega)]; simp
    rw [← hw'] at ih
    have hV' := idx_ro2 hV
    rw [e] at hV'
    have a1 : binS .add (.s (unq p)) (.s [b]) = some (.s (unq p ++ [b])) := s_add9 (by simp at hv' ⊢; omega)
    simp only [X6_17, hV', cell_ro, cell_u8, lenR_ro, Option.bind_some, int_lss, lt_len', hi, u8_neq, condM_b, if_true, one_u8, b2s_one, a1]
    cases hb : (b != 34) with
    | true =>
      rw [unq_in p b hb] at ih
      simp only [if_true]
      apply r6_18
      exact ih
    | false =>
      rw [unq_out p b hb] at ih
      simp only [Bool.false_eq_true, if_false]
      apply r6_18
      exact ih
theorem l6_last (N V : List (List UInt8)) (en : Bool) (t : List UInt8) (hN : ∀ l ∈ N, l.length < 9223372036854775808) : ∀ (r pre : List (List UInt8 × List UInt8)), prs N V = pre ++ r →
    F6_28 (semRun C Tryd.prog 6 Tryd.f6) (ro2 N) (.int ((prs N V).length : Int)) ((prs N V).map fun x => .s x.2) [(⟨if en then 2 else 1, nameL t, (prs N V).map named', [], false⟩ : Tok).av] (pre.length : Int) = some (.b true)
  | [], pre, e => by
    apply r6_28
    have e' : (prs N V).length = pre.length := by rw [e]; simp
    simp only [X6_28, int_lss, e', nlt_self, Option.bind_some, condM_b, Bool.false_eq_true, if_false]
  | x :: r, pre, e => by
    apply r6_28
    have hn : pre.length + r.length + 1 = (prs N V).length := by rw [e]; simp; omega
    have h6 : (prs N V).length ≤ 6 := by rw [prs_len]; omega
    have hlt : decide ((pre.length : Int) < ((prs N V).length : Int)) = true := by simp; omega
    have hx : (prs N V)[pre.length]? = some x := by rw [e]; simp
    obtain ⟨g1, v, g2, g3⟩ := prs_at hx
    have ih := l6_last N V en t hN r (pre ++ [x]) (by rw [e]; simp)
    have hw' : w64 ((pre.length : Int) + 1) = ((pre ++ [x]).length : Int) := by rw [w64_eq (by omega) (by omega)]; simp
    rw [← hw'] at ih
    have hi : idx 2 (.ro 2 (((prs N V).map named').map pairAV)) (.int (pre.length : Int)) = some (pairAV (named' x)) := by
      show (if 2 = 2 then (inN (((prs N V).map named').map pairAV).length (.int (pre.length : Int))).bind fun n => some ((((prs N V).map named').map pairAV).getD n .un) else none) = _
      rw [if_pos rfl, inN_int (by simp; omega), e]
      simp
    have hg : ((prs N V).map fun x => AV.s x.2).getD pre.length .un = .s x.2 := by rw [e]; simp
    have hi2 : inN ((prs N V).map fun x => AV.s x.2).length (.int (pre.length : Int)) = some pre.length := inN_int (by simp; omega)
    have hi0 (a : AV) : inN ([a] : List AV).length (.int 0) = some 0 := rfl
    have c2 : AV.cell ((⟨if en then 2 else 1, nameL t, (prs N V).map named', [], false⟩ : Tok).av) 2 = .ro 2 (((prs N V).map named').map pairAV) := rfl
    have p0 : AV.cell (pairAV (named' x)) 0 = .s (nameL x.1) := rfl
    have p1 : AV.cell (pairAV (named' x)) 1 = .s x.2 := rfl
    have hnm : x.1.length < 9223372036854775808 := hN _ (List.mem_of_getElem? g1)
    simp only [X6_28, int_lss, hlt, hi0, Option.bind_some, List.getD_cons_zero, c2, hi, p0, p1, idx_ro2 g1, cell_ro, s15 x.1 hnm, s_neq_self', hi2, hg, cell_s, selW_or, Bool.or_self, condM_b, Bool.false_eq_true, if_false, if_true]
    exact ih
theorem l6 (N V : List (List UInt8)) (en : Bool) (t : List UInt8) (hN : ∀ l ∈ N, l.length < 9223372036854775808) (hV : ∀ l ∈ V, l.length ≤ 1048576) : ∀ (r pre : List (List UInt8 × List UInt8)), prs N V = pre ++ r →
    F6_13 (semRun C Tryd.prog 6 Tryd.f6) (ro2 N) (ro2 V) (.s (nameL t)) (.s ((if en then [60, 47] else [60]) ++ nameL t ++ pre.flatMap attrB)) (if en then 2 else 1) (.int ((prs N V).length : Int)) (pre.map fun x => .s x.2) (pre.length : Int) = some (.b true)
  | r, pre, e => by
    have h6 : (prs N V).length ≤ 6 := by rw [prs_len]; omega
    have hB : ∀ x ∈ prs N V, x.2.length ≤ 1048576 ∧ x.2.all (fun b => !(b == 34)) = true := by
      intro x hx
      obtain ⟨k, hk⟩ := List.mem_iff_getElem?.1 hx
      obtain ⟨_, v, q1, q2⟩ := prs_at hk
      have := unq_len v
      have := hV v (List.mem_of_getElem? q1)
      rw [q2]
      exact ⟨by omega, unq_all v⟩
    have hnt := name_len t
    have hpre : (pre.flatMap attrB).length ≤ pre.length * (1048576 + 16) := attrs_len 1048576 pre (fun x hx => (hB x (by rw [e]; simp [hx])).1)
    have hp6 : pre.length + r.length = (prs N V).length := by rw [e]; simp
    have hpm : pre.length * (1048576 + 16) ≤ 6 * (1048576 + 16) := Nat.mul_le_mul_right _ (by omega)
    have hsl : ((if en then [60, 47] else [60]) ++ nameL t ++ pre.flatMap attrB).length ≤ 6 * (1048576 + 16) + 14 := by
      have : (if en then ([60, 47] : List UInt8) else [60]).length ≤ 2 := by cases en <;> decide
      simp only [List.length_append]
      omega
    apply r6_13
    match r, e, hp6 with
    | [], e, hp6 =>
      have e : prs N V = pre := by rw [e, List.append_nil]
      have hl := l6_last N V en t hN (prs N V) [] rfl
      have htok := tok_tag en t (prs N V) (fun x hx => (hB x hx).2)
      rw [e] at hl htok ⊢
      have hall := s12 (tagB en t pre) (by unfold tagB; simp only [List.length_append, List.length_cons, List.length_nil] at hsl ⊢; omega)
      rw [htok] at hall
      have a1 : binS .add (.s ((if en then [60, 47] else [60]) ++ nameL t ++ pre.flatMap attrB)) (.s [62]) = some (.s (tagB en t pre)) := s_add9 (by simp only [List.length_cons, List.length_nil]; omega)
      have ne : binAg [.i, .i, .b, .i, .i, .i, .i, .b, .i, .s] .neq (st1 0).toAV (st1 0).toAV = some (.b false) := by rw [ne_toAV]; simp
      simp only [Ctx.toAV, cx, st1] at ne
      have hi0 (a : AV) : inN ([a] : List AV).length (.int 0) = some 0 := rfl
      have c0 : AV.cell ((⟨if en then 2 else 1, nameL t, pre.map named', [], false⟩ : Tok).av) 0 = .u8 (if en then 2 else 1) := rfl
      have c1 : AV.cell ((⟨if en then 2 else 1, nameL t, pre.map named', [], false⟩ : Tok).av) 1 = .s (nameL t) := rfl
      have c2 : AV.cell ((⟨if en then 2 else 1, nameL t, pre.map named', [], false⟩ : Tok).av) 2 = .ro 2 ((pre.map named').map pairAV) := rfl
      have l1 (a : AV) : ((([a] : List AV).length : Int) != 1) = false := rfl
      simp only [X6_13, int_lss, nlt_self, condM_b, Bool.false_eq_true, if_false, a1, s2b_s, hall, Option.bind_some, comp3_0, comp3_1, comp3_2, asAg_toAV, elems_ro, List.map_cons, List.map_nil, ten0, ten1, ten2, ten3, ten4, ten5, ten6, ten7, ten8, ten9, int_neq, bne_self_eq_false, selW_or, Bool.or_self]
      simp only [st1, ne, Option.bind_some, selW_or, Bool.or_self, l1, hi0, List.getD_cons_zero, c0, c1, c2, u8_neq, bne_self_eq_false, s_neq_self', lenR_ro, List.length_map, int_neq, condM_b, Bool.false_eq_true, if_false]
      exact hl
    | x :: r, e, hp6 =>
      have hlt : decide ((pre.length : Int) < ((prs N V).length : Int)) = true := by simp at hp6 ⊢; omega
      have hx : (prs N V)[pre.length]? = some x := by rw [e]; simp
      obtain ⟨g1, v, g2, g3⟩ := prs_at hx
      have ih := l6 N V en t hN hV r (pre ++ [x]) (by rw [e]; simp)
      have hw' : w64 ((pre.length : Int) + 1) = ((pre ++ [x]).length : Int) := by rw [w64_eq (by omega) (by simp at hp6; omega)]; simp
      have ex : x = (x.1, unq v) := by rw [← g3]
      have k : F6_13 (semRun C Tryd.prog 6 Tryd.f6) (ro2 N) (ro2 V) (.s (nameL t)) (.s (((if en then [60, 47] else [60]) ++ nameL t ++ pre.flatMap attrB) ++ attrB (x.1, unq v))) (if en then 2 else 1) (.int ((prs N V).length : Int)) ((pre.map fun x => AV.s x.2) ++ [.s (unq v)]) (w64 ((pre.length : Int) + 1)) = some (.b true) := by
        rw [hw', ← ex, ← g3]
        simpa using ih
      have hin := l6_in N V (.s (nameL t)) ((if en then [60, 47] else [60]) ++ nameL t ++ pre.flatMap attrB) (if en then 2 else 1) (.int ((prs N V).length : Int)) (pre.map fun x => .s x.2) pre.length x.1 v g1 g2 (by omega) (by have := hV v (List.mem_of_getElem? g2); omega) (by simp at hp6 ⊢; omega) (hN _ (List.mem_of_getElem? g1)) k v [] rfl
      simp only [X6_13, int_lss, hlt, Option.bind_some, condM_b, if_true]
      exact hin
theorem law6 (t : List UInt8) (N V : List (List UInt8)) (en : Bool) (ht : t.length < 9223372036854775808) (hN : ∀ l ∈ N, l.length < 9223372036854775808) (hV : ∀ l ∈ V, l.length ≤ 1048576) (hNl : N.length < 9223372036854775808) (hVl : V.length < 9223372036854775808) :
    semCall C Tryd.prog 6 [.ro 1 (t.map .u8), ro2 N, ro2 V, .b en] = some (.b true) := by
  apply c6
  have k := l6 N V en t hN hV (prs N V) [] rfl
  have hm : ((mm true (.int (N.length : Int)) (.int (V.length : Int))).bind fun w => mm true w (.int 6)) = some (.int ((prs N V).length : Int)) := by
    rw [prs_len]
    simp only [mm, Option.bind_some, if_true]
    congr 2
    repeat' split
    all_goals omega
  have hnt := name_len t
  have f9 (l : List UInt8) (hl : l = if en then [60, 47] else [60]) (kd : UInt8) (hk : kd = if en then 2 else 1) : F6_9 (semRun C Tryd.prog 6 Tryd.f6) (ro2 N) (ro2 V) (.s (nameL t)) l kd = some (.b true) := by
    apply r6_9
    have a1 : binS .add (.s l) (.s (nameL t)) = some (.s (l ++ nameL t)) := s_add9 (by rw [hl]; cases en <;> simp <;> omega)
    simp only [X6_9, a1, len_ro2, Option.bind_some, hm]
    rw [hl, hk]
    simpa using k
  simp only [X6, s11, s15 t ht, Option.bind_some, unop_not, Bool.not_true, condM_b, Bool.false_eq_true, if_false]
  cases en with
  | true => exact f9 _ rfl _ rfl
  | false => exact f9 _ rfl _ rfl
theorem is_rows : ∀ {l : List AV}, (∀ x ∈ l, Is (.sl false [.u8]) x) → ∃ L : List (List UInt8), l = L.map (fun l => AV.ro 1 (l.map .u8)) ∧ ∀ x ∈ L, x.length < 9223372036854775808
  | [], _ => ⟨[], rfl, fun x h => by cases h⟩
  | x :: r, h => by
    obtain ⟨L, rfl, hL⟩ := is_rows (l := r) (fun y hy => h y (List.mem_cons_of_mem _ hy))
    obtain ⟨m, rfl, hm⟩ := is_bytes' (a := x) ⟨_, rfl, h x (by simp)⟩
    refine ⟨m :: L, rfl, fun y hy => ?_⟩
    rcases List.mem_cons.1 hy with rfl | q
    · exact hm
    · exact hL y q
theorem is_bytess {a : AV} (h : IsArg false [.sl false [.sl false [.u8]]] a) : ∃ L : List (List UInt8), a = ro2 L ∧ L.length < 9223372036854775808 ∧ ∀ x ∈ L, x.length < 9223372036854775808 := by
  obtain ⟨lf, e, h⟩ := h
  cases e
  cases h with
  | sl1 lf l h hm =>
    obtain ⟨L, rfl, hL⟩ := is_rows h
    refine ⟨L, rfl, ?_, hL⟩
    have : Go.maxLen < 9223372036854775808 := by decide
    simp only [List.length_map] at hm
    omega
theorem wt_rows : ∀ (L : List (List UInt8)), ∀ x ∈ L, x.length ≤ wts (L.map fun l => AV.ro 1 (l.map .u8))
  | [], x, h => by cases h
  | y :: L, x, h => by
    simp only [List.map_cons, wts, wt_bytes]
    rcases List.mem_cons.1 h with rfl | q
    · omega
    · have := wt_rows L x q; omega
theorem wt_ro2 (L : List (List UInt8)) : ∀ x ∈ L, x.length ≤ wt (ro2 L) := fun x h => by
  have := wt_rows L x h
  simp only [ro2, wt]
  omega
theorem args4 {p q r s : Bool × List Lf} {xs : List AV} (h : ArgsOk [p, q, r, s] xs) : ∃ a b c d, xs = [a, b, c, d] ∧ IsArg p.1 p.2 a ∧ IsArg q.1 q.2 b ∧ IsArg r.1 r.2 c ∧ IsArg s.1 s.2 d := by
  match xs, h with
  | [a, b, c, d], h => exact ⟨a, b, c, d, rfl, h.1, h.2.1, h.2.2.1, h.2.2.2.1⟩
end R4
