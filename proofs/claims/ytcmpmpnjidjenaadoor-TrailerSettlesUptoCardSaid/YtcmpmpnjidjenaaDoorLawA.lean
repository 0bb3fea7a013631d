/-
  What functions of this seat compute, and laws on plain data.
-/
import Derived.Test.YtcmpmpnjidjenaaDoorPure
import Derived.Test.YtcmpmpnjidjenaaDoorSxD
import Derived.Test.YtcmpmpnjidjenaaDoorTxtA
import Derived.Test.YtcmpmpnjidjenaaDoorTxtB
import Derived.Test.YtcmpmpnjidjenaaDoorTxtC
set_option linter.unusedVariables false
set_option linter.unusedSimpArgs false
set_option linter.unusedSectionVars false
set_option linter.unnecessarySimpa false
namespace R2
open Go Go.Proofs Sx

section
variable (st el : UInt8) (en : Bool) (at' qu pa su : UInt8) (es : Bool) (da : UInt8) (nm : List UInt8)

theorem s46 : semCall C Tryd.prog 46 [cx st el en at' qu pa su es da nm] = some (.b (coded st el at')) := by
  apply c46
  simp only [X46, ueq_eq, une_eq, ult_eq, ule_eq, ugt_eq, uge_eq, Option.bind_some, selW_and, selW_or, condM_b, w64_u8, ge_iff_le, coded]
  simp only [i_beq _ _ (show 8 < 256 by decide), i_ge _ _ (show 17 < 256 by decide), i_le _ _ (show 19 < 256 by decide)]

theorem l47 (n : Nat) : ∀ (r p : List UInt8), (p ++ r).length < 9223372036854775808 → low p = true → F47_2 (semRun C Tryd.prog 47 Tryd.f47) (p ++ r) (n : Int) (p.length : Int) = some (.b (small (p ++ r) n))
  | [], p, h, hp => by
    apply r47_2
    simp only [X47_2, nlt_len, nlt_self, List.append_nil, Option.bind_some, condM_b, Bool.false_eq_true, if_false, selW_and, small, hp, Bool.true_and, gt_iff_lt]
    congr 3
    rw [decide_eq_decide]; omega
  | c :: r, p, h, hp => by
    apply r47_2
    simp only [X47_2, lt_len, idxS_at, w64_inc p c r h, u8_geq, u8_leq, Option.bind_some, condM_b, if_true, selW_and]
    cases hc : (decide (65 ≤ c) && decide (c ≤ 90)) with
    | true =>
      have : low (p ++ c :: r) = false := by simp only [low, List.all_append, List.all_cons, hc, Bool.not_true, Bool.false_and, Bool.and_false]
      simp [small, this]
    | false =>
      simp only [Bool.false_eq_true, if_false]
      rw [snoc_app]
      exact l47 n r (p ++ [c]) (by rw [← snoc_app]; exact h) (by simp only [low, List.all_append, List.all_cons, List.all_nil, hc] at hp ⊢; simpa using hp)
theorem s47 (n : Nat) (h : nm.length < 9223372036854775808) : semCall C Tryd.prog 47 [.s nm, .int (n : Int)] = some (.b (small nm n)) := by
  apply c47
  exact l47 n nm [] h rfl
theorem l43 (n : Nat) : ∀ (r p : List UInt8), (p ++ r).length < 9223372036854775808 → low p = true → F43_2 (semRun C Tryd.prog 43 Tryd.f43) (p ++ r) (n : Int) ((p ++ r).length : Int) (p.length : Int) = some (.b (small (p ++ r) n))
  | [], p, h, hp => by
    apply r43_2
    simp only [X43_2, nlt_len, nlt_self, List.append_nil, Option.bind_some, condM_b, Bool.false_eq_true, if_false, selW_and, small, hp, Bool.true_and, ge_iff_le]
    congr 3
    rw [decide_eq_decide]; omega
  | c :: r, p, h, hp => by
    apply r43_2
    simp only [X43_2, lt_len, idxS_at, w64_inc p c r h, u8_geq, u8_leq, Option.bind_some, condM_b, if_true, selW_and]
    cases hc : (decide (65 ≤ c) && decide (c ≤ 90)) with
    | true =>
      have : low (p ++ c :: r) = false := by simp only [low, List.all_append, List.all_cons, hc, Bool.not_true, Bool.false_and, Bool.and_false]
      simp [small, this]
    | false =>
      simp only [Bool.false_eq_true, if_false]
      rw [snoc_app]
      exact l43 n r (p ++ [c]) (by rw [← snoc_app]; exact h) (by simp only [low, List.all_append, List.all_cons, List.all_nil, hc] at hp ⊢; simpa using hp)
theorem s43 (n : Nat) (h : nm.length < 9223372036854775808) : semCall C Tryd.prog 43 [.s nm, .int (n : Int)] = some (.b (small nm n)) := by
  apply c43
  simp only [X43]
  exact l43 n nm [] h rfl

theorem s77 : semCall C Tryd.prog 77 [.u8 el] = some (.s (nameOf el)) := by
  apply c77
  refine of_isStr ?_
  revert el
  exact all_u8 (by kernel_rfl)
theorem s48 : semCall C Tryd.prog 48 [.int el.toNat] = some (.s (nameOf el)) := by
  apply c48
  refine of_isStr ?_
  revert el
  exact all_u8 (by kernel_rfl)
theorem s98 (l p : List UInt8) : semCall C Tryd.prog 98 [.s l, .s p] = some (.b (pre p l)) := by
  apply c98
  simp only [X98, Option.bind_some, ge_iff_le]
  by_cases h : p.length ≤ l.length
  · rw [slS_hi h]
    simp [pre, h]
  · have : decide ((p.length : Int) ≤ (l.length : Int)) = false := by simp; omega
    rw [this, selW_tf]
    simp [pre, h]
theorem s76 (l p : List UInt8) : semCall C Tryd.prog 76 [.s l, .s p] = some (.b (pre p l)) := by
  apply c76
  simp only [X76, s98, Option.bind_some]

theorem s75 (b : Bool) : semCall C Tryd.prog 75 [cx st el en at' qu pa su es da nm, .b b] = some (.b (subOk su es b)) := by
  apply c75
  simp only [X75, ueq_eq, une_eq, ult_eq, ule_eq, ugt_eq, uge_eq, Option.bind_some, selW_and, selW_or, condM_b, subOk]
  cases b <;> by_cases h : su = 4 <;> simp [h]
theorem s58 : semCall C Tryd.prog 58 [cx st el en at' qu pa su es da nm] = some (.b ((su == 1 || su == 2) && !es)) := by
  apply c58
  simp [X58]
end


section
variable (st el : UInt8) (en : Bool) (at' qu pa su : UInt8) (es : Bool) (da : UInt8) (nm : List UInt8)

theorem s22 (h : nm.length < 9223372036854775808) : semCall C Tryd.prog 22 [cx st el en at' qu pa su es da nm] = some (.b (form ⟨st, el, en, at', qu, pa, su, es, da, nm⟩)) := by
  apply c22
  have e1 : semCall C Tryd.prog 47 [.s nm, .int 32] = some (.b (small nm 32)) := s47 nm 32 h
  have e2 : semCall C Tryd.prog 47 [.s nm, .int 16] = some (.b (small nm 16)) := s47 nm 16 h
  simp only [X22, cxeq, Bool.and_true, ueq_eq, une_eq, ult_eq, ule_eq, ugt_eq, uge_eq, Option.bind_some, selW_and, selW_or, condM_b, s46, e1, e2, s48, lenS_s, s_eql, w64_u8, ge_iff_le, gt_iff_lt, unop_not, int_leq]
  simp only [i_beq _ _ (show 3 < 256 by decide), i_beq _ _ (show 5 < 256 by decide), i_beq _ _ (show 6 < 256 by decide), i_beq _ _ (show 8 < 256 by decide), i_beq _ _ (show 19 < 256 by decide), i_bne _ _ (show 3 < 256 by decide), i_bne _ _ (show 7 < 256 by decide), i_bne _ _ (show 8 < 256 by decide), i_bne _ _ (show 15 < 256 by decide),
    i_ge _ _ (show 17 < 256 by decide), i_le _ _ (show 19 < 256 by decide), i_ge _ _ (show 4 < 256 by decide), i_le _ _ (show 10 < 256 by decide), i_gt _ _ (show 20 < 256 by decide)]
  have e3 : (selW (.b (decide ((nm.length : Int) ≤ ((nameOf el).length : Int)))) true ((slS (.s (nameOf el)) none (some (.int (nm.length : Int)))).bind fun v90 => (binS .eql v90 (.s nm)).bind fun v91 => some v91) (.b false)) = some (.b (pre nm (nameOf el))) := by
    by_cases hl : nm.length ≤ (nameOf el).length
    · rw [slS_hi hl]; simp [pre, hl]
    · have : decide ((nm.length : Int) ≤ ((nameOf el).length : Int)) = false := by simp; omega
      rw [this, selW_tf]; simp [pre, hl]
  rw [e3]
  simp only [Option.bind_some, some_ite, form, isTag, isRaw]

section two
variable (st1 el1 : UInt8) (en1 : Bool) (at1 qu1 pa1 su1 : UInt8) (es1 : Bool) (da1 : UInt8) (nm1 : List UInt8)
theorem f44_14 : F44_14 (semRun C Tryd.prog 44 Tryd.f44) st el en at' qu pa su es da nm st1 el1 en1 at1 qu1 pa1 su1 es1 da1 nm1 =
    some (.b (cxeq ⟨st, el, en, at', qu, pa, su, es, da, nm⟩ ⟨st1, el1, en1, at1, qu1, pa1, su1, es1, da1, nm1⟩)) := by
  apply r44_14
  simp only [X44_14, cxeq, Bool.and_true, ueq_eq, une_eq, ult_eq, ule_eq, ugt_eq, uge_eq, Option.bind_some, selW_and, selW_or, condM_b, Option.bind_some]
theorem f44_12 : F44_12 (semRun C Tryd.prog 44 Tryd.f44) st el en at' qu pa su es da nm st1 el1 en1 at1 qu1 pa1 su1 es1 da1 nm1 =
    some (.b (cxeq ⟨st, el, en, at', qu, pa, su, es, da, nm⟩ ⟨st1, el1, en1, at1, qu1, pa1, su, es, da1, nm1⟩ && subOk su es (at' == 2))) := by
  apply r44_12
  simp only [X44_12, cxeq, Bool.and_true, ueq_eq, une_eq, ult_eq, ule_eq, ugt_eq, uge_eq, Option.bind_some, selW_and, selW_or, condM_b, s75, selW_and]
theorem f45_6 : F45_6 (semRun C Tryd.prog 45 Tryd.f45) st el en at' qu pa su es da nm st1 el1 en1 at1 qu1 pa1 su1 es1 da1 nm1 =
    some (.b (cxeq ⟨st, el, en, at', qu, pa, su, es, da, nm⟩ ⟨st1, el1, en1, at1, qu1, pa1, su1, es1, da1, nm1⟩ && (el != 0) && pre nm (nameOf el) && subOk su es (el == 3))) := by
  apply r45_6
  simp only [X45_6, cxeq, Bool.and_true, ueq_eq, une_eq, ult_eq, ule_eq, ugt_eq, uge_eq, Option.bind_some, selW_and, selW_or, condM_b, s75, s77, s76, selW_and]
theorem f45_4 : F45_4 (semRun C Tryd.prog 45 Tryd.f45) st el en at' qu pa su es da nm st1 el1 en1 at1 qu1 pa1 su1 es1 da1 nm1 =
    some (.b (cxeq ⟨st, el, en, at', qu, pa, su, es, da, nm⟩ ⟨st1, el1, en1, at1, qu1, pa1, if (el == 3 || el == 4) = true then su else su1, if (el == 3 || el == 4) = true then es else es1, da1, nm1⟩ && (el != 0) && pre nm (nameOf el) && subOk su es (el == 3))) := by
  apply r45_4
  simp only [X45_4, cxeq, Bool.and_true, ueq_eq, une_eq, ult_eq, ule_eq, ugt_eq, uge_eq, Option.bind_some, selW_and, selW_or, condM_b, f45_6, condM_b]
  split <;> rfl
theorem s45 : semCall C Tryd.prog 45 [cx st el en at' qu pa su es da nm] =
    some (.b (cxeq ⟨st, el, en, at', qu, pa, su, es, da, nm⟩ ⟨st, el, false, 0, 0, 0, if (el == 3 || el == 4) = true then su else 0, if (el == 3 || el == 4) = true then es else false, 0, if (st == 19) = true then nm else []⟩ && (el != 0) && pre nm (nameOf el) && subOk su es (el == 3))) := by
  apply c45
  simp only [X45, cxeq, Bool.and_true, ueq_eq, une_eq, ult_eq, ule_eq, ugt_eq, uge_eq, Option.bind_some, selW_and, selW_or, condM_b, f45_4, condM_b]
  split <;> rfl
theorem s44 (h : nm.length < 9223372036854775808) : semCall C Tryd.prog 44 [cx st el en at' qu pa su es da nm, cx st1 el1 en1 at1 qu1 pa1 su1 es1 da1 nm1] =
    some (.b (valOk ⟨st, el, en, at', qu, pa, su, es, da, nm⟩ ⟨st1, el1, en1, at1, qu1, pa1, su1, es1, da1, nm1⟩)) := by
  apply c44
  have e2 : semCall C Tryd.prog 43 [.s nm, .int 16] = some (.b (small nm 16)) := s43 nm 16 h
  simp only [X44, cxeq, Bool.and_true, ueq_eq, une_eq, ult_eq, ule_eq, ugt_eq, uge_eq, Option.bind_some, selW_and, selW_or, condM_b, f44_12, f44_14, e2, valOk, if_true]
  cases h1 : (qu != 0 && qu != 34 && qu != 39) <;> cases h2 : (at' == 1) <;> cases h3 : (pa == 1) <;> cases h4 : (at' == 2) <;> cases h5 : (at' == 3) <;> simp
end two

theorem f21_11 : F21_11 (semRun C Tryd.prog 21 Tryd.f21) st el en at' qu pa su es da nm st el en 0 0 0 0 false 0 [] =
    some (.b (cxeq ⟨st, el, en, at', qu, pa, su, es, da, nm⟩ ⟨st, el, en, 0, 0, 0, 0, false, 0, []⟩)) := by
  apply r21_11
  simp only [X21_11, cxeq, Bool.and_true, ueq_eq, une_eq, ult_eq, ule_eq, ugt_eq, uge_eq, Option.bind_some, selW_and, selW_or, condM_b, Option.bind_some]
theorem f21_14 (h : nm.length < 9223372036854775808) : F21_14 (semRun C Tryd.prog 21 Tryd.f21) st el en at' qu pa su es da nm st el en 0 0 0 0 false 0 [] =
    some (.b (cxeq ⟨st, el, en, at', qu, pa, su, es, da, nm⟩ ⟨st, el, en, 0, 0, 0, 0, false, 0, nm⟩ && small nm 32)) := by
  apply r21_14
  have e2 : semCall C Tryd.prog 43 [.s nm, .int 32] = some (.b (small nm 32)) := s43 nm 32 h
  simp only [X21_14, cxeq, Bool.and_true, ueq_eq, une_eq, ult_eq, ule_eq, ugt_eq, uge_eq, Option.bind_some, selW_and, selW_or, condM_b, e2, selW_and]
theorem f21_27 : F21_27 (semRun C Tryd.prog 21 Tryd.f21) st el en at' qu pa su es da nm =
    some (.b (cxeq ⟨st, el, en, at', qu, pa, su, es, da, nm⟩ ⟨st, el, false, 0, 0, 0, if (el == 3 || el == 4) = true then su else 0, if (el == 3 || el == 4) = true then es else false, 0, if (st == 19) = true then nm else []⟩ && (el != 0) && pre nm (nameOf el) && subOk su es (el == 3))) := by
  apply r21_27
  simp only [X21_27, cxeq, Bool.and_true, ueq_eq, une_eq, ult_eq, ule_eq, ugt_eq, uge_eq, Option.bind_some, selW_and, selW_or, condM_b, s45, Option.bind_some]
theorem f21_28 : F21_28 (semRun C Tryd.prog 21 Tryd.f21) st el en at' qu pa su es da nm st 0 false 0 0 0 0 false 0 [] =
    some (.b (cxeq ⟨st, el, en, at', qu, pa, su, es, da, nm⟩ ⟨st, 0, false, 0, 0, 0, 0, false, 0, []⟩)) := by
  apply r21_28
  simp only [X21_28, cxeq, Bool.and_true, ueq_eq, une_eq, ult_eq, ule_eq, ugt_eq, uge_eq, Option.bind_some, selW_and, selW_or, condM_b, Option.bind_some]
theorem f21_16 (h : nm.length < 9223372036854775808) : F21_16 (semRun C Tryd.prog 21 Tryd.f21) st st el en at' qu pa su es da nm st 0 false 0 0 0 0 false 0 []
    st el en 0 0 0 0 false 0 [] =
    some (.b (if (st == 7) = true then cxeq ⟨st, el, en, at', qu, pa, su, es, da, nm⟩ ⟨st, el, en, at', 0, 0, 0, false, 0, []⟩
      else if (st == 8) = true then valOk ⟨st, el, en, at', qu, pa, su, es, da, nm⟩ ⟨st, el, en, 0, 0, 0, 0, false, 0, []⟩
      else if (st == 15) = true then cxeq ⟨st, el, en, at', qu, pa, su, es, da, nm⟩ ⟨st, 0, false, 0, 0, 0, 0, false, da, []⟩ && decide (da ≤ 2)
      else if (st == 17 || st == 18 || st == 19) = true then (cxeq ⟨st, el, en, at', qu, pa, su, es, da, nm⟩ ⟨st, el, false, 0, 0, 0, if (el == 3 || el == 4) = true then su else 0, if (el == 3 || el == 4) = true then es else false, 0, if (st == 19) = true then nm else []⟩ && (el != 0) && pre nm (nameOf el) && subOk su es (el == 3))
      else cxeq ⟨st, el, en, at', qu, pa, su, es, da, nm⟩ ⟨st, 0, false, 0, 0, 0, 0, false, 0, []⟩)) := by
  apply r21_16
  simp only [X21_16, cxeq, Bool.and_true, ueq_eq, une_eq, ult_eq, ule_eq, ugt_eq, uge_eq, Option.bind_some, selW_and, selW_or, condM_b, s44 (h := h), f21_27, f21_28, if_true]
  cases h1 : (st == 7) <;> cases h2 : (st == 8) <;> cases h3 : (st == 15) <;> cases h4 : (st == 17) <;> cases h5 : (st == 18) <;> cases h6 : (st == 19) <;> rfl
theorem f21_12 (h : nm.length < 9223372036854775808) : F21_12 (semRun C Tryd.prog 21 Tryd.f21) st st el en at' qu pa su es da nm st 0 false 0 0 0 0 false 0 []
    st el en 0 0 0 0 false 0 [] =
    some (.b (if (st == 5 || st == 6) = true then cxeq ⟨st, el, en, at', qu, pa, su, es, da, nm⟩ ⟨st, el, en, 0, 0, 0, 0, false, 0, nm⟩ && small nm 32
      else if (st == 7) = true then cxeq ⟨st, el, en, at', qu, pa, su, es, da, nm⟩ ⟨st, el, en, at', 0, 0, 0, false, 0, []⟩
      else if (st == 8) = true then valOk ⟨st, el, en, at', qu, pa, su, es, da, nm⟩ ⟨st, el, en, 0, 0, 0, 0, false, 0, []⟩
      else if (st == 15) = true then cxeq ⟨st, el, en, at', qu, pa, su, es, da, nm⟩ ⟨st, 0, false, 0, 0, 0, 0, false, da, []⟩ && decide (da ≤ 2)
      else if (st == 17 || st == 18 || st == 19) = true then (cxeq ⟨st, el, en, at', qu, pa, su, es, da, nm⟩ ⟨st, el, false, 0, 0, 0, if (el == 3 || el == 4) = true then su else 0, if (el == 3 || el == 4) = true then es else false, 0, if (st == 19) = true then nm else []⟩ && (el != 0) && pre nm (nameOf el) && subOk su es (el == 3))
      else cxeq ⟨st, el, en, at', qu, pa, su, es, da, nm⟩ ⟨st, 0, false, 0, 0, 0, 0, false, 0, []⟩)) := by
  apply r21_12
  simp only [X21_12, cxeq, Bool.and_true, ueq_eq, une_eq, ult_eq, ule_eq, ugt_eq, uge_eq, Option.bind_some, selW_and, selW_or, condM_b, f21_14 (h := h), f21_16 (h := h), if_true]
  cases h1 : (st == 5) <;> cases h2 : (st == 6) <;> rfl
theorem s21a (h : nm.length < 9223372036854775808) : semCall C Tryd.prog 21 [cx st el en at' qu pa su es da nm] = some (.b (form1 ⟨st, el, en, at', qu, pa, su, es, da, nm⟩)) := by
  apply c21
  have e1 : semCall C Tryd.prog 43 [.s nm, .int 32] = some (.b (small nm 32)) := s43 nm 32 h
  simp only [X21, Bool.and_true, ueq_eq, une_eq, ult_eq, ule_eq, ugt_eq, uge_eq]
  simp only [Option.bind_some, selW_and, selW_or, condM_b, e1]
  rw [f21_12 (h := h)]
  simp only [f21_11]
  unfold form1
  dsimp only
  cases h0 : (decide (20 < st) || decide (4 < el) || decide (4 < at') || decide (5 < pa) || decide (6 < su) || en && el != 0) with
  | true => rfl
  | false => cases h2 : (st == 3) <;> cases h3 : (st == 4) <;> cases h4 : (st == 9) <;> cases h5 : (st == 10) <;> rfl
end


section
variable (st el : UInt8) (en : Bool) (at' qu pa su : UInt8) (es : Bool) (da : UInt8) (nm : List UInt8)

theorem s21 (h : nm.length < 9223372036854775808) : semCall C Tryd.prog 21 [cx st el en at' qu pa su es da nm] = some (.b (form ⟨st, el, en, at', qu, pa, su, es, da, nm⟩)) := by
  rw [s21a (h := h), form_eq]
theorem s37 : semCall C Tryd.prog 37 [cx st el en at' qu pa su es da nm] = some (.u8 (hole ⟨st, el, en, at', qu, pa, su, es, da, nm⟩)) := by
  apply c37
  simp only [X37, ueq_eq, une_eq, Option.bind_some, selW_and, selW_or, condM_b, s58]
  unfold hole
  dsimp only
  generalize ((su == 1 || su == 2) && !es) = q
  cases h0 : (st == 0) <;> cases h17 : (st == 17) <;> cases h8 : (st == 8) <;> cases q <;> simp <;> grind
section
variable (st1 el1 : UInt8) (en1 : Bool) (at1 qu1 pa1 su1 : UInt8) (es1 : Bool) (da1 : UInt8) (nm1 : List UInt8)
theorem f38 : F38_6 (semRun C Tryd.prog 38 Tryd.f38) st el en at' qu pa su es da nm st1 el1 en1 at1 qu1 pa1 su1 es1 da1 nm1 = some (cx st el en at' qu pa su es da nm) := by
  apply r38_6
  rfl
end
theorem s38 : semCall C Tryd.prog 38 [cx st el en at' qu pa su es da nm] = some (after ⟨st, el, en, at', qu, pa, su, es, da, nm⟩).av := by
  apply c38
  simp only [X38, s37, Option.bind_some, u8_eql, condM_b, f38, after]
  split
  · rfl
  · split <;> rfl
theorem s108 : semCall C Tryd.prog 108 [cx st el en at' qu pa su es da nm] = some (.b (coded st el at')) := by
  apply c108
  have e1 : F108_7 (semRun C Tryd.prog 108 Tryd.f108) st el en at' qu pa su es da nm = some (.b (el == 3 || el == 4)) := by
    apply r108_7
    simp only [X108_7, ueq_eq, selW_or, Option.bind_some]
  have e2 : F108_8 (semRun C Tryd.prog 108 Tryd.f108) = some (.b false) := by
    apply r108_8
    rfl
  simp only [X108, ueq_eq, Option.bind_some, selW_or, condM_b, e1, e2, coded]
  rcases st_cases st with h | h | h | h | h | h | h | h | h | h | h | h | h | h | h | h | h | h | h | h | h | h <;> first | (subst h; rfl) | (subst h; simp; done) | skip
  obtain ⟨-, -, -, -, -, -, -, -, h8, -, -, -, -, -, -, -, -, h17, h18, h19⟩ := nlt st h
  have h2 : ¬ st ≤ 19 := by
    have := UInt8.lt_iff_toNat_lt.1 h
    rw [UInt8.le_iff_toNat_le]; simp at this ⊢; omega
  simp [h8, h17, h18, h19, h2]
end


section
variable (st el : UInt8) (en : Bool) (at' qu pa su : UInt8) (es : Bool) (da : UInt8) (nm : List UInt8)
end

theorem s26 (nm : List UInt8) : semCall C Tryd.prog 26 [.s nm] = some (.u8 (elOf nm)) := by
  apply c26
  simp only [X26, condM_b, elOf]
  split
  · rfl
  · split
    · rfl
    · split
      · rfl
      · split <;> rfl
theorem s56 (nm : List UInt8) : semCall C Tryd.prog 56 [.s nm] = some (.int ((elOf nm).toNat : Int)) := by
  apply c56
  simp only [X56]
  apply r56_3
  show condM (.b ([116, 101, 120, 116, 97, 114, 101, 97] == nm)) (some (.int 1)) (F56_3 _ _ _ 2) = _
  rw [condM_b]
  cases h1 : ([116, 101, 120, 116, 97, 114, 101, 97] == nm) with
  | true => rw [← eq_of_beq h1]; rfl
  | false =>
  rw [if_neg (by simp)]
  apply r56_3
  show condM (.b ([116, 105, 116, 108, 101] == nm)) (some (.int 2)) (F56_3 _ _ _ 3) = _
  rw [condM_b]
  cases h2 : ([116, 105, 116, 108, 101] == nm) with
  | true => rw [← eq_of_beq h2]; rfl
  | false =>
  rw [if_neg (by simp)]
  apply r56_3
  show condM (.b ([115, 99, 114, 105, 112, 116] == nm)) (some (.int 3)) (F56_3 _ _ _ 4) = _
  rw [condM_b]
  cases h3 : ([115, 99, 114, 105, 112, 116] == nm) with
  | true => rw [← eq_of_beq h3]; rfl
  | false =>
  rw [if_neg (by simp)]
  apply r56_3
  show condM (.b ([115, 116, 121, 108, 101] == nm)) (some (.int 4)) (F56_3 _ _ _ 5) = _
  rw [condM_b]
  cases h4 : ([115, 116, 121, 108, 101] == nm) with
  | true => rw [← eq_of_beq h4]; rfl
  | false =>
  rw [if_neg (by simp)]
  apply r56_3
  simp only [elOf, beqf h1, beqf h2, beqf h3, beqf h4]
  rfl

theorem f105_13 : F105_13 (semRun C Tryd.prog 105 Tryd.f105) = some (.u8 1) := by apply r105_13; rfl
theorem f105_21 : F105_21 (semRun C Tryd.prog 105 Tryd.f105) = some (.u8 4) := by apply r105_21; rfl
theorem f105_22 (nm : List UInt8) : F105_22 (semRun C Tryd.prog 105 Tryd.f105) nm = some (.u8 (if decide (2 < nm.length) && pre [111, 110] nm then 2 else 0)) := by
  apply r105_22
  simp only [X105_22, s76, Option.bind_some, selW_and, condM_b]
  have : decide ((nm.length : Int) > 2) = decide (2 < nm.length) := by rw [decide_eq_decide]; omega
  rw [this]
  split <;> rfl
theorem f105_14 (nm : List UInt8) : F105_14 (semRun C Tryd.prog 105 Tryd.f105) nm nm = some (.u8 (if nm == [115, 116, 121, 108, 101] then 3 else if odds.contains nm then 4 else if decide (2 < nm.length) && pre [111, 110] nm then 2 else 0)) := by
  apply r105_14
  simp only [X105_14, f105_21, f105_22, condM_b, odds, List.contains_cons, List.contains_nil, Bool.or_false]
  cases nm == [115, 116, 121, 108, 101] <;> cases nm == [115, 114, 99, 100, 111, 99] <;> cases nm == [115, 114, 99, 115, 101, 116] <;> cases nm == [105, 109, 97, 103, 101, 115, 114, 99, 115, 101, 116] <;> cases nm == [99, 111, 110, 116, 101, 110, 116] <;> cases nm == [104, 116, 116, 112, 45, 101, 113, 117, 105, 118] <;> rfl
theorem s105 (nm : List UInt8) : semCall C Tryd.prog 105 [.s nm] = some (.u8 (attrOf nm)) := by
  apply c105
  simp only [X105, f105_13, f105_14, condM_b, attrOf, urls, List.contains_cons, List.contains_nil, Bool.or_false]
  generalize (if (nm == [115, 116, 121, 108, 101]) = true then (3 : UInt8) else if odds.contains nm = true then 4 else if (decide (2 < nm.length) && pre [111, 110] nm) = true then 2 else 0) = z
  cases nm == [97, 99, 116, 105, 111, 110] with
  | true => rfl
  | false =>
  cases nm == [98, 97, 99, 107, 103, 114, 111, 117, 110, 100] with
  | true => rfl
  | false =>
  cases nm == [99, 105, 116, 101] with
  | true => rfl
  | false =>
  cases nm == [100, 97, 116, 97] with
  | true => rfl
  | false =>
  cases nm == [102, 111, 114, 109, 97, 99, 116, 105, 111, 110] with
  | true => rfl
  | false =>
  cases nm == [104, 114, 101, 102] with
  | true => rfl
  | false =>
  cases nm == [108, 111, 110, 103, 100, 101, 115, 99] with
  | true => rfl
  | false =>
  cases nm == [109, 97, 110, 105, 102, 101, 115, 116] with
  | true => rfl
  | false =>
  cases nm == [112, 111, 115, 116, 101, 114] with
  | true => rfl
  | false =>
  cases nm == [115, 114, 99] with
  | true => rfl
  | false =>
  cases nm == [120, 108, 105, 110, 107, 58, 104, 114, 101, 102] <;> rfl

theorem l94_9 (nm : List UInt8) : ∀ (R P : List (List UInt8)), (P ++ R).length < 100 → F94_9 (semRun C Tryd.prog 94 Tryd.f94) nm ((P ++ R).map .s) (P.length : Int) = some (.int (if R.contains nm then 4 else if nm == [115, 116, 121, 108, 101] then 3 else if decide (2 < nm.length) && pre [111, 110] nm then 2 else 0))
  | [], P, h => by
    apply r94_9
    have e1 : decide ((P.length : Int) < (((P ++ []).map AV.s).length : Int)) = false := by simp
    simp only [X94_9, e1, condM_b, Bool.false_eq_true, if_false, List.contains_nil]
    cases h3 : (nm == [115, 116, 121, 108, 101]) with
    | true => rfl
    | false =>
      rw [if_neg (by simp), if_neg (by simp)]
      match nm with
      | [] => rfl
      | [a] => rfl
      | [a, b] => rfl
      | a :: b :: c :: r =>
        have e2 : decide (((a :: b :: c :: r).length : Int) ≥ 3) = true := by simp; omega
        have i0 : idxS (.s (a :: b :: c :: r)) (.int 0) = some (.u8 a) := idxS_int (i := 0) (l := a :: b :: c :: r) (by simp)
        have i1 : idxS (.s (a :: b :: c :: r)) (.int 1) = some (.u8 b) := idxS_int (i := 1) (l := a :: b :: c :: r) (by simp)
        have e3 : decide (2 < (a :: b :: c :: r).length) = true := by simp
        have e4 : pre [111, 110] (a :: b :: c :: r) = (a == 111 && b == 110) := by simp [pre]
        simp only [e2, i0, i1, e3, e4, u8_eql, Option.bind_some, selW_and, Bool.true_and, condM_b]
        split <;> rfl
  | c :: R, P, h => by
    apply r94_9
    have e1 : decide ((P.length : Int) < (((P ++ c :: R).map AV.s).length : Int)) = true := by simp; omega
    simp only [X94_9, e1, condM_b, if_true, inN_s, getD_s, cell_s, s_eql, Option.bind_some, List.contains_cons]
    cases hc : (c == nm) with
    | true => rw [if_pos rfl, eq_of_beq hc]; simp
    | false =>
      rw [if_neg (by simp), beqf hc, Bool.false_or]
      have h' : P.length < 100 := by simp at h; omega
      rw [w64_eq (by omega) (by omega), show ((P.length : Int) + 1) = ((P ++ [c]).length : Int) by simp, show P ++ c :: R = (P ++ [c]) ++ R by simp]
      exact l94_9 nm R (P ++ [c]) (by simpa using h)
theorem l94_3 (nm : List UInt8) : ∀ (R P : List (List UInt8)), (P ++ R).length < 100 → F94_3 (semRun C Tryd.prog 94 Tryd.f94) nm ((P ++ R).map .s) (P.length : Int) = some (.int (if R.contains nm then 1 else if odds.contains nm then 4 else if nm == [115, 116, 121, 108, 101] then 3 else if decide (2 < nm.length) && pre [111, 110] nm then 2 else 0))
  | [], P, h => by
    apply r94_3
    have e1 : decide ((P.length : Int) < (((P ++ []).map AV.s).length : Int)) = false := by simp
    simp only [X94_3, e1, condM_b, Bool.false_eq_true, if_false, List.contains_nil]
    exact l94_9 nm odds [] (by decide)
  | c :: R, P, h => by
    apply r94_3
    have e1 : decide ((P.length : Int) < (((P ++ c :: R).map AV.s).length : Int)) = true := by simp; omega
    simp only [X94_3, e1, condM_b, if_true, inN_s, getD_s, cell_s, s_eql, Option.bind_some, List.contains_cons]
    cases hc : (c == nm) with
    | true => rw [if_pos rfl, eq_of_beq hc]; simp
    | false =>
      rw [if_neg (by simp), beqf hc, Bool.false_or]
      have h' : P.length < 100 := by simp at h; omega
      rw [w64_eq (by omega) (by omega), show ((P.length : Int) + 1) = ((P ++ [c]).length : Int) by simp, show P ++ c :: R = (P ++ [c]) ++ R by simp]
      exact l94_3 nm R (P ++ [c]) (by simpa using h)
theorem s94 (nm : List UInt8) : semCall C Tryd.prog 94 [.s nm] = some (.int ((attrOf nm).toNat : Int)) := by
  apply c94
  have h := l94_3 nm urls [] (by decide)
  refine Eq.trans h ?_
  unfold attrOf
  cases h1 : urls.contains nm with
  | true => rfl
  | false =>
    cases h3 : (nm == [115, 116, 121, 108, 101]) with
    | true => rw [eq_of_beq h3]; rfl
    | false => cases odds.contains nm <;> cases (decide (2 < nm.length) && pre [111, 110] nm) <;> rfl
end R2

namespace R2
open Go Go.Proofs Sx

theorem s112 (l : List UInt8) (x : UInt8) : semCall C Tryd.prog 112 [.s l, .u8 x] = some (.int (idxByte l x)) :=
  semCall_ext (fn := Tryd.f112) (by kernel_rfl) (by kernel_rfl) (by kernel_rfl) (by
    show (bif (Tryd.f112.name == "internal/bytealg.IndexByteString") then some (AV.int (idxByte l x)) else none) = _
    rw [show (Tryd.f112.name == "internal/bytealg.IndexByteString") = true by kernel_rfl]
    rfl)
theorem s106 (l : List UInt8) (x : UInt8) : semCall C Tryd.prog 106 [.s l, .u8 x] = some (.int (idxByte l x)) := by
  apply c106
  simp only [X106, s112, Option.bind_some]
theorem s90 (l : List UInt8) (x : UInt8) : semCall C Tryd.prog 90 [.s l, .u8 x] = some (.int (idxByte l x)) := by
  apply c90
  simp only [X90, s106, Option.bind_some]
section
variable (c : Ctx) (b : UInt8)

theorem sForm (h : c.nm.length < 9223372036854775808) : semCall C Tryd.prog 21 [c.toAV] = some (.b (form c)) := s21 (h := h) ..
theorem sRForm (h : c.nm.length < 9223372036854775808) : semCall C Tryd.prog 22 [c.toAV] = some (.b (form c)) := s22 (h := h) ..
theorem sCoded : semCall C Tryd.prog 108 [c.toAV] = some (.b (coded c.st c.el c.at')) := s108 ..

theorem s81 : semCall C Tryd.prog 81 [.u8 b] = some (.b (letter b)) := by
  apply c81
  simp only [X81, uge_eq, ule_eq, Option.bind_some, selW_and, selW_or, letter]
theorem s82 : semCall C Tryd.prog 82 [.u8 b] = some (.u8 (lowb b)) := by
  apply c82
  refine of_isU8 ?_
  revert b
  exact all_u8 (by kernel_rfl)
theorem s83 : semCall C Tryd.prog 83 [.u8 b] = some (.b (blankB b)) := by
  apply c83
  simp only [X83, ueq_eq, Option.bind_some, selW_and, selW_or, blankB]
theorem s89 : semCall C Tryd.prog 89 [c.toAV] = some (.b (ends c)) := by
  apply c89
  simp only [X89, ueq_eq, Option.bind_some, selW_and, selW_or, ends]
theorem s85 (s : UInt8) : semCall C Tryd.prog 85 [c.toAV, .u8 s] = some (within c s).toAV := by
  apply c85
  rfl
theorem s86 (el : UInt8) : semCall C Tryd.prog 86 [.u8 el] = some (tagEnd el).toAV := by
  apply c86
  simp only [X86, une_eq, condM_b, tagEnd, toAV_ite]
  rfl
theorem s61 : semCall C Tryd.prog 61 [.u8 b] = some (tv (opened b)) := by
  apply c61
  simp only [X61, s81, s82, ueq_eq, Option.bind_some, one_u8, b2s_one, one_s, condM_b, opened, tv_ite]
  rfl
theorem s62 : semCall C Tryd.prog 62 [.u8 b] = some (closed b).toAV := by
  apply c62
  simp only [X62, s81, s82, ueq_eq, Option.bind_some, one_u8, b2s_one, one_s, condM_b, closed, toAV_ite]
  rfl
theorem s84 : semCall C Tryd.prog 84 [c.toAV, .u8 b] = some (grown c b).toAV := by
  apply c84
  simp only [X84, s82, Option.bind_some, one_u8, b2s_one, condM_b, grown, toAV_ite]
  have e : decide ((c.nm.length : Int) ≥ 32) = decide (32 ≤ c.nm.length) := by rw [decide_eq_decide]; omega
  rw [e]
  by_cases h : 32 ≤ c.nm.length
  · rw [if_pos (by simpa using h), if_pos (by simpa using h)]; rfl
  · rw [if_neg (by simpa using h), if_neg (by simpa using h), s_add' (by simp; omega)]; rfl
theorem s87 : semCall C Tryd.prog 87 [c.toAV, .u8 b] = some (tv (begunV c b)) := by
  apply c87
  simp only [X87, s83, ueq_eq, Option.bind_some, selW_or, condM_b, begunV, tv_ite]
  rfl
theorem s88 : semCall C Tryd.prog 88 [c.toAV, .u8 b] = some (tv (named c b)) := by
  apply c88
  simp only [X88, s83, s105, mk_toAV, mk_eta, s84, s85, asAg_toAV, ten0, ten1, ten2, ten3, ten4, ten5, ten6, ten7, ten8, ten9, tv_mk, ueq_eq, Option.bind_some, selW_or, selW_and, condM_b, named, tv_ite, one_u8]
  rfl
theorem s63 : semCall C Tryd.prog 63 [c.toAV, .u8 b] = some (tv (tag c b)) := by
  have f (el : UInt8) : F63_7 (semRun C Tryd.prog 63 Tryd.f63) c.st (.u8 el) c.en c.at' c.qu c.pa c.su c.es c.da c.nm 0 0 false 0 0 0 0 false 0 [] = some (tv (within { c with el := el } 9, true)) := by
    apply r63_7
    simp only [X63_7, mk_toAV, s85, asAg_toAV, ten0, ten1, ten2, ten3, ten4, ten5, ten6, ten7, ten8, ten9, mk_eta, tv_mk, Option.bind_some]
  apply c63
  simp only [X63, f, s83, s26, mk_toAV, mk_eta, s84, s85, s86, s87, s88, asAg_toAV, ten0, ten1, ten2, ten3, ten4, ten5, ten6, ten7, ten8, ten9, tv_mk, tv_0, tv_1, ueq_eq, une_eq, unop_not, Option.bind_some, selW_or, selW_and, condM_b, tag, tv_ite, one_u8]
  rfl
theorem s107 : semCall C Tryd.prog 107 [c.toAV, .u8 b] = some (text c b).toAV := by
  have f (d : Ctx) : F107_9 (semRun C Tryd.prog 107 Tryd.f107) d.st d.el d.en d.at' d.qu d.pa d.su d.es d.da d.nm 0 0 false 0 0 0 0 false 0 [] = some d.toAV := by
    apply r107_9
    rfl
  apply c107
  simp only [X107, ueq_eq, Option.bind_some, selW_or, selW_and, condM_b, text, toAV_ite]
  rw [f c, f { c with su := 0 }, f { c with es := true }, f { c with es := false }]
  rfl
theorem s920 (script : Bool) (h : (c.su == 0) = true) : semCall C Tryd.prog 92 [c.toAV, .u8 b, .b script] = some (code0 c b script).toAV := by
  have f (d : Ctx) : F92_36 (semRun C Tryd.prog 92 Tryd.f92) d.st d.el d.en d.at' d.qu d.pa d.su d.es d.da d.nm 0 0 false 0 0 0 0 false 0 [] = some d.toAV := by
    apply r92_36
    rfl
  have g : F92_11 (semRun C Tryd.prog 92 Tryd.f92) 0 0 false 0 0 0 0 false 0 [] = some badC.toAV := by
    apply r92_11
    rfl
  apply c92
  simp only [X92, ueq_eq, Option.bind_some, selW_or, selW_and, condM_b, code0, toAV_ite, h, if_true]
  rw [f c, f { c with su := 1 }, f { c with su := 2 }, f { c with su := 3 }, g]
theorem s92 (script : Bool) : semCall C Tryd.prog 92 [c.toAV, .u8 b, .b script] = some (code c b script).toAV := by
  have f (d : Ctx) : F92_36 (semRun C Tryd.prog 92 Tryd.f92) d.st d.el d.en d.at' d.qu d.pa d.su d.es d.da d.nm 0 0 false 0 0 0 0 false 0 [] = some d.toAV := by
    apply r92_36
    rfl
  have g : F92_11 (semRun C Tryd.prog 92 Tryd.f92) 0 0 false 0 0 0 0 false 0 [] = some badC.toAV := by
    apply r92_11
    rfl
  have t (d : Ctx) : F92_23 (semRun C Tryd.prog 92 Tryd.f92) b d.st d.el d.en d.at' d.qu d.pa d.su d.es d.da d.nm 0 0 false 0 0 0 0 false 0 [] = some (text d b).toAV := by
    apply r92_23
    simp only [X92_23, mk_toAV, mk_eta, s107, asAg_toAV, ten0, ten1, ten2, ten3, ten4, ten5, ten6, ten7, ten8, ten9, Option.bind_some]
  have u (d : Ctx) : F92_24 (semRun C Tryd.prog 92 Tryd.f92) b d.su d.st d.el d.en d.at' d.qu d.pa d.su d.es d.da d.nm 0 0 false 0 0 0 0 false 0 [] =
      some (if d.su == 4 then (if b == 10 || b == 13 then { d with su := 0 } else d) else if d.su == 5 then (if b == 42 then { d with su := 6 } else d) else if d.su == 6 then (if b == 47 then { d with su := 0 } else if b == 42 then d else { d with su := 5 }) else d : Ctx).toAV := by
    apply r92_24
    simp only [X92_24, ueq_eq, Option.bind_some, selW_or, selW_and, condM_b, toAV_ite]
    rw [f d, f { d with su := 0 }, f { d with su := 6 }, f { d with su := 5 }]
  apply c92
  have z : semCall C Tryd.prog 92 [Ctx.toAV { c with su := 0 }, .u8 b, .b script] = some (code0 { c with su := 0 } b script).toAV := s920 _ b script rfl
  simp only [X92, ueq_eq, Option.bind_some, selW_or, selW_and, condM_b, code, toAV_ite, mk_toAV, mk_eta]
  rw [f c, f { c with su := 1 }, f { c with su := 2 }, f { c with su := 3 }, f { c with su := 4 }, f { c with su := 5 }, g, t c, u c, z]
  simp only [asAg_toAV, ten0, ten1, ten2, ten3, ten4, ten5, ten6, ten7, ten8, ten9, Option.bind_some, mk_toAV, mk_eta]
  simp only [code0, toAV_ite]
  rfl
theorem s91 : semCall C Tryd.prog 91 [c.toAV, .u8 b] = some (url c b).toAV := by
  have f (d : Ctx) : F91_24 (semRun C Tryd.prog 91 Tryd.f91) d.st d.el d.en d.at' d.qu d.pa d.su d.es d.da (.s d.nm) 0 0 false 0 0 0 0 false 0 [] = some d.toAV := by
    apply r91_24
    rfl
  apply c91
  simp only [X91, ueq_eq, Option.bind_some, selW_or, selW_and, condM_b, s82, one_u8, b2s_one, same_eq, url, toAV_ite]
  rw [f { c with pa := 4, nm := [] }, f { c with pa := 3, nm := [] }, f { c with pa := 5, nm := [] }, f { c with pa := 1 }]
  have e : decide ((c.nm.length : Int) ≥ 16) = decide (16 ≤ c.nm.length) := by rw [decide_eq_decide]; omega
  rw [e, show (c.nm == [104, 116, 116, 112] || c.nm == [104, 116, 116, 112, 115] || c.nm == [109, 97, 105, 108, 116, 111]) = httpS c.nm from rfl]
  by_cases h : 16 ≤ c.nm.length
  · simp only [decide_eq_true h, if_true]; rfl
  · rw [s_add' (by simp; omega)]
    simp only [Option.bind_some, one_s]
    rw [f { c with pa := 1, nm := c.nm ++ [lowb b] }]
    rfl
theorem quote_ix : decide (idxByte [34, 39, 60, 61, 96] b ≥ 0) = quoteB b := by
  revert b
  exact all_u8_eq (by kernel_rfl)
theorem s64 : semCall C Tryd.prog 64 [c.toAV, .u8 b] = some (value c b).toAV := by
  apply c64
  simp only [X64, ueq_eq, Option.bind_some, selW_or, selW_and, condM_b, s83, s90, mk_toAV, mk_eta, s89, s85, s86, s91, s92, asAg_toAV, ten0, ten1, ten2, ten3, ten4, ten5, ten6, ten7, ten8, ten9, unop_not, value, toAV_ite, int_geq, quote_ix]
  rfl
theorem l93 : ∀ (r p : List UInt8) (c : Ctx), (p ++ r).length < 9223372036854775808 → F93_5 (semRun C Tryd.prog 93 Tryd.f93) (p ++ r) ((p ++ r).length : Int) (p.length : Int) (.u8 c.st) (.u8 c.el) (.b c.en) (.u8 c.at') (.u8 c.qu) (.u8 c.pa) (.u8 c.su) (.b c.es) (.u8 c.da) (.s c.nm) 0 0 false 0 0 0 0 false 0 [] = some (feedL c r).toAV
  | [], p, c, h => by
    apply r93_5
    simp only [X93_5, nlt_len, nlt_self, List.append_nil, Option.bind_some, condM_b, Bool.false_eq_true, if_false, mk_toAV, mk_eta, feedL]
  | b :: r, p, c, h => by
    apply r93_5
    simp only [X93_5, lt_len, idxS_at, w64_inc p b r h, u8_eql, Option.bind_some, condM_b, if_true, mk_toAV, mk_eta, s92, asAg_toAV, ten0, ten1, ten2, ten3, ten4, ten5, ten6, ten7, ten8, ten9, feedL, toAV_ite]
    rw [snoc_app, l93 r (p ++ [b]) _ (by rw [← snoc_app]; exact h)]
    rfl
theorem s93 (s : List UInt8) (feed : Bool) (h : s.length < 9223372036854775808) : semCall C Tryd.prog 93 [c.toAV, .s s, .b feed] = some (fed c s feed).toAV := by
  apply c93
  have l := l93 s [] { c with st := 17, nm := [] } h
  simp only [X93, ueq_eq, Option.bind_some, mk_toAV, mk_eta, sCoded, unop_not, selW_or, condM_b, fed, toAV_ite]
  split
  · rfl
  · exact l
theorem s65 (feed : Bool) (h : c.nm.length < 1000) : semCall C Tryd.prog 65 [c.toAV, .u8 b, .b feed] = some (raw c b feed).toAV := by
  have f (d : Ctx) : F65_22 (semRun C Tryd.prog 65 Tryd.f65) (.u8 d.st) (.u8 d.el) (.b d.en) (.u8 d.at') (.u8 d.qu) (.u8 d.pa) (.u8 d.su) (.b d.es) (.u8 d.da) (.s d.nm) 0 0 false 0 0 0 0 false 0 [] = some d.toAV := by
    apply r65_22
    rfl
  have g (d : Ctx) : F65_17 (semRun C Tryd.prog 65 Tryd.f65) b feed (.u8 d.st) (.u8 d.el) (.b d.en) (.u8 d.at') (.u8 d.qu) (.u8 d.pa) (.u8 d.su) (.b d.es) (.u8 d.da) (.s d.nm) 0 0 false 0 0 0 0 false 0 [] = some (raw2 d b feed).toAV := by
    apply r65_17
    simp only [X65_17, u8_eql, Option.bind_some, condM_b, b2s_one, mk_toAV, mk_eta]
    rw [s93 d [b] feed (by simp)]
    simp only [Option.bind_some, asAg_toAV, ten0, ten1, ten2, ten3, ten4, ten5, ten6, ten7, ten8, ten9, u8_eql, ueq_eq, selW_and, condM_b]
    rw [f (fed d [b] feed), f { fed d [b] feed with st := 18 }]
    simp only [raw2, toAV_ite]
    rfl
  apply c65
  have a1 : binS .add (.s c.nm) (.s [lowb b]) = some (.s (c.nm ++ [lowb b])) := s_add' (by simp; omega)
  have a2 : binS .add (.s [47]) (.s c.nm) = some (.s (47 :: c.nm)) := s_add' (by simp; omega)
  have a3 := s93 c (47 :: c.nm) feed (by simp; omega)
  simp only [X65, s77, ueq_eq, Option.bind_some, selW_or, selW_and, condM_b, s83, s82, one_u8, b2s_one, one_s, a1, a2, s_eql, s76, mk_toAV, mk_eta, s89, s63, tv_0, tv_1, a3, asAg_toAV, ten0, ten1, ten2, ten3, ten4, ten5, ten6, ten7, ten8, ten9, unop_not, raw, toAV_ite]
  rw [g c, g (fed c (47 :: c.nm) feed)]
  rfl
theorem s66 : semCall C Tryd.prog 66 [c.toAV, .u8 b] = some (note c b).toAV := by
  have f (d : Ctx) : F66_31 (semRun C Tryd.prog 66 Tryd.f66) d.st d.el d.en d.at' d.qu d.pa d.su d.es d.da d.nm 0 0 false 0 0 0 0 false 0 [] = some d.toAV := by
    apply r66_31
    rfl
  have f4 : F66_4 (semRun C Tryd.prog 66 Tryd.f66) b c.st c.el c.en c.at' c.qu c.pa c.su c.es c.da c.nm 0 0 false 0 0 0 0 false 0 [] = some (if b == 62 then st1 0 else if b == 45 && c.st == 11 then st1 12 else if b == 45 then st1 13 else st1 16 : Ctx).toAV := by
    apply r66_4
    simp only [X66_4, ueq_eq, Option.bind_some, selW_and, condM_b, toAV_ite]
    rfl
  have f13 : F66_13 (semRun C Tryd.prog 66 Tryd.f66) b c.st c.el c.en c.at' c.qu c.pa c.su c.es c.da c.nm 0 0 false 0 0 0 0 false 0 [] = some (if b == 62 then badC else if b == 45 && c.st == 13 then st1 14 else if b == 45 then ⟨15, 0, false, 0, 0, 0, 0, false, 2, []⟩ else st1 15 : Ctx).toAV := by
    apply r66_13
    simp only [X66_13, ueq_eq, Option.bind_some, selW_and, condM_b, toAV_ite]
    rfl
  have hm : (binI .add (.u8 c.da) (.u8 1)).bind (fun v3 => (mm true v3 (.u8 2)).bind fun v4 => (AV.one v4).bind fun v5 => some (AV.ag [.u8 15, .u8 0, .b false, .u8 0, .u8 0, .u8 0, .u8 0, .b false, v5, .s []])) = some (Ctx.toAV ⟨15, 0, false, 0, 0, 0, 0, false, (if decide (2 < c.da + 1) then 2 else c.da + 1), []⟩) := by
    rw [u8_add]
    simp only [Option.bind_some, mm_u8, one_u8, mk_toAV, decide_eq_true_eq]
  have f20 : F66_20 (semRun C Tryd.prog 66 Tryd.f66) b c.st c.st c.el c.en c.at' c.qu c.pa c.su c.es c.da c.nm 0 0 false 0 0 0 0 false 0 [] =
      some (if c.st == 15 then (if b == 62 && c.da == 2 then st1 0 else if b == 33 && c.da == 2 then badC else if b == 45 then ⟨15, 0, false, 0, 0, 0, 0, false, (if decide (2 < c.da + 1) then 2 else c.da + 1), []⟩ else st1 15)
  else if c.st == 16 then (if b == 62 then st1 0 else c) else c : Ctx).toAV := by
    apply r66_20
    simp only [X66_20, ueq_eq, Option.bind_some, selW_and, condM_b, toAV_ite]
    rw [hm, f c]
    rfl
  have f11 : F66_11 (semRun C Tryd.prog 66 Tryd.f66) b c.st c.st c.el c.en c.at' c.qu c.pa c.su c.es c.da c.nm 0 0 false 0 0 0 0 false 0 [] =
      some (if c.st == 13 || c.st == 14 then (if b == 62 then badC else if b == 45 && c.st == 13 then st1 14 else if b == 45 then ⟨15, 0, false, 0, 0, 0, 0, false, 2, []⟩ else st1 15)
  else if c.st == 15 then (if b == 62 && c.da == 2 then st1 0 else if b == 33 && c.da == 2 then badC else if b == 45 then ⟨15, 0, false, 0, 0, 0, 0, false, (if decide (2 < c.da + 1) then 2 else c.da + 1), []⟩ else st1 15)
  else if c.st == 16 then (if b == 62 then st1 0 else c) else c : Ctx).toAV := by
    apply r66_11
    simp only [X66_11, ueq_eq, Option.bind_some, selW_and, condM_b, f13, f20]
    cases (c.st == 13) <;> cases (c.st == 14) <;> rfl
  apply c66
  simp only [X66, ueq_eq, Option.bind_some, selW_and, condM_b, f4, f11, note]
  cases (c.st == 11) <;> cases (c.st == 12) <;> rfl
theorem l40 (feed : Bool) : ∀ (n : Nat) (c d : Ctx), c.nm.length < 1000 → again n c b feed = some d → F40_3 (semRun C Tryd.prog 40 Tryd.f40) b feed (.u8 c.st) (.u8 c.el) (.b c.en) (.u8 c.at') (.u8 c.qu) (.u8 c.pa) (.u8 c.su) (.b c.es) (.u8 c.da) (.s c.nm) 0 0 false 0 0 0 0 false 0 [] = some d.toAV
  | 0, c, d, hn, h => by cases h
  | n + 1, c, d, hn, h => by
    have f32 (d : Ctx) : F40_32 (semRun C Tryd.prog 40 Tryd.f40) (.u8 d.st) (.u8 d.el) (.b d.en) (.u8 d.at') (.u8 d.qu) (.u8 d.pa) (.u8 d.su) (.b d.es) (.u8 d.da) (.s d.nm) 0 0 false 0 0 0 0 false 0 [] = some d.toAV := by
      apply r40_32
      rfl
    have f31 : F40_31 (semRun C Tryd.prog 40 Tryd.f40) b feed (.u8 c.st) (.u8 c.el) (.b c.en) (.u8 c.at') (.u8 c.qu) (.u8 c.pa) (.u8 c.su) (.b c.es) (.u8 c.da) (.s c.nm) 0 0 false 0 0 0 0 false 0 [] = some (raw c b feed).toAV := by
      apply r40_31
      simp only [X40_31, mk_toAV, mk_eta, s65 (h := hn), Option.bind_some, asAg_toAV, ten0, ten1, ten2, ten3, ten4, ten5, ten6, ten7, ten8, ten9]
    have f4 : F40_4 (semRun C Tryd.prog 40 Tryd.f40) b (.u8 c.st) (.u8 c.el) (.b c.en) (.u8 c.at') (.u8 c.qu) (.u8 c.pa) (.u8 c.su) (.b c.es) (.u8 c.da) (.s c.nm) 0 0 false 0 0 0 0 false 0 [] = some (note c b).toAV := by
      apply r40_4
      simp only [X40_4, mk_toAV, mk_eta, s66, Option.bind_some, asAg_toAV, ten0, ten1, ten2, ten3, ten4, ten5, ten6, ten7, ten8, ten9]
    have f26 : F40_26 (semRun C Tryd.prog 40 Tryd.f40) b feed (.u8 c.st) (.u8 c.st) (.u8 c.el) (.b c.en) (.u8 c.at') (.u8 c.qu) (.u8 c.pa) (.u8 c.su) (.b c.es) (.u8 c.da) (.s c.nm) 0 0 false 0 0 0 0 false 0 [] = some (if c.st == 8 then value c b else if c.st == 17 || c.st == 18 || c.st == 19 then raw c b feed else note c b : Ctx).toAV := by
      apply r40_26
      simp only [X40_26, u8_eql, mk_toAV, mk_eta, s64, f31, f4, Option.bind_some, condM_b, asAg_toAV, ten0, ten1, ten2, ten3, ten4, ten5, ten6, ten7, ten8, ten9]
      cases (c.st == 8) <;> cases (c.st == 17) <;> cases (c.st == 18) <;> cases (c.st == 19) <;> rfl
    have f22 (hh : (if (tag c b).2 then again n (tag c b).1 b feed else some (tag c b).1) = some d) : F40_22 (semRun C Tryd.prog 40 Tryd.f40) b feed (.u8 c.st) (.u8 c.el) (.b c.en) (.u8 c.at') (.u8 c.qu) (.u8 c.pa) (.u8 c.su) (.b c.es) (.u8 c.da) (.s c.nm) 0 0 false 0 0 0 0 false 0 [] = some d.toAV := by
      apply r40_22
      simp only [X40_22, mk_toAV, mk_eta, s63, tv_0, tv_1, Option.bind_some, condM_b, asAg_toAV, ten0, ten1, ten2, ten3, ten4, ten5, ten6, ten7, ten8, ten9]
      cases ht : (tag c b).2 with
      | true =>
        rw [ht, if_pos rfl] at hh
        rw [if_pos rfl]
        exact l40 feed n _ d (Nat.lt_of_le_of_lt (tag_nm c b ht) hn) hh
      | false =>
        rw [ht, if_neg (by simp)] at hh
        rw [if_neg (by simp)]
        cases hh; rfl
    apply r40_3
    unfold again at h
    simp only [X40_3, u8_eql, ueq_eq, mk_toAV, mk_eta, s61, s62, tv_0, tv_1, Option.bind_some, condM_b, asAg_toAV, ten0, ten1, ten2, ten3, ten4, ten5, ten6, ten7, ten8, ten9]
    cases h0 : (c.st == 0) with
    | true =>
      rw [h0, if_pos rfl] at h
      rw [if_pos rfl, f32 c, f32 { c with st := 1 }]
      split <;> rename_i hb
      · rw [if_pos hb] at h; cases h; rfl
      · rw [if_neg hb] at h; cases h; rfl
    | false =>
    rw [h0, if_neg (by simp)] at h
    rw [if_neg (by simp)]
    cases h1 : (c.st == 1) with
    | true =>
      rw [h1, if_pos rfl] at h
      rw [if_pos rfl]
      split <;> rename_i hb
      · rw [if_pos hb] at h; cases h; rfl
      · rw [if_neg hb] at h
        exact l40 feed n { c with st := 0 } d hn h
    | false =>
    rw [h1, if_neg (by simp)] at h
    rw [if_neg (by simp)]
    cases h2 : (c.st == 2) with
    | true =>
      rw [h2, if_pos rfl] at h
      rw [if_pos rfl]
      cases h; rfl
    | false =>
    rw [h2, if_neg (by simp)] at h
    rw [if_neg (by simp)]
    cases hT : isT c.st with
    | true =>
      rw [hT, if_pos rfl] at h
      rw [f22 h]
      unfold isT at hT
      cases h3 : (c.st == 3) <;> cases h4 : (c.st == 4) <;> cases h5 : (c.st == 5) <;> cases h6 : (c.st == 6) <;> cases h7 : (c.st == 7) <;> cases h9 : (c.st == 9) <;> cases h10 : (c.st == 10) <;> first | rfl | (rw [h3, h4, h5, h6, h7, h9, h10] at hT; cases hT)
    | false =>
      rw [hT, if_neg (by simp)] at h
      unfold isT at hT
      simp only [Bool.or_eq_false_iff] at hT
      obtain ⟨⟨⟨⟨⟨⟨h3, h4⟩, h5⟩, h6⟩, h7⟩, h9⟩, h10⟩ := hT
      rw [h3, h4, h5, h6, h7, h9, h10, f26]
      simp only [Bool.false_eq_true, if_false]
      cases h8 : (c.st == 8) <;> cases h17 : (c.st == 17) <;> cases h18 : (c.st == 18) <;> cases h19 : (c.st == 19) <;> (rw [h8, h17, h18, h19] at h; cases h; rfl)
end
end R2

namespace R2
open Go Go.Proofs Sx

theorem s40 (c : Ctx) (b : UInt8) (feed : Bool) (h : c.nm.length < 9223372036854775808) : semCall C Tryd.prog 40 [c.toAV, .u8 b, .b feed] = some (mv c b feed).toAV := by
  apply c40
  simp only [X40, mk_toAV, mk_eta, sForm (h := h), Option.bind_some, unop_not, condM_b]
  cases hf : form c with
  | true =>
    rw [if_neg (by simp)]
    exact l40 b feed 4 c _ (by have := form_nm c hf; omega) (mv_some c b feed hf)
  | false =>
    rw [if_pos (by simp), mv_bad c b feed hf]; rfl
theorem s19 (c : Ctx) (b : UInt8) (h : c.nm.length < 9223372036854775808) : semCall C Tryd.prog 19 [c.toAV, .u8 b] = some (stepB c b).toAV := by
  apply c19
  simp only [X19, mk_toAV, mk_eta, s40 (h := h), Option.bind_some, asAg_toAV, ten0, ten1, ten2, ten3, ten4, ten5, ten6, ten7, ten8, ten9]
  rfl

section
variable (c : Ctx) (b : UInt8)
theorem s41 : semCall C Tryd.prog 41 [] = some badC.toAV := by
  apply c41
  rfl
theorem s67 (x : UInt8) : semCall C Tryd.prog 67 [.int (x.toNat : Int)] = some (st1 x).toAV := by
  apply c67
  simp only [X67, conv_back, Option.bind_some, one_u8]
  rfl
theorem s68 : semCall C Tryd.prog 68 [.u8 b] = some (.b (letter b)) := by
  apply c68
  simp only [X68, uge_eq, ule_eq, Option.bind_some, selW_and, selW_or, letter]
theorem s50 : semCall C Tryd.prog 50 [.u8 b] = some (.b (blankB b)) := by
  apply c50
  refine of_isB ?_
  revert b
  exact all_u8 (by kernel_rfl)
theorem s51 : semCall C Tryd.prog 51 [.u8 b] = some (.s [lowb b]) := by
  have f (x : UInt8) : F51_3 (semRun C Tryd.prog 51 Tryd.f51) (.u8 x) = some (.s [x]) := by
    apply r51_3
    simp only [X51_3, one_u8, b2s_one, Option.bind_some]
  apply c51
  simp only [X51, uge_eq, ule_eq, Option.bind_some, selW_and, condM_b, u8_add, f, lowb]
  split <;> rfl
theorem s69 : semCall C Tryd.prog 69 [c.toAV, .u8 b] = some (grown c b).toAV := by
  apply c69
  simp only [X69, s51, s41, Option.bind_some, condM_b, grown, toAV_ite, asAg_toAV, ten0, ten1, ten2, ten3, ten4, ten5, ten6, ten7, ten8, ten9]
  have e : decide ((c.nm.length : Int) ≥ 32) = decide (32 ≤ c.nm.length) := by rw [decide_eq_decide]; omega
  rw [e]
  by_cases h : 32 ≤ c.nm.length
  · rw [if_pos (by simpa using h), if_pos (by simpa using h)]; rfl
  · rw [if_neg (by simpa using h), if_neg (by simpa using h), s_add' (by simp; omega)]; rfl
theorem s70 : semCall C Tryd.prog 70 [c.toAV] = some (tagEnd c.el).toAV := by
  apply c70
  have := s67 0
  simp only [X70, ueq_eq, condM_b, show ((0 : UInt8).toNat : Int) = 0 from rfl] at this ⊢
  simp only [this, Option.bind_some, asAg_toAV, ten0, ten1, ten2, ten3, ten4, ten5, ten6, ten7, ten8, ten9, tagEnd_eq, toAV_ite]
  rfl
theorem s95 (h : c.nm.length ≤ 100) : semCall C Tryd.prog 95 [c.toAV, .u8 b] = some (rurl c b).toAV := by
  have f (d : Ctx) : F95_27 (semRun C Tryd.prog 95 Tryd.f95) d.st d.el d.en d.at' d.qu d.pa d.su d.es d.da (.s d.nm) 0 0 false 0 0 0 0 false 0 [] = some d.toAV := by
    apply r95_27
    rfl
  have g (d : Ctx) : F95_21 (semRun C Tryd.prog 95 Tryd.f95) 0 0 false 0 0 0 0 false 0 [] d.st d.el d.en d.at' d.qu d.pa d.su d.es d.da d.nm = some d.toAV := by
    apply r95_21
    rfl
  have e : decide ((c.nm.length : Int) < 16) = decide (c.nm.length < 16) := by rw [decide_eq_decide]; omega
  have a1 : binS .add (.s c.nm) (.s [lowb b]) = some (.s (c.nm ++ [lowb b])) := s_add' (by simp; omega)
  apply c95
  simp only [X95, ueq_eq, uge_eq, Option.bind_some, selW_or, selW_and, condM_b, s51, s41, a1, e, one_s, asAg_toAV, ten0, ten1, ten2, ten3, ten4, ten5, ten6, ten7, ten8, ten9, rurl, toAV_ite]
  rw [g { c with pa := 3, nm := [] }, g { c with pa := 5, nm := [] }, f { c with pa := 1 }, f { c with pa := 1, nm := c.nm ++ [lowb b] }, show (c.nm == [104, 116, 116, 112] || c.nm == [104, 116, 116, 112, 115] || c.nm == [109, 97, 105, 108, 116, 111]) = httpS c.nm from rfl]
  rfl
theorem s96 (script : Bool) : semCall C Tryd.prog 96 [c.toAV, .u8 b, .b script] = some (code c b script).toAV := by
  have f (d : Ctx) : F96_45 (semRun C Tryd.prog 96 Tryd.f96) d.st d.el d.en d.at' d.qu d.pa d.su d.es d.da d.nm 0 0 false 0 0 0 0 false 0 [] = some d.toAV := by
    apply r96_45
    rfl
  have f10 (d : Ctx) : F96_10 (semRun C Tryd.prog 96 Tryd.f96) b d.st d.el d.en d.at' d.qu d.pa d.su d.es d.da d.nm 0 0 false 0 0 0 0 false 0 [] = some (if b == 47 then { d with su := 3 } else d : Ctx).toAV := by
    apply r96_10
    simp only [X96_10, ueq_eq, condM_b, toAV_ite]
    rw [f d, f { d with su := 3 }]
  have f8 (d : Ctx) : F96_8 (semRun C Tryd.prog 96 Tryd.f96) b d.st d.el d.en d.at' d.qu d.pa d.su d.es d.da d.nm 0 0 false 0 0 0 0 false 0 [] = some (if b == 39 then (if b == 47 then { d with su := 3 } else { d with su := 2 }) else (if b == 47 then { d with su := 3 } else d) : Ctx).toAV := by
    apply r96_8
    simp only [X96_8, ueq_eq, condM_b, toAV_ite]
    rw [f10 d, f10 { d with su := 2 }]
    simp only [toAV_ite]
  have z (d : Ctx) (hd : (d.su == 0) = true) : semCall C Tryd.prog 96 [d.toAV, .u8 b, .b script] = some (rcode0 d b script).toAV := by
    apply c96
    simp only [X96, w64_u8, i_beq _ _ (show 0 < 256 by decide), ueq_eq, Option.bind_some, selW_or, selW_and, condM_b, s41, asAg_toAV, ten0, ten1, ten2, ten3, ten4, ten5, ten6, ten7, ten8, ten9]
    rw [show (d.su == OfNat.ofNat 0) = true from hd, if_pos rfl, f8 d, f8 { d with su := 1 }]
    simp only [rcode0, toAV_ite]
    rfl
  have f19 (d : Ctx) : F96_19 (semRun C Tryd.prog 96 Tryd.f96) b (d.su.toNat : Int) d.st d.el d.en d.at' d.qu d.pa d.su d.es d.da d.nm 0 0 false 0 0 0 0 false 0 [] = some (if b == 10 || b == 13 then badC else if d.su == 1 && b == 34 || d.su == 2 && b == 39 then { d with su := 0 } else d : Ctx).toAV := by
    apply r96_19
    simp only [X96_19, i_beq _ _ (show 1 < 256 by decide), i_beq _ _ (show 2 < 256 by decide), ueq_eq, Option.bind_some, selW_or, selW_and, condM_b, s41, asAg_toAV, ten0, ten1, ten2, ten3, ten4, ten5, ten6, ten7, ten8, ten9, toAV_ite]
    rw [f d, f { d with su := 0 }]
    rfl
  have f14 (d : Ctx) : F96_14 (semRun C Tryd.prog 96 Tryd.f96) b (d.su.toNat : Int) d.st d.el d.en d.at' d.qu d.pa d.su d.es d.da d.nm 0 0 false 0 0 0 0 false 0 [] = some (rtext d b).toAV := by
    apply r96_14
    simp only [X96_14, ueq_eq, Option.bind_some, condM_b]
    rw [f19 d, f19 { d with es := true }]
    simp only [rtext, toAV_ite]
    rfl
  have f23 (d : Ctx) : F96_23 (semRun C Tryd.prog 96 Tryd.f96) b script (d.su.toNat : Int) d.st d.el d.en d.at' d.qu d.pa d.su d.es d.da d.nm 0 0 false 0 0 0 0 false 0 [] =
      some (if d.su == 3 then (if b == 42 then { d with su := 5 } else if script && b == 47 then { d with su := 4 } else if script then badC else rcode0 { d with su := 0 } b script)
  else if d.su == 4 then (if b == 10 || b == 13 then { d with su := 0 } else d)
  else if d.su == 5 then (if b == 42 then { d with su := 6 } else d)
  else if d.su == 6 then (if b == 47 then { d with su := 0 } else if b != 42 then { d with su := 5 } else d) else d : Ctx).toAV := by
    apply r96_23
    have z' := z { d with su := 0 } rfl
    simp only [X96_23, i_beq _ _ (show 3 < 256 by decide), i_beq _ _ (show 4 < 256 by decide), i_beq _ _ (show 5 < 256 by decide), i_beq _ _ (show 6 < 256 by decide), ueq_eq, une_eq, Option.bind_some, selW_or, selW_and, condM_b, s41, mk_toAV, z', asAg_toAV, ten0, ten1, ten2, ten3, ten4, ten5, ten6, ten7, ten8, ten9, toAV_ite]
    rw [f d, f { d with su := 0 }, f { d with su := 5 }, f { d with su := 6 }]
    try rfl
  rw [← rcode_eq]
  apply c96
  simp only [X96, w64_u8, i_beq _ _ (show 0 < 256 by decide), i_beq _ _ (show 1 < 256 by decide), i_beq _ _ (show 2 < 256 by decide), ueq_eq, Option.bind_some, selW_or, selW_and, condM_b, s41, asAg_toAV, ten0, ten1, ten2, ten3, ten4, ten5, ten6, ten7, ten8, ten9]
  rw [f8 c, f8 { c with su := 1 }, f14 c, f23 c]
  simp only [rcode, rcode0, toAV_ite]
  rfl
end
end R2

namespace R2
open Go Go.Proofs Sx

section
variable (c : Ctx) (b : UInt8)
theorem s72 (h : c.nm.length ≤ 100) : semCall C Tryd.prog 72 [c.toAV, (within c 0).toAV, .u8 b] = some (rvalue c b).toAV := by
  have f25 : F72_25 (semRun C Tryd.prog 72 Tryd.f72) c.st c.el c.en c.at' c.qu c.pa c.su c.es c.da c.nm 0 0 false 0 0 0 0 false 0 [] = some c.toAV := by
    apply r72_25
    rfl
  have f22 : F72_22 (semRun C Tryd.prog 72 Tryd.f72) b c.st c.el c.en c.at' c.qu c.pa c.su c.es c.da c.nm 0 0 false 0 0 0 0 false 0 [] = some (if b == 38 then badC else rcode c b (c.at' == 2) : Ctx).toAV := by
    apply r72_22
    simp only [X72_22, ueq_eq, Option.bind_some, condM_b, s41, mk_toAV, mk_eta, s96, rcode_eq, asAg_toAV, ten0, ten1, ten2, ten3, ten4, ten5, ten6, ten7, ten8, ten9, toAV_ite]
  have f17 : F72_17 (semRun C Tryd.prog 72 Tryd.f72) b c.st c.el c.en c.at' c.qu c.pa c.su c.es c.da c.nm 0 0 false 0 0 0 0 false 0 [] = some (if c.at' == 1 then rurl c b else if c.at' == 2 then (if b == 38 then badC else rcode c b (c.at' == 2)) else if c.at' == 3 then (if b == 38 then badC else rcode c b (c.at' == 2)) else c : Ctx).toAV := by
    apply r72_17
    simp only [X72_17, ueq_eq, Option.bind_some, condM_b, mk_toAV, mk_eta, s95 (h := h), f22, f25, asAg_toAV, ten0, ten1, ten2, ten3, ten4, ten5, ten6, ten7, ten8, ten9, toAV_ite]
  apply c72
  simp only [X72, ueq_eq, une_eq, Option.bind_some, selW_or, selW_and, condM_b, unop_not, s41, s50, mk_toAV, mk_eta, s70, asAg_toAV, ten0, ten1, ten2, ten3, ten4, ten5, ten6, ten7, ten8, ten9, f17]
  rw [show (b == 34 || b == 39 || b == 60 || b == 61 || b == 96) = quoteB b from rfl]
  simp only [rvalue, toAV_ite]
  rfl
theorem l97 : ∀ (r p : List UInt8) (c : Ctx), (p ++ r).length < 9223372036854775808 → F97_4 (semRun C Tryd.prog 97 Tryd.f97) (p ++ r) (p.length : Int) (.u8 c.st) (.u8 c.el) (.b c.en) (.u8 c.at') (.u8 c.qu) (.u8 c.pa) (.u8 c.su) (.b c.es) (.u8 c.da) (.s c.nm) 0 0 false 0 0 0 0 false 0 [] = some (rfeedL c r).toAV
  | [], p, c, h => by
    apply r97_4
    simp only [X97_4, nlt_len, nlt_self, List.append_nil, Option.bind_some, selW_tf, condM_b, Bool.false_eq_true, if_false, mk_toAV, mk_eta, rfeedL]
  | b :: r, p, c, h => by
    apply r97_4
    simp only [X97_4, lt_len, idxS_at, w64_inc p b r h, u8_eql, conv_int_u8, int_eql, i_beq _ _ (show 17 < 256 by decide), Option.bind_some, selW_or, selW_and, Bool.true_and, condM_b, mk_toAV, mk_eta, s96, asAg_toAV, ten0, ten1, ten2, ten3, ten4, ten5, ten6, ten7, ten8, ten9, rfeedL, toAV_ite]
    rw [snoc_app, l97 r (p ++ [b]) _ (by rw [← snoc_app]; exact h)]
theorem s97 (s : List UInt8) (h : s.length < 9223372036854775808) : semCall C Tryd.prog 97 [c.toAV, .s s] = some (fed c s true).toAV := by
  apply c97
  rw [← rfeed_eq]
  exact l97 s [] { c with st := 17, nm := [] } h
theorem s74 : semCall C Tryd.prog 74 [c.toAV, .u8 b] = some (rnote c b).toAV := by
  have t0 := s67 0
  have t12 := s67 12
  have t13 := s67 13
  have t14 := s67 14
  have t15 := s67 15
  have t16 := s67 16
  simp only [show ((0 : UInt8).toNat : Int) = 0 from rfl, show ((12 : UInt8).toNat : Int) = 12 from rfl, show ((13 : UInt8).toNat : Int) = 13 from rfl, show ((14 : UInt8).toNat : Int) = 14 from rfl, show ((15 : UInt8).toNat : Int) = 15 from rfl, show ((16 : UInt8).toNat : Int) = 16 from rfl] at t0 t12 t13 t14 t15 t16
  have f33 : F74_33 (semRun C Tryd.prog 74 Tryd.f74) c.st c.el c.en c.at' c.qu c.pa c.su c.es c.da c.nm 0 0 false 0 0 0 0 false 0 [] = some c.toAV := by
    apply r74_33
    rfl
  have f24 (d : Ctx) : F74_24 (semRun C Tryd.prog 74 Tryd.f74) d.st d.el d.en d.at' d.qu d.pa d.su d.es (.u8 d.da) d.nm 0 0 false 0 0 0 0 false 0 [] = some d.toAV := by
    apply r74_24
    rfl
  have f4 : F74_4 (semRun C Tryd.prog 74 Tryd.f74) b c.st c.el c.en c.at' c.qu c.pa c.su c.es c.da c.nm 0 0 false 0 0 0 0 false 0 [] = some (if b == 62 then st1 0 else if b == 45 then (if c.st == 11 then st1 12 else st1 13) else st1 16 : Ctx).toAV := by
    apply r74_4
    simp only [X74_4, ueq_eq, w64_u8, i_beq _ _ (show 11 < 256 by decide), Option.bind_some, condM_b, t0, t12, t13, t16, asAg_toAV, ten0, ten1, ten2, ten3, ten4, ten5, ten6, ten7, ten8, ten9, toAV_ite]
    rfl
  have f13 : F74_13 (semRun C Tryd.prog 74 Tryd.f74) b c.st c.el c.en c.at' c.qu c.pa c.su c.es c.da c.nm 0 0 false 0 0 0 0 false 0 [] = some (if b == 62 then badC else if b != 45 then st1 15 else if c.st == 13 then st1 14 else ⟨15, 0, false, 0, 0, 0, 0, false, 2, []⟩ : Ctx).toAV := by
    apply r74_13
    simp only [X74_13, ueq_eq, une_eq, w64_u8, i_beq _ _ (show 13 < 256 by decide), Option.bind_some, condM_b, t15, t14, s41, asAg_toAV, ten0, ten1, ten2, ten3, ten4, ten5, ten6, ten7, ten8, ten9, toAV_ite]
    rfl
  have f20 : F74_20 (semRun C Tryd.prog 74 Tryd.f74) b (c.st.toNat : Int) c.st c.el c.en c.at' c.qu c.pa c.su c.es c.da c.nm 0 0 false 0 0 0 0 false 0 [] =
      some (if c.st == 15 then (if b == 45 then (if decide (c.da < 2) then { c with da := c.da + 1 } else c) else if c.da == 2 && b == 62 then st1 0 else if c.da == 2 && b == 33 then badC else st1 15)
  else if c.st == 16 then (if b == 62 then st1 0 else c) else c : Ctx).toAV := by
    apply r74_20
    simp only [X74_20, ueq_eq, ult_eq, u8_add, one_u8, i_beq _ _ (show 15 < 256 by decide), i_beq _ _ (show 16 < 256 by decide), Option.bind_some, selW_and, condM_b, t0, t15, s41, asAg_toAV, ten0, ten1, ten2, ten3, ten4, ten5, ten6, ten7, ten8, ten9, toAV_ite, f33]
    rw [f24 c, f24 { c with da := c.da + 1 }]
    rfl
  have f11 : F74_11 (semRun C Tryd.prog 74 Tryd.f74) b (c.st.toNat : Int) c.st c.el c.en c.at' c.qu c.pa c.su c.es c.da c.nm 0 0 false 0 0 0 0 false 0 [] =
      some (if c.st == 13 || c.st == 14 then (if b == 62 then badC else if b != 45 then st1 15 else if c.st == 13 then st1 14 else ⟨15, 0, false, 0, 0, 0, 0, false, 2, []⟩)
  else if c.st == 15 then (if b == 45 then (if decide (c.da < 2) then { c with da := c.da + 1 } else c) else if c.da == 2 && b == 62 then st1 0 else if c.da == 2 && b == 33 then badC else st1 15)
  else if c.st == 16 then (if b == 62 then st1 0 else c) else c : Ctx).toAV := by
    apply r74_11
    simp only [X74_11, i_beq _ _ (show 13 < 256 by decide), i_beq _ _ (show 14 < 256 by decide), condM_b, f13, f20]
    show (if (c.st == 13) = true then _ else if (c.st == 14) = true then _ else _) = _
    by_cases h1 : (c.st == 13) = true
    · rw [if_pos h1]; exact congrArg (fun x => some (Ctx.toAV x)) (if_pos (by rw [h1]; rfl)).symm
    · rw [if_neg h1]
      by_cases h2 : (c.st == 14) = true
      · rw [if_pos h2]; exact congrArg (fun x => some (Ctx.toAV x)) (if_pos (by rw [h2]; simp)).symm
      · rw [if_neg h2]; exact congrArg (fun x => some (Ctx.toAV x)) (if_neg (by simp only [Bool.or_eq_true]; exact fun e => e.elim h1 h2)).symm
  apply c74
  simp only [X74, w64_u8, i_beq _ _ (show 11 < 256 by decide), i_beq _ _ (show 12 < 256 by decide), condM_b, f4, f11]
  unfold rnote
  show (if (c.st == 11) = true then _ else if (c.st == 12) = true then _ else _) = _
  by_cases h1 : (c.st == 11) = true
  · rw [if_pos h1]; exact congrArg (fun x => some (Ctx.toAV x)) (if_pos (by rw [h1]; rfl)).symm
  · rw [if_neg h1]
    by_cases h2 : (c.st == 12) = true
    · rw [if_pos h2]; exact congrArg (fun x => some (Ctx.toAV x)) (if_pos (by rw [h2]; simp)).symm
    · rw [if_neg h2]; exact congrArg (fun x => some (Ctx.toAV x)) (if_neg (by simp only [Bool.or_eq_true]; exact fun e => e.elim h1 h2)).symm
theorem x42_9 (h : c.st = 9) : X42 (semCall C Tryd.prog) (semRun C Tryd.prog 42 Tryd.f42) c.st c.el c.en c.at' c.qu c.pa c.su c.es c.da c.nm b = some (tag c b).1.toAV := by
  obtain ⟨st, el, en, at', qu, pa, su, es, da, nm⟩ := c
  simp only at h
  subst h
  have w9 : w64 ((9 : UInt8).toNat : Int) = 9 := rfl
  simp only [X42, w9, condM_b]
  simp only [show ((9 : Int) == 0) = false from rfl, show ((9 : Int) == 1) = false from rfl, show ((9 : Int) == 2) = false from rfl, show ((9 : Int) == 3) = false from rfl, show ((9 : Int) == 9) = true from rfl, Bool.false_eq_true, if_false, if_true, s50, s41, mk_toAV, mk_eta, s70, ueq_eq, Option.bind_some, condM_b, asAg_toAV, ten0, ten1, ten2, ten3, ten4, ten5, ten6, ten7, ten8, ten9]
  unfold tag
  simp only [show ((9 : UInt8) == 3) = false from rfl, show ((9 : UInt8) == 9) = true from rfl, Bool.false_eq_true, if_false, if_true]
  cases blankB b <;> cases (b == 47) <;> cases (b == 62) <;> rfl
theorem s42_9 (h : c.st = 9) : semCall C Tryd.prog 42 [c.toAV, .u8 b] = some (tag c b).1.toAV := by
  apply c42
  exact x42_9 c b h
end
end R2

namespace R2
open Go Go.Proofs Sx

section
variable (c : Ctx) (b : UInt8)
theorem pre_sel (m n : List UInt8) : selW (.b (decide ((m.length : Int) ≤ (n.length : Int)))) true ((slS (.s n) none (some (.int (m.length : Int)))).bind fun v90 => (binS .eql v90 (.s m)).bind fun v91 => some v91) (.b false) = some (.b (pre m n)) := by
  by_cases hl : m.length ≤ n.length
  · rw [slS_hi hl]; simp [pre, hl]
  · have : decide ((m.length : Int) ≤ (n.length : Int)) = false := by simp; omega
    rw [this, selW_tf]; simp [pre, hl]
theorem s73 (h : c.nm.length ≤ 100) (hs : c.st = 17 ∨ c.st = 18 ∨ c.st = 19) : semCall C Tryd.prog 73 [c.toAV, .u8 b] = some (raw c b true).toAV := by
  have f23 (d : Ctx) : F73_23 (semRun C Tryd.prog 73 Tryd.f73) (.u8 d.st) (.u8 d.el) (.b d.en) (.u8 d.at') (.u8 d.qu) (.u8 d.pa) (.u8 d.su) (.b d.es) (.u8 d.da) (.s d.nm) 0 0 false 0 0 0 0 false 0 [] = some d.toAV := by
    apply r73_23
    rfl
  have f20 (d : Ctx) (hd : (d.st == 20) = false) : F73_20 (semRun C Tryd.prog 73 Tryd.f73) b (.u8 d.st) (.u8 d.el) (.b d.en) (.u8 d.at') (.u8 d.qu) (.u8 d.pa) (.u8 d.su) (.b d.es) (.u8 d.da) (.s d.nm) 0 0 false 0 0 0 0 false 0 [] = some (raw2 d b true).toAV := by
    apply r73_20
    simp only [X73_20, Option.bind_some, b2s_one, mk_toAV, mk_eta]
    rw [s97 d [b] (by simp)]
    simp only [Option.bind_some, asAg_toAV, ten0, ten1, ten2, ten3, ten4, ten5, ten6, ten7, ten8, ten9, conv_int_u8, int_eql, i_beq _ _ (show 17 < 256 by decide), ueq_eq, selW_and, condM_b]
    rw [f23 (fed d [b] true), f23 { fed d [b] true with st := 18 }]
    simp only [raw2, hd, toAV_ite, Bool.false_eq_true, if_false]
    try rfl
  have a1 : binS .add (.s c.nm) (.s [lowb b]) = some (.s (c.nm ++ [lowb b])) := s_add' (by simp; omega)
  have a2 : binS .add (.s [47]) (.s c.nm) = some (.s (47 :: c.nm)) := s_add' (by simp; omega)
  have a3 := s97 c (47 :: c.nm) (by simp; omega)
  have lk := s42_9 ⟨9, 0, true, 0, 0, 0, 0, false, 0, []⟩ b rfl
  have f8 : F73_8 (semRun C Tryd.prog 73 Tryd.f73) b (.s (nameOf c.el)) c.st c.el c.en c.at' c.qu c.pa c.su c.es c.da c.nm 0 0 false 0 0 0 0 false 0 [] =
      some (if c.st == 19 then (if c.nm == nameOf c.el && (blankB b || b == 47 || b == 62) then (if !ends c then badC else (tag ⟨9, 0, true, 0, 0, 0, 0, false, 0, []⟩ b).1) else if pre (c.nm ++ [lowb b]) (nameOf c.el) then { c with nm := c.nm ++ [lowb b] } else raw2 (fed c (47 :: c.nm) true) b true) else raw2 c b true : Ctx).toAV := by
    apply r73_8
    simp only [X73_8, w64_u8, ueq_eq, une_eq, s_eql, Option.bind_some, selW_or, selW_and, condM_b, s50, s51, s41, a1, a2, lenS_s, int_leq, mk_toAV, mk_eta, lk, a3, pre_sel, asAg_toAV, ten0, ten1, ten2, ten3, ten4, ten5, ten6, ten7, ten8, ten9, one_s, conv_int_u8, int_eql, i_beq _ _ (show 19 < 256 by decide), i_beq _ _ (show 20 < 256 by decide), toAV_ite]
    have hb : (if ((fed c (47 :: c.nm) true).st == OfNat.ofNat 20) = true then some badC.toAV else F73_20 (semRun C Tryd.prog 73 Tryd.f73) b (.u8 (fed c (47 :: c.nm) true).st) (.u8 (fed c (47 :: c.nm) true).el) (.b (fed c (47 :: c.nm) true).en) (.u8 (fed c (47 :: c.nm) true).at') (.u8 (fed c (47 :: c.nm) true).qu) (.u8 (fed c (47 :: c.nm) true).pa) (.u8 (fed c (47 :: c.nm) true).su) (.b (fed c (47 :: c.nm) true).es) (.u8 (fed c (47 :: c.nm) true).da) (.s (fed c (47 :: c.nm) true).nm) 0 0 false 0 0 0 0 false 0 []) = some (raw2 (fed c (47 :: c.nm) true) b true).toAV := by
      by_cases hx : ((fed c (47 :: c.nm) true).st == 20) = true
      · rw [if_pos hx]
        unfold raw2
        rw [if_pos hx]
      · rw [if_neg hx, f20 _ (by simpa using hx)]
    have he : (c.su != 0 && c.su != 4) = !ends c := by unfold ends bne; cases (c.su == 0) <;> cases (c.su == 4) <;> rfl
    rw [he]
    by_cases h19 : (c.st == 19) = true
    · refine (if_pos h19).trans (Eq.trans ?_ (if_pos h19).symm)
      exact congrArg _ (congrArg _ hb)
    · refine (if_neg h19).trans (Eq.trans ?_ (if_neg h19).symm)
      exact f20 c (by rcases hs with e | e | e <;> rw [e] <;> rfl)
  apply c73
  simp only [X73, w64_u8, s48, i_beq _ _ (show 18 < 256 by decide), ueq_eq, Option.bind_some, selW_and, condM_b, f8, s41, mk_toAV, asAg_toAV, ten0, ten1, ten2, ten3, ten4, ten5, ten6, ten7, ten8, ten9]
  unfold raw
  rcases hs with e | e | e
  · rw [e]; rfl
  · rw [e]
    cases (b == 47) <;> cases (b == 33) <;> cases (c.el == 3) <;> rfl
  · rw [e]
    simp only [toAV_ite]
    cases (c.nm == nameOf c.el) <;> cases (blankB b || b == 47 || b == 62) <;> cases pre (c.nm ++ [lowb b]) (nameOf c.el) <;> cases ends c <;> rfl
end
end R2

namespace R2
open Go Go.Proofs Sx

section
variable (b : UInt8)
theorem l42 : ∀ (n : Nat) (c d : Ctx), Q c b → again n c b true = some d → semCall C Tryd.prog 42 [c.toAV, .u8 b] = some d.toAV
  | 0, c, d, hQ, h => by cases h
  | n + 1, c, d, hQ, h => by
    have IH := l42 n
    have hnm := Q_nm hQ
    have t0 := s67 0
    have t1 := s67 1
    have t2 := s67 2
    have t11 := s67 11
    have t16 := s67 16
    simp only [show ((0 : UInt8).toNat : Int) = 0 from rfl, show ((1 : UInt8).toNat : Int) = 1 from rfl, show ((2 : UInt8).toNat : Int) = 2 from rfl, show ((11 : UInt8).toNat : Int) = 11 from rfl, show ((16 : UInt8).toNat : Int) = 16 from rfl] at t0 t1 t2 t11 t16
    -- what names lead to
    have nmd (h56 : c.st = 5 ∨ c.st = 6) (hh : (if (named c b).2 then again n (named c b).1 b true else some (named c b).1) = some d) : semCall C Tryd.prog 71 [c.toAV, (within c 0).toAV, .u8 b] = some d.toAV := by
      apply c71
      simp only [X71, ueq_eq, w64_u8, i_beq _ _ (show 6 < 256 by decide), Option.bind_some, selW_or, condM_b, s94, conv_back, one_u8, s50, s41, s69, mk_toAV, mk_eta, asAg_toAV, ten0, ten1, ten2, ten3, ten4, ten5, ten6, ten7, ten8, ten9]
      have hne : (b == 61) = true → (c.nm != []) = true := by
        intro hb
        rcases hQ with hf | ⟨_, h61, _⟩
        · have := (form_st5 c hf h56).2
          have := small_len this
          cases hn : c.nm with
          | nil => rw [hn] at this; exact absurd this.1 (by simp)
          | cons x r => rfl
        · rw [hb] at h61; cases h61
      unfold named at hh
      cases h61 : (b == 61) with
      | true =>
        rw [h61, hne h61] at hh
        rw [if_pos rfl]
        cases hh; rfl
      | false =>
      rw [h61, Bool.false_and] at hh
      rw [if_neg (by simp)]
      cases h47 : (b == 47 || b == 62) with
      | true =>
        rw [h47] at hh
        rw [if_pos rfl]
        have hf : form c = true := by
          rcases hQ with hf | ⟨_, _, hx, _⟩
          · exact hf
          · rw [h47] at hx; cases hx
        have := IH (within c 9) d (.inl (form_within c hf 9 (by simp))) hh
        rw [show (⟨9, (within c 0).el, (within c 0).en, (within c 0).at', (within c 0).qu, (within c 0).pa, (within c 0).su, (within c 0).es, (within c 0).da, (within c 0).nm⟩ : Ctx) = within c 9 from rfl, this]
        simp only [Option.bind_some, asAg_toAV, ten0, ten1, ten2, ten3, ten4, ten5, ten6, ten7, ten8, ten9, mk_toAV, mk_eta]
      | false =>
      rw [h47] at hh
      rw [if_neg (by simp)]
      cases hbl : blankB b with
      | true =>
        rw [hbl] at hh
        rw [if_pos rfl]
        cases hh; rfl
      | false =>
      rw [hbl] at hh
      rw [if_neg (by simp)]
      cases h6 : (c.st == 6) with
      | true =>
        rw [h6] at hh
        rw [if_pos (by simp)]
        have hf : form c = true := by
          rcases hQ with hf | ⟨hx, _⟩
          · exact hf
          · rw [hx] at h6; cases h6
        have := IH (within c 4) d (.inl (form_within c hf 4 (by simp))) hh
        rw [show (⟨4, (within c 0).el, (within c 0).en, (within c 0).at', (within c 0).qu, (within c 0).pa, (within c 0).su, (within c 0).es, (within c 0).da, (within c 0).nm⟩ : Ctx) = within c 4 from rfl, this]
        simp only [Option.bind_some, asAg_toAV, ten0, ten1, ten2, ten3, ten4, ten5, ten6, ten7, ten8, ten9, mk_toAV, mk_eta]
      | false =>
      rw [h6] at hh
      rw [if_neg (by simp)]
      cases hq : (b == 34 || b == 39 || b == 60) with
      | true => rw [hq] at hh; cases hh; rfl
      | false => rw [hq] at hh; cases hh; rfl
    have f57 (h56 : c.st = 5 ∨ c.st = 6) (hh : (if (named c b).2 then again n (named c b).1 b true else some (named c b).1) = some d) : F42_57 (semRun C Tryd.prog 42 Tryd.f42) b c.st c.el c.en c.at' c.qu c.pa c.su c.es c.da c.nm 0 0 false 0 0 0 0 false 0 [] 0 c.el c.en 0 0 0 0 false 0 [] = some d.toAV := by
      apply r42_57
      have := nmd h56 hh
      simp only [X42_57, mk_toAV, mk_eta]
      rw [show (⟨0, c.el, c.en, 0, 0, 0, 0, false, 0, []⟩ : Ctx) = within c 0 from rfl, this]
      simp only [Option.bind_some, asAg_toAV, ten0, ten1, ten2, ten3, ten4, ten5, ten6, ten7, ten8, ten9, mk_toAV, mk_eta]
    have f27 (el : UInt8) (hf : form (within { c with el := el } 9) = true) (hh : again n (within { c with el := el } 9) b true = some d) : F42_27 (semRun C Tryd.prog 42 Tryd.f42) b 0 0 false 0 0 0 0 false 0 [] 0 (.u8 el) c.en 0 0 0 0 false 0 [] = some d.toAV := by
      apply r42_27
      have := IH (within { c with el := el } 9) d (.inl hf) hh
      simp only [X42_27, mk_toAV, mk_eta]
      rw [show (⟨9, el, c.en, 0, 0, 0, 0, false, 0, []⟩ : Ctx) = within { c with el := el } 9 from rfl, this]
      simp only [Option.bind_some, asAg_toAV, ten0, ten1, ten2, ten3, ten4, ten5, ten6, ten7, ten8, ten9, mk_toAV, mk_eta]
    have f73 (hs : c.st = 17 ∨ c.st = 18 ∨ c.st = 19) : F42_73 (semRun C Tryd.prog 42 Tryd.f42) b c.st c.el c.en c.at' c.qu c.pa c.su c.es c.da c.nm 0 0 false 0 0 0 0 false 0 [] = some (raw c b true).toAV := by
      apply r42_73
      simp only [X42_73, mk_toAV, mk_eta, s73 c b (by omega) hs, Option.bind_some, asAg_toAV, ten0, ten1, ten2, ten3, ten4, ten5, ten6, ten7, ten8, ten9]
    have f74 : F42_74 (semRun C Tryd.prog 42 Tryd.f42) b c.st c.el c.en c.at' c.qu c.pa c.su c.es c.da c.nm 0 0 false 0 0 0 0 false 0 [] = some (rnote c b).toAV := by
      apply r42_74
      simp only [X42_74, mk_toAV, mk_eta, s74, Option.bind_some, asAg_toAV, ten0, ten1, ten2, ten3, ten4, ten5, ten6, ten7, ten8, ten9]
    have val := s72 c b (by omega)
    unfold again at h
    apply c42
    -- the special one
    rcases hQ with hf | ⟨hx, h61, h47, hbl⟩
    case inr =>
      have e : c.st = 5 := by rw [hx]; rfl
      rw [e] at h
      have h : (if (named c b).2 then again n (named c b).1 b true else some (named c b).1) = some d := by
        unfold tag at h
        rw [e] at h
        exact h
      have := f57 (.inl e) h
      rw [e] at this ⊢
      exact this
    rcases st_cases c.st with e | e | e | e | e | e | e | e | e | e | e | e | e | e | e | e | e | e | e | e | e | e
    · -- text
      have hc := form_pl c hf (by simp [e])
      rw [e] at hc
      subst hc
      rw [show (if ((st1 0).st == 0) = true then (if (b == 60) = true then some { st1 0 with st := 1 } else some (st1 0)) else _ : Option Ctx) = (if (b == 60) = true then some (st1 1) else some (st1 0)) from rfl] at h
      show condM (.b (ueq b 60)) ((semCall C Tryd.prog 67 [.int 1]).bind _) (some (st1 0).toAV) = _
      rw [condM_b, ueq_eq, t1]
      cases hb : (b == 60) with
      | true => rw [hb] at h; cases h; rfl
      | false => rw [hb] at h; cases h; rfl
    · have hc := form_pl c hf (by simp [e])
      rw [e] at hc
      subst hc
      have h : (if (opened b).2 then some (opened b).1 else again n (st1 0) b true) = some d := h
      show (semCall C Tryd.prog 68 [.u8 b]).bind _ = _
      simp only [s68, s51, Option.bind_some, condM_b, ueq_eq, one_s, t0, t2, t11, t16, asAg_toAV, ten0, ten1, ten2, ten3, ten4, ten5, ten6, ten7, ten8, ten9, mk_toAV, mk_eta]
      unfold opened at h
      cases hl : letter b with
      | true => rw [hl] at h; cases h; rfl
      | false =>
      rw [hl] at h
      rw [if_neg (by simp)]
      cases h1 : (b == 47) with
      | true => rw [h1] at h; cases h; rfl
      | false =>
      rw [h1] at h
      rw [if_neg (by simp)]
      cases h2 : (b == 33) with
      | true => rw [h2] at h; cases h; rfl
      | false =>
      rw [h2] at h
      rw [if_neg (by simp)]
      cases h3 : (b == 63) with
      | true => rw [h3] at h; cases h; rfl
      | false =>
      rw [h3] at h
      rw [if_neg (by simp), IH (st1 0) d (.inl rfl) h]
      simp only [Option.bind_some, asAg_toAV, ten0, ten1, ten2, ten3, ten4, ten5, ten6, ten7, ten8, ten9, mk_toAV, mk_eta]
    · have hc := form_pl c hf (by simp [e])
      rw [e] at hc
      subst hc
      have h : some (closed b) = some d := h
      show (semCall C Tryd.prog 68 [.u8 b]).bind _ = _
      simp only [s68, s51, Option.bind_some, condM_b, ueq_eq, one_s, t0, t2, t11, t16, asAg_toAV, ten0, ten1, ten2, ten3, ten4, ten5, ten6, ten7, ten8, ten9, mk_toAV, mk_eta]
      cases h
      unfold closed
      cases hl : letter b <;> cases h1 : (b == 62) <;> rfl
    · have hh : (if (tag c b).2 then again n (tag c b).1 b true else some (tag c b).1) = some d := by rw [e] at h; exact h
      unfold X42
      rw [e]
      simp only [show w64 ((3 : UInt8).toNat : Int) = 3 from rfl, Int.reduceBEq, condM_b, Bool.false_eq_true, if_false, if_true]
      simp only [s50, s56, conv_back, one_u8, s69, ueq_eq, selW_or, Option.bind_some, condM_b]
      obtain ⟨hc, _⟩ := form_st3 c hf e
      have hel : c.el = 0 := by rw [hc]
      unfold tag at hh
      rw [e] at hh
      have e3 : ((3 : UInt8) == 3) = true := rfl
      rw [e3, if_pos rfl] at hh
      have hneg : (!blankB b && b != 47 && b != 62) = !(blankB b || b == 47 || b == 62) := by unfold bne; cases blankB b <;> cases (b == 47) <;> cases (b == 62) <;> rfl
      rw [hneg] at hh
      cases hx : (blankB b || b == 47 || b == 62) with
      | false =>
        rw [hx] at hh
        rw [if_neg (by simp)]
        have g := s69 c b
        unfold Ctx.toAV cx at g
        rw [e] at g
        rw [g]
        cases hh
        rfl
      | true =>
        rw [hx] at hh
        rw [if_pos rfl]
        cases hen : c.en with
        | true =>
          rw [hen] at hh
          rw [if_neg (by simp)]
          have := f27 c.el (form_within c hf 9 (by simp)) hh
          rw [hen] at this
          exact this
        | false =>
          rw [hen] at hh
          rw [if_pos (by simp)]
          have hfe : form (within { c with el := elOf c.nm } 9) = true := by
            have := form_tagS 9 (elOf c.nm) c.en (by simp)
            unfold within
            rw [this, hen, decide_eq_true (elOf_le c.nm)]; rfl
          have := f27 (elOf c.nm) hfe (by
            show again n ⟨9, elOf c.nm, c.en, 0, 0, 0, 0, false, 0, []⟩ b true = some d
            rw [hen]; exact hh)
          rw [hen] at this
          exact this
    · have hh : (if (tag c b).2 then again n (tag c b).1 b true else some (tag c b).1) = some d := by rw [e] at h; exact h
      unfold X42
      rw [e]
      simp only [show w64 ((4 : UInt8).toNat : Int) = 4 from rfl, Int.reduceBEq, condM_b, Bool.false_eq_true, if_false, if_true]
      have hc := form_st4 c hf (by simp [e])
      unfold tag at hh
      rw [e] at hh
      simp only [show ((4 : UInt8) == 3) = false from rfl, show ((4 : UInt8) == 9) = false from rfl, show ((4 : UInt8) == 10) = false from rfl, show ((4 : UInt8) == 4) = true from rfl, Bool.false_eq_true, if_false, if_true] at hh
      simp only [s50, s41, ueq_eq, selW_or, Option.bind_some, condM_b, asAg_toAV, ten0, ten1, ten2, ten3, ten4, ten5, ten6, ten7, ten8, ten9, mk_toAV, mk_eta]
      cases hbl : blankB b with
      | true => rw [hbl] at hh; cases hh; rw [if_pos rfl, ← e]; rfl
      | false =>
      rw [hbl] at hh
      rw [if_neg (by simp)]
      cases h47 : (b == 47 || b == 62) with
      | true =>
        rw [h47] at hh
        rw [if_pos rfl, show (⟨9, c.el, c.en, 0, 0, 0, 0, false, 0, []⟩ : Ctx) = within c 9 from rfl, IH (within c 9) d (.inl (form_within c hf 9 (by simp))) hh]
        simp only [Option.bind_some, asAg_toAV, ten0, ten1, ten2, ten3, ten4, ten5, ten6, ten7, ten8, ten9, mk_toAV, mk_eta]
      | false =>
      rw [h47] at hh
      rw [if_neg (by simp)]
      cases h61 : (b == 61) with
      | true => rw [h61] at hh; cases hh; rfl
      | false =>
        rw [h61] at hh
        have hcw : { c with st := 5 } = within c 5 := by rw [hc]; rfl
        rw [if_neg (by simp), show (⟨5, c.el, c.en, 0, 0, 0, 0, false, 0, []⟩ : Ctx) = within c 5 from rfl, IH (within c 5) d (.inr ⟨rfl, h61, h47, hbl⟩) (by rw [← hcw]; exact hh)]
        simp only [Option.bind_some, asAg_toAV, ten0, ten1, ten2, ten3, ten4, ten5, ten6, ten7, ten8, ten9, mk_toAV, mk_eta]
    · have hh : (if (tag c b).2 then again n (tag c b).1 b true else some (tag c b).1) = some d := by rw [e] at h; exact h
      unfold X42
      rw [e]
      simp only [show w64 ((5 : UInt8).toNat : Int) = 5 from rfl, Int.reduceBEq, condM_b, Bool.false_eq_true, if_false, if_true]
      have hh' : (if (named c b).2 then again n (named c b).1 b true else some (named c b).1) = some d := by
        unfold tag at hh
        rw [e] at hh
        exact hh
      have := f57 (by simp [e]) hh'
      rw [e] at this
      exact this
    · have hh : (if (tag c b).2 then again n (tag c b).1 b true else some (tag c b).1) = some d := by rw [e] at h; exact h
      unfold X42
      rw [e]
      simp only [show w64 ((6 : UInt8).toNat : Int) = 6 from rfl, Int.reduceBEq, condM_b, Bool.false_eq_true, if_false, if_true]
      have hh' : (if (named c b).2 then again n (named c b).1 b true else some (named c b).1) = some d := by
        unfold tag at hh
        rw [e] at hh
        exact hh
      have := f57 (by simp [e]) hh'
      rw [e] at this
      exact this
    · have hh : (if (tag c b).2 then again n (tag c b).1 b true else some (tag c b).1) = some d := by rw [e] at h; exact h
      unfold X42
      rw [e]
      simp only [show w64 ((7 : UInt8).toNat : Int) = 7 from rfl, Int.reduceBEq, condM_b, Bool.false_eq_true, if_false, if_true]
      have hc := form_st7 c hf e
      have hh' : (if (begunV c b).2 then again n (begunV c b).1 b true else some (begunV c b).1) = some d := by
        unfold tag at hh
        rw [e] at hh
        exact hh
      apply r42_58
      simp only [X42_58, Int.reduceBEq, condM_b, Bool.false_eq_true, if_false, if_true, s50, s41, ueq_eq, selW_or, Option.bind_some, condM_b, asAg_toAV, ten0, ten1, ten2, ten3, ten4, ten5, ten6, ten7, ten8, ten9, mk_toAV, mk_eta]
      unfold begunV at hh'
      cases hbl : blankB b with
      | true => rw [hbl] at hh'; cases hh'; rw [if_pos rfl, ← e]; rfl
      | false =>
      rw [hbl] at hh'
      rw [if_neg (by simp)]
      cases h62 : (b == 62) with
      | true => rw [h62] at hh'; cases hh'; rfl
      | false =>
      rw [h62] at hh'
      rw [if_neg (by simp)]
      cases hq : (b == 34 || b == 39) with
      | true => rw [hq] at hh'; cases hh'; rfl
      | false =>
        rw [hq] at hh'
        obtain ⟨q1, q2⟩ := form_en c hf
        have hf8 : form { c with st := 8 } = true := by
          have := form_st8mk c.el c.at' 0 c.en q1 q2 (form_at c hf) (.inl rfl)
          rw [hc]; exact this
        rw [if_neg (by simp), show (⟨8, c.el, c.en, c.at', c.qu, c.pa, c.su, c.es, c.da, c.nm⟩ : Ctx) = { c with st := 8 } from rfl, IH { c with st := 8 } d (.inl hf8) hh']
        simp only [Option.bind_some, asAg_toAV, ten0, ten1, ten2, ten3, ten4, ten5, ten6, ten7, ten8, ten9, mk_toAV, mk_eta]
    · have hh : some (value c b) = some d := by rw [e] at h; exact h
      unfold X42
      rw [e]
      simp only [show w64 ((8 : UInt8).toNat : Int) = 8 from rfl, Int.reduceBEq, condM_b, Bool.false_eq_true, if_false, if_true]
      have hv : rvalue c b = value c b := rvalue_eq c b fun _ => rurl_eq c b (form_pa c hf) (form_url c hf e)
      rw [hv] at val
      apply r42_58
      rw [← e]
      simp only [X42_58, Int.reduceBEq, condM_b, Bool.false_eq_true, if_false, if_true, asAg_toAV, ten0, ten1, ten2, ten3, ten4, ten5, ten6, ten7, ten8, ten9, mk_toAV, mk_eta]
      rw [show (⟨0, c.el, c.en, 0, 0, 0, 0, false, 0, []⟩ : Ctx) = within c 0 from rfl, val]
      simp only [Option.bind_some, asAg_toAV, ten0, ten1, ten2, ten3, ten4, ten5, ten6, ten7, ten8, ten9, mk_toAV, mk_eta]
      exact congrArg _ (congrArg _ (Option.some.inj hh))
    · have hh : (if (tag c b).2 then again n (tag c b).1 b true else some (tag c b).1) = some d := by rw [e] at h; exact h
      rw [tag9 c b e, if_neg (by simp)] at hh
      rw [x42_9 c b e]
      cases hh; rfl
    · have hh : (if (tag c b).2 then again n (tag c b).1 b true else some (tag c b).1) = some d := by rw [e] at h; exact h
      unfold X42
      rw [e]
      simp only [show w64 ((10 : UInt8).toNat : Int) = 10 from rfl, Int.reduceBEq, condM_b, Bool.false_eq_true, if_false, if_true]
      unfold tag at hh
      rw [e] at hh
      simp only [show ((10 : UInt8) == 3) = false from rfl, show ((10 : UInt8) == 9) = false from rfl, show ((10 : UInt8) == 10) = true from rfl, Bool.false_eq_true, if_false, if_true] at hh
      have en := s70 c
      unfold Ctx.toAV cx at en
      rw [e] at en
      simp only [en, ueq_eq, Option.bind_some, condM_b]
      cases h62 : (b == 62) with
      | true => rw [h62] at hh; cases hh; rfl
      | false =>
        rw [h62] at hh
        rw [if_neg (by simp), show (.ag [.u8 4, .u8 c.el, .b c.en, .u8 0, .u8 0, .u8 0, .u8 0, .b false, .u8 0, .s []] : AV) = (within c 4).toAV from rfl, IH (within c 4) d (.inl (form_within c hf 4 (by simp))) hh]
        simp only [Option.bind_some, asAg_toAV, ten0, ten1, ten2, ten3, ten4, ten5, ten6, ten7, ten8, ten9, mk_toAV, mk_eta]
    · have hh : some (note c b) = some d := by rw [e] at h; exact h
      unfold X42
      rw [e]
      simp only [show w64 ((11 : UInt8).toNat : Int) = 11 from rfl, Int.reduceBEq, condM_b, Bool.false_eq_true, if_false, if_true]
      rw [rnote_eq c b (fun hx => (by rw [e] at hx; cases hx))] at f74
      apply r42_58
      rw [← e]
      simp only [X42_58, Int.reduceBEq, condM_b, Bool.false_eq_true, if_false, f74]
      exact congrArg _ (congrArg _ (Option.some.inj hh))
    · have hh : some (note c b) = some d := by rw [e] at h; exact h
      unfold X42
      rw [e]
      simp only [show w64 ((12 : UInt8).toNat : Int) = 12 from rfl, Int.reduceBEq, condM_b, Bool.false_eq_true, if_false, if_true]
      rw [rnote_eq c b (fun hx => (by rw [e] at hx; cases hx))] at f74
      apply r42_58
      rw [← e]
      simp only [X42_58, Int.reduceBEq, condM_b, Bool.false_eq_true, if_false, f74]
      exact congrArg _ (congrArg _ (Option.some.inj hh))
    · have hh : some (note c b) = some d := by rw [e] at h; exact h
      unfold X42
      rw [e]
      simp only [show w64 ((13 : UInt8).toNat : Int) = 13 from rfl, Int.reduceBEq, condM_b, Bool.false_eq_true, if_false, if_true]
      rw [rnote_eq c b (fun hx => (by rw [e] at hx; cases hx))] at f74
      apply r42_58
      rw [← e]
      simp only [X42_58, Int.reduceBEq, condM_b, Bool.false_eq_true, if_false, f74]
      exact congrArg _ (congrArg _ (Option.some.inj hh))
    · have hh : some (note c b) = some d := by rw [e] at h; exact h
      unfold X42
      rw [e]
      simp only [show w64 ((14 : UInt8).toNat : Int) = 14 from rfl, Int.reduceBEq, condM_b, Bool.false_eq_true, if_false, if_true]
      rw [rnote_eq c b (fun hx => (by rw [e] at hx; cases hx))] at f74
      apply r42_58
      rw [← e]
      simp only [X42_58, Int.reduceBEq, condM_b, Bool.false_eq_true, if_false, f74]
      exact congrArg _ (congrArg _ (Option.some.inj hh))
    · have hh : some (note c b) = some d := by rw [e] at h; exact h
      unfold X42
      rw [e]
      simp only [show w64 ((15 : UInt8).toNat : Int) = 15 from rfl, Int.reduceBEq, condM_b, Bool.false_eq_true, if_false, if_true]
      rw [rnote_eq c b (fun hx => form_st15 c hf e)] at f74
      apply r42_58
      rw [← e]
      simp only [X42_58, Int.reduceBEq, condM_b, Bool.false_eq_true, if_false, f74]
      exact congrArg _ (congrArg _ (Option.some.inj hh))
    · have hh : some (note c b) = some d := by rw [e] at h; exact h
      unfold X42
      rw [e]
      simp only [show w64 ((16 : UInt8).toNat : Int) = 16 from rfl, Int.reduceBEq, condM_b, Bool.false_eq_true, if_false, if_true]
      rw [rnote_eq c b (fun hx => (by rw [e] at hx; cases hx))] at f74
      apply r42_58
      rw [← e]
      simp only [X42_58, Int.reduceBEq, condM_b, Bool.false_eq_true, if_false, f74]
      exact congrArg _ (congrArg _ (Option.some.inj hh))
    · have hh : some (raw c b true) = some d := by rw [e] at h; exact h
      unfold X42
      rw [e]
      simp only [show w64 ((17 : UInt8).toNat : Int) = 17 from rfl, Int.reduceBEq, condM_b, Bool.false_eq_true, if_false, if_true]
      apply r42_58
      rw [← e]
      simp only [X42_58, Int.reduceBEq, condM_b, Bool.false_eq_true, if_false, if_true, f73 (by simp [e])]
      exact congrArg _ (congrArg _ (Option.some.inj hh))
    · have hh : some (raw c b true) = some d := by rw [e] at h; exact h
      unfold X42
      rw [e]
      simp only [show w64 ((18 : UInt8).toNat : Int) = 18 from rfl, Int.reduceBEq, condM_b, Bool.false_eq_true, if_false, if_true]
      apply r42_58
      rw [← e]
      simp only [X42_58, Int.reduceBEq, condM_b, Bool.false_eq_true, if_false, if_true, f73 (by simp [e])]
      exact congrArg _ (congrArg _ (Option.some.inj hh))
    · have hh : some (raw c b true) = some d := by rw [e] at h; exact h
      unfold X42
      rw [e]
      simp only [show w64 ((19 : UInt8).toNat : Int) = 19 from rfl, Int.reduceBEq, condM_b, Bool.false_eq_true, if_false, if_true]
      apply r42_58
      rw [← e]
      simp only [X42_58, Int.reduceBEq, condM_b, Bool.false_eq_true, if_false, if_true, f73 (by simp [e])]
      exact congrArg _ (congrArg _ (Option.some.inj hh))
    · have hh : some (note c b) = some d := by rw [e] at h; exact h
      unfold X42
      rw [e]
      simp only [show w64 ((20 : UInt8).toNat : Int) = 20 from rfl, Int.reduceBEq, condM_b, Bool.false_eq_true, if_false, if_true]
      rw [rnote_eq c b (fun hx => (by rw [e] at hx; cases hx))] at f74
      apply r42_58
      rw [← e]
      simp only [X42_58, Int.reduceBEq, condM_b, Bool.false_eq_true, if_false, f74]
      exact congrArg _ (congrArg _ (Option.some.inj hh))
    · exfalso
      have t := (of_ite (form1_of c hf)).1
      rw [decide_eq_true e] at t
      exact t rfl
theorem s42 (c : Ctx) (h : form c = true) : semCall C Tryd.prog 42 [c.toAV, .u8 b] = some (stepB c b).toAV :=
  l42 b 4 c _ (.inl h) (mv_some c b true h)
theorem s20 (c : Ctx) (h : c.nm.length < 9223372036854775808) : semCall C Tryd.prog 20 [c.toAV, .u8 b] = some (stepB c b).toAV := by
  apply c20
  simp only [X20, mk_toAV, mk_eta, sRForm (h := h), Option.bind_some, unop_not, condM_b]
  cases hf : form c with
  | true =>
    rw [if_neg (by simp), s42 b c hf]
    simp only [Option.bind_some, asAg_toAV, ten0, ten1, ten2, ten3, ten4, ten5, ten6, ten7, ten8, ten9, mk_toAV, mk_eta]
  | false =>
    rw [if_pos (by simp), s41]
    unfold stepB
    rw [mv_bad c b true hf]; rfl
end
end R2

namespace R2
open Go Go.Proofs Sx

theorem s18 : semCall C Tryd.prog 18 [] = some (.b true) := by
  apply c18
  have := s19 (st1 0) 60 (by decide)
  simp only [X18, mk_toAV]
  rw [show (⟨0, 0, false, 0, 0, 0, 0, false, 0, []⟩ : Ctx) = st1 0 from rfl, this]
  rfl
theorem law3 (c : Ctx) (b : UInt8) (h : c.nm.length < 9223372036854775808) : semCall C Tryd.prog 3 [c.toAV, .u8 b] = some (.b true) := by
  apply c3
  have hf := step_form c b
  have hn : (stepB c b).nm.length < 9223372036854775808 := by have := form_nm _ hf; omega
  simp only [X3, s18, Option.bind_some, unop_not, Bool.not_true, condM_b, Bool.false_eq_true, if_false, mk_toAV, mk_eta, s19 (h := h), s20 (h := h), asAg_toAV, ten0, ten1, ten2, ten3, ten4, ten5, ten6, ten7, ten8, ten9, eq_toAV, sForm (h := hn), sRForm (h := hn), hf, decide_true, selW_tt]
end R2

namespace R2
open Go Go.Proofs Sx

section
/-- Bytes by a rule. -/
theorem l49 (g : Nat) (f : Ctx → UInt8 → Ctx) (hform : ∀ c b, form (f c b) = true) (hg : ∀ (c : Ctx) (b : UInt8), form c = true → semCall C Tryd.prog g [c.toAV, .u8 b] = some (f c b).toAV) : ∀ (r p : List UInt8) (c : Ctx), (p ++ r).length < 9223372036854775808 → form c = true →
    F49_4 (semRun C Tryd.prog 49 Tryd.f49) g (.ro 1 ((p ++ r).map .u8)) (.int (((p ++ r).map AV.u8).length : Int)) (p.length : Int) (.u8 c.st) (.u8 c.el) (.b c.en) (.u8 c.at') (.u8 c.qu) (.u8 c.pa) (.u8 c.su) (.b c.es) (.u8 c.da) (.s c.nm) 0 0 false 0 0 0 0 false 0 [] = some (ti (runL f c r (p.length : Int)))
  | [], p, c, h, hf => by
    apply r49_4
    simp only [X49_4, int_lss, nlt_map, Option.bind_some, condM_b, Bool.false_eq_true, if_false, List.append_nil, mk_toAV, mk_eta, runL, ti_mk]
  | b :: r, p, c, h, hf => by
    apply r49_4
    have hi := idx_at p b r
    simp only [X49_4, int_lss, lt_len', hi, w64_inc p b r h, Option.bind_some, condM_b, if_true, cell_u8, mk_toAV, mk_eta, hg c b hf, asAg_toAV, ten0, ten1, ten2, ten3, ten4, ten5, ten6, ten7, ten8, ten9, u8_eql, runL, ti_mk]
    split
    · rfl
    · rw [snoc_app, l49 g f hform hg r (p ++ [b]) (f c b) (by rw [← snoc_app]; exact h) (hform c b), ← snoc_len p b]
theorem s49 (g : Nat) (f : Ctx → UInt8 → Ctx) (hform : ∀ c b, form (f c b) = true) (hg : ∀ (c : Ctx) (b : UInt8), form c = true → semCall C Tryd.prog g [c.toAV, .u8 b] = some (f c b).toAV) (c : Ctx) (l : List UInt8) (hc : c.nm.length < 9223372036854775808) (h : l.length < 9223372036854775808) :
    semCall C Tryd.prog 49 [c.toAV, .ro 1 (l.map .u8), .fn g] = some (ti (runL f (inF c) l 0)) := by
  have key (d : Ctx) (hd : form d = true) : F49_3 (semRun C Tryd.prog 49 Tryd.f49) (.ro 1 (l.map .u8)) g d.st d.el d.en d.at' d.qu d.pa d.su d.es d.da d.nm 0 0 false 0 0 0 0 false 0 [] = some (ti (runL f d l 0)) := by
    apply r49_3
    simp only [X49_3, lenR_ro, Option.bind_some]
    exact l49 g f hform hg l [] d h hd
  apply c49
  simp only [X49, mk_toAV, mk_eta, sForm (h := hc), Option.bind_some, unop_not, condM_b]
  unfold inF
  cases hf : form c with
  | true => rw [if_neg (by simp), if_pos rfl]; exact key c hf
  | false => rw [if_pos (by simp), if_neg (by simp)]; exact key badC rfl
theorem s23 (c : Ctx) (l : List UInt8) (hc : c.nm.length < 9223372036854775808) (h : l.length < 9223372036854775808) : semCall C Tryd.prog 23 [c.toAV, .ro 1 (l.map .u8)] = some (ti (bytesB c l)) := by
  apply c23
  have := s49 19 stepB step_form (fun c b hf => s19 c b (form_lt hf)) c l hc h
  simp only [X23, mk_toAV, mk_eta, this, Option.bind_some, ti_0, ti_1, asAg_toAV, ten0, ten1, ten2, ten3, ten4, ten5, ten6, ten7, ten8, ten9]
  rfl
theorem l24 : ∀ (r p : List UInt8) (c : Ctx), (p ++ r).length < 9223372036854775808 → form c = true →
    F24_4 (semRun C Tryd.prog 24 Tryd.f24) (.ro 1 ((p ++ r).map .u8)) (p.length : Int) (.u8 c.st) (.u8 c.el) (.b c.en) (.u8 c.at') (.u8 c.qu) (.u8 c.pa) (.u8 c.su) (.b c.es) (.u8 c.da) (.s c.nm) 0 0 false 0 0 0 0 false 0 [] = some (ti (runL stepB c r (p.length : Int)))
  | [], p, c, h, hf => by
    apply r24_4
    simp only [X24_4, lenR_ro, int_lss, nlt_map, Option.bind_some, condM_b, Bool.false_eq_true, if_false, List.append_nil, mk_toAV, mk_eta, runL, ti_mk]
  | b :: r, p, c, h, hf => by
    apply r24_4
    have hi := idx_at p b r
    simp only [X24_4, lenR_ro, int_lss, lt_len', hi, w64_inc p b r h, Option.bind_some, condM_b, if_true, cell_u8, mk_toAV, mk_eta, s20 b c (form_lt hf), s41, asAg_toAV, ten0, ten1, ten2, ten3, ten4, ten5, ten6, ten7, ten8, ten9, conv_int_u8, int_eql, i_beq _ _ (show 20 < 256 by decide), runL, ti_mk]
    by_cases hx : ((stepB c b).st == 20) = true
    · rw [if_pos hx]
      refine Eq.trans ?_ (congrArg (fun x => some (ti x)) (if_pos hx).symm)
      rw [bad_of (step_form c b) hx]
    · rw [if_neg hx]
      refine Eq.trans ?_ (congrArg (fun x => some (ti x)) (if_neg hx).symm)
      rw [snoc_app, l24 r (p ++ [b]) (stepB c b) (by rw [← snoc_app]; exact h) (step_form c b), ← snoc_len p b]
theorem s24 (c : Ctx) (l : List UInt8) (hc : c.nm.length < 9223372036854775808) (h : l.length < 9223372036854775808) : semCall C Tryd.prog 24 [c.toAV, .ro 1 (l.map .u8)] = some (ti (bytesB c l)) := by
  have key (d : Ctx) (hd : form d = true) : F24_3 (semRun C Tryd.prog 24 Tryd.f24) (.ro 1 (l.map .u8)) (.u8 d.st) (.u8 d.el) (.b d.en) (.u8 d.at') (.u8 d.qu) (.u8 d.pa) (.u8 d.su) (.b d.es) (.u8 d.da) (.s d.nm) 0 0 false 0 0 0 0 false 0 [] = some (ti (runL stepB d l 0)) := by
    apply r24_3
    exact l24 l [] d h hd
  apply c24
  simp only [X24, mk_toAV, mk_eta, sRForm (h := hc), s41, Option.bind_some, unop_not, condM_b, asAg_toAV, ten0, ten1, ten2, ten3, ten4, ten5, ten6, ten7, ten8, ten9]
  unfold bytesB inF
  cases hf : form c with
  | true => rw [if_neg (by simp), if_pos rfl]; exact key c hf
  | false => rw [if_pos (by simp), if_neg (by simp)]; exact key badC rfl

theorem law5 (c : Ctx) (l : List UInt8) (hc : c.nm.length < 9223372036854775808) (h : l.length < 9223372036854775808) : semCall C Tryd.prog 5 [c.toAV, .ro 1 (l.map .u8)] = some (.b true) := by
  apply c5
  simp only [X5, s18, Option.bind_some, unop_not, Bool.not_true, condM_b, Bool.false_eq_true, if_false, mk_toAV, mk_eta, s23 c l hc h, s24 c l hc h, ti_0, ti_1, asAg_toAV, ten0, ten1, ten2, ten3, ten4, ten5, ten6, ten7, ten8, ten9, eq_toAV, int_eql, decide_true, beq_self_eq_true, selW_tt]
theorem l4 : ∀ (r p : List UInt8) (c : Ctx), (p ++ r).length < 9223372036854775808 → form c = true →
    F4_5 (semRun C Tryd.prog 4 Tryd.f4) (.ro 1 ((p ++ r).map .u8)) (p.length : Int) (.u8 c.st) (.u8 c.el) (.b c.en) (.u8 c.at') (.u8 c.qu) (.u8 c.pa) (.u8 c.su) (.b c.es) (.u8 c.da) (.s c.nm) = some (.b true)
  | [], p, c, h, hf => by
    apply r4_5
    simp only [X4_5, lenR_ro, int_lss, nlt_map, Option.bind_some, condM_b, Bool.false_eq_true, if_false, List.append_nil]
  | b :: r, p, c, h, hf => by
    apply r4_5
    have hi := idx_at p b r
    simp only [X4_5, lenR_ro, int_lss, lt_len', hi, w64_inc p b r h, Option.bind_some, condM_b, if_true, cell_u8, mk_toAV, mk_eta, same_eq, s19 c b (form_lt hf), s20 b c (form_lt hf), asAg_toAV, ten0, ten1, ten2, ten3, ten4, ten5, ten6, ten7, ten8, ten9, ne_toAV, decide_true, Bool.not_true, Bool.false_eq_true, if_false]
    rw [snoc_app]
    exact l4 r (p ++ [b]) (stepB c b) (by rw [← snoc_app]; exact h) (step_form c b)
theorem law4 (l : List UInt8) (h : l.length < 9223372036854775808) : semCall C Tryd.prog 4 [.ro 1 (l.map .u8)] = some (.b true) := by
  apply c4
  simp only [X4, s18, Option.bind_some, unop_not, Bool.not_true, condM_b, Bool.false_eq_true, if_false]
  exact l4 l [] (st1 0) h rfl
theorem l7 (q : UInt8) (hq : q = 34 ∨ q = 39) : ∀ (r p : List UInt8), (p ++ r).length < 9223372036854775808 →
    F7_10 (semRun C Tryd.prog 7 Tryd.f7) (.ro 1 ((p ++ r).map .u8)) q (!p.any (· == 60)) (!p.any (· == q)) (p.length : Int) 8 0 false 0 q 0 0 false 0 [] = some (.b true)
  | [], p, h => by
    apply r7_10
    have hf : form ⟨8, 0, false, 0, q, 0, 0, false, 0, []⟩ = true := by rcases hq with e | e <;> rw [e] <;> rfl
    have b1 := s23 (st1 0) p (by decide) (by simpa using h)
    have b2 := s23 ⟨8, 0, false, 0, q, 0, 0, false, 0, []⟩ p (by show 0 < 9223372036854775808; decide) (by simpa using h)
    have z0 : (⟨0, 0, false, 0, 0, 0, 0, false, 0, []⟩ : Ctx) = st1 0 := rfl
    simp only [X7_10, lenR_ro, int_lss, nlt_map, Option.bind_some, condM_b, Bool.false_eq_true, if_false, List.append_nil, mk_toAV, z0, b1, b2, ti_0, ti_1, asAg_toAV, ten0, ten1, ten2, ten3, ten4, ten5, ten6, ten7, ten8, ten9, mk_eta, eq_toAV, int_eql, selW_and, Bool.not_not]
    have i8 : inF ⟨8, 0, false, 0, q, 0, 0, false, 0, []⟩ = ⟨8, 0, false, 0, q, 0, 0, false, 0, []⟩ := by unfold inF; rw [hf]; rfl
    have e1 : (selW (.b (p.any (· == 60))) false (some (.b (decide ((bytesB (st1 0) p).1 = st1 0) && (bytesB (st1 0) p).2 == -1))) (.b true)) = some (.b true) := by
      rw [selW_or]
      cases h60 : p.any (· == 60) with
      | true => rfl
      | false =>
        have : bytesB (st1 0) p = (st1 0, -1) := run_text p 0 h60
        rw [this]; rfl
    have e2 : (selW (.b (p.any (· == q))) false (some (.b (decide ((bytesB ⟨8, 0, false, 0, q, 0, 0, false, 0, []⟩ p).1 = ⟨8, 0, false, 0, q, 0, 0, false, 0, []⟩) && (bytesB ⟨8, 0, false, 0, q, 0, 0, false, 0, []⟩ p).2 == -1))) (.b true)) = some (.b true) := by
      rw [selW_or]
      cases hh : p.any (· == q) with
      | true => rfl
      | false =>
        have : bytesB ⟨8, 0, false, 0, q, 0, 0, false, 0, []⟩ p = (⟨8, 0, false, 0, q, 0, 0, false, 0, []⟩, -1) := by
          unfold bytesB
          rw [i8]
          exact run_value q hq p 0 hh
        rw [this]; simp
    rw [e1, e2]
    rfl
  | b :: r, p, h => by
    apply r7_10
    have hi := idx_at p b r
    have f11 (x y : Bool) (hx : x = !(p ++ [b]).any (· == 60)) (hy : y = !(p ++ [b]).any (· == q)) : F7_11 (semRun C Tryd.prog 7 Tryd.f7) (.ro 1 ((p ++ b :: r).map .u8)) q x y (p.length : Int) 8 0 false 0 q 0 0 false 0 [] = some (.b true) := by
      apply r7_11
      simp only [X7_11, w64_inc p b r h]
      rw [snoc_app, hx, hy]
      exact l7 q hq r (p ++ [b]) (by rw [← snoc_app]; exact h)
    have f14 (x : Bool) (hx : x = !(p ++ [b]).any (· == 60)) : F7_14 (semRun C Tryd.prog 7 Tryd.f7) (.ro 1 ((p ++ b :: r).map .u8)) q x (!p.any (· == q)) (p.length : Int) 8 0 false 0 q 0 0 false 0 [] = some (.b true) := by
      apply r7_14
      simp only [X7_14, hi, Option.bind_some, cell_u8, u8_eql, condM_b]
      cases hb : (b == q) with
      | true => rw [if_pos rfl]; exact f11 x false hx (by simp [hb])
      | false => rw [if_neg (by simp)]; exact f11 x _ hx (by simp [hb])
    simp only [X7_10, lenR_ro, int_lss, lt_len', hi, Option.bind_some, condM_b, if_true, cell_u8, u8_eql]
    cases hb : (b == 60) with
    | true => rw [if_pos rfl]; exact f14 false (by simp [hb])
    | false => rw [if_neg (by simp)]; exact f14 _ (by simp [hb])
theorem law7 (l : List UInt8) (x : Bool) (h : l.length < 9223372036854775808) : semCall C Tryd.prog 7 [.ro 1 (l.map .u8), .b x] = some (.b true) := by
  have f6 (q : UInt8) (hq : q = 34 ∨ q = 39) : F7_6 (semRun C Tryd.prog 7 Tryd.f7) (.ro 1 (l.map .u8)) q = some (.b true) := by
    apply r7_6
    exact l7 q hq l [] h
  apply c7
  simp only [X7, s18, Option.bind_some, unop_not, Bool.not_true, condM_b, Bool.false_eq_true, if_false]
  rw [f6 39 (.inr rfl), f6 34 (.inl rfl)]
  split <;> rfl
end
end R2

namespace R2
open Go Go.Proofs Sx

/-- A place within. -/
theorem rem_within (n len : Nat) (h1 : n < 65536) (h2 : len < 9223372036854775808) : ((binI .add (.int (len : Int)) (.int 1)).bind fun v4 => binI .rem (.int (n : Int)) v4) = some (.int ((n % (len + 1) : Nat) : Int)) := by
  by_cases h : len + 1 < 9223372036854775808
  · rw [int_add (by omega) (by omega)]
    simp only [Option.bind_some]
    rw [show ((len : Int) + 1) = ((len + 1 : Nat) : Int) by simp]
    exact int_rem_nat (by omega)
  · have e : len = 9223372036854775807 := by omega
    subst e
    rw [show binI .add (.int ((9223372036854775807 : Nat) : Int)) (.int 1) = some (.int (-9223372036854775808)) by rfl]
    simp only [Option.bind_some]
    rw [int_rem (by decide), Nat.mod_eq_of_lt (by omega), Int.tmod_neg, Int.tmod_eq_of_lt (by omega) (by omega)]
theorem split_laws (c : Ctx) (l : List UInt8) (n : Nat) (hn : n ≤ l.length) (hc : c.nm.length < 9223372036854775808) (h : l.length < 9223372036854775808) : ∃ A W B : Ctx × Int,
    semCall C Tryd.prog 23 [c.toAV, .ro 1 (l.map .u8)] = some (ti W) ∧ semCall C Tryd.prog 23 [c.toAV, .ro 1 ((l.take n).map .u8)] = some (ti A) ∧ semCall C Tryd.prog 23 [A.1.toAV, .ro 1 ((l.drop n).map .u8)] = some (ti B) ∧
    (0 ≤ A.2 → W = A ∧ A.1 = badC) ∧ (A.2 < 0 → W.1 = B.1 ∧ (B.2 < 0 → W.2 < 0) ∧ (0 ≤ B.2 → W.2 = B.2 + n)) ∧ B.2 < ((l.drop n).length : Int) ∧ -1 ≤ B.2 := by
  refine ⟨bytesB c (l.take n), bytesB c l, bytesB (bytesB c (l.take n)).1 (l.drop n), s23 c l hc h, s23 c _ hc (by simp; omega), s23 _ _ (form_lt (runL_form step_form _ _ _ (inF_form c))) (by simp; omega), split_bytes c l n hn _ _ _ rfl rfl rfl⟩
theorem law6 (c : Ctx) (l : List UInt8) (n : Nat) (hn : n < 65536) (hc : c.nm.length < 9223372036854775808) (h : l.length < 9223372036854775808) : semCall C Tryd.prog 6 [c.toAV, .ro 1 (l.map .u8), .ik .u16 (n : Int)] = some (.b true) := by
  apply c6
  have hm : n % (l.length + 1) ≤ l.length := by have := Nat.mod_lt n (show 0 < l.length + 1 by omega); omega
  have hr := rem_within n l.length hn h
  generalize n % (l.length + 1) = k at hm hr
  obtain ⟨A, W, B, e1, e2, e3, f1, f2, f3, f4⟩ := split_laws c l k hm hc h
  obtain ⟨A, a⟩ := A; obtain ⟨W, w⟩ := W; obtain ⟨B, b⟩ := B
  simp only at e3 f1 f2 f3 f4
  have hw : w64 (n : Int) = n := w64_eq (by omega) (by omega)
  have t1 : slR 1 (.ro 1 (l.map .u8)) none (some (.int (k : Int))) = some (.ro 1 ((l.take k).map .u8)) := by rw [slR_hi (by simpa using hm), List.map_take]
  have t2 : slR 1 (.ro 1 (l.map .u8)) (some (.int (k : Int))) none = some (.ro 1 ((l.drop k).map .u8)) := by rw [slR_lo (by simpa using hm), List.map_drop]
  have hx (f : AV → Option AV) : ((binI .add (.int (l.length : Int)) (.int 1)).bind fun v4 => (binI .rem (.int (n : Int)) v4).bind f) = f (.int (k : Int)) := by
    rw [← Option.bind_assoc, hr]; rfl
  simp only [X6, s18, Option.bind_some, unop_not, Bool.not_true, condM_b, Bool.false_eq_true, if_false, lenR_ro, List.length_map, hw, hx, mk_toAV, mk_eta, e1, e2, ti_0, ti_1, asAg_toAV, t1, t2, ten0, ten1, ten2, ten3, ten4, ten5, ten6, ten7, ten8, ten9, e3, eq_toAV, int_eql, int_geq, int_lss, u8_eql]
  have g1 : 0 ≤ a → (selW (.b (w == a)) true (some (.b (decide (W = A)))) (.b false)).bind (fun v18 => selW v18 true (some (.b (W.st == 20))) (.b false)) = some (.b true) := by
    intro ha
    obtain ⟨q1, q2⟩ := f1 ha
    cases q1
    subst q2
    simp
    rfl
  have g2 : ¬ 0 ≤ a → (selW (.b (decide (0 ≤ b))) true ((binI .add (.int b) (.int (k : Int))).bind fun v27 => (binI .neq v27 (.int w)).bind fun v17 => some v17) (.b false)) = some (.b false) := by
    intro ha
    obtain ⟨q1, q2, q3⟩ := f2 (by omega)
    by_cases hb : 0 ≤ b
    · have : b + k < 9223372036854775808 := by simp at f3; omega
      rw [int_add (by omega) this, q3 hb]
      simp [hb]
    · simp [hb]
  have g3 : ¬ 0 ≤ a → (selW (.b (decide (b < 0))) true (some (.b (decide (0 ≤ w)))) (.b false)) = some (.b false) := by
    intro ha
    obtain ⟨q1, q2, q3⟩ := f2 (by omega)
    rw [selW_and]
    by_cases hb : b < 0
    · have := q2 hb
      rw [decide_eq_false (show ¬ 0 ≤ w by omega), Bool.and_false]
    · rw [decide_eq_false hb]; rfl
  by_cases ha : 0 ≤ a
  · have g := g1 ha
    simp only [Option.bind_some, selW_and] at g
    simp only [decide_eq_true ha, if_true, selW_and, Option.bind_some, g]
    simp only [agree_of rfl rfl]
  · obtain ⟨q1, q2, q3⟩ := f2 (by omega)
    have g2 := g2 ha
    have g3 := g3 ha
    simp only [selW_and] at g3
    simp only [decide_eq_false ha, Bool.false_eq_true, if_false, g2, g3, selW_and, Option.bind_some, selW_or, Bool.or_false, q1, decide_true, condM_b, agree_same]
theorem rem26 (x : UInt8) : binI .rem (.u8 x) (.u8 26) = some (.u8 (x % 26)) := of_isU8 (all_u8 (p := fun x => isU8 (binI .rem (.u8 x) (.u8 26)) (x % 26)) (by kernel_rfl) x)
theorem l25 : ∀ (r p : List UInt8), (p ++ r).length < 9223372036854775808 → p.length ≤ 11 →
    F25_3 (semRun C Tryd.prog 25 Tryd.f25) (.ro 1 ((p ++ r).map .u8)) (.s (113 :: p.map letter26)) (p.length : Int) = some (.s (nameL (p ++ r)))
  | [], p, h, h11 => by
    apply r25_3
    have : nameL p = 113 :: p.map letter26 := by unfold nameL; rw [List.take_of_length_le h11]
    simp only [X25_3, lenR_ro, int_lss, nlt_map, Option.bind_some, condM_b, Bool.false_eq_true, if_false, List.append_nil, selW_and, Bool.false_and, this]
  | b :: r, p, h, h11 => by
    apply r25_3
    have hi := idx_at p b r
    simp only [X25_3, lenR_ro, int_lss, lt_len', hi, w64_inc p b r h, Option.bind_some, condM_b, selW_and, Bool.true_and, cell_u8, rem26, u8_add, one_u8, b2s_one]
    by_cases hp : p.length < 11
    · rw [if_pos (by simp; omega), s_add' (by simp; omega)]
      simp only [Option.bind_some]
      rw [snoc_app, show (113 :: List.map letter26 p ++ [97 + b % 26]) = 113 :: List.map letter26 (p ++ [b]) by rw [List.map_append]; rfl]
      exact l25 r (p ++ [b]) (by rw [← snoc_app]; exact h) (by simp; omega)
    · rw [if_neg (by simp; omega)]
      have : nameL (p ++ b :: r) = 113 :: p.map letter26 := by
        unfold nameL
        rw [List.take_append_of_le_length (by omega), List.take_of_length_le (by omega)]
      rw [this]
theorem s25 (l : List UInt8) (h : l.length < 9223372036854775808) : semCall C Tryd.prog 25 [.ro 1 (l.map .u8)] = some (.s (nameL l)) := by
  apply c25
  exact l25 l [] h (by decide)
theorem law8 (l : List UInt8) (x : UInt8) (h : l.length < 9223372036854775808) : semCall C Tryd.prog 8 [.ro 1 (l.map .u8), .u8 x] = some (.b true) := by
  apply c8
  have hk : Int.tmod (w64 (x.toNat : Int)) 5 = ((x.toNat % 5 : Nat) : Int) := by rw [w64_u8]; rfl
  have hlt : x.toNat % 5 < 5 := Nat.mod_lt _ (by decide)
  simp only [X8, s18, Option.bind_some, unop_not, Bool.not_true, condM_b, Bool.false_eq_true, if_false, s25 l h, one_s, hk]
  generalize x.toNat % 5 = k at hlt
  have nl : (nameL l).length ≤ 12 := by unfold nameL; simp; omega
  have z0 : (⟨0, 0, false, 0, 0, 0, 0, false, 0, []⟩ : Ctx) = st1 0 := rfl
  have hs2b (p : List UInt8) : s2b (.s p) = some (.ro 1 (p.map .u8)) := rfl
  have hin : inN (0 + 1 + 1 + 1 + 1 + 1) (.int (k : Int)) = some k := inN_int hlt
  simp only [List.length_cons, List.length_nil, hin, Option.bind_some]
  have hk : k = 0 ∨ k = 1 ∨ k = 2 ∨ k = 3 ∨ k = 4 := by omega
  rcases hk with rfl | rfl | rfl | rfl | rfl
  · have e1 : elOf [115, 99, 114, 105, 112, 116] = 3 := rfl
    have hA : bytesB (st1 0) ([60] ++ [115, 99, 114, 105, 112, 116] ++ [32, 97, 61, 39, 98, 39, 32, 99, 62]) = (⟨17, 3, false, 0, 0, 0, 0, false, 0, []⟩, -1) := by kernel_rfl
    have hB : bytesB ⟨17, 3, false, 0, 0, 0, 0, false, 0, []⟩ ([60, 47] ++ [115, 99, 114, 105, 112, 116] ++ [32, 62]) = (st1 0, -1) := by kernel_rfl
    have sA := s23 (st1 0) ([60] ++ [115, 99, 114, 105, 112, 116] ++ [32, 97, 61, 39, 98, 39, 32, 99, 62]) (by decide) (by decide)
    have sB := s23 ⟨17, 3, false, 0, 0, 0, 0, false, 0, []⟩ ([60, 47] ++ [115, 99, 114, 105, 112, 116] ++ [32, 62]) (by decide) (by decide)
    rw [hA] at sA
    rw [hB] at sB
    simp only [List.getD_cons_zero, List.getD_cons_succ, cell_s, s26, e1, Option.bind_some]
    rw [s_add' (by decide), Option.bind_some, s_add' (by decide), Option.bind_some]
    simp only [hs2b, Option.bind_some, mk_toAV, z0, sA, ti_0, ti_1, asAg_toAV, ten0, ten1, ten2, ten3, ten4, ten5, ten6, ten7, ten8, ten9, int_neq, u8_eql, one_u8, eq_toAV, ne_toAV, condM_b, decide_true]
    rw [if_neg (by decide), if_neg (by decide), if_neg (by decide), s_add' (by decide), Option.bind_some, s_add' (by decide), Option.bind_some]
    simp only [hs2b, Option.bind_some, sB, ti_0, ti_1, asAg_toAV, ten0, ten1, ten2, ten3, ten4, ten5, ten6, ten7, ten8, ten9, mk_toAV, mk_eta, int_eql, eq_toAV, selW_and, decide_true]
    rfl
  · have e1 : elOf [115, 116, 121, 108, 101] = 4 := rfl
    have hA : bytesB (st1 0) ([60] ++ [115, 116, 121, 108, 101] ++ [32, 97, 61, 39, 98, 39, 32, 99, 62]) = (⟨17, 4, false, 0, 0, 0, 0, false, 0, []⟩, -1) := by kernel_rfl
    have hB : bytesB ⟨17, 4, false, 0, 0, 0, 0, false, 0, []⟩ ([60, 47] ++ [115, 116, 121, 108, 101] ++ [32, 62]) = (st1 0, -1) := by kernel_rfl
    have sA := s23 (st1 0) ([60] ++ [115, 116, 121, 108, 101] ++ [32, 97, 61, 39, 98, 39, 32, 99, 62]) (by decide) (by decide)
    have sB := s23 ⟨17, 4, false, 0, 0, 0, 0, false, 0, []⟩ ([60, 47] ++ [115, 116, 121, 108, 101] ++ [32, 62]) (by decide) (by decide)
    rw [hA] at sA
    rw [hB] at sB
    simp only [List.getD_cons_zero, List.getD_cons_succ, cell_s, s26, e1, Option.bind_some]
    rw [s_add' (by decide), Option.bind_some, s_add' (by decide), Option.bind_some]
    simp only [hs2b, Option.bind_some, mk_toAV, z0, sA, ti_0, ti_1, asAg_toAV, ten0, ten1, ten2, ten3, ten4, ten5, ten6, ten7, ten8, ten9, int_neq, u8_eql, one_u8, eq_toAV, ne_toAV, condM_b, decide_true]
    rw [if_neg (by decide), if_neg (by decide), if_neg (by decide), s_add' (by decide), Option.bind_some, s_add' (by decide), Option.bind_some]
    simp only [hs2b, Option.bind_some, sB, ti_0, ti_1, asAg_toAV, ten0, ten1, ten2, ten3, ten4, ten5, ten6, ten7, ten8, ten9, mk_toAV, mk_eta, int_eql, eq_toAV, selW_and, decide_true]
    rfl
  · have e1 : elOf [116, 105, 116, 108, 101] = 2 := rfl
    have hA : bytesB (st1 0) ([60] ++ [116, 105, 116, 108, 101] ++ [32, 97, 61, 39, 98, 39, 32, 99, 62]) = (⟨17, 2, false, 0, 0, 0, 0, false, 0, []⟩, -1) := by kernel_rfl
    have hB : bytesB ⟨17, 2, false, 0, 0, 0, 0, false, 0, []⟩ ([60, 47] ++ [116, 105, 116, 108, 101] ++ [32, 62]) = (st1 0, -1) := by kernel_rfl
    have sA := s23 (st1 0) ([60] ++ [116, 105, 116, 108, 101] ++ [32, 97, 61, 39, 98, 39, 32, 99, 62]) (by decide) (by decide)
    have sB := s23 ⟨17, 2, false, 0, 0, 0, 0, false, 0, []⟩ ([60, 47] ++ [116, 105, 116, 108, 101] ++ [32, 62]) (by decide) (by decide)
    rw [hA] at sA
    rw [hB] at sB
    simp only [List.getD_cons_zero, List.getD_cons_succ, cell_s, s26, e1, Option.bind_some]
    rw [s_add' (by decide), Option.bind_some, s_add' (by decide), Option.bind_some]
    simp only [hs2b, Option.bind_some, mk_toAV, z0, sA, ti_0, ti_1, asAg_toAV, ten0, ten1, ten2, ten3, ten4, ten5, ten6, ten7, ten8, ten9, int_neq, u8_eql, one_u8, eq_toAV, ne_toAV, condM_b, decide_true]
    rw [if_neg (by decide), if_neg (by decide), if_neg (by decide), s_add' (by decide), Option.bind_some, s_add' (by decide), Option.bind_some]
    simp only [hs2b, Option.bind_some, sB, ti_0, ti_1, asAg_toAV, ten0, ten1, ten2, ten3, ten4, ten5, ten6, ten7, ten8, ten9, mk_toAV, mk_eta, int_eql, eq_toAV, selW_and, decide_true]
    rfl
  · have e1 : elOf [116, 101, 120, 116, 97, 114, 101, 97] = 1 := rfl
    have hA : bytesB (st1 0) ([60] ++ [116, 101, 120, 116, 97, 114, 101, 97] ++ [32, 97, 61, 39, 98, 39, 32, 99, 62]) = (⟨17, 1, false, 0, 0, 0, 0, false, 0, []⟩, -1) := by kernel_rfl
    have hB : bytesB ⟨17, 1, false, 0, 0, 0, 0, false, 0, []⟩ ([60, 47] ++ [116, 101, 120, 116, 97, 114, 101, 97] ++ [32, 62]) = (st1 0, -1) := by kernel_rfl
    have sA := s23 (st1 0) ([60] ++ [116, 101, 120, 116, 97, 114, 101, 97] ++ [32, 97, 61, 39, 98, 39, 32, 99, 62]) (by decide) (by decide)
    have sB := s23 ⟨17, 1, false, 0, 0, 0, 0, false, 0, []⟩ ([60, 47] ++ [116, 101, 120, 116, 97, 114, 101, 97] ++ [32, 62]) (by decide) (by decide)
    rw [hA] at sA
    rw [hB] at sB
    simp only [List.getD_cons_zero, List.getD_cons_succ, cell_s, s26, e1, Option.bind_some]
    rw [s_add' (by decide), Option.bind_some, s_add' (by decide), Option.bind_some]
    simp only [hs2b, Option.bind_some, mk_toAV, z0, sA, ti_0, ti_1, asAg_toAV, ten0, ten1, ten2, ten3, ten4, ten5, ten6, ten7, ten8, ten9, int_neq, u8_eql, one_u8, eq_toAV, ne_toAV, condM_b, decide_true]
    rw [if_neg (by decide), if_neg (by decide), if_neg (by decide), s_add' (by decide), Option.bind_some, s_add' (by decide), Option.bind_some]
    simp only [hs2b, Option.bind_some, sB, ti_0, ti_1, asAg_toAV, ten0, ten1, ten2, ten3, ten4, ten5, ten6, ten7, ten8, ten9, mk_toAV, mk_eta, int_eql, eq_toAV, selW_and, decide_true]
    rfl
  · have hA : bytesB (st1 0) ([60] ++ nameL l ++ [32, 97, 61, 39, 98, 39, 32, 99, 62]) = (st1 0, -1) := run_tag l
    have sA := s23 (st1 0) ([60] ++ nameL l ++ [32, 97, 61, 39, 98, 39, 32, 99, 62]) (by decide) (by simp; omega)
    rw [hA] at sA
    simp only [List.getD_cons_zero, List.getD_cons_succ, cell_s, s26, nameL_el, Option.bind_some]
    rw [s_add' (by simp; omega), Option.bind_some, s_add' (by simp; omega), Option.bind_some]
    simp only [hs2b, Option.bind_some, mk_toAV, z0, sA, ti_0, ti_1, asAg_toAV, ten0, ten1, ten2, ten3, ten4, ten5, ten6, ten7, ten8, ten9, mk_eta, int_neq, u8_eql, one_u8, eq_toAV, ne_toAV, condM_b, decide_true]
    rw [if_neg (by decide), if_pos (by decide)]
end R2

namespace R2
open Go Go.Proofs Sx

section
variable (c : Ctx) (b : UInt8)
theorem s28 : semCall C Tryd.prog 28 [c.toAV] = some (flat c).toAV := by
  apply c28
  simp only [X28, condM_b, ueq_eq]
  have key (nm : List UInt8) : F28_3 (semRun C Tryd.prog 28 Tryd.f28) c.st c.el c.en c.at' c.qu c.pa c.su c.es c.da nm 0 0 false 0 0 0 0 false 0 [] = some (Ctx.toAV ⟨c.st, c.el, c.en, 0, c.qu, 0, 0, false, c.da, nm⟩) := by
    apply r28_3
    rfl
  rw [key, key]
  unfold flat
  cases (c.st == 8) <;> rfl
theorem s31 : semCall C Tryd.prog 31 [c.toAV] = some (flat c).toAV := by
  apply c31
  simp only [X31, condM_b, w64_u8, i_beq _ _ (show 8 < 256 by decide)]
  have key (nm : List UInt8) : F31_4 (semRun C Tryd.prog 31 Tryd.f31) 0 0 false 0 0 0 0 false 0 [] c.st c.el c.en 0 c.qu 0 0 false c.da nm = some (Ctx.toAV ⟨c.st, c.el, c.en, 0, c.qu, 0, 0, false, c.da, nm⟩) := by
    apply r31_4
    rfl
  rw [key, key]
  unfold flat
  cases (c.st == 8) <;> rfl
theorem s27 (h : c.nm.length < 9223372036854775808) : semCall C Tryd.prog 27 [c.toAV, .u8 b] = some (plainB c b).toAV := by
  apply c27
  have hn : (flat c).nm.length < 9223372036854775808 := by
    unfold flat
    simp only
    split
    · decide
    · exact h
  simp only [X27, mk_toAV, mk_eta, sForm (h := h), Option.bind_some, unop_not, condM_b, s28, s40 _ _ _ hn, asAg_toAV, ten0, ten1, ten2, ten3, ten4, ten5, ten6, ten7, ten8, ten9]
  unfold plainB
  cases form c <;> rfl
theorem tag9_flat : flat (tag ⟨9, 0, true, 0, 0, 0, 0, false, 0, []⟩ b).1 = (tag ⟨9, 0, true, 0, 0, 0, 0, false, 0, []⟩ b).1 := by
  show flat (if blankB b then (⟨4, 0, true, 0, 0, 0, 0, false, 0, []⟩, false) else if b == 47 then (⟨10, 0, true, 0, 0, 0, 0, false, 0, []⟩, false) else if b == 62 then (tagEnd 0, false) else (badC, false) : Ctx × Bool).1 = (if blankB b then (⟨4, 0, true, 0, 0, 0, 0, false, 0, []⟩, false) else if b == 47 then (⟨10, 0, true, 0, 0, 0, 0, false, 0, []⟩, false) else if b == 62 then (tagEnd 0, false) else (badC, false) : Ctx × Bool).1
  cases blankB b <;> cases (b == 47) <;> cases (b == 62) <;> rfl
theorem s32 (h : form c = true) : semCall C Tryd.prog 32 [c.toAV, .u8 b] = some (plainB c b).toAV := by
  have f24 (d : Ctx) : F32_24 (semRun C Tryd.prog 32 Tryd.f32) d.st (.u8 d.el) (.b d.en) (.u8 d.at') (.u8 d.qu) (.u8 d.pa) (.u8 d.su) (.b d.es) (.u8 d.da) d.nm 0 0 false 0 0 0 0 false 0 [] = some d.toAV := by
    apply r32_24
    rfl
  have f20 (d : Ctx) : F32_20 (semRun C Tryd.prog 32 Tryd.f32) b (.u8 d.st) (.u8 d.el) (.b d.en) (.u8 d.at') (.u8 d.qu) (.u8 d.pa) (.u8 d.su) (.b d.es) (.u8 d.da) (.s d.nm) 0 0 false 0 0 0 0 false 0 [] = some (Ctx.toAV { d with st := (if b == 60 then 18 else 17), nm := [] }) := by
    apply r32_20
    simp only [X32_20, condM_b, ueq_eq]
    rw [f24 { d with st := 18, nm := [] }, f24 { d with st := 17, nm := [] }]
    cases (b == 60) <;> rfl
  have hd := flat_form c h
  have hp : plainB c b = flat (mv (flat c) b false) := by unfold plainB; rw [if_pos h]
  have hfs : (flat c).su = 0 ∧ (flat c).es = false := ⟨rfl, rfl⟩
  apply c32
  rw [hp]
  simp only [X32, mk_toAV, mk_eta, sRForm (h := form_lt h), Option.bind_some, unop_not, condM_b, s31, asAg_toAV, ten0, ten1, ten2, ten3, ten4, ten5, ten6, ten7, ten8, ten9, conv_int_u8, int_lss, int_gtr, selW_or, u8_lss, h, Bool.not_true, Bool.false_eq_true, if_false, s48, s41]
  generalize flat c = d at hd hfs
  have hm := mv_some d b false hd
  by_cases hs : (d.st = 17 ∨ d.st = 18 ∨ d.st = 19) ∧ (d.el == 3 || d.el == 4) = true
  · obtain ⟨hs, he⟩ := hs
    obtain ⟨su, es, e1, e2, e3, _⟩ := form_raw d hd hs
    have e4 : su = 0 := by rw [e1] at hfs; exact hfs.1
    have e5 : es = false := by rw [e1] at hfs; exact hfs.2
    subst e4; subst e5
    have a1 : binS .add (.s d.nm) (.s [lowb b]) = some (.s (d.nm ++ [lowb b])) := s_add' (by have := form_nm d hd; simp; omega)
    have lk := s42_9 ⟨9, 0, true, 0, 0, 0, 0, false, 0, []⟩ b rfl
    have hc : (decide ((d.st.toNat : Int) < 17) || decide (19 < (d.st.toNat : Int)) || decide (d.el < 3)) = false := by
      simp only [Bool.or_eq_true, beq_iff_eq] at he
      rcases hs with e | e | e <;> rcases he with e' | e' <;> rw [e, e'] <;> rfl
    rw [hc]
    simp only [Bool.false_eq_true, if_false, int_eql, i_beq _ _ (show 18 < 256 by decide), i_beq _ _ (show 19 < 256 by decide), ueq_eq, une_eq, selW_and, selW_or, condM_b, u8_eql, s_eql, Option.bind_some, s50, s51, a1, lenS_s, int_leq, pre_sel, mk_toAV, mk_eta, lk, f20, one_s, asAg_toAV, ten0, ten1, ten2, ten3, ten4, ten5, ten6, ten7, ten8, ten9]
    obtain ⟨st, el, en, at', qu, pa, su, es, da, nm⟩ := d
    simp only [Ctx.mk.injEq, true_and] at e1 hs he
    obtain ⟨rfl, rfl, rfl, rfl, rfl, rfl, rfl, e9⟩ := e1
    rcases hs with rfl | rfl | rfl
    · have e9 : nm = [] := e9
      subst e9
      have h2 : again 4 ⟨17, el, false, 0, 0, 0, 0, false, 0, []⟩ b false = some (if b == 60 then ⟨18, el, false, 0, 0, 0, 0, false, 0, []⟩ else ⟨17, el, false, 0, 0, 0, 0, false, 0, []⟩) := rfl
      rw [← Option.some.inj (h2.symm.trans hm)]
      cases (b == 60) <;> rfl
    · have e9 : nm = [] := e9
      subst e9
      have h2 : again 4 ⟨18, el, false, 0, 0, 0, 0, false, 0, []⟩ b false = some (if b == 47 then ⟨19, el, false, 0, 0, 0, 0, false, 0, []⟩ else if b == 33 && el == 3 then badC else if b == 60 then ⟨18, el, false, 0, 0, 0, 0, false, 0, []⟩ else ⟨17, el, false, 0, 0, 0, 0, false, 0, []⟩) := rfl
      rw [← Option.some.inj (h2.symm.trans hm)]
      cases h47 : (b == 47) with
      | true =>
        have : (b == 33) = false := by rw [eq_of_beq h47]; rfl
        rw [this]; rfl
      | false => cases (b == 33) <;> cases (el == 3) <;> cases (b == 60) <;> rfl
    · have h2 : again 4 ⟨19, el, false, 0, 0, 0, 0, false, 0, nm⟩ b false = some (if nm == nameOf el && (blankB b || b == 47 || b == 62) then (tag ⟨9, 0, true, 0, 0, 0, 0, false, 0, []⟩ b).1 else if pre (nm ++ [lowb b]) (nameOf el) then ⟨19, el, false, 0, 0, 0, 0, false, 0, nm ++ [lowb b]⟩ else if b == 60 then ⟨18, el, false, 0, 0, 0, 0, false, 0, []⟩ else ⟨17, el, false, 0, 0, 0, 0, false, 0, []⟩) := rfl
      rw [← Option.some.inj (h2.symm.trans hm)]
      cases (nm == nameOf el && (blankB b || b == 47 || b == 62)) with
      | true =>
        show some _ = some (flat (tag ⟨9, 0, true, 0, 0, 0, 0, false, 0, []⟩ b).1).toAV
        rw [tag9_flat]
      | false => cases pre (nm ++ [lowb b]) (nameOf el) <;> cases (b == 60) <;> rfl
  · have hc : (decide ((d.st.toNat : Int) < 17) || decide (19 < (d.st.toNat : Int)) || decide (d.el < 3)) = true := by
      simp only [Bool.or_eq_true, decide_eq_true_eq, beq_iff_eq] at hs ⊢
      by_cases hr : d.st = 17 ∨ d.st = 18 ∨ d.st = 19
      case neg =>
        have hs := hr
        simp only [not_or] at hs
        left
        have n1 : d.st.toNat ≠ 17 := fun e => hs.1 (UInt8.toNat_inj.1 e)
        have n2 : d.st.toNat ≠ 18 := fun e => hs.2.1 (UInt8.toNat_inj.1 e)
        have n3 : d.st.toNat ≠ 19 := fun e => hs.2.2 (UInt8.toNat_inj.1 e)
        omega
      case pos =>
        have hs : ¬ (d.el = 3 ∨ d.el = 4) := fun h => hs ⟨hr, h⟩
        simp only [not_or] at hs
        right
        have n1 : d.el.toNat ≠ 3 := fun e => hs.1 (UInt8.toNat_inj.1 e)
        have n2 : d.el.toNat ≠ 4 := fun e => hs.2 (UInt8.toNat_inj.1 e)
        have n3 := UInt8.le_iff_toNat_le.1 (form_en d hd).1
        have n4 : (4 : UInt8).toNat = 4 := rfl
        rw [UInt8.lt_iff_toNat_lt]
        show d.el.toNat < 3
        omega
    rw [hc, if_pos rfl, s42 b d hd]
    simp only [Option.bind_some, s31, asAg_toAV, ten0, ten1, ten2, ten3, ten4, ten5, ten6, ten7, ten8, ten9, mk_toAV, mk_eta]
    rw [mv_uncoded d b (fun h => Bool.eq_false_iff.2 fun h' => hs ⟨h, h'⟩)]
end

section
theorem s29 (c : Ctx) (l : List UInt8) (hc : c.nm.length < 9223372036854775808) (h : l.length < 9223372036854775808) : semCall C Tryd.prog 29 [c.toAV, .ro 1 (l.map .u8)] = some (ti (plainsB c l)) := by
  apply c29
  have := s49 27 plainB plain_form (fun c b hf => s27 c b (form_lt hf)) c l hc h
  simp only [X29, mk_toAV, mk_eta, this, Option.bind_some, ti_0, ti_1, asAg_toAV, ten0, ten1, ten2, ten3, ten4, ten5, ten6, ten7, ten8, ten9]
  rfl
theorem l30 : ∀ (r p : List UInt8) (c : Ctx), (p ++ r).length < 9223372036854775808 → form c = true →
    F30_4 (semRun C Tryd.prog 30 Tryd.f30) (.ro 1 ((p ++ r).map .u8)) (p.length : Int) (.u8 c.st) (.u8 c.el) (.b c.en) (.u8 c.at') (.u8 c.qu) (.u8 c.pa) (.u8 c.su) (.b c.es) (.u8 c.da) (.s c.nm) 0 0 false 0 0 0 0 false 0 [] = some (ti (runL plainB c r (p.length : Int)))
  | [], p, c, h, hf => by
    apply r30_4
    simp only [X30_4, lenR_ro, int_lss, nlt_map, Option.bind_some, condM_b, Bool.false_eq_true, if_false, List.append_nil, mk_toAV, mk_eta, runL, ti_mk]
  | b :: r, p, c, h, hf => by
    apply r30_4
    have hi := idx_at p b r
    simp only [X30_4, lenR_ro, int_lss, lt_len', hi, w64_inc p b r h, Option.bind_some, condM_b, if_true, cell_u8, mk_toAV, mk_eta, s32 c b hf, s41, asAg_toAV, ten0, ten1, ten2, ten3, ten4, ten5, ten6, ten7, ten8, ten9, conv_int_u8, int_eql, i_beq _ _ (show 20 < 256 by decide), runL, ti_mk]
    by_cases hx : ((plainB c b).st == 20) = true
    · rw [if_pos hx]
      refine Eq.trans ?_ (congrArg (fun x => some (ti x)) (if_pos hx).symm)
      rw [bad_of (plain_form c b) hx]
    · rw [if_neg hx]
      refine Eq.trans ?_ (congrArg (fun x => some (ti x)) (if_neg hx).symm)
      rw [snoc_app, l30 r (p ++ [b]) (plainB c b) (by rw [← snoc_app]; exact h) (plain_form c b), ← snoc_len p b]
theorem s30 (c : Ctx) (l : List UInt8) (hc : c.nm.length < 9223372036854775808) (h : l.length < 9223372036854775808) : semCall C Tryd.prog 30 [c.toAV, .ro 1 (l.map .u8)] = some (ti (plainsB c l)) := by
  have key (d : Ctx) (hd : form d = true) : F30_3 (semRun C Tryd.prog 30 Tryd.f30) (.ro 1 (l.map .u8)) (.u8 d.st) (.u8 d.el) (.b d.en) (.u8 d.at') (.u8 d.qu) (.u8 d.pa) (.u8 d.su) (.b d.es) (.u8 d.da) (.s d.nm) 0 0 false 0 0 0 0 false 0 [] = some (ti (runL plainB d l 0)) := by
    apply r30_3
    exact l30 l [] d h hd
  apply c30
  simp only [X30, mk_toAV, mk_eta, sRForm (h := hc), s41, Option.bind_some, unop_not, condM_b, asAg_toAV, ten0, ten1, ten2, ten3, ten4, ten5, ten6, ten7, ten8, ten9]
  unfold plainsB inF
  cases hf : form c with
  | true => rw [if_neg (by simp), if_pos rfl]; exact key c hf
  | false => rw [if_pos (by simp), if_neg (by simp)]; exact key badC rfl
/-- The document's Plain of any context. -/
theorem s32' (c : Ctx) (b : UInt8) (hc : c.nm.length < 9223372036854775808) : semCall C Tryd.prog 32 [c.toAV, .u8 b] = some (plainB c b).toAV := by
  cases hf : form c with
  | true => exact s32 c b hf
  | false =>
    apply c32
    simp only [X32, mk_toAV, mk_eta, sRForm (h := hc), hf, s41, Option.bind_some, unop_not, condM_b, Bool.not_false, if_true, asAg_toAV, ten0, ten1, ten2, ten3, ten4, ten5, ten6, ten7, ten8, ten9]
    unfold plainB
    rw [hf]; rfl
theorem law10 (c : Ctx) (l : List UInt8) (hc : c.nm.length < 9223372036854775808) (h : l.length < 9223372036854775808) : semCall C Tryd.prog 10 [c.toAV, .ro 1 (l.map .u8)] = some (.b true) := by
  apply c10
  simp only [X10, s18, Option.bind_some, unop_not, Bool.not_true, condM_b, Bool.false_eq_true, if_false, mk_toAV, mk_eta, s29 c l hc h, s30 c l hc h, ti_0, ti_1, asAg_toAV, ten0, ten1, ten2, ten3, ten4, ten5, ten6, ten7, ten8, ten9, ne_toAV, int_neq, decide_true, s28, s31, selW_or, lenR_ro, int_eql, bne_self_eq_false]
  cases l with
  | nil => rfl
  | cons b r =>
    have hi : idx 1 (.ro 1 ((b :: r).map .u8)) (.int 0) = some (.u8 b) := idx_at [] b r
    rw [hi]
    simp only [Option.bind_some, cell_u8, s27 c b hc, s32' c b hc, eq_toAV, decide_true, selW_or]
    simp
theorem l9 : ∀ (r p : List UInt8) (c : Ctx), (p ++ r).length < 9223372036854775808 → form c = true →
    F9_6 (semRun C Tryd.prog 9 Tryd.f9) (.ro 1 ((p ++ r).map .u8)) (p.length : Int) (.u8 c.st) (.u8 c.el) (.b c.en) (.u8 c.at') (.u8 c.qu) (.u8 c.pa) (.u8 c.su) (.b c.es) (.u8 c.da) (.s c.nm) (.u8 (flat c).st) (.u8 (flat c).el) (.b (flat c).en) (.u8 (flat c).at') (.u8 (flat c).qu) (.u8 (flat c).pa) (.u8 (flat c).su) (.b (flat c).es) (.u8 (flat c).da) (.s (flat c).nm) = some (.b true)
  | [], p, c, h, hf => by
    apply r9_6
    simp only [X9_6, lenR_ro, int_lss, nlt_map, Option.bind_some, condM_b, Bool.false_eq_true, if_false, List.append_nil]
  | b :: r, p, c, h, hf => by
    apply r9_6
    have hi := idx_at p b r
    have hg := flat_form c hf
    simp only [X9_6, lenR_ro, int_lss, lt_len', hi, w64_inc p b r h, Option.bind_some, condM_b, if_true, cell_u8, mk_toAV, mk_eta, s19 c b (form_lt hf), s27 (flat c) b (form_lt hg), asAg_toAV, ten0, ten1, ten2, ten3, ten4, ten5, ten6, ten7, ten8, ten9, u8_eql, s28, ne_toAV]
    rcases step_flat c b hf with e | e
    · rw [e, if_pos (by decide)]
    · rw [e]
      simp only [decide_true, Bool.not_true, Bool.false_eq_true, if_false]
      split
      · rfl
      · rw [snoc_app, ← e]
        exact l9 r (p ++ [b]) (stepB c b) (by rw [← snoc_app]; exact h) (step_form c b)
theorem law9 (l : List UInt8) (h : l.length < 9223372036854775808) : semCall C Tryd.prog 9 [.ro 1 (l.map .u8)] = some (.b true) := by
  apply c9
  simp only [X9, s18, Option.bind_some, unop_not, Bool.not_true, condM_b, Bool.false_eq_true, if_false]
  exact l9 l [] (st1 0) h rfl
theorem plain_badC (b : UInt8) : plainB badC b = badC := rfl
theorem run_badC (f : Ctx → UInt8 → Ctx) (hf : ∀ b, f badC b = badC) (l : List UInt8) : runL f badC l 0 = (badC, if 0 < l.length then 0 else -1) := by
  cases l with
  | nil => rfl
  | cons b r =>
    unfold runL
    rw [hf]; rfl
theorem law11 (c : Ctx) (l : List UInt8) (hc : c.nm.length < 9223372036854775808) (h : l.length < 9223372036854775808) : semCall C Tryd.prog 11 [c.toAV, .ro 1 (l.map .u8)] = some (.b true) := by
  have e1 : bytesB badC l = (badC, if 0 < l.length then 0 else -1) := run_badC stepB step_badC l
  have e2 : plainsB badC l = (badC, if 0 < l.length then 0 else -1) := run_badC plainB plain_badC l
  have s1 := s23 badC l (by decide) h
  have s2 := s29 badC l (by decide) h
  rw [e1] at s1
  rw [e2] at s2
  have f8 (n : Int) (hn : n = if 0 < l.length then 0 else -1) : F11_8 (semRun C Tryd.prog 11 Tryd.f11) (.ro 1 (l.map .u8)) (.int n) (.int n) n c.st c.el c.en c.at' c.qu c.pa c.su c.es c.da c.nm (.u8 20) (.u8 0) (.b false) (.u8 0) (.u8 0) (.u8 0) (.u8 0) (.b false) (.u8 0) (.s []) (.u8 20) (.u8 0) (.b false) (.u8 0) (.u8 0) (.u8 0) (.u8 0) (.b false) (.u8 0) (.s []) = some (.b true) := by
    apply r11_8
    have e3 : form c = false → bytesB c l = (badC, n) := by
      intro hf
      unfold bytesB inF
      rw [hf, hn]
      exact run_badC stepB step_badC l
    have z : (⟨20, 0, false, 0, 0, 0, 0, false, 0, []⟩ : Ctx) = badC := rfl
    simp only [X11_8, mk_toAV, mk_eta, z, ne_toAV, decide_true, Bool.not_true, int_neq, bne_self_eq_false, Option.bind_some, selW_or, Bool.or_false, Bool.false_or, condM_b, Bool.false_eq_true, if_false, s23 c l hc h, ti_0, ti_1, asAg_toAV, ten0, ten1, ten2, ten3, ten4, ten5, ten6, ten7, ten8, ten9, sForm (h := hc), eq_toAV, int_eql, selW_and]
    cases hf : form c with
    | true => rfl
    | false =>
      rw [e3 hf]
      simp
  apply c11
  have z : (⟨20, 0, false, 0, 0, 0, 0, false, 0, []⟩ : Ctx) = badC := rfl
  simp only [X11, s18, Option.bind_some, unop_not, Bool.not_true, condM_b, Bool.false_eq_true, if_false, mk_toAV, mk_eta, z, s1, s2, ti_0, ti_1, asAg_toAV, ten0, ten1, ten2, ten3, ten4, ten5, ten6, ten7, ten8, ten9, lenR_ro, int_gtr, List.length_map]
  by_cases hl : 0 < l.length
  · rw [if_pos (by simpa using hl), if_pos hl]
    exact f8 0 (by rw [if_pos hl])
  · rw [if_neg (by simpa using hl), if_neg hl]
    exact f8 (-1) (by rw [if_neg hl])
end
end R2

namespace R2
open Go Go.Proofs Sx

/-- A text and a number. -/
def ts (p : List UInt8 × Int) : AV := .tu [.s p.1, .int p.2]
def trailE (c : Ctx) : List UInt8 × Int := if form c then (if c.st == 20 then ([], 5) else (trail c, 0)) else ([], 1)
theorem ts_0 (p : List UInt8 × Int) : tupI (ts p) 0 = some (.s p.1) := rfl
theorem ts_1 (p : List UInt8 × Int) : tupI (ts p) 1 = some (.int p.2) := rfl
theorem s52 (el : UInt8) : semCall C Tryd.prog 52 [.u8 el] = some (.s (elemT el)) := by
  apply c52
  have hl := nameOf_len el
  simp only [X52, ueq_eq, condM_b, s77, Option.bind_some]
  unfold elemT
  cases (el == 0) with
  | true => rfl
  | false =>
    rw [if_neg (by simp), if_neg (by simp), s_add' (by simp; omega)]
    simp only [Option.bind_some]
    rw [s_add' (by simp; omega)]
    rfl
theorem s53 (c : Ctx) : semCall C Tryd.prog 53 [c.toAV] = some (.s (codeT c.su c.es (if c.st == 8 then c.at' == 2 else c.el == 3))) := by
  have f7 (t : List UInt8) (s : Bool) (ht : t.length ≤ 1) : F53_7 (semRun C Tryd.prog 53 Tryd.f53) t s c.st c.el c.en c.at' c.qu c.pa c.su c.es c.da c.nm = some (.s (if c.su == 1 then t ++ [34] else if c.su == 2 then t ++ [39] else if c.su == 3 then (if s then [47] else [120]) else if c.su == 5 then [42, 47] else if c.su == 6 then [47] else [])) := by
    apply r53_7
    simp only [X53_7, ueq_eq, condM_b]
    rw [s_add' (by simp; omega), s_add' (by simp; omega)]
    cases (c.su == 1) <;> cases (c.su == 2) <;> cases (c.su == 3) <;> cases (c.su == 5) <;> cases (c.su == 6) <;> cases s <;> rfl
  have f4 (t : List UInt8) (ht : t.length ≤ 1) : F53_4 (semRun C Tryd.prog 53 Tryd.f53) t c.st c.el c.en c.at' c.qu c.pa c.su c.es c.da c.nm = some (.s (if c.su == 1 then t ++ [34] else if c.su == 2 then t ++ [39] else if c.su == 3 then (if (if c.st == 8 then c.at' == 2 else c.el == 3) then [47] else [120]) else if c.su == 5 then [42, 47] else if c.su == 6 then [47] else [])) := by
    apply r53_4
    simp only [X53_4, ueq_eq, condM_b, f7 _ _ ht]
    cases (c.st == 8) <;> rfl
  apply c53
  simp only [X53, condM_b]
  rw [f4 [110] (by simp), f4 [] (by simp)]
  unfold codeT
  cases c.es <;> rfl
theorem s57 (su : UInt8) (es s : Bool) (h : es = true → su = 1 ∨ su = 2) : semCall C Tryd.prog 57 [.int (su.toNat : Int), .b es, .b s] = some (.s (codeT su es s)) := by
  have f17 (t : List UInt8) : F57_17 (semRun C Tryd.prog 57 Tryd.f57) (.s t) = some (.s t) := by
    apply r57_17
    rfl
  have f15 (t : List UInt8) (ht : t.length ≤ 2) : F57_15 (semRun C Tryd.prog 57 Tryd.f57) es t = some (.s ((if es then [110] else []) ++ t)) := by
    apply r57_15
    simp only [X57_15, condM_b]
    rw [s_add' (by simp; omega)]
    simp only [Option.bind_some, f17]
    cases es <;> rfl
  apply c57
  simp only [X57, i_beq _ _ (show 1 < 256 by decide), i_beq _ _ (show 2 < 256 by decide), i_beq _ _ (show 3 < 256 by decide), i_beq _ _ (show 5 < 256 by decide), i_beq _ _ (show 6 < 256 by decide), condM_b, f15 [34] (by simp), f15 [39] (by simp), f15 [47] (by simp), f15 [120] (by simp), f15 [42, 47] (by simp), f15 [] (by simp)]
  unfold codeT
  cases es with
  | true =>
    rcases h rfl with e | e <;> rw [e] <;> rfl
  | false =>
    cases (su == 1) <;> cases (su == 2) <;> cases (su == 3) <;> cases (su == 5) <;> cases (su == 6) <;> cases s <;> rfl
theorem s55 (el : UInt8) : semCall C Tryd.prog 55 [.int (el.toNat : Int)] = some (.s (elemT el)) := by
  apply c55
  have hl := nameOf_len el
  simp only [X55, i_beq _ _ (show 0 < 256 by decide), condM_b, s48, Option.bind_some]
  unfold elemT
  cases (el == 0) with
  | true => rfl
  | false =>
    rw [if_neg (by simp), if_neg (by simp), s_add' (by simp; omega)]
    simp only [Option.bind_some]
    rw [s_add' (by simp; omega)]
    rfl
theorem s99 (l p : List UInt8) (h : pre p l = true) : semCall C Tryd.prog 99 [.s l, .s p] = some (.s (l.drop p.length)) := by
  apply c99
  simp only [X99, s98, h, Option.bind_some, condM_b, if_true]
  rw [slS_lo (pre_take h).2]
  rfl
theorem s78 (l p : List UInt8) (h : pre p l = true) : semCall C Tryd.prog 78 [.s l, .s p] = some (.s (l.drop p.length)) := by
  apply c78
  simp only [X78, s99 l p h, Option.bind_some]
theorem codeT_len (su : UInt8) (es s : Bool) : (codeT su es s).length ≤ 2 := by
  unfold codeT
  repeat' split
  all_goals simp
theorem backC_of {c : Ctx} (h : form c = true) (e : c.st = 19) (hs : (c.su == 0 || c.su == 4) = false) : (backC c).el = c.el ∧ ((backC c).st == 8) = false ∧ ((backC c).es = true → (backC c).su = 1 ∨ (backC c).su = 2) := by
  obtain ⟨su, es, hc, hl, hp, hu, hsu, h12⟩ := form_raw c h (by simp [e])
  obtain ⟨p1, p2⟩ := pre_take hp
  have hc : c = ⟨19, c.el, false, 0, 0, 0, su, es, 0, (nameOf c.el).take c.nm.length⟩ := by rw [e] at hc; rw [← p1]; exact hc
  have hk : c.nm.length ∈ List.range 9 := by have := nameOf_len c.el; simp; omega
  have hx := of_all (of_all (of_all (of_all chkB (mem_els (el5 h))) (mem_sus hu)) (mem_b es)) hk
  rw [← hc] at hx
  have hsu' : su = c.su := by rw [hc]
  rw [h, hsu', hs] at hx
  simp only [Bool.not_true, Bool.false_or, Bool.and_eq_true, Bool.or_eq_true, beq_iff_eq, bne_iff_ne, Bool.not_eq_true'] at hx
  refine ⟨hx.1.1, by simpa using hx.1.2, fun he => ?_⟩
  rcases hx.2 with (y | y) | y
  · rw [he] at y; cases y
  · exact .inl y
  · exact .inr y
theorem bytesB_ti (c : Ctx) (l : List UInt8) : (bytesB c l).1.toAV = (bytesB c l).1.toAV := rfl
theorem s54 (c : Ctx) (h : form c = true) (e : c.st = 17 ∨ c.st = 18 ∨ c.st = 19) : semCall C Tryd.prog 54 [c.toAV] = some (.s (trailR c)) := by
  have hn := form_nm c h
  have e8 : (c.st == 8) = false := by rcases e with x | x | x <;> rw [x] <;> rfl
  have hp : pre c.nm (nameOf c.el) = true := (form_raw c h e).choose_spec.choose_spec.2.2.1
  have l1 := codeT_len c.su c.es (c.el == 3)
  have l2 := elemT_len c.el
  have l3 := nameOf_len c.el
  apply c54
  simp only [X54, une_eq, ueq_eq, condM_b, selW_or, mk_toAV, mk_eta, s53, s52, s77, s78 _ _ hp, e8, Option.bind_some, Bool.false_eq_true, if_false]
  rw [s_add' (by omega), s_add' (by simp; omega), s_add' (by simp; omega)]
  simp only [Option.bind_some, show s2b (.s ([47] ++ c.nm)) = some (.ro 1 ((47 :: c.nm).map .u8)) from rfl]
  unfold trailR
  cases h19 : (c.st == 19) with
  | false =>
    have hne : (c.st != 19) = true := by unfold bne; rw [h19]; rfl
    simp only [hne, if_true]
  | true =>
    have hne : (c.st != 19) = false := by unfold bne; rw [h19]; rfl
    simp only [hne, Bool.false_eq_true, if_false]
    cases hsu : (c.su == 0 || c.su == 4) with
    | true => rfl
    | false =>
      obtain ⟨b1, b2, b3⟩ := backC_of h (eq_of_beq h19) hsu
      rw [if_neg (by decide), if_neg (by decide), s23 _ (47 :: c.nm) (by show 0 < 9223372036854775808; decide) (by simp; omega)]
      simp only [Option.bind_some, ti_0, ti_1, asAg_toAV, ten0, ten1, ten2, ten3, ten4, ten5, ten6, ten7, ten8, ten9, mk_toAV, mk_eta, s53]
      show (binS .add (.s (codeT (backC c).su (backC c).es (if (backC c).st == 8 then (backC c).at' == 2 else (backC c).el == 3))) (.s (elemT c.el))).bind _ = _
      rw [b2, b1]
      have l4 := codeT_len (backC c).su (backC c).es (c.el == 3)
      rw [if_neg (by decide), s_add' (by omega)]
      rfl
theorem one_b2s (x : UInt8) : b2s (.ro 1 [.u8 x]) = some (.s [x]) := b2s_one x
theorem s34 (c : Ctx) (hc : c.nm.length < 9223372036854775808) : semCall C Tryd.prog 34 [c.toAV] = some (ts (trailE c)) := by
  apply c34
  simp only [X34, ueq_eq, condM_b, mk_toAV, mk_eta, sForm (h := hc), Option.bind_some, unop_not, s26, s52]
  unfold trailE
  cases h : form c with
  | false => rfl
  | true =>
    have l2 := elemT_len c.el
    have l3 := elemT_len (elOf c.nm)
    have lc := codeT_len c.su c.es (c.at' == 2)
    have f16 : F34_16 (semRun C Tryd.prog 34 Tryd.f34) = some (ts ([62], 0)) := by apply r34_16; rfl
    have f20 : F34_20 (semRun C Tryd.prog 34 Tryd.f34) = some (ts ([45, 45, 62], 0)) := by apply r34_20; rfl
    have f38 : F34_38 (semRun C Tryd.prog 34 Tryd.f34) = some (ts ([], 0)) := by apply r34_38; rfl
    have f26 : F34_26 (semRun C Tryd.prog 34 Tryd.f34) c.st c.el c.en c.at' c.qu c.pa c.su c.es c.da c.nm = some (ts (62 :: elemT c.el, 0)) := by
      apply r34_26
      simp only [X34_26, s52, Option.bind_some]
      rw [s_add' (by simp; omega)]
      rfl
    have f37 (e : c.st = 17 ∨ c.st = 18 ∨ c.st = 19) : F34_37 (semRun C Tryd.prog 34 Tryd.f34) c.st c.el c.en c.at' c.qu c.pa c.su c.es c.da c.nm = some (ts (trailR c, 0)) := by
      apply r34_37
      simp only [X34_37, mk_toAV, mk_eta, s54 c h e, Option.bind_some]
      rfl
    have f33 (q : List UInt8) (hq : q.length ≤ 1) (e : (c.st == 8) = true) : F34_33 (semRun C Tryd.prog 34 Tryd.f34) (.s q) c.st c.el c.en c.at' c.qu c.pa c.su c.es c.da c.nm = some (ts (codeT c.su c.es (c.at' == 2) ++ (q ++ 62 :: elemT c.el), 0)) := by
      apply r34_33
      simp only [X34_33, mk_toAV, mk_eta, s53, s52, e, if_true, Option.bind_some]
      rw [s_add' (by omega)]
      simp only [Option.bind_some]
      rw [s_add' (by simp; omega)]
      simp only [Option.bind_some]
      rw [s_add' (by simp; omega)]
      simp only [Option.bind_some, List.append_assoc, List.singleton_append]
      rfl
    have f27 : F34_27 (semRun C Tryd.prog 34 Tryd.f34) c.st c.st c.el c.en c.at' c.qu c.pa c.su c.es c.da c.nm = some (ts (if c.st == 7 then 34 :: 34 :: 62 :: elemT c.el else if c.st == 8 then codeT c.su c.es (c.at' == 2) ++ (quoteT c.qu ++ 62 :: elemT c.el) else if c.st == 17 || c.st == 18 || c.st == 19 then trailR c else [], 0)) := by
      apply r34_27
      simp only [X34_27, ueq_eq, une_eq, condM_b, s52, one_b2s, Option.bind_some, f38]
      rw [s_add' (by simp; omega)]
      by_cases h7 : (c.st == 7) = true
      · rw [if_pos h7, if_pos h7]; rfl
      rw [if_neg h7, if_neg h7]
      by_cases h8 : (c.st == 8) = true
      · rw [if_pos h8, if_pos h8, f33 [c.qu] (by simp) h8, f33 [] (by simp) h8]
        unfold quoteT
        cases (c.qu != 0) <;> rfl
      rw [if_neg h8, if_neg h8]
      by_cases h17 : (c.st == 17) = true
      · rw [if_pos h17, f37 (.inl (eq_of_beq h17)), h17]; rfl
      rw [if_neg h17]
      by_cases h18 : (c.st == 18) = true
      · rw [if_pos h18, f37 (.inr (.inl (eq_of_beq h18))), h18, Bool.or_true]; rfl
      rw [if_neg h18]
      by_cases h19 : (c.st == 19) = true
      · rw [if_pos h19, f37 (.inr (.inr (eq_of_beq h19))), h19, Bool.or_true]; rfl
      rw [if_neg h19, Bool.eq_false_iff.2 h17, Bool.eq_false_iff.2 h18, Bool.eq_false_iff.2 h19]; rfl
    have f21 : F34_21 (semRun C Tryd.prog 34 Tryd.f34) c.st c.st c.el c.en c.at' c.qu c.pa c.su c.es c.da c.nm = some (ts (if c.st == 4 || c.st == 5 || c.st == 6 || c.st == 9 || c.st == 10 then 62 :: elemT c.el else if c.st == 7 then 34 :: 34 :: 62 :: elemT c.el else if c.st == 8 then codeT c.su c.es (c.at' == 2) ++ (quoteT c.qu ++ 62 :: elemT c.el) else if c.st == 17 || c.st == 18 || c.st == 19 then trailR c else [], 0)) := by
      apply r34_21
      simp only [X34_21, ueq_eq, condM_b, f26, f27]
      cases (c.st == 4) <;> cases (c.st == 5) <;> cases (c.st == 6) <;> cases (c.st == 9) <;> cases (c.st == 10) <;> rfl
    have f17 : F34_17 (semRun C Tryd.prog 34 Tryd.f34) c.st c.st c.el c.en c.at' c.qu c.pa c.su c.es c.da c.nm = some (ts (if c.st == 13 || c.st == 14 || c.st == 15 then [45, 45, 62] else if c.st == 4 || c.st == 5 || c.st == 6 || c.st == 9 || c.st == 10 then 62 :: elemT c.el else if c.st == 7 then 34 :: 34 :: 62 :: elemT c.el else if c.st == 8 then codeT c.su c.es (c.at' == 2) ++ (quoteT c.qu ++ 62 :: elemT c.el) else if c.st == 17 || c.st == 18 || c.st == 19 then trailR c else [], 0)) := by
      apply r34_17
      simp only [X34_17, ueq_eq, condM_b, f20, f21]
      cases (c.st == 13) <;> cases (c.st == 14) <;> cases (c.st == 15) <;> rfl
    simp only [Bool.not_true, Bool.false_eq_true, if_false, if_true, f16, f17]
    rw [s_add' (by simp; omega)]
    unfold trail
    cases (c.st == 20) <;> cases (c.st == 1) <;> cases (c.st == 3) <;> cases (c.st == 2) <;> cases (c.st == 11) <;> cases (c.st == 12) <;> cases (c.st == 16) <;> cases c.en <;> rfl
theorem s33 : semCall C Tryd.prog 33 [] = some (.b true) := by
  apply c33
  have h : trailE ⟨15, 0, false, 0, 0, 0, 0, false, 0, []⟩ = ([45, 45, 62], 0) := by rfl
  simp only [X33, mk_toAV, s34 ⟨15, 0, false, 0, 0, 0, 0, false, 0, []⟩ (show 0 < 9223372036854775808 by decide), h, ts_0, ts_1, Option.bind_some, int_eql, s_eql, selW_and]
  rfl
theorem s35 (c : Ctx) (hc : c.nm.length < 9223372036854775808) : semCall C Tryd.prog 35 [c.toAV] = some (ts (trailE c)) := by
  apply c35
  simp only [X35, condM_b, w64_u8, mk_toAV, mk_eta, sRForm (h := hc), Option.bind_some, unop_not, s56, s55]
  unfold trailE
  cases h : form c with
  | false => rfl
  | true =>
    have l2 := elemT_len c.el
    have l3 := elemT_len (elOf c.nm)
    have l4 := nameOf_len c.el
    have lc (s : Bool) := codeT_len c.su c.es s
    have hes : c.es = true → c.su = 1 ∨ c.su = 2 := by
      intro he
      unfold form at h
      obtain ⟨_, h⟩ := of_ite h
      obtain ⟨_, h⟩ := of_ite h
      obtain ⟨_, h⟩ := of_ite h
      obtain ⟨_, h⟩ := of_ite h
      obtain ⟨_, h⟩ := of_ite h
      obtain ⟨_, h⟩ := of_ite h
      obtain ⟨_, h⟩ := of_ite h
      obtain ⟨_, h⟩ := of_ite h
      obtain ⟨a9, h⟩ := of_ite h
      rw [he] at a9
      simp only [Bool.true_and, Bool.and_eq_true, bne_iff_ne, not_and, Classical.not_not] at a9
      by_cases h1 : c.su = 1
      · exact .inl h1
      · exact .inr (a9 h1)
    have f31 : F35_31 (semRun C Tryd.prog 35 Tryd.f35) = some (ts ([45, 45, 62], 0)) := by apply r35_31; rfl
    have f20 : F35_20 (semRun C Tryd.prog 35 Tryd.f35) (.s (elemT c.el)) = some (ts (62 :: elemT c.el, 0)) := by
      apply r35_20
      simp only [X35_20]
      rw [s_add' (by simp; omega)]
      rfl
    have f27 (q : List UInt8) (hq : q.length ≤ 3) : F35_27 (semRun C Tryd.prog 35 Tryd.f35) (.s (elemT c.el)) (.s q) = some (ts (q ++ 62 :: elemT c.el, 0)) := by
      apply r35_27
      simp only [X35_27]
      rw [s_add' (by simp; omega)]
      simp only [Option.bind_some]
      rw [s_add' (by simp; omega)]
      simp only [Option.bind_some, List.append_assoc, List.singleton_append]
      rfl
    have cd (b : Bool) : semCall C Tryd.prog 57 [.int (c.su.toNat : Int), .b c.es, .b b] = some (.s (codeT c.su c.es b)) := s57 c.su c.es b hes
    have f34 : F35_34 (semRun C Tryd.prog 35 Tryd.f35) (.s (elemT c.el)) c.st c.el c.en c.at' c.qu c.pa c.su c.es c.da c.nm = some (ts (codeT c.su c.es (c.el == 3) ++ elemT c.el, 0)) := by
      apply r35_34
      simp only [X35_34, w64_u8, ueq_eq, cd, Option.bind_some]
      rw [s_add' (by have := lc (c.el == 3); omega)]
      rfl
    have f35 : F35_35 (semRun C Tryd.prog 35 Tryd.f35) (.s (elemT c.el)) (c.st.toNat : Int) c.st c.el c.en c.at' c.qu c.pa c.su c.es c.da c.nm = some (ts (if c.st == 19 then trailR c else [62], 0)) := by
      apply r35_35
      simp only [X35_35, w64_u8, ueq_eq, i_beq _ _ (show 19 < 256 by decide), condM_b, selW_or, s48, Option.bind_some]
      cases h19 : (c.st == 19) with
      | false => rfl
      | true =>
        rw [if_pos rfl, if_pos rfl]
        have hp : pre c.nm (nameOf c.el) = true := (form_raw c h (by simp [eq_of_beq h19])).choose_spec.choose_spec.2.2.1
        have hn := form_nm c h
        rw [slS_lo (pre_take hp).2, s_add' (by simp; omega)]
        simp only [Option.bind_some]
        rw [s_add' (by simp; omega), mk_toAV, show s2b (.s ([47] ++ c.nm)) = some (.ro 1 ((47 :: c.nm).map .u8)) from rfl]
        simp only [Option.bind_some]
        rw [s24 _ (47 :: c.nm) (by show 0 < 9223372036854775808; decide) (by simp; omega)]
        have hne : (c.st != 19) = false := by unfold bne; rw [h19]; rfl
        unfold trailR
        simp only [hne, Bool.false_eq_true, if_false]
        cases hsu : (c.su == 0 || c.su == 4) with
        | true => rfl
        | false =>
          obtain ⟨b1, b2, b3⟩ := backC_of h (eq_of_beq h19) hsu
          simp only [Option.bind_some, ti_0, ti_1, asAg_toAV, ten0, ten1, ten2, ten3, ten4, ten5, ten6, ten7, ten8, ten9, conv_int_u8]
          show (if false = true then _ else (semCall C Tryd.prog 57 [.int ((backC c).su.toNat : Int), .b (backC c).es, .b (c.el == 3)]).bind _) = _
          rw [s57 _ _ _ b3, if_neg (by decide), if_neg (by decide)]
          have l5 := codeT_len (backC c).su (backC c).es (c.el == 3)
          simp only [Option.bind_some]
          rw [s_add' (by omega)]
          rfl
    have f32 : F35_32 (semRun C Tryd.prog 35 Tryd.f35) (.s (elemT c.el)) (c.st.toNat : Int) c.st c.el c.en c.at' c.qu c.pa c.su c.es c.da c.nm = some (ts (if c.st == 17 || c.st == 18 then codeT c.su c.es (c.el == 3) ++ elemT c.el else if c.st == 19 then trailR c else [62], 0)) := by
      apply r35_32
      simp only [X35_32, i_beq _ _ (show 17 < 256 by decide), i_beq _ _ (show 18 < 256 by decide), condM_b, f34, f35]
      cases (c.st == 17) <;> cases (c.st == 18) <;> rfl
    have f21 : F35_21 (semRun C Tryd.prog 35 Tryd.f35) (.s (elemT c.el)) (c.st.toNat : Int) c.st c.el c.en c.at' c.qu c.pa c.su c.es c.da c.nm = some (ts (if c.st == 7 then 34 :: 34 :: 62 :: elemT c.el else if c.st == 8 then codeT c.su c.es (c.at' == 2) ++ (quoteT c.qu ++ 62 :: elemT c.el) else if c.st == 13 || c.st == 14 || c.st == 15 then [45, 45, 62] else if c.st == 17 || c.st == 18 then codeT c.su c.es (c.el == 3) ++ elemT c.el else if c.st == 19 then trailR c else [62], 0)) := by
      apply r35_21
      have l5 := lc (c.at' == 2)
      simp only [X35_21, w64_u8, ueq_eq, une_eq, i_beq _ _ (show 7 < 256 by decide), i_beq _ _ (show 8 < 256 by decide), i_beq _ _ (show 13 < 256 by decide), i_beq _ _ (show 14 < 256 by decide), i_beq _ _ (show 15 < 256 by decide), condM_b, cd, one_b2s, Option.bind_some, f31, f32]
      rw [s_add' (by simp; omega), s_add' (by simp; omega)]
      simp only [Option.bind_some]
      rw [f27 _ (by simp; omega), f27 _ (by omega)]
      unfold quoteT
      cases (c.st == 7) <;> cases (c.st == 8) <;> cases (c.st == 13) <;> cases (c.st == 14) <;> cases (c.st == 15) <;> cases (c.qu != 0) <;> first | rfl | (simp only [List.append_assoc]; rfl)
    simp only [Bool.not_true, Bool.false_eq_true, if_false, if_true, i_beq _ _ (show 0 < 256 by decide), i_beq _ _ (show 1 < 256 by decide), i_beq _ _ (show 3 < 256 by decide), i_beq _ _ (show 4 < 256 by decide), i_beq _ _ (show 5 < 256 by decide), i_beq _ _ (show 6 < 256 by decide), i_beq _ _ (show 9 < 256 by decide), i_beq _ _ (show 10 < 256 by decide), i_beq _ _ (show 20 < 256 by decide), f20, f21]
    rw [s_add' (by simp; omega)]
    unfold trail
    have hR : c.st = 17 ∨ c.st = 18 → trailR c = codeT c.su c.es (c.el == 3) ++ elemT c.el := by
      intro hh
      unfold trailR
      rcases hh with e | e <;> rw [e] <;> rfl
    rcases cls c h with e | e | e | e | e | e | e | e | e | e | e | e | e | e | e | e | e | e | e | e | e
    case inr.inr.inr.inr.inr.inr.inr.inr.inr.inr.inr.inr.inr.inr.inr.inr.inr.inl => rw [hR (.inl e), e]; rfl
    case inr.inr.inr.inr.inr.inr.inr.inr.inr.inr.inr.inr.inr.inr.inr.inr.inr.inr.inl => rw [hR (.inr e), e]; rfl
    all_goals (rw [e]; first | rfl | (cases c.en <;> rfl))
end R2

namespace R2
open Go Go.Proofs Sx

section
theorem sHole (c : Ctx) : semCall C Tryd.prog 37 [c.toAV] = some (.u8 (hole c)) := s37 ..
theorem sAfter (c : Ctx) : semCall C Tryd.prog 38 [c.toAV] = some (after c).toAV := s38 ..
theorem law12 (c : Ctx) (hc : c.nm.length < 9223372036854775808) : semCall C Tryd.prog 12 [c.toAV] = some (.b true) := by
  apply c12
  simp only [X12, s33, Option.bind_some, unop_not, Bool.not_true, selW_tf, condM_b, Bool.false_eq_true, if_false, mk_toAV, mk_eta, s34 c hc, s35 c hc, ts_0, ts_1, s_eql, int_eql, beq_self_eq_true, selW_and, Bool.and_self]
  rfl
theorem trailE_ok (c : Ctx) (h : form c = true) (h20 : c.st ≠ 20) : trailE c = (trail c, 0) := by
  unfold trailE
  rw [if_pos h, if_neg (by simpa using h20)]
theorem l13 : ∀ (r p : List UInt8) (c : Ctx), (p ++ r).length < 9223372036854775807 → form c = true → (c.st ≠ 20 → okV c = true) →
    F13_5 (semRun C Tryd.prog 13 Tryd.f13) (.ro 1 ((p ++ r).map .u8)) (p.length : Int) (.u8 c.st) (.u8 c.el) (.b c.en) (.u8 c.at') (.u8 c.qu) (.u8 c.pa) (.u8 c.su) (.b c.es) (.u8 c.da) (.s c.nm) = some (.b true) := by
  intro r
  induction r with
  | nil =>
    intro p c h hf hv
    apply r13_5
    by_cases h20 : c.st = 20
    · simp only [X13_5, lenR_ro, int_leq, Option.bind_some, u8_neq, selW_and, h20, bne_self_eq_false, Bool.and_false, condM_b, Bool.false_eq_true, if_false]
    · have hb : (c.st != 20) = true := by simpa using h20
      obtain ⟨e1, e2⟩ := ends_bytes c hf (hv h20) h20
      have s1 := s23 c (trail c) (form_lt hf) (by omega)
      rw [e1] at s1
      have hz : (⟨0, 0, false, 0, 0, 0, 0, false, 0, []⟩ : Ctx) = st1 0 := rfl
      have f6 : F13_6 (semRun C Tryd.prog 13 Tryd.f13) (.ro 1 ((p ++ []).map .u8)) (p.length : Int) (.u8 c.st) (.u8 c.el) (.b c.en) (.u8 c.at') (.u8 c.qu) (.u8 c.pa) (.u8 c.su) (.b c.es) (.u8 c.da) (.s c.nm) = some (.b true) := by
        apply r13_6
        simp only [X13_6]
        apply r13_5
        have : decide (w64 ((p.length : Int) + 1) ≤ (((p ++ []).map AV.u8).length : Int)) = false := by
          rw [w64_eq (by omega) (by simp at h; omega)]
          simp
          omega
        simp only [X13_5, lenR_ro, int_leq, this, Option.bind_some, u8_neq, selW_and, Bool.false_and, condM_b, Bool.false_eq_true, if_false]
      simp only [X13_5, lenR_ro, int_leq, Option.bind_some, u8_neq, selW_and, hb, Bool.and_true, condM_b, mk_toAV, mk_eta, s34 c (form_lt hf), trailE_ok c hf h20, ts_0, ts_1, show s2b (.s (trail c)) = some (.ro 1 ((trail c).map .u8)) from rfl, s1, ti_0, ti_1, asAg_toAV, ten0, ten1, ten2, ten3, ten4, ten5, ten6, ten7, ten8, ten9, int_neq, selW_or, ne_toAV, hz, decide_true, lenS_s, int_gtr, int_lss, nlt_map, Bool.false_eq_true, if_false, f6]
      have hlen : decide ((40 : Int) < ((trail c).length : Int)) = false := by simp; omega
      have hle : decide ((p.length : Int) ≤ ((List.map AV.u8 (p ++ [])).length : Int)) = true := by simp
      have hlt : decide ((p.length : Int) < ((List.map AV.u8 (p ++ [])).length : Int)) = false := by simp
      simp only [hlen, hle, hlt, Bool.not_true, bne_self_eq_false, Bool.or_false, Bool.false_eq_true, if_false, if_true]
  | cons b r ih =>
    intro p c h hf hv
    apply r13_5
    by_cases h20 : c.st = 20
    · simp only [X13_5, lenR_ro, int_leq, Option.bind_some, u8_neq, selW_and, h20, bne_self_eq_false, Bool.and_false, condM_b, Bool.false_eq_true, if_false]
    · have hb : (c.st != 20) = true := by simpa using h20
      obtain ⟨e1, e2⟩ := ends_bytes c hf (hv h20) h20
      have s1 := s23 c (trail c) (form_lt hf) (by omega)
      rw [e1] at s1
      have hz : (⟨0, 0, false, 0, 0, 0, 0, false, 0, []⟩ : Ctx) = st1 0 := rfl
      have hi := idx_at p b r
      have f6 : F13_6 (semRun C Tryd.prog 13 Tryd.f13) (.ro 1 ((p ++ b :: r).map .u8)) (p.length : Int) (.u8 (stepB c b).st) (.u8 (stepB c b).el) (.b (stepB c b).en) (.u8 (stepB c b).at') (.u8 (stepB c b).qu) (.u8 (stepB c b).pa) (.u8 (stepB c b).su) (.b (stepB c b).es) (.u8 (stepB c b).da) (.s (stepB c b).nm) = some (.b true) := by
        apply r13_6
        simp only [X13_6]
        rw [w64_inc p b r (by omega), snoc_app]
        exact ih (p ++ [b]) (stepB c b) (by rw [← snoc_app]; exact h) (step_form c b) (fun _ => step_okV c b hf (hv h20))
      simp only [X13_5, lenR_ro, int_leq, Option.bind_some, u8_neq, selW_and, hb, Bool.and_true, condM_b, mk_toAV, mk_eta, s34 c (form_lt hf), trailE_ok c hf h20, ts_0, ts_1, show s2b (.s (trail c)) = some (.ro 1 ((trail c).map .u8)) from rfl, s1, ti_0, ti_1, asAg_toAV, ten0, ten1, ten2, ten3, ten4, ten5, ten6, ten7, ten8, ten9, int_neq, selW_or, ne_toAV, hz, decide_true, lenS_s, int_gtr, int_lss, lt_len', Bool.false_eq_true, if_false, if_true, hi, cell_u8, s19 c b (form_lt hf), f6]
      have hlen : decide ((40 : Int) < ((trail c).length : Int)) = false := by simp; omega
      have hle : decide ((p.length : Int) ≤ ((List.map AV.u8 (p ++ b :: r)).length : Int)) = true := by simp; omega
      simp only [hlen, hle, Bool.not_true, bne_self_eq_false, Bool.or_false, Bool.false_eq_true, if_false, if_true]
theorem law13 (l : List UInt8) (h : l.length < 9223372036854775807) : semCall C Tryd.prog 13 [.ro 1 (l.map .u8)] = some (.b true) := by
  apply c13
  simp only [X13, s33, Option.bind_some, unop_not, Bool.not_true, condM_b, Bool.false_eq_true, if_false]
  exact l13 l [] (st1 0) h rfl (fun _ => rfl)
theorem run_cases (l : List UInt8) : ((bytesB (st1 0) l).2 = -1 ∧ form (bytesB (st1 0) l).1 = true ∧ okV (bytesB (st1 0) l).1 = true ∧ (bytesB (st1 0) l).1.st ≠ 20) ∨ (0 ≤ (bytesB (st1 0) l).2 ∧ (bytesB (st1 0) l).1 = badC) := by
  by_cases h : (bytesB (st1 0) l).2 = -1
  · exact .inl ⟨h, text_okV l _ (Prod.ext rfl h)⟩
  · refine .inr ⟨?_, ?_⟩
    · have := (runL_shift stepB l (st1 0) 0).2.2.2.1
      have e : bytesB (st1 0) l = runL stepB (st1 0) l 0 := rfl
      rw [e] at h ⊢
      omega
    · exact runL_bad step_form l _ 0 (Int.le_refl _) h
theorem law15 (l : List UInt8) (h : l.length < 9223372036854775808) : semCall C Tryd.prog 15 [.ro 1 (l.map .u8)] = some (.b true) := by
  apply c15
  have s1 := s23 (st1 0) l (by decide) h
  have hz : (⟨0, 0, false, 0, 0, 0, 0, false, 0, []⟩ : Ctx) = st1 0 := rfl
  simp only [X15, s33, Option.bind_some, unop_not, Bool.not_true, condM_b, Bool.false_eq_true, if_false, mk_toAV, hz, s1, ti_0, ti_1, asAg_toAV, ten0, ten1, ten2, ten3, ten4, ten5, ten6, ten7, ten8, ten9, int_geq, u8_eql]
  rcases run_cases l with ⟨h1, h2, h3, h4⟩ | ⟨h1, h2⟩
  · generalize bytesB (st1 0) l = q at h1 h2 h3 h4
    obtain ⟨c, n⟩ := q
    simp only at h1 h2 h3 h4
    subst h1
    rw [if_neg (show ¬ decide ((0 : Int) ≤ -1) = true by decide)]
    have e2 := (ends_bytes c h2 h3 h4).2
    have s2 := s29 (flat c) (trail c) (form_lt (flat_form c h2)) (by omega)
    rw [ends_plains c h2 h3 h4] at s2
    simp only [mk_eta, s34 c (form_lt h2), trailE_ok c h2 h4, ts_0, ts_1, Option.bind_some, s28, show s2b (.s (trail c)) = some (.ro 1 ((trail c).map .u8)) from rfl, s2, ti_0, ti_1, asAg_toAV, ten0, ten1, ten2, ten3, ten4, ten5, ten6, ten7, ten8, ten9, int_eql, beq_self_eq_true, selW_and, mk_toAV, eq_toAV, hz, decide_true]
    rfl
  · rw [if_pos (by simpa using h1), h2]; rfl
theorem law16 (l : List UInt8) (h : l.length < 9223372036854775808) : semCall C Tryd.prog 16 [.ro 1 (l.map .u8)] = some (.b true) := by
  apply c16
  have s1 := s23 (st1 0) l (by decide) h
  have hz : (⟨0, 0, false, 0, 0, 0, 0, false, 0, []⟩ : Ctx) = st1 0 := rfl
  simp only [X16, s33, Option.bind_some, unop_not, Bool.not_true, condM_b, Bool.false_eq_true, if_false, mk_toAV, mk_eta, hz, s1, ti_0, ti_1, asAg_toAV, ten0, ten1, ten2, ten3, ten4, ten5, ten6, ten7, ten8, ten9, int_geq, u8_eql, sHole, selW_or]
  rcases run_cases l with ⟨h1, h2, h3, h4⟩ | ⟨h1, h2⟩
  · generalize bytesB (st1 0) l = q at h1 h2 h3 h4
    obtain ⟨c, n⟩ := q
    simp only at h1 h2 h3 h4
    subst h1
    by_cases hh : hole c = 0
    · rw [if_pos (by simp [hh])]
    · rw [if_neg (by simp [hh])]
      have fa := form_after c hh h2
      have h4' : (after c).st ≠ 20 := by
        have : (after c).st = c.st := by
          unfold after
          split
          · rename_i e; exact absurd (eq_of_beq e) hh
          · split <;> rfl
        rw [this]; exact h4
      simp only [mk_eta, s34 c (form_lt h2), trailE_ok c h2 h4, ts_0, ts_1, Option.bind_some, sAfter, s34 (after c) (form_lt fa), trailE_ok (after c) fa h4', trail_after c hh, int_eql, s_eql, beq_self_eq_true, selW_and]
      rfl
  · rw [if_pos (by simp only [Bool.or_eq_true, decide_eq_true_eq]; exact .inl h1)]
end
section
theorem s36 (l : List UInt8) (h : l.length ≤ 2000000) : semCall C Tryd.prog 36 [.ro 1 (l.map .u8)] = some (if 0 ≤ (bytesB (st1 0) l).2 then .tu [.nils, .int 5] else .tu [.ro 1 ((l ++ trail (bytesB (st1 0) l).1).map .u8), .int 0]) := by
  apply c36
  have s1 := s23 (st1 0) l (by decide) (by omega)
  have hz : (⟨0, 0, false, 0, 0, 0, 0, false, 0, []⟩ : Ctx) = st1 0 := rfl
  have hbig : (3000000 : Nat) ≤ big := by decide
  simp only [X36, Option.bind_some, condM_b, mk_toAV, hz, s1, ti_0, ti_1, asAg_toAV, ten0, ten1, ten2, ten3, ten4, ten5, ten6, ten7, ten8, ten9, int_geq]
  rcases run_cases l with ⟨h1, h2, h3, h4⟩ | ⟨h1, h2⟩
  · have e2 := (ends_bytes _ h2 h3 h4).2
    have a1 : app 1 1 [] (.ro 1 (l.map .u8)) = some (l.map .u8) := app_u8 (l := []) (m := l) (by simp; omega)
    rw [if_neg (by rw [h1]; decide), if_neg (by rw [h1]; decide)]
    simp only [mk_eta, s34 _ (form_lt h2), trailE_ok _ h2 h4, ts_0, ts_1, Option.bind_some, int_neq, bne_self_eq_false, condM_b, Bool.false_eq_true, if_false, a1]
    rw [app_s (by omega)]
    rfl
  · rw [if_pos (by simpa using h1), if_pos h1]
theorem law14 (l : List UInt8) (h : l.length ≤ 1048576) : semCall C Tryd.prog 14 [.ro 1 (l.map .u8)] = some (.b true) := by
  apply c14
  have hbig : (3000000 : Nat) ≤ big := by decide
  have a1 : app 1 1 [] (.ro 1 (l.map .u8)) = some (l.map .u8) := app_u8 (l := []) (m := l) (by simp; omega)
  simp only [X14, s33, Option.bind_some, unop_not, Bool.not_true, condM_b, Bool.false_eq_true, if_false, a1]
  rw [s36 l (by omega), b2s_u8 (by omega)]
  rcases run_cases l with ⟨h1, h2, h3, h4⟩ | ⟨h1, h2⟩
  · have e2 := ends_bytes _ h2 h3 h4
    rw [if_neg (by rw [h1]; decide)]
    have hr : bytesB (st1 0) (l ++ trail (bytesB (st1 0) l).1) = (st1 0, -1) := by
      have hs := split_bytes (st1 0) (l ++ trail (bytesB (st1 0) l).1) l.length (by simp) _ _ _ rfl rfl rfl
      rw [List.take_left, List.drop_left, e2.1, h1] at hs
      obtain ⟨_, hs, _⟩ := hs
      obtain ⟨k1, k2, k3⟩ := hs (by decide)
      have k4 := (runL_shift stepB (l ++ trail (bytesB (st1 0) l).1) (st1 0) 0).2.2.2.1
      have k5 := k2 (by decide)
      refine Prod.ext k1 ?_
      have e : bytesB (st1 0) (l ++ trail (bytesB (st1 0) l).1) = runL stepB (st1 0) (l ++ trail (bytesB (st1 0) l).1) 0 := rfl
      rw [e] at k5 ⊢
      show _ = (-1 : Int)
      omega
    have s3 := s36 (l ++ trail (bytesB (st1 0) l).1) (by simp; omega)
    rw [hr, if_neg (by decide)] at s3
    have ht : trail (st1 0) = [] := rfl
    simp only [ht, List.append_nil] at s3
    have b3 : b2s (.ro 1 ((l ++ trail (bytesB (st1 0) l).1).map .u8)) = some (.s (l ++ trail (bytesB (st1 0) l).1)) := b2s_u8 (by simp; omega)
    simp only [Option.bind_some, s_neq, bne_self_eq_false, condM_b, Bool.false_eq_true, if_false, show ∀ x y : AV, tupI (.tu [x, y]) 0 = some x from fun _ _ => rfl, show ∀ x y : AV, tupI (.tu [x, y]) 1 = some y from fun _ _ => rfl, int_neq, s3, int_eql, beq_self_eq_true, b3, s_eql, selW_and]
    rfl
  · rw [if_pos h1]
    simp only [Option.bind_some, s_neq, bne_self_eq_false, condM_b, Bool.false_eq_true, if_false, show ∀ x y : AV, tupI (.tu [x, y]) 0 = some x from fun _ _ => rfl, show ∀ x y : AV, tupI (.tu [x, y]) 1 = some y from fun _ _ => rfl, int_neq, lenR_nils, int_eql]
    rfl
end
end R2
