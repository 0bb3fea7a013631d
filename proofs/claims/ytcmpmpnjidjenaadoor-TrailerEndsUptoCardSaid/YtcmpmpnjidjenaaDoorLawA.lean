/-
  What functions of this seat compute, and laws on plain data.
-/
import Derived.Test.YtcmpmpnjidjenaaDoorPureA
import Derived.Test.YtcmpmpnjidjenaaDoorSxC
import Derived.Test.YtcmpmpnjidjenaaDoorTxtA
import Derived.Test.YtcmpmpnjidjenaaDoorTxtB
import Derived.Test.YtcmpmpnjidjenaaDoorPureB
set_option linter.unusedVariables false
set_option linter.unusedSimpArgs false
set_option linter.unusedSectionVars false
set_option linter.unnecessarySimpa false
namespace R2
open Go Go.Proofs Sx

section
variable (st el : UInt8) (en : Bool) (at' qu pa su : UInt8) (es : Bool) (da : UInt8) (nm : List UInt8)

theorem l43 (n : Nat) : ∀ (r p : List UInt8), (p ++ r).length < 9223372036854775808 → low p = true → F43_2 (semRun C Tryd.prog 43 Tryd.f43) (p ++ r) (n : Int) ((p ++ r).length : Int) (p.length : Int) = some (.b (small (p ++ r) n))
  | [], p, h, hp => by
    apply r43_2
    simp only [X43_2, nlt_len, nlt_self, List.append_nil, Option.bind_some, condM_b, Bool.false_eq_true, if_false, selW_and, small, hp, Bool.true_and, ge_iff_le]
    congr 3
    rw [decide_eq_decide]; omega
  | c :: r, p, h, hp => by
    apply r43_2
    simp only [X43_2, lt_len, idxS_at, w64_inc p c r h, u8_geq, u8_leq, Option.bind_some, condM_b, if_true, selW_and]
    cases hc : (decide (65 ≤ c) && decide (c ≤ 90)) with
    | true =>
      have : low (p ++ c :: r) = false := by simp only [low, List.all_append, List.all_cons, hc, Bool.not_true, Bool.false_and, Bool.and_false]
      simp [small, this]
    | false =>
      simp only [Bool.false_eq_true, if_false]
      rw [snoc_app]
      exact l43 n r (p ++ [c]) (by rw [← snoc_app]; exact h) (by simp only [low, List.all_append, List.all_cons, List.all_nil, hc] at hp ⊢; simpa using hp)
theorem s43 (n : Nat) (h : nm.length < 9223372036854775808) : semCall C Tryd.prog 43 [.s nm, .int (n : Int)] = some (.b (small nm n)) := by
  apply c43
  simp only [X43]
  exact l43 n nm [] h rfl

theorem s77 : semCall C Tryd.prog 77 [.u8 el] = some (.s (nameOf el)) := by
  apply c77
  refine of_isStr ?_
  revert el
  exact all_u8 (by kernel_rfl)
theorem s98 (l p : List UInt8) : semCall C Tryd.prog 98 [.s l, .s p] = some (.b (pre p l)) := by
  apply c98
  simp only [X98, Option.bind_some, ge_iff_le]
  by_cases h : p.length ≤ l.length
  · rw [slS_hi h]
    simp [pre, h]
  · have : decide ((p.length : Int) ≤ (l.length : Int)) = false := by simp; omega
    rw [this, selW_tf]
    simp [pre, h]
theorem s76 (l p : List UInt8) : semCall C Tryd.prog 76 [.s l, .s p] = some (.b (pre p l)) := by
  apply c76
  simp only [X76, s98, Option.bind_some]

theorem s75 (b : Bool) : semCall C Tryd.prog 75 [cx st el en at' qu pa su es da nm, .b b] = some (.b (subOk su es b)) := by
  apply c75
  simp only [X75, ueq_eq, une_eq, ult_eq, ule_eq, ugt_eq, uge_eq, Option.bind_some, selW_and, selW_or, condM_b, subOk]
  cases b <;> by_cases h : su = 4 <;> simp [h]
theorem s58 : semCall C Tryd.prog 58 [cx st el en at' qu pa su es da nm] = some (.b ((su == 1 || su == 2) && !es)) := by
  apply c58
  simp [X58]
end


section
variable (st el : UInt8) (en : Bool) (at' qu pa su : UInt8) (es : Bool) (da : UInt8) (nm : List UInt8)

section two
variable (st1 el1 : UInt8) (en1 : Bool) (at1 qu1 pa1 su1 : UInt8) (es1 : Bool) (da1 : UInt8) (nm1 : List UInt8)
theorem f44_14 : F44_14 (semRun C Tryd.prog 44 Tryd.f44) st el en at' qu pa su es da nm st1 el1 en1 at1 qu1 pa1 su1 es1 da1 nm1 =
    some (.b (cxeq ⟨st, el, en, at', qu, pa, su, es, da, nm⟩ ⟨st1, el1, en1, at1, qu1, pa1, su1, es1, da1, nm1⟩)) := by
  apply r44_14
  simp only [X44_14, cxeq, Bool.and_true, ueq_eq, une_eq, ult_eq, ule_eq, ugt_eq, uge_eq, Option.bind_some, selW_and, selW_or, condM_b, Option.bind_some]
theorem f44_12 : F44_12 (semRun C Tryd.prog 44 Tryd.f44) st el en at' qu pa su es da nm st1 el1 en1 at1 qu1 pa1 su1 es1 da1 nm1 =
    some (.b (cxeq ⟨st, el, en, at', qu, pa, su, es, da, nm⟩ ⟨st1, el1, en1, at1, qu1, pa1, su, es, da1, nm1⟩ && subOk su es (at' == 2))) := by
  apply r44_12
  simp only [X44_12, cxeq, Bool.and_true, ueq_eq, une_eq, ult_eq, ule_eq, ugt_eq, uge_eq, Option.bind_some, selW_and, selW_or, condM_b, s75, selW_and]
theorem f45_6 : F45_6 (semRun C Tryd.prog 45 Tryd.f45) st el en at' qu pa su es da nm st1 el1 en1 at1 qu1 pa1 su1 es1 da1 nm1 =
    some (.b (cxeq ⟨st, el, en, at', qu, pa, su, es, da, nm⟩ ⟨st1, el1, en1, at1, qu1, pa1, su1, es1, da1, nm1⟩ && (el != 0) && pre nm (nameOf el) && subOk su es (el == 3))) := by
  apply r45_6
  simp only [X45_6, cxeq, Bool.and_true, ueq_eq, une_eq, ult_eq, ule_eq, ugt_eq, uge_eq, Option.bind_some, selW_and, selW_or, condM_b, s75, s77, s76, selW_and]
theorem f45_4 : F45_4 (semRun C Tryd.prog 45 Tryd.f45) st el en at' qu pa su es da nm st1 el1 en1 at1 qu1 pa1 su1 es1 da1 nm1 =
    some (.b (cxeq ⟨st, el, en, at', qu, pa, su, es, da, nm⟩ ⟨st1, el1, en1, at1, qu1, pa1, if (el == 3 || el == 4) = true then su else su1, if (el == 3 || el == 4) = true then es else es1, da1, nm1⟩ && (el != 0) && pre nm (nameOf el) && subOk su es (el == 3))) := by
  apply r45_4
  simp only [X45_4, cxeq, Bool.and_true, ueq_eq, une_eq, ult_eq, ule_eq, ugt_eq, uge_eq, Option.bind_some, selW_and, selW_or, condM_b, f45_6, condM_b]
  split <;> rfl
theorem s45 : semCall C Tryd.prog 45 [cx st el en at' qu pa su es da nm] =
    some (.b (cxeq ⟨st, el, en, at', qu, pa, su, es, da, nm⟩ ⟨st, el, false, 0, 0, 0, if (el == 3 || el == 4) = true then su else 0, if (el == 3 || el == 4) = true then es else false, 0, if (st == 19) = true then nm else []⟩ && (el != 0) && pre nm (nameOf el) && subOk su es (el == 3))) := by
  apply c45
  simp only [X45, cxeq, Bool.and_true, ueq_eq, une_eq, ult_eq, ule_eq, ugt_eq, uge_eq, Option.bind_some, selW_and, selW_or, condM_b, f45_4, condM_b]
  split <;> rfl
theorem s44 (h : nm.length < 9223372036854775808) : semCall C Tryd.prog 44 [cx st el en at' qu pa su es da nm, cx st1 el1 en1 at1 qu1 pa1 su1 es1 da1 nm1] =
    some (.b (valOk ⟨st, el, en, at', qu, pa, su, es, da, nm⟩ ⟨st1, el1, en1, at1, qu1, pa1, su1, es1, da1, nm1⟩)) := by
  apply c44
  have e2 : semCall C Tryd.prog 43 [.s nm, .int 16] = some (.b (small nm 16)) := s43 nm 16 h
  simp only [X44, cxeq, Bool.and_true, ueq_eq, une_eq, ult_eq, ule_eq, ugt_eq, uge_eq, Option.bind_some, selW_and, selW_or, condM_b, f44_12, f44_14, e2, valOk, if_true]
  cases h1 : (qu != 0 && qu != 34 && qu != 39) <;> cases h2 : (at' == 1) <;> cases h3 : (pa == 1) <;> cases h4 : (at' == 2) <;> cases h5 : (at' == 3) <;> simp
end two

theorem f21_11 : F21_11 (semRun C Tryd.prog 21 Tryd.f21) st el en at' qu pa su es da nm st el en 0 0 0 0 false 0 [] =
    some (.b (cxeq ⟨st, el, en, at', qu, pa, su, es, da, nm⟩ ⟨st, el, en, 0, 0, 0, 0, false, 0, []⟩)) := by
  apply r21_11
  simp only [X21_11, cxeq, Bool.and_true, ueq_eq, une_eq, ult_eq, ule_eq, ugt_eq, uge_eq, Option.bind_some, selW_and, selW_or, condM_b, Option.bind_some]
theorem f21_14 (h : nm.length < 9223372036854775808) : F21_14 (semRun C Tryd.prog 21 Tryd.f21) st el en at' qu pa su es da nm st el en 0 0 0 0 false 0 [] =
    some (.b (cxeq ⟨st, el, en, at', qu, pa, su, es, da, nm⟩ ⟨st, el, en, 0, 0, 0, 0, false, 0, nm⟩ && small nm 32)) := by
  apply r21_14
  have e2 : semCall C Tryd.prog 43 [.s nm, .int 32] = some (.b (small nm 32)) := s43 nm 32 h
  simp only [X21_14, cxeq, Bool.and_true, ueq_eq, une_eq, ult_eq, ule_eq, ugt_eq, uge_eq, Option.bind_some, selW_and, selW_or, condM_b, e2, selW_and]
theorem f21_27 : F21_27 (semRun C Tryd.prog 21 Tryd.f21) st el en at' qu pa su es da nm =
    some (.b (cxeq ⟨st, el, en, at', qu, pa, su, es, da, nm⟩ ⟨st, el, false, 0, 0, 0, if (el == 3 || el == 4) = true then su else 0, if (el == 3 || el == 4) = true then es else false, 0, if (st == 19) = true then nm else []⟩ && (el != 0) && pre nm (nameOf el) && subOk su es (el == 3))) := by
  apply r21_27
  simp only [X21_27, cxeq, Bool.and_true, ueq_eq, une_eq, ult_eq, ule_eq, ugt_eq, uge_eq, Option.bind_some, selW_and, selW_or, condM_b, s45, Option.bind_some]
theorem f21_28 : F21_28 (semRun C Tryd.prog 21 Tryd.f21) st el en at' qu pa su es da nm st 0 false 0 0 0 0 false 0 [] =
    some (.b (cxeq ⟨st, el, en, at', qu, pa, su, es, da, nm⟩ ⟨st, 0, false, 0, 0, 0, 0, false, 0, []⟩)) := by
  apply r21_28
  simp only [X21_28, cxeq, Bool.and_true, ueq_eq, une_eq, ult_eq, ule_eq, ugt_eq, uge_eq, Option.bind_some, selW_and, selW_or, condM_b, Option.bind_some]
theorem f21_16 (h : nm.length < 9223372036854775808) : F21_16 (semRun C Tryd.prog 21 Tryd.f21) st st el en at' qu pa su es da nm st 0 false 0 0 0 0 false 0 []
    st el en 0 0 0 0 false 0 [] =
    some (.b (if (st == 7) = true then cxeq ⟨st, el, en, at', qu, pa, su, es, da, nm⟩ ⟨st, el, en, at', 0, 0, 0, false, 0, []⟩
      else if (st == 8) = true then valOk ⟨st, el, en, at', qu, pa, su, es, da, nm⟩ ⟨st, el, en, 0, 0, 0, 0, false, 0, []⟩
      else if (st == 15) = true then cxeq ⟨st, el, en, at', qu, pa, su, es, da, nm⟩ ⟨st, 0, false, 0, 0, 0, 0, false, da, []⟩ && decide (da ≤ 2)
      else if (st == 17 || st == 18 || st == 19) = true then (cxeq ⟨st, el, en, at', qu, pa, su, es, da, nm⟩ ⟨st, el, false, 0, 0, 0, if (el == 3 || el == 4) = true then su else 0, if (el == 3 || el == 4) = true then es else false, 0, if (st == 19) = true then nm else []⟩ && (el != 0) && pre nm (nameOf el) && subOk su es (el == 3))
      else cxeq ⟨st, el, en, at', qu, pa, su, es, da, nm⟩ ⟨st, 0, false, 0, 0, 0, 0, false, 0, []⟩)) := by
  apply r21_16
  simp only [X21_16, cxeq, Bool.and_true, ueq_eq, une_eq, ult_eq, ule_eq, ugt_eq, uge_eq, Option.bind_some, selW_and, selW_or, condM_b, s44 (h := h), f21_27, f21_28, if_true]
  cases h1 : (st == 7) <;> cases h2 : (st == 8) <;> cases h3 : (st == 15) <;> cases h4 : (st == 17) <;> cases h5 : (st == 18) <;> cases h6 : (st == 19) <;> rfl
theorem f21_12 (h : nm.length < 9223372036854775808) : F21_12 (semRun C Tryd.prog 21 Tryd.f21) st st el en at' qu pa su es da nm st 0 false 0 0 0 0 false 0 []
    st el en 0 0 0 0 false 0 [] =
    some (.b (if (st == 5 || st == 6) = true then cxeq ⟨st, el, en, at', qu, pa, su, es, da, nm⟩ ⟨st, el, en, 0, 0, 0, 0, false, 0, nm⟩ && small nm 32
      else if (st == 7) = true then cxeq ⟨st, el, en, at', qu, pa, su, es, da, nm⟩ ⟨st, el, en, at', 0, 0, 0, false, 0, []⟩
      else if (st == 8) = true then valOk ⟨st, el, en, at', qu, pa, su, es, da, nm⟩ ⟨st, el, en, 0, 0, 0, 0, false, 0, []⟩
      else if (st == 15) = true then cxeq ⟨st, el, en, at', qu, pa, su, es, da, nm⟩ ⟨st, 0, false, 0, 0, 0, 0, false, da, []⟩ && decide (da ≤ 2)
      else if (st == 17 || st == 18 || st == 19) = true then (cxeq ⟨st, el, en, at', qu, pa, su, es, da, nm⟩ ⟨st, el, false, 0, 0, 0, if (el == 3 || el == 4) = true then su else 0, if (el == 3 || el == 4) = true then es else false, 0, if (st == 19) = true then nm else []⟩ && (el != 0) && pre nm (nameOf el) && subOk su es (el == 3))
      else cxeq ⟨st, el, en, at', qu, pa, su, es, da, nm⟩ ⟨st, 0, false, 0, 0, 0, 0, false, 0, []⟩)) := by
  apply r21_12
  simp only [X21_12, cxeq, Bool.and_true, ueq_eq, une_eq, ult_eq, ule_eq, ugt_eq, uge_eq, Option.bind_some, selW_and, selW_or, condM_b, f21_14 (h := h), f21_16 (h := h), if_true]
  cases h1 : (st == 5) <;> cases h2 : (st == 6) <;> rfl
theorem s21a (h : nm.length < 9223372036854775808) : semCall C Tryd.prog 21 [cx st el en at' qu pa su es da nm] = some (.b (form1 ⟨st, el, en, at', qu, pa, su, es, da, nm⟩)) := by
  apply c21
  have e1 : semCall C Tryd.prog 43 [.s nm, .int 32] = some (.b (small nm 32)) := s43 nm 32 h
  simp only [X21, Bool.and_true, ueq_eq, une_eq, ult_eq, ule_eq, ugt_eq, uge_eq]
  simp only [Option.bind_some, selW_and, selW_or, condM_b, e1]
  rw [f21_12 (h := h)]
  simp only [f21_11]
  unfold form1
  dsimp only
  cases h0 : (decide (20 < st) || decide (4 < el) || decide (4 < at') || decide (5 < pa) || decide (6 < su) || en && el != 0) with
  | true => rfl
  | false => cases h2 : (st == 3) <;> cases h3 : (st == 4) <;> cases h4 : (st == 9) <;> cases h5 : (st == 10) <;> rfl
end


section
variable (st el : UInt8) (en : Bool) (at' qu pa su : UInt8) (es : Bool) (da : UInt8) (nm : List UInt8)

theorem s21 (h : nm.length < 9223372036854775808) : semCall C Tryd.prog 21 [cx st el en at' qu pa su es da nm] = some (.b (form ⟨st, el, en, at', qu, pa, su, es, da, nm⟩)) := by
  rw [s21a (h := h), form_eq]
section
variable (st1 el1 : UInt8) (en1 : Bool) (at1 qu1 pa1 su1 : UInt8) (es1 : Bool) (da1 : UInt8) (nm1 : List UInt8)
end
theorem s108 : semCall C Tryd.prog 108 [cx st el en at' qu pa su es da nm] = some (.b (coded st el at')) := by
  apply c108
  have e1 : F108_7 (semRun C Tryd.prog 108 Tryd.f108) st el en at' qu pa su es da nm = some (.b (el == 3 || el == 4)) := by
    apply r108_7
    simp only [X108_7, ueq_eq, selW_or, Option.bind_some]
  have e2 : F108_8 (semRun C Tryd.prog 108 Tryd.f108) = some (.b false) := by
    apply r108_8
    rfl
  simp only [X108, ueq_eq, Option.bind_some, selW_or, condM_b, e1, e2, coded]
  rcases st_cases st with h | h | h | h | h | h | h | h | h | h | h | h | h | h | h | h | h | h | h | h | h | h <;> first | (subst h; rfl) | (subst h; simp; done) | skip
  obtain ⟨-, -, -, -, -, -, -, -, h8, -, -, -, -, -, -, -, -, h17, h18, h19⟩ := nlt st h
  have h2 : ¬ st ≤ 19 := by
    have := UInt8.lt_iff_toNat_lt.1 h
    rw [UInt8.le_iff_toNat_le]; simp at this ⊢; omega
  simp [h8, h17, h18, h19, h2]
end


section
variable (st el : UInt8) (en : Bool) (at' qu pa su : UInt8) (es : Bool) (da : UInt8) (nm : List UInt8)
end

theorem s26 (nm : List UInt8) : semCall C Tryd.prog 26 [.s nm] = some (.u8 (elOf nm)) := by
  apply c26
  simp only [X26, condM_b, elOf]
  split
  · rfl
  · split
    · rfl
    · split
      · rfl
      · split <;> rfl
theorem f105_13 : F105_13 (semRun C Tryd.prog 105 Tryd.f105) = some (.u8 1) := by apply r105_13; rfl
theorem f105_21 : F105_21 (semRun C Tryd.prog 105 Tryd.f105) = some (.u8 4) := by apply r105_21; rfl
theorem f105_22 (nm : List UInt8) : F105_22 (semRun C Tryd.prog 105 Tryd.f105) nm = some (.u8 (if decide (2 < nm.length) && pre [111, 110] nm then 2 else 0)) := by
  apply r105_22
  simp only [X105_22, s76, Option.bind_some, selW_and, condM_b]
  have : decide ((nm.length : Int) > 2) = decide (2 < nm.length) := by rw [decide_eq_decide]; omega
  rw [this]
  split <;> rfl
theorem f105_14 (nm : List UInt8) : F105_14 (semRun C Tryd.prog 105 Tryd.f105) nm nm = some (.u8 (if nm == [115, 116, 121, 108, 101] then 3 else if odds.contains nm then 4 else if decide (2 < nm.length) && pre [111, 110] nm then 2 else 0)) := by
  apply r105_14
  simp only [X105_14, f105_21, f105_22, condM_b, odds, List.contains_cons, List.contains_nil, Bool.or_false]
  cases nm == [115, 116, 121, 108, 101] <;> cases nm == [115, 114, 99, 100, 111, 99] <;> cases nm == [115, 114, 99, 115, 101, 116] <;> cases nm == [105, 109, 97, 103, 101, 115, 114, 99, 115, 101, 116] <;> cases nm == [99, 111, 110, 116, 101, 110, 116] <;> cases nm == [104, 116, 116, 112, 45, 101, 113, 117, 105, 118] <;> rfl
theorem s105 (nm : List UInt8) : semCall C Tryd.prog 105 [.s nm] = some (.u8 (attrOf nm)) := by
  apply c105
  simp only [X105, f105_13, f105_14, condM_b, attrOf, urls, List.contains_cons, List.contains_nil, Bool.or_false]
  generalize (if (nm == [115, 116, 121, 108, 101]) = true then (3 : UInt8) else if odds.contains nm = true then 4 else if (decide (2 < nm.length) && pre [111, 110] nm) = true then 2 else 0) = z
  cases nm == [97, 99, 116, 105, 111, 110] with
  | true => rfl
  | false =>
  cases nm == [98, 97, 99, 107, 103, 114, 111, 117, 110, 100] with
  | true => rfl
  | false =>
  cases nm == [99, 105, 116, 101] with
  | true => rfl
  | false =>
  cases nm == [100, 97, 116, 97] with
  | true => rfl
  | false =>
  cases nm == [102, 111, 114, 109, 97, 99, 116, 105, 111, 110] with
  | true => rfl
  | false =>
  cases nm == [104, 114, 101, 102] with
  | true => rfl
  | false =>
  cases nm == [108, 111, 110, 103, 100, 101, 115, 99] with
  | true => rfl
  | false =>
  cases nm == [109, 97, 110, 105, 102, 101, 115, 116] with
  | true => rfl
  | false =>
  cases nm == [112, 111, 115, 116, 101, 114] with
  | true => rfl
  | false =>
  cases nm == [115, 114, 99] with
  | true => rfl
  | false =>
  cases nm == [120, 108, 105, 110, 107, 58, 104, 114, 101, 102] <;> rfl
end R2

namespace R2
open Go Go.Proofs Sx

theorem s112 (l : List UInt8) (x : UInt8) : semCall C Tryd.prog 112 [.s l, .u8 x] = some (.int (idxByte l x)) :=
  semCall_ext (fn := Tryd.f112) (by kernel_rfl) (by kernel_rfl) (by kernel_rfl) (by
    show (bif (Tryd.f112.name == "internal/bytealg.IndexByteString") then some (AV.int (idxByte l x)) else none) = _
    rw [show (Tryd.f112.name == "internal/bytealg.IndexByteString") = true by kernel_rfl]
    rfl)
theorem s106 (l : List UInt8) (x : UInt8) : semCall C Tryd.prog 106 [.s l, .u8 x] = some (.int (idxByte l x)) := by
  apply c106
  simp only [X106, s112, Option.bind_some]
theorem s90 (l : List UInt8) (x : UInt8) : semCall C Tryd.prog 90 [.s l, .u8 x] = some (.int (idxByte l x)) := by
  apply c90
  simp only [X90, s106, Option.bind_some]
section
variable (c : Ctx) (b : UInt8)

theorem sForm (h : c.nm.length < 9223372036854775808) : semCall C Tryd.prog 21 [c.toAV] = some (.b (form c)) := s21 (h := h) ..
theorem sCoded : semCall C Tryd.prog 108 [c.toAV] = some (.b (coded c.st c.el c.at')) := s108 ..

theorem s81 : semCall C Tryd.prog 81 [.u8 b] = some (.b (letter b)) := by
  apply c81
  simp only [X81, uge_eq, ule_eq, Option.bind_some, selW_and, selW_or, letter]
theorem s82 : semCall C Tryd.prog 82 [.u8 b] = some (.u8 (lowb b)) := by
  apply c82
  refine of_isU8 ?_
  revert b
  exact all_u8 (by kernel_rfl)
theorem s83 : semCall C Tryd.prog 83 [.u8 b] = some (.b (blankB b)) := by
  apply c83
  simp only [X83, ueq_eq, Option.bind_some, selW_and, selW_or, blankB]
theorem s89 : semCall C Tryd.prog 89 [c.toAV] = some (.b (ends c)) := by
  apply c89
  simp only [X89, ueq_eq, Option.bind_some, selW_and, selW_or, ends]
theorem s85 (s : UInt8) : semCall C Tryd.prog 85 [c.toAV, .u8 s] = some (within c s).toAV := by
  apply c85
  rfl
theorem s86 (el : UInt8) : semCall C Tryd.prog 86 [.u8 el] = some (tagEnd el).toAV := by
  apply c86
  simp only [X86, une_eq, condM_b, tagEnd, toAV_ite]
  rfl
theorem s61 : semCall C Tryd.prog 61 [.u8 b] = some (tv (opened b)) := by
  apply c61
  simp only [X61, s81, s82, ueq_eq, Option.bind_some, one_u8, b2s_one, one_s, condM_b, opened, tv_ite]
  rfl
theorem s62 : semCall C Tryd.prog 62 [.u8 b] = some (closed b).toAV := by
  apply c62
  simp only [X62, s81, s82, ueq_eq, Option.bind_some, one_u8, b2s_one, one_s, condM_b, closed, toAV_ite]
  rfl
theorem s84 : semCall C Tryd.prog 84 [c.toAV, .u8 b] = some (grown c b).toAV := by
  apply c84
  simp only [X84, s82, Option.bind_some, one_u8, b2s_one, condM_b, grown, toAV_ite]
  have e : decide ((c.nm.length : Int) ≥ 32) = decide (32 ≤ c.nm.length) := by rw [decide_eq_decide]; omega
  rw [e]
  by_cases h : 32 ≤ c.nm.length
  · rw [if_pos (by simpa using h), if_pos (by simpa using h)]; rfl
  · rw [if_neg (by simpa using h), if_neg (by simpa using h), s_add' (by simp; omega)]; rfl
theorem s87 : semCall C Tryd.prog 87 [c.toAV, .u8 b] = some (tv (begunV c b)) := by
  apply c87
  simp only [X87, s83, ueq_eq, Option.bind_some, selW_or, condM_b, begunV, tv_ite]
  rfl
theorem s88 : semCall C Tryd.prog 88 [c.toAV, .u8 b] = some (tv (named c b)) := by
  apply c88
  simp only [X88, s83, s105, mk_toAV, mk_eta, s84, s85, asAg_toAV, ten0, ten1, ten2, ten3, ten4, ten5, ten6, ten7, ten8, ten9, tv_mk, ueq_eq, Option.bind_some, selW_or, selW_and, condM_b, named, tv_ite, one_u8]
  rfl
theorem s63 : semCall C Tryd.prog 63 [c.toAV, .u8 b] = some (tv (tag c b)) := by
  have f (el : UInt8) : F63_7 (semRun C Tryd.prog 63 Tryd.f63) c.st (.u8 el) c.en c.at' c.qu c.pa c.su c.es c.da c.nm 0 0 false 0 0 0 0 false 0 [] = some (tv (within { c with el := el } 9, true)) := by
    apply r63_7
    simp only [X63_7, mk_toAV, s85, asAg_toAV, ten0, ten1, ten2, ten3, ten4, ten5, ten6, ten7, ten8, ten9, mk_eta, tv_mk, Option.bind_some]
  apply c63
  simp only [X63, f, s83, s26, mk_toAV, mk_eta, s84, s85, s86, s87, s88, asAg_toAV, ten0, ten1, ten2, ten3, ten4, ten5, ten6, ten7, ten8, ten9, tv_mk, tv_0, tv_1, ueq_eq, une_eq, unop_not, Option.bind_some, selW_or, selW_and, condM_b, tag, tv_ite, one_u8]
  rfl
theorem s107 : semCall C Tryd.prog 107 [c.toAV, .u8 b] = some (text c b).toAV := by
  have f (d : Ctx) : F107_9 (semRun C Tryd.prog 107 Tryd.f107) d.st d.el d.en d.at' d.qu d.pa d.su d.es d.da d.nm 0 0 false 0 0 0 0 false 0 [] = some d.toAV := by
    apply r107_9
    rfl
  apply c107
  simp only [X107, ueq_eq, Option.bind_some, selW_or, selW_and, condM_b, text, toAV_ite]
  rw [f c, f { c with su := 0 }, f { c with es := true }, f { c with es := false }]
  rfl
theorem s920 (script : Bool) (h : (c.su == 0) = true) : semCall C Tryd.prog 92 [c.toAV, .u8 b, .b script] = some (code0 c b script).toAV := by
  have f (d : Ctx) : F92_36 (semRun C Tryd.prog 92 Tryd.f92) d.st d.el d.en d.at' d.qu d.pa d.su d.es d.da d.nm 0 0 false 0 0 0 0 false 0 [] = some d.toAV := by
    apply r92_36
    rfl
  have g : F92_11 (semRun C Tryd.prog 92 Tryd.f92) 0 0 false 0 0 0 0 false 0 [] = some badC.toAV := by
    apply r92_11
    rfl
  apply c92
  simp only [X92, ueq_eq, Option.bind_some, selW_or, selW_and, condM_b, code0, toAV_ite, h, if_true]
  rw [f c, f { c with su := 1 }, f { c with su := 2 }, f { c with su := 3 }, g]
theorem s92 (script : Bool) : semCall C Tryd.prog 92 [c.toAV, .u8 b, .b script] = some (code c b script).toAV := by
  have f (d : Ctx) : F92_36 (semRun C Tryd.prog 92 Tryd.f92) d.st d.el d.en d.at' d.qu d.pa d.su d.es d.da d.nm 0 0 false 0 0 0 0 false 0 [] = some d.toAV := by
    apply r92_36
    rfl
  have g : F92_11 (semRun C Tryd.prog 92 Tryd.f92) 0 0 false 0 0 0 0 false 0 [] = some badC.toAV := by
    apply r92_11
    rfl
  have t (d : Ctx) : F92_23 (semRun C Tryd.prog 92 Tryd.f92) b d.st d.el d.en d.at' d.qu d.pa d.su d.es d.da d.nm 0 0 false 0 0 0 0 false 0 [] = some (text d b).toAV := by
    apply r92_23
    simp only [X92_23, mk_toAV, mk_eta, s107, asAg_toAV, ten0, ten1, ten2, ten3, ten4, ten5, ten6, ten7, ten8, ten9, Option.bind_some]
  have u (d : Ctx) : F92_24 (semRun C Tryd.prog 92 Tryd.f92) b d.su d.st d.el d.en d.at' d.qu d.pa d.su d.es d.da d.nm 0 0 false 0 0 0 0 false 0 [] =
      some (if d.su == 4 then (if b == 10 || b == 13 then { d with su := 0 } else d) else if d.su == 5 then (if b == 42 then { d with su := 6 } else d) else if d.su == 6 then (if b == 47 then { d with su := 0 } else if b == 42 then d else { d with su := 5 }) else d : Ctx).toAV := by
    apply r92_24
    simp only [X92_24, ueq_eq, Option.bind_some, selW_or, selW_and, condM_b, toAV_ite]
    rw [f d, f { d with su := 0 }, f { d with su := 6 }, f { d with su := 5 }]
  apply c92
  have z : semCall C Tryd.prog 92 [Ctx.toAV { c with su := 0 }, .u8 b, .b script] = some (code0 { c with su := 0 } b script).toAV := s920 _ b script rfl
  simp only [X92, ueq_eq, Option.bind_some, selW_or, selW_and, condM_b, code, toAV_ite, mk_toAV, mk_eta]
  rw [f c, f { c with su := 1 }, f { c with su := 2 }, f { c with su := 3 }, f { c with su := 4 }, f { c with su := 5 }, g, t c, u c, z]
  simp only [asAg_toAV, ten0, ten1, ten2, ten3, ten4, ten5, ten6, ten7, ten8, ten9, Option.bind_some, mk_toAV, mk_eta]
  simp only [code0, toAV_ite]
  rfl
theorem s91 : semCall C Tryd.prog 91 [c.toAV, .u8 b] = some (url c b).toAV := by
  have f (d : Ctx) : F91_24 (semRun C Tryd.prog 91 Tryd.f91) d.st d.el d.en d.at' d.qu d.pa d.su d.es d.da (.s d.nm) 0 0 false 0 0 0 0 false 0 [] = some d.toAV := by
    apply r91_24
    rfl
  apply c91
  simp only [X91, ueq_eq, Option.bind_some, selW_or, selW_and, condM_b, s82, one_u8, b2s_one, same_eq, url, toAV_ite]
  rw [f { c with pa := 4, nm := [] }, f { c with pa := 3, nm := [] }, f { c with pa := 5, nm := [] }, f { c with pa := 1 }]
  have e : decide ((c.nm.length : Int) ≥ 16) = decide (16 ≤ c.nm.length) := by rw [decide_eq_decide]; omega
  rw [e, show (c.nm == [104, 116, 116, 112] || c.nm == [104, 116, 116, 112, 115] || c.nm == [109, 97, 105, 108, 116, 111]) = httpS c.nm from rfl]
  by_cases h : 16 ≤ c.nm.length
  · simp only [decide_eq_true h, if_true]; rfl
  · rw [s_add' (by simp; omega)]
    simp only [Option.bind_some, one_s]
    rw [f { c with pa := 1, nm := c.nm ++ [lowb b] }]
    rfl
theorem quote_ix : decide (idxByte [34, 39, 60, 61, 96] b ≥ 0) = quoteB b := by
  revert b
  exact all_u8_eq (by kernel_rfl)
theorem s64 : semCall C Tryd.prog 64 [c.toAV, .u8 b] = some (value c b).toAV := by
  apply c64
  simp only [X64, ueq_eq, Option.bind_some, selW_or, selW_and, condM_b, s83, s90, mk_toAV, mk_eta, s89, s85, s86, s91, s92, asAg_toAV, ten0, ten1, ten2, ten3, ten4, ten5, ten6, ten7, ten8, ten9, unop_not, value, toAV_ite, int_geq, quote_ix]
  rfl
theorem l93 : ∀ (r p : List UInt8) (c : Ctx), (p ++ r).length < 9223372036854775808 → F93_5 (semRun C Tryd.prog 93 Tryd.f93) (p ++ r) ((p ++ r).length : Int) (p.length : Int) (.u8 c.st) (.u8 c.el) (.b c.en) (.u8 c.at') (.u8 c.qu) (.u8 c.pa) (.u8 c.su) (.b c.es) (.u8 c.da) (.s c.nm) 0 0 false 0 0 0 0 false 0 [] = some (feedL c r).toAV
  | [], p, c, h => by
    apply r93_5
    simp only [X93_5, nlt_len, nlt_self, List.append_nil, Option.bind_some, condM_b, Bool.false_eq_true, if_false, mk_toAV, mk_eta, feedL]
  | b :: r, p, c, h => by
    apply r93_5
    simp only [X93_5, lt_len, idxS_at, w64_inc p b r h, u8_eql, Option.bind_some, condM_b, if_true, mk_toAV, mk_eta, s92, asAg_toAV, ten0, ten1, ten2, ten3, ten4, ten5, ten6, ten7, ten8, ten9, feedL, toAV_ite]
    rw [snoc_app, l93 r (p ++ [b]) _ (by rw [← snoc_app]; exact h)]
    rfl
theorem s93 (s : List UInt8) (feed : Bool) (h : s.length < 9223372036854775808) : semCall C Tryd.prog 93 [c.toAV, .s s, .b feed] = some (fed c s feed).toAV := by
  apply c93
  have l := l93 s [] { c with st := 17, nm := [] } h
  simp only [X93, ueq_eq, Option.bind_some, mk_toAV, mk_eta, sCoded, unop_not, selW_or, condM_b, fed, toAV_ite]
  split
  · rfl
  · exact l
theorem s65 (feed : Bool) (h : c.nm.length < 1000) : semCall C Tryd.prog 65 [c.toAV, .u8 b, .b feed] = some (raw c b feed).toAV := by
  have f (d : Ctx) : F65_22 (semRun C Tryd.prog 65 Tryd.f65) (.u8 d.st) (.u8 d.el) (.b d.en) (.u8 d.at') (.u8 d.qu) (.u8 d.pa) (.u8 d.su) (.b d.es) (.u8 d.da) (.s d.nm) 0 0 false 0 0 0 0 false 0 [] = some d.toAV := by
    apply r65_22
    rfl
  have g (d : Ctx) : F65_17 (semRun C Tryd.prog 65 Tryd.f65) b feed (.u8 d.st) (.u8 d.el) (.b d.en) (.u8 d.at') (.u8 d.qu) (.u8 d.pa) (.u8 d.su) (.b d.es) (.u8 d.da) (.s d.nm) 0 0 false 0 0 0 0 false 0 [] = some (raw2 d b feed).toAV := by
    apply r65_17
    simp only [X65_17, u8_eql, Option.bind_some, condM_b, b2s_one, mk_toAV, mk_eta]
    rw [s93 d [b] feed (by simp)]
    simp only [Option.bind_some, asAg_toAV, ten0, ten1, ten2, ten3, ten4, ten5, ten6, ten7, ten8, ten9, u8_eql, ueq_eq, selW_and, condM_b]
    rw [f (fed d [b] feed), f { fed d [b] feed with st := 18 }]
    simp only [raw2, toAV_ite]
    rfl
  apply c65
  have a1 : binS .add (.s c.nm) (.s [lowb b]) = some (.s (c.nm ++ [lowb b])) := s_add' (by simp; omega)
  have a2 : binS .add (.s [47]) (.s c.nm) = some (.s (47 :: c.nm)) := s_add' (by simp; omega)
  have a3 := s93 c (47 :: c.nm) feed (by simp; omega)
  simp only [X65, s77, ueq_eq, Option.bind_some, selW_or, selW_and, condM_b, s83, s82, one_u8, b2s_one, one_s, a1, a2, s_eql, s76, mk_toAV, mk_eta, s89, s63, tv_0, tv_1, a3, asAg_toAV, ten0, ten1, ten2, ten3, ten4, ten5, ten6, ten7, ten8, ten9, unop_not, raw, toAV_ite]
  rw [g c, g (fed c (47 :: c.nm) feed)]
  rfl
theorem s66 : semCall C Tryd.prog 66 [c.toAV, .u8 b] = some (note c b).toAV := by
  have f (d : Ctx) : F66_31 (semRun C Tryd.prog 66 Tryd.f66) d.st d.el d.en d.at' d.qu d.pa d.su d.es d.da d.nm 0 0 false 0 0 0 0 false 0 [] = some d.toAV := by
    apply r66_31
    rfl
  have f4 : F66_4 (semRun C Tryd.prog 66 Tryd.f66) b c.st c.el c.en c.at' c.qu c.pa c.su c.es c.da c.nm 0 0 false 0 0 0 0 false 0 [] = some (if b == 62 then st1 0 else if b == 45 && c.st == 11 then st1 12 else if b == 45 then st1 13 else st1 16 : Ctx).toAV := by
    apply r66_4
    simp only [X66_4, ueq_eq, Option.bind_some, selW_and, condM_b, toAV_ite]
    rfl
  have f13 : F66_13 (semRun C Tryd.prog 66 Tryd.f66) b c.st c.el c.en c.at' c.qu c.pa c.su c.es c.da c.nm 0 0 false 0 0 0 0 false 0 [] = some (if b == 62 then badC else if b == 45 && c.st == 13 then st1 14 else if b == 45 then ⟨15, 0, false, 0, 0, 0, 0, false, 2, []⟩ else st1 15 : Ctx).toAV := by
    apply r66_13
    simp only [X66_13, ueq_eq, Option.bind_some, selW_and, condM_b, toAV_ite]
    rfl
  have hm : (binI .add (.u8 c.da) (.u8 1)).bind (fun v3 => (mm true v3 (.u8 2)).bind fun v4 => (AV.one v4).bind fun v5 => some (AV.ag [.u8 15, .u8 0, .b false, .u8 0, .u8 0, .u8 0, .u8 0, .b false, v5, .s []])) = some (Ctx.toAV ⟨15, 0, false, 0, 0, 0, 0, false, (if decide (2 < c.da + 1) then 2 else c.da + 1), []⟩) := by
    rw [u8_add]
    simp only [Option.bind_some, mm_u8, one_u8, mk_toAV, decide_eq_true_eq]
  have f20 : F66_20 (semRun C Tryd.prog 66 Tryd.f66) b c.st c.st c.el c.en c.at' c.qu c.pa c.su c.es c.da c.nm 0 0 false 0 0 0 0 false 0 [] =
      some (if c.st == 15 then (if b == 62 && c.da == 2 then st1 0 else if b == 33 && c.da == 2 then badC else if b == 45 then ⟨15, 0, false, 0, 0, 0, 0, false, (if decide (2 < c.da + 1) then 2 else c.da + 1), []⟩ else st1 15)
  else if c.st == 16 then (if b == 62 then st1 0 else c) else c : Ctx).toAV := by
    apply r66_20
    simp only [X66_20, ueq_eq, Option.bind_some, selW_and, condM_b, toAV_ite]
    rw [hm, f c]
    rfl
  have f11 : F66_11 (semRun C Tryd.prog 66 Tryd.f66) b c.st c.st c.el c.en c.at' c.qu c.pa c.su c.es c.da c.nm 0 0 false 0 0 0 0 false 0 [] =
      some (if c.st == 13 || c.st == 14 then (if b == 62 then badC else if b == 45 && c.st == 13 then st1 14 else if b == 45 then ⟨15, 0, false, 0, 0, 0, 0, false, 2, []⟩ else st1 15)
  else if c.st == 15 then (if b == 62 && c.da == 2 then st1 0 else if b == 33 && c.da == 2 then badC else if b == 45 then ⟨15, 0, false, 0, 0, 0, 0, false, (if decide (2 < c.da + 1) then 2 else c.da + 1), []⟩ else st1 15)
  else if c.st == 16 then (if b == 62 then st1 0 else c) else c : Ctx).toAV := by
    apply r66_11
    simp only [X66_11, ueq_eq, Option.bind_some, selW_and, condM_b, f13, f20]
    cases (c.st == 13) <;> cases (c.st == 14) <;> rfl
  apply c66
  simp only [X66, ueq_eq, Option.bind_some, selW_and, condM_b, f4, f11, note]
  cases (c.st == 11) <;> cases (c.st == 12) <;> rfl
theorem l40 (feed : Bool) : ∀ (n : Nat) (c d : Ctx), c.nm.length < 1000 → again n c b feed = some d → F40_3 (semRun C Tryd.prog 40 Tryd.f40) b feed (.u8 c.st) (.u8 c.el) (.b c.en) (.u8 c.at') (.u8 c.qu) (.u8 c.pa) (.u8 c.su) (.b c.es) (.u8 c.da) (.s c.nm) 0 0 false 0 0 0 0 false 0 [] = some d.toAV
  | 0, c, d, hn, h => by cases h
  | n + 1, c, d, hn, h => by
    have f32 (d : Ctx) : F40_32 (semRun C Tryd.prog 40 Tryd.f40) (.u8 d.st) (.u8 d.el) (.b d.en) (.u8 d.at') (.u8 d.qu) (.u8 d.pa) (.u8 d.su) (.b d.es) (.u8 d.da) (.s d.nm) 0 0 false 0 0 0 0 false 0 [] = some d.toAV := by
      apply r40_32
      rfl
    have f31 : F40_31 (semRun C Tryd.prog 40 Tryd.f40) b feed (.u8 c.st) (.u8 c.el) (.b c.en) (.u8 c.at') (.u8 c.qu) (.u8 c.pa) (.u8 c.su) (.b c.es) (.u8 c.da) (.s c.nm) 0 0 false 0 0 0 0 false 0 [] = some (raw c b feed).toAV := by
      apply r40_31
      simp only [X40_31, mk_toAV, mk_eta, s65 (h := hn), Option.bind_some, asAg_toAV, ten0, ten1, ten2, ten3, ten4, ten5, ten6, ten7, ten8, ten9]
    have f4 : F40_4 (semRun C Tryd.prog 40 Tryd.f40) b (.u8 c.st) (.u8 c.el) (.b c.en) (.u8 c.at') (.u8 c.qu) (.u8 c.pa) (.u8 c.su) (.b c.es) (.u8 c.da) (.s c.nm) 0 0 false 0 0 0 0 false 0 [] = some (note c b).toAV := by
      apply r40_4
      simp only [X40_4, mk_toAV, mk_eta, s66, Option.bind_some, asAg_toAV, ten0, ten1, ten2, ten3, ten4, ten5, ten6, ten7, ten8, ten9]
    have f26 : F40_26 (semRun C Tryd.prog 40 Tryd.f40) b feed (.u8 c.st) (.u8 c.st) (.u8 c.el) (.b c.en) (.u8 c.at') (.u8 c.qu) (.u8 c.pa) (.u8 c.su) (.b c.es) (.u8 c.da) (.s c.nm) 0 0 false 0 0 0 0 false 0 [] = some (if c.st == 8 then value c b else if c.st == 17 || c.st == 18 || c.st == 19 then raw c b feed else note c b : Ctx).toAV := by
      apply r40_26
      simp only [X40_26, u8_eql, mk_toAV, mk_eta, s64, f31, f4, Option.bind_some, condM_b, asAg_toAV, ten0, ten1, ten2, ten3, ten4, ten5, ten6, ten7, ten8, ten9]
      cases (c.st == 8) <;> cases (c.st == 17) <;> cases (c.st == 18) <;> cases (c.st == 19) <;> rfl
    have f22 (hh : (if (tag c b).2 then again n (tag c b).1 b feed else some (tag c b).1) = some d) : F40_22 (semRun C Tryd.prog 40 Tryd.f40) b feed (.u8 c.st) (.u8 c.el) (.b c.en) (.u8 c.at') (.u8 c.qu) (.u8 c.pa) (.u8 c.su) (.b c.es) (.u8 c.da) (.s c.nm) 0 0 false 0 0 0 0 false 0 [] = some d.toAV := by
      apply r40_22
      simp only [X40_22, mk_toAV, mk_eta, s63, tv_0, tv_1, Option.bind_some, condM_b, asAg_toAV, ten0, ten1, ten2, ten3, ten4, ten5, ten6, ten7, ten8, ten9]
      cases ht : (tag c b).2 with
      | true =>
        rw [ht, if_pos rfl] at hh
        rw [if_pos rfl]
        exact l40 feed n _ d (Nat.lt_of_le_of_lt (tag_nm c b ht) hn) hh
      | false =>
        rw [ht, if_neg (by simp)] at hh
        rw [if_neg (by simp)]
        cases hh; rfl
    apply r40_3
    unfold again at h
    simp only [X40_3, u8_eql, ueq_eq, mk_toAV, mk_eta, s61, s62, tv_0, tv_1, Option.bind_some, condM_b, asAg_toAV, ten0, ten1, ten2, ten3, ten4, ten5, ten6, ten7, ten8, ten9]
    cases h0 : (c.st == 0) with
    | true =>
      rw [h0, if_pos rfl] at h
      rw [if_pos rfl, f32 c, f32 { c with st := 1 }]
      split <;> rename_i hb
      · rw [if_pos hb] at h; cases h; rfl
      · rw [if_neg hb] at h; cases h; rfl
    | false =>
    rw [h0, if_neg (by simp)] at h
    rw [if_neg (by simp)]
    cases h1 : (c.st == 1) with
    | true =>
      rw [h1, if_pos rfl] at h
      rw [if_pos rfl]
      split <;> rename_i hb
      · rw [if_pos hb] at h; cases h; rfl
      · rw [if_neg hb] at h
        exact l40 feed n { c with st := 0 } d hn h
    | false =>
    rw [h1, if_neg (by simp)] at h
    rw [if_neg (by simp)]
    cases h2 : (c.st == 2) with
    | true =>
      rw [h2, if_pos rfl] at h
      rw [if_pos rfl]
      cases h; rfl
    | false =>
    rw [h2, if_neg (by simp)] at h
    rw [if_neg (by simp)]
    cases hT : isT c.st with
    | true =>
      rw [hT, if_pos rfl] at h
      rw [f22 h]
      unfold isT at hT
      cases h3 : (c.st == 3) <;> cases h4 : (c.st == 4) <;> cases h5 : (c.st == 5) <;> cases h6 : (c.st == 6) <;> cases h7 : (c.st == 7) <;> cases h9 : (c.st == 9) <;> cases h10 : (c.st == 10) <;> first | rfl | (rw [h3, h4, h5, h6, h7, h9, h10] at hT; cases hT)
    | false =>
      rw [hT, if_neg (by simp)] at h
      unfold isT at hT
      simp only [Bool.or_eq_false_iff] at hT
      obtain ⟨⟨⟨⟨⟨⟨h3, h4⟩, h5⟩, h6⟩, h7⟩, h9⟩, h10⟩ := hT
      rw [h3, h4, h5, h6, h7, h9, h10, f26]
      simp only [Bool.false_eq_true, if_false]
      cases h8 : (c.st == 8) <;> cases h17 : (c.st == 17) <;> cases h18 : (c.st == 18) <;> cases h19 : (c.st == 19) <;> (rw [h8, h17, h18, h19] at h; cases h; rfl)
end
end R2

namespace R2
open Go Go.Proofs Sx

theorem s40 (c : Ctx) (b : UInt8) (feed : Bool) (h : c.nm.length < 9223372036854775808) : semCall C Tryd.prog 40 [c.toAV, .u8 b, .b feed] = some (mv c b feed).toAV := by
  apply c40
  simp only [X40, mk_toAV, mk_eta, sForm (h := h), Option.bind_some, unop_not, condM_b]
  cases hf : form c with
  | true =>
    rw [if_neg (by simp)]
    exact l40 b feed 4 c _ (by have := form_nm c hf; omega) (mv_some c b feed hf)
  | false =>
    rw [if_pos (by simp), mv_bad c b feed hf]; rfl
theorem s19 (c : Ctx) (b : UInt8) (h : c.nm.length < 9223372036854775808) : semCall C Tryd.prog 19 [c.toAV, .u8 b] = some (stepB c b).toAV := by
  apply c19
  simp only [X19, mk_toAV, mk_eta, s40 (h := h), Option.bind_some, asAg_toAV, ten0, ten1, ten2, ten3, ten4, ten5, ten6, ten7, ten8, ten9]
  rfl

section
variable (c : Ctx) (b : UInt8)
end
end R2

namespace R2
open Go Go.Proofs Sx

section
variable (c : Ctx) (b : UInt8)
end
end R2

namespace R2
open Go Go.Proofs Sx

section
variable (c : Ctx) (b : UInt8)
theorem pre_sel (m n : List UInt8) : selW (.b (decide ((m.length : Int) ≤ (n.length : Int)))) true ((slS (.s n) none (some (.int (m.length : Int)))).bind fun v90 => (binS .eql v90 (.s m)).bind fun v91 => some v91) (.b false) = some (.b (pre m n)) := by
  by_cases hl : m.length ≤ n.length
  · rw [slS_hi hl]; simp [pre, hl]
  · have : decide ((m.length : Int) ≤ (n.length : Int)) = false := by simp; omega
    rw [this, selW_tf]; simp [pre, hl]
end
end R2

namespace R2
open Go Go.Proofs Sx

section
variable (b : UInt8)
end
end R2

namespace R2
open Go Go.Proofs Sx


end R2

namespace R2
open Go Go.Proofs Sx

section
/-- Bytes by a rule. -/
theorem l49 (g : Nat) (f : Ctx → UInt8 → Ctx) (hform : ∀ c b, form (f c b) = true) (hg : ∀ (c : Ctx) (b : UInt8), form c = true → callV C (semCall C Tryd.prog) g [c.toAV, .u8 b] = some (f c b).toAV) : ∀ (r p : List UInt8) (c : Ctx), (p ++ r).length < 9223372036854775808 → form c = true →
    F49_4 (semRun C Tryd.prog 49 Tryd.f49) g (.ro 1 ((p ++ r).map .u8)) (.int (((p ++ r).map AV.u8).length : Int)) (p.length : Int) (.u8 c.st) (.u8 c.el) (.b c.en) (.u8 c.at') (.u8 c.qu) (.u8 c.pa) (.u8 c.su) (.b c.es) (.u8 c.da) (.s c.nm) 0 0 false 0 0 0 0 false 0 [] = some (ti (runL f c r (p.length : Int)))
  | [], p, c, h, hf => by
    apply r49_4
    simp only [X49_4, int_lss, nlt_map, Option.bind_some, condM_b, Bool.false_eq_true, if_false, List.append_nil, mk_toAV, mk_eta, runL, ti_mk]
  | b :: r, p, c, h, hf => by
    apply r49_4
    have hi := idx_at p b r
    simp only [X49_4, int_lss, lt_len', hi, w64_inc p b r h, Option.bind_some, condM_b, if_true, cell_u8, mk_toAV, mk_eta, hg c b hf, asAg_toAV, ten0, ten1, ten2, ten3, ten4, ten5, ten6, ten7, ten8, ten9, u8_eql, runL, ti_mk]
    split
    · rfl
    · rw [snoc_app, l49 g f hform hg r (p ++ [b]) (f c b) (by rw [← snoc_app]; exact h) (hform c b), ← snoc_len p b]
theorem s49 (g : Nat) (f : Ctx → UInt8 → Ctx) (hform : ∀ c b, form (f c b) = true) (hg : ∀ (c : Ctx) (b : UInt8), form c = true → callV C (semCall C Tryd.prog) g [c.toAV, .u8 b] = some (f c b).toAV) (c : Ctx) (l : List UInt8) (hc : c.nm.length < 9223372036854775808) (h : l.length < 9223372036854775808) :
    semCall C Tryd.prog 49 [c.toAV, .ro 1 (l.map .u8), .fn g] = some (ti (runL f (inF c) l 0)) := by
  have key (d : Ctx) (hd : form d = true) : F49_3 (semRun C Tryd.prog 49 Tryd.f49) (.ro 1 (l.map .u8)) g d.st d.el d.en d.at' d.qu d.pa d.su d.es d.da d.nm 0 0 false 0 0 0 0 false 0 [] = some (ti (runL f d l 0)) := by
    apply r49_3
    simp only [X49_3, lenR_ro, Option.bind_some]
    exact l49 g f hform hg l [] d h hd
  apply c49
  simp only [X49, mk_toAV, mk_eta, sForm (h := hc), Option.bind_some, unop_not, condM_b]
  unfold inF
  cases hf : form c with
  | true => rw [if_neg (by simp), if_pos rfl]; exact key c hf
  | false => rw [if_pos (by simp), if_neg (by simp)]; exact key badC rfl
theorem s23 (c : Ctx) (l : List UInt8) (hc : c.nm.length < 9223372036854775808) (h : l.length < 9223372036854775808) : semCall C Tryd.prog 23 [c.toAV, .ro 1 (l.map .u8)] = some (ti (bytesB c l)) := by
  apply c23
  have := s49 19 stepB step_form (fun c b hf => s19 c b (form_lt hf)) c l hc h
  simp only [X23, mk_toAV, mk_eta, this, Option.bind_some, ti_0, ti_1, asAg_toAV, ten0, ten1, ten2, ten3, ten4, ten5, ten6, ten7, ten8, ten9]
  rfl
end
end R2

namespace R2
open Go Go.Proofs Sx

/-- A place within. -/
theorem rem_within (n len : Nat) (h1 : n < 65536) (h2 : len < 9223372036854775808) : ((binI .add (.int (len : Int)) (.int 1)).bind fun v4 => binI .rem (.int (n : Int)) v4) = some (.int ((n % (len + 1) : Nat) : Int)) := by
  by_cases h : len + 1 < 9223372036854775808
  · rw [int_add (by omega) (by omega)]
    simp only [Option.bind_some]
    rw [show ((len : Int) + 1) = ((len + 1 : Nat) : Int) by simp]
    exact int_rem_nat (by omega)
  · have e : len = 9223372036854775807 := by omega
    subst e
    rw [show binI .add (.int ((9223372036854775807 : Nat) : Int)) (.int 1) = some (.int (-9223372036854775808)) by rfl]
    simp only [Option.bind_some]
    rw [int_rem (by decide), Nat.mod_eq_of_lt (by omega), Int.tmod_neg, Int.tmod_eq_of_lt (by omega) (by omega)]
theorem split_laws (c : Ctx) (l : List UInt8) (n : Nat) (hn : n ≤ l.length) (hc : c.nm.length < 9223372036854775808) (h : l.length < 9223372036854775808) : ∃ A W B : Ctx × Int,
    semCall C Tryd.prog 23 [c.toAV, .ro 1 (l.map .u8)] = some (ti W) ∧ semCall C Tryd.prog 23 [c.toAV, .ro 1 ((l.take n).map .u8)] = some (ti A) ∧ semCall C Tryd.prog 23 [A.1.toAV, .ro 1 ((l.drop n).map .u8)] = some (ti B) ∧
    (0 ≤ A.2 → W = A ∧ A.1 = badC) ∧ (A.2 < 0 → W.1 = B.1 ∧ (B.2 < 0 → W.2 < 0) ∧ (0 ≤ B.2 → W.2 = B.2 + n)) ∧ B.2 < ((l.drop n).length : Int) ∧ -1 ≤ B.2 := by
  refine ⟨bytesB c (l.take n), bytesB c l, bytesB (bytesB c (l.take n)).1 (l.drop n), s23 c l hc h, s23 c _ hc (by simp; omega), s23 _ _ (form_lt (runL_form step_form _ _ _ (inF_form c))) (by simp; omega), split_bytes c l n hn _ _ _ rfl rfl rfl⟩
theorem rem26 (x : UInt8) : binI .rem (.u8 x) (.u8 26) = some (.u8 (x % 26)) := of_isU8 (all_u8 (p := fun x => isU8 (binI .rem (.u8 x) (.u8 26)) (x % 26)) (by kernel_rfl) x)
end R2

namespace R2
open Go Go.Proofs Sx

section
variable (c : Ctx) (b : UInt8)
theorem s28 : semCall C Tryd.prog 28 [c.toAV] = some (flat c).toAV := by
  apply c28
  simp only [X28, condM_b, ueq_eq]
  have key (nm : List UInt8) : F28_3 (semRun C Tryd.prog 28 Tryd.f28) c.st c.el c.en c.at' c.qu c.pa c.su c.es c.da nm 0 0 false 0 0 0 0 false 0 [] = some (Ctx.toAV ⟨c.st, c.el, c.en, 0, c.qu, 0, 0, false, c.da, nm⟩) := by
    apply r28_3
    rfl
  rw [key, key]
  unfold flat
  cases (c.st == 8) <;> rfl
theorem s27 (h : c.nm.length < 9223372036854775808) : semCall C Tryd.prog 27 [c.toAV, .u8 b] = some (plainB c b).toAV := by
  apply c27
  have hn : (flat c).nm.length < 9223372036854775808 := by
    unfold flat
    simp only
    split
    · decide
    · exact h
  simp only [X27, mk_toAV, mk_eta, sForm (h := h), Option.bind_some, unop_not, condM_b, s28, s40 _ _ _ hn, asAg_toAV, ten0, ten1, ten2, ten3, ten4, ten5, ten6, ten7, ten8, ten9]
  unfold plainB
  cases form c <;> rfl
theorem tag9_flat : flat (tag ⟨9, 0, true, 0, 0, 0, 0, false, 0, []⟩ b).1 = (tag ⟨9, 0, true, 0, 0, 0, 0, false, 0, []⟩ b).1 := by
  show flat (if blankB b then (⟨4, 0, true, 0, 0, 0, 0, false, 0, []⟩, false) else if b == 47 then (⟨10, 0, true, 0, 0, 0, 0, false, 0, []⟩, false) else if b == 62 then (tagEnd 0, false) else (badC, false) : Ctx × Bool).1 = (if blankB b then (⟨4, 0, true, 0, 0, 0, 0, false, 0, []⟩, false) else if b == 47 then (⟨10, 0, true, 0, 0, 0, 0, false, 0, []⟩, false) else if b == 62 then (tagEnd 0, false) else (badC, false) : Ctx × Bool).1
  cases blankB b <;> cases (b == 47) <;> cases (b == 62) <;> rfl
end

section
theorem s29 (c : Ctx) (l : List UInt8) (hc : c.nm.length < 9223372036854775808) (h : l.length < 9223372036854775808) : semCall C Tryd.prog 29 [c.toAV, .ro 1 (l.map .u8)] = some (ti (plainsB c l)) := by
  apply c29
  have := s49 27 plainB plain_form (fun c b hf => s27 c b (form_lt hf)) c l hc h
  simp only [X29, mk_toAV, mk_eta, this, Option.bind_some, ti_0, ti_1, asAg_toAV, ten0, ten1, ten2, ten3, ten4, ten5, ten6, ten7, ten8, ten9]
  rfl
theorem plain_badC (b : UInt8) : plainB badC b = badC := rfl
theorem run_badC (f : Ctx → UInt8 → Ctx) (hf : ∀ b, f badC b = badC) (l : List UInt8) : runL f badC l 0 = (badC, if 0 < l.length then 0 else -1) := by
  cases l with
  | nil => rfl
  | cons b r =>
    unfold runL
    rw [hf]; rfl
end
end R2

namespace R2
open Go Go.Proofs Sx

/-- A text and a number. -/
def ts (p : List UInt8 × Int) : AV := .tu [.s p.1, .int p.2]
def trailE (c : Ctx) : List UInt8 × Int := if form c then (if c.st == 20 then ([], 5) else (trail c, 0)) else ([], 1)
theorem ts_0 (p : List UInt8 × Int) : tupI (ts p) 0 = some (.s p.1) := rfl
theorem ts_1 (p : List UInt8 × Int) : tupI (ts p) 1 = some (.int p.2) := rfl
theorem s52 (el : UInt8) : semCall C Tryd.prog 52 [.u8 el] = some (.s (elemT el)) := by
  apply c52
  have hl := nameOf_len el
  simp only [X52, ueq_eq, condM_b, s77, Option.bind_some]
  unfold elemT
  cases (el == 0) with
  | true => rfl
  | false =>
    rw [if_neg (by simp), if_neg (by simp), s_add' (by simp; omega)]
    simp only [Option.bind_some]
    rw [s_add' (by simp; omega)]
    rfl
theorem s53 (c : Ctx) : semCall C Tryd.prog 53 [c.toAV] = some (.s (codeT c.su c.es (if c.st == 8 then c.at' == 2 else c.el == 3))) := by
  have f7 (t : List UInt8) (s : Bool) (ht : t.length ≤ 1) : F53_7 (semRun C Tryd.prog 53 Tryd.f53) t s c.st c.el c.en c.at' c.qu c.pa c.su c.es c.da c.nm = some (.s (if c.su == 1 then t ++ [34] else if c.su == 2 then t ++ [39] else if c.su == 3 then (if s then [47] else [120]) else if c.su == 5 then [42, 47] else if c.su == 6 then [47] else [])) := by
    apply r53_7
    simp only [X53_7, ueq_eq, condM_b]
    rw [s_add' (by simp; omega), s_add' (by simp; omega)]
    cases (c.su == 1) <;> cases (c.su == 2) <;> cases (c.su == 3) <;> cases (c.su == 5) <;> cases (c.su == 6) <;> cases s <;> rfl
  have f4 (t : List UInt8) (ht : t.length ≤ 1) : F53_4 (semRun C Tryd.prog 53 Tryd.f53) t c.st c.el c.en c.at' c.qu c.pa c.su c.es c.da c.nm = some (.s (if c.su == 1 then t ++ [34] else if c.su == 2 then t ++ [39] else if c.su == 3 then (if (if c.st == 8 then c.at' == 2 else c.el == 3) then [47] else [120]) else if c.su == 5 then [42, 47] else if c.su == 6 then [47] else [])) := by
    apply r53_4
    simp only [X53_4, ueq_eq, condM_b, f7 _ _ ht]
    cases (c.st == 8) <;> rfl
  apply c53
  simp only [X53, condM_b]
  rw [f4 [110] (by simp), f4 [] (by simp)]
  unfold codeT
  cases c.es <;> rfl
theorem s99 (l p : List UInt8) (h : pre p l = true) : semCall C Tryd.prog 99 [.s l, .s p] = some (.s (l.drop p.length)) := by
  apply c99
  simp only [X99, s98, h, Option.bind_some, condM_b, if_true]
  rw [slS_lo (pre_take h).2]
  rfl
theorem s78 (l p : List UInt8) (h : pre p l = true) : semCall C Tryd.prog 78 [.s l, .s p] = some (.s (l.drop p.length)) := by
  apply c78
  simp only [X78, s99 l p h, Option.bind_some]
theorem codeT_len (su : UInt8) (es s : Bool) : (codeT su es s).length ≤ 2 := by
  unfold codeT
  repeat' split
  all_goals simp
theorem backC_of {c : Ctx} (h : form c = true) (e : c.st = 19) (hs : (c.su == 0 || c.su == 4) = false) : (backC c).el = c.el ∧ ((backC c).st == 8) = false ∧ ((backC c).es = true → (backC c).su = 1 ∨ (backC c).su = 2) := by
  obtain ⟨su, es, hc, hl, hp, hu, hsu, h12⟩ := form_raw c h (by simp [e])
  obtain ⟨p1, p2⟩ := pre_take hp
  have hc : c = ⟨19, c.el, false, 0, 0, 0, su, es, 0, (nameOf c.el).take c.nm.length⟩ := by rw [e] at hc; rw [← p1]; exact hc
  have hk : c.nm.length ∈ List.range 9 := by have := nameOf_len c.el; simp; omega
  have hx := of_all (of_all (of_all (of_all chkB (mem_els (el5 h))) (mem_sus hu)) (mem_b es)) hk
  rw [← hc] at hx
  have hsu' : su = c.su := by rw [hc]
  rw [h, hsu', hs] at hx
  simp only [Bool.not_true, Bool.false_or, Bool.and_eq_true, Bool.or_eq_true, beq_iff_eq, bne_iff_ne, Bool.not_eq_true'] at hx
  refine ⟨hx.1.1, by simpa using hx.1.2, fun he => ?_⟩
  rcases hx.2 with (y | y) | y
  · rw [he] at y; cases y
  · exact .inl y
  · exact .inr y
theorem bytesB_ti (c : Ctx) (l : List UInt8) : (bytesB c l).1.toAV = (bytesB c l).1.toAV := rfl
theorem s54 (c : Ctx) (h : form c = true) (e : c.st = 17 ∨ c.st = 18 ∨ c.st = 19) : semCall C Tryd.prog 54 [c.toAV] = some (.s (trailR c)) := by
  have hn := form_nm c h
  have e8 : (c.st == 8) = false := by rcases e with x | x | x <;> rw [x] <;> rfl
  have hp : pre c.nm (nameOf c.el) = true := (form_raw c h e).choose_spec.choose_spec.2.2.1
  have l1 := codeT_len c.su c.es (c.el == 3)
  have l2 := elemT_len c.el
  have l3 := nameOf_len c.el
  apply c54
  simp only [X54, une_eq, ueq_eq, condM_b, selW_or, mk_toAV, mk_eta, s53, s52, s77, s78 _ _ hp, e8, Option.bind_some, Bool.false_eq_true, if_false]
  rw [s_add' (by omega), s_add' (by simp; omega), s_add' (by simp; omega)]
  simp only [Option.bind_some, show s2b (.s ([47] ++ c.nm)) = some (.ro 1 ((47 :: c.nm).map .u8)) from rfl]
  unfold trailR
  cases h19 : (c.st == 19) with
  | false =>
    have hne : (c.st != 19) = true := by unfold bne; rw [h19]; rfl
    simp only [hne, if_true]
  | true =>
    have hne : (c.st != 19) = false := by unfold bne; rw [h19]; rfl
    simp only [hne, Bool.false_eq_true, if_false]
    cases hsu : (c.su == 0 || c.su == 4) with
    | true => rfl
    | false =>
      obtain ⟨b1, b2, b3⟩ := backC_of h (eq_of_beq h19) hsu
      rw [if_neg (by decide), if_neg (by decide), s23 _ (47 :: c.nm) (by show 0 < 9223372036854775808; decide) (by simp; omega)]
      simp only [Option.bind_some, ti_0, ti_1, asAg_toAV, ten0, ten1, ten2, ten3, ten4, ten5, ten6, ten7, ten8, ten9, mk_toAV, mk_eta, s53]
      show (binS .add (.s (codeT (backC c).su (backC c).es (if (backC c).st == 8 then (backC c).at' == 2 else (backC c).el == 3))) (.s (elemT c.el))).bind _ = _
      rw [b2, b1]
      have l4 := codeT_len (backC c).su (backC c).es (c.el == 3)
      rw [if_neg (by decide), s_add' (by omega)]
      rfl
theorem one_b2s (x : UInt8) : b2s (.ro 1 [.u8 x]) = some (.s [x]) := b2s_one x
theorem s34 (c : Ctx) (hc : c.nm.length < 9223372036854775808) : semCall C Tryd.prog 34 [c.toAV] = some (ts (trailE c)) := by
  apply c34
  simp only [X34, ueq_eq, condM_b, mk_toAV, mk_eta, sForm (h := hc), Option.bind_some, unop_not, s26, s52]
  unfold trailE
  cases h : form c with
  | false => rfl
  | true =>
    have l2 := elemT_len c.el
    have l3 := elemT_len (elOf c.nm)
    have lc := codeT_len c.su c.es (c.at' == 2)
    have f16 : F34_16 (semRun C Tryd.prog 34 Tryd.f34) = some (ts ([62], 0)) := by apply r34_16; rfl
    have f20 : F34_20 (semRun C Tryd.prog 34 Tryd.f34) = some (ts ([45, 45, 62], 0)) := by apply r34_20; rfl
    have f38 : F34_38 (semRun C Tryd.prog 34 Tryd.f34) = some (ts ([], 0)) := by apply r34_38; rfl
    have f26 : F34_26 (semRun C Tryd.prog 34 Tryd.f34) c.st c.el c.en c.at' c.qu c.pa c.su c.es c.da c.nm = some (ts (62 :: elemT c.el, 0)) := by
      apply r34_26
      simp only [X34_26, s52, Option.bind_some]
      rw [s_add' (by simp; omega)]
      rfl
    have f37 (e : c.st = 17 ∨ c.st = 18 ∨ c.st = 19) : F34_37 (semRun C Tryd.prog 34 Tryd.f34) c.st c.el c.en c.at' c.qu c.pa c.su c.es c.da c.nm = some (ts (trailR c, 0)) := by
      apply r34_37
      simp only [X34_37, mk_toAV, mk_eta, s54 c h e, Option.bind_some]
      rfl
    have f33 (q : List UInt8) (hq : q.length ≤ 1) (e : (c.st == 8) = true) : F34_33 (semRun C Tryd.prog 34 Tryd.f34) (.s q) c.st c.el c.en c.at' c.qu c.pa c.su c.es c.da c.nm = some (ts (codeT c.su c.es (c.at' == 2) ++ (q ++ 62 :: elemT c.el), 0)) := by
      apply r34_33
      simp only [X34_33, mk_toAV, mk_eta, s53, s52, e, if_true, Option.bind_some]
      rw [s_add' (by omega)]
      simp only [Option.bind_some]
      rw [s_add' (by simp; omega)]
      simp only [Option.bind_some]
      rw [s_add' (by simp; omega)]
      simp only [Option.bind_some, List.append_assoc, List.singleton_append]
      rfl
    have f27 : F34_27 (semRun C Tryd.prog 34 Tryd.f34) c.st c.st c.el c.en c.at' c.qu c.pa c.su c.es c.da c.nm = some (ts (if c.st == 7 then 34 :: 34 :: 62 :: elemT c.el else if c.st == 8 then codeT c.su c.es (c.at' == 2) ++ (quoteT c.qu ++ 62 :: elemT c.el) else if c.st == 17 || c.st == 18 || c.st == 19 then trailR c else [], 0)) := by
      apply r34_27
      simp only [X34_27, ueq_eq, une_eq, condM_b, s52, one_b2s, Option.bind_some, f38]
      rw [s_add' (by simp; omega)]
      by_cases h7 : (c.st == 7) = true
      · rw [if_pos h7, if_pos h7]; rfl
      rw [if_neg h7, if_neg h7]
      by_cases h8 : (c.st == 8) = true
      · rw [if_pos h8, if_pos h8, f33 [c.qu] (by simp) h8, f33 [] (by simp) h8]
        unfold quoteT
        cases (c.qu != 0) <;> rfl
      rw [if_neg h8, if_neg h8]
      by_cases h17 : (c.st == 17) = true
      · rw [if_pos h17, f37 (.inl (eq_of_beq h17)), h17]; rfl
      rw [if_neg h17]
      by_cases h18 : (c.st == 18) = true
      · rw [if_pos h18, f37 (.inr (.inl (eq_of_beq h18))), h18, Bool.or_true]; rfl
      rw [if_neg h18]
      by_cases h19 : (c.st == 19) = true
      · rw [if_pos h19, f37 (.inr (.inr (eq_of_beq h19))), h19, Bool.or_true]; rfl
      rw [if_neg h19, Bool.eq_false_iff.2 h17, Bool.eq_false_iff.2 h18, Bool.eq_false_iff.2 h19]; rfl
    have f21 : F34_21 (semRun C Tryd.prog 34 Tryd.f34) c.st c.st c.el c.en c.at' c.qu c.pa c.su c.es c.da c.nm = some (ts (if c.st == 4 || c.st == 5 || c.st == 6 || c.st == 9 || c.st == 10 then 62 :: elemT c.el else if c.st == 7 then 34 :: 34 :: 62 :: elemT c.el else if c.st == 8 then codeT c.su c.es (c.at' == 2) ++ (quoteT c.qu ++ 62 :: elemT c.el) else if c.st == 17 || c.st == 18 || c.st == 19 then trailR c else [], 0)) := by
      apply r34_21
      simp only [X34_21, ueq_eq, condM_b, f26, f27]
      cases (c.st == 4) <;> cases (c.st == 5) <;> cases (c.st == 6) <;> cases (c.st == 9) <;> cases (c.st == 10) <;> rfl
    have f17 : F34_17 (semRun C Tryd.prog 34 Tryd.f34) c.st c.st c.el c.en c.at' c.qu c.pa c.su c.es c.da c.nm = some (ts (if c.st == 13 || c.st == 14 || c.st == 15 then [45, 45, 62] else if c.st == 4 || c.st == 5 || c.st == 6 || c.st == 9 || c.st == 10 then 62 :: elemT c.el else if c.st == 7 then 34 :: 34 :: 62 :: elemT c.el else if c.st == 8 then codeT c.su c.es (c.at' == 2) ++ (quoteT c.qu ++ 62 :: elemT c.el) else if c.st == 17 || c.st == 18 || c.st == 19 then trailR c else [], 0)) := by
      apply r34_17
      simp only [X34_17, ueq_eq, condM_b, f20, f21]
      cases (c.st == 13) <;> cases (c.st == 14) <;> cases (c.st == 15) <;> rfl
    simp only [Bool.not_true, Bool.false_eq_true, if_false, if_true, f16, f17]
    rw [s_add' (by simp; omega)]
    unfold trail
    cases (c.st == 20) <;> cases (c.st == 1) <;> cases (c.st == 3) <;> cases (c.st == 2) <;> cases (c.st == 11) <;> cases (c.st == 12) <;> cases (c.st == 16) <;> cases c.en <;> rfl
theorem s33 : semCall C Tryd.prog 33 [] = some (.b true) := by
  apply c33
  have h : trailE ⟨15, 0, false, 0, 0, 0, 0, false, 0, []⟩ = ([45, 45, 62], 0) := by rfl
  simp only [X33, mk_toAV, s34 ⟨15, 0, false, 0, 0, 0, 0, false, 0, []⟩ (show 0 < 9223372036854775808 by decide), h, ts_0, ts_1, Option.bind_some, int_eql, s_eql, selW_and]
  rfl
end R2

namespace R2
open Go Go.Proofs Sx

theorem asAv (r : Rd) : AV.ag [.u8 r.c.st, .u8 r.c.el, .b r.c.en, .u8 r.c.at', .u8 r.c.qu, .u8 r.c.pa, .u8 r.c.su, .b r.c.es, .u8 r.c.da, .s r.c.nm, .ro 1 (r.text.map .u8), .ro 1 (r.pend.map .u8), .b r.op, .u8 r.kind, .s r.name, .ro 2 (r.attrs.map pairAV), .s r.data, .un, .b false] = r.av := rfl
theorem s59 (t : Tok) (l : List Tok) (h : l.length ≤ 1000000000) : semCall C Tryd.prog 59 [t.av, .un, outAV l] = some (.tu [.b true, outAV (l ++ [t])]) := by
  apply c59
  have : app 64 4 (l.map Tok.av) (.ro 4 [.ag [.u8 t.kind, .s t.name, t.atAV, .s t.data]]) = some ((l ++ [t]).map Tok.av) := by
    simp only [app, AV.items, if_true, Option.bind_some, List.length_map, List.length_cons, List.length_nil]
    rw [if_pos (by have : big = 70368744177664 := by decide
                   omega)]
    simp [Tok.av]
  simp only [X59, this, Option.bind_some]
  rfl
theorem s104 (r : Rd) (t : Tok) (A : AV) (h : r.out.length ≤ 1000000000) : semCall C Tryd.prog 104 [.un, t.av, r.av' A, outAV r.out] = some ((r.give t).bk' A) := by
  apply c104
  have := s59 t r.out h
  simp only [Tok.av, outAV] at this
  simp only [X104, this, Option.bind_some, tu2_0, tu2_1, asAg1, n1_0, elems_ro, unop_not, condM_b, Bool.not_true, Bool.not_false, Bool.false_eq_true, if_true, if_false]
  rfl
theorem s80 (r : Rd) (A : AV) (h : r.out.length ≤ 1000000000) (h2 : r.text.length ≤ 1000000000) : semCall C Tryd.prog 80 [.un, r.av' A, outAV r.out] = some (r.flush.bk' A) := by
  apply c80
  simp only [X80, condM_b, List.length_map, gt_iff_lt]
  cases ht : r.text with
  | nil =>
    rw [if_neg (by simp)]
    apply r80_2
    simp only [X80_2]
    simp [Rd.bk', Rd.av', Rd.flush, outAV, ht]
  | cons x l =>
    rw [if_pos (by simp)]
    have hb : b2s (.ro 1 ((x :: l).map .u8)) = some (.s (x :: l)) := b2s_u8 (by rw [← ht]; exact Nat.le_trans h2 (by decide))
    have hg := s104 r ⟨0, [], [], x :: l, true⟩ A h
    simp only [Rd.av', ht] at hg
    rw [hb]
    simp only [Option.bind_some, one_s]
    rw [show AV.ag [.u8 0, .s [], .nils, .s (x :: l)] = Tok.av ⟨0, [], [], x :: l, true⟩ from rfl]
    simp only [outAV] at hg
    rw [hg]
    simp only [Rd.bk', Rd.av', outAV, Option.bind_some, tu3_0, tu3_1, tu3_2, asAg19, asAg1, n1_0, elems_ro, n19_0, n19_1, n19_2, n19_3, n19_4, n19_5, n19_6, n19_7, n19_8, n19_9, n19_10, n19_11, n19_12, n19_13, n19_14, n19_15, n19_16, n19_17, n19_18]
    apply r80_2
    simp only [X80_2]
    simp [Rd.bk', Rd.av', Rd.flush, Rd.give, outAV, ht]
theorem s109 (r : Rd) (more : List UInt8) (h : r.text.length + r.pend.length + more.length ≤ 1000000000) : semCall C Tryd.prog 109 [.un, .ro 1 (more.map .u8), r.av, outAV r.out] = some (r.settle more).bk := by
  apply c109
  have e1 : app 1 1 (r.text.map .u8) (.ro 1 (r.pend.map .u8)) = some ((r.text ++ r.pend).map .u8) := app_u8 (Nat.le_trans (by omega) (show 1000000000 ≤ big by decide))
  have e2 : app 1 1 ((r.text ++ r.pend).map .u8) (.ro 1 (more.map .u8)) = some ((r.text ++ r.pend ++ more).map .u8) := app_u8 (Nat.le_trans (by simp; omega) (show 1000000000 ≤ big by decide))
  simp only [X109, e1, e2, Option.bind_some]
  rfl
theorem s109' (r : Rd) (h : r.text.length + r.pend.length ≤ 1000000000) : semCall C Tryd.prog 109 [.un, .nils, r.av, outAV r.out] = some (r.settle []).bk := by
  apply c109
  have e1 : app 1 1 (r.text.map .u8) (.ro 1 (r.pend.map .u8)) = some ((r.text ++ r.pend).map .u8) := app_u8 (Nat.le_trans (by omega) (show 1000000000 ≤ big by decide))
  have e2 : app 1 1 ((r.text ++ r.pend).map .u8) .nils = some ((r.text ++ r.pend ++ []).map .u8) := by
    simp only [app, AV.items, Option.bind_some, List.length_map, List.length_append, List.length_nil]
    rw [if_pos (by have : big = 70368744177664 := by decide
                   omega)]
    simp
  simp only [X109, e1, e2, Option.bind_some]
  rfl
theorem s110 (r : Rd) (k : UInt8) (name data : List UInt8) (h : r.out.length ≤ 1000000000) (h2 : r.text.length ≤ 1000000000) : semCall C Tryd.prog 110 [.un, .u8 k, .s name, .s data, r.av, outAV r.out] = some (r.begin' k name data).bk := by
  apply c110
  have hf := s80 r (.ro 2 (r.attrs.map pairAV)) h h2
  simp only [Rd.av', outAV] at hf
  simp only [X110, hf]
  simp only [Rd.bk', Rd.av', outAV, Option.bind_some, tu3_0, tu3_1, tu3_2, asAg19, asAg1, n1_0, elems_ro, n19_0, n19_1, n19_2, n19_3, n19_4, n19_5, n19_6, n19_7, n19_8, n19_9, n19_10, n19_11, n19_12, n19_13, n19_14, n19_15, n19_16, n19_17, n19_18]
  rfl
theorem s111 (r : Rd) (h : r.out.length ≤ 1000000000) : semCall C Tryd.prog 111 [.un, r.av, outAV r.out] = some r.fin.bk := by
  apply c111
  simp only [X111, condM_b]
  cases ho : r.op with
  | false =>
    simp only [Bool.false_eq_true, if_false]
    apply r111_2
    simp only [X111_2]
    simp [Rd.bk, Rd.av, Rd.av', Rd.fin, outAV, ho]
  | true =>
    simp only [if_true]
    have hg := s104 r ⟨r.kind, r.name, r.attrs, r.data, false⟩ (.ro 2 (r.attrs.map pairAV)) h
    simp only [Rd.av', ho, outAV] at hg
    rw [show AV.ag [.u8 r.kind, .s r.name, .ro 2 (r.attrs.map pairAV), .s r.data] = Tok.av ⟨r.kind, r.name, r.attrs, r.data, false⟩ from rfl]
    rw [hg]
    simp only [Rd.bk', Rd.av', outAV, Option.bind_some, tu3_0, tu3_1, tu3_2, asAg19, asAg1, n1_0, elems_ro, n19_0, n19_1, n19_2, n19_3, n19_4, n19_5, n19_6, n19_7, n19_8, n19_9, n19_10, n19_11, n19_12, n19_13, n19_14, n19_15, n19_16, n19_17, n19_18]
    apply r111_2
    simp only [X111_2]
    simp [Rd.bk, Rd.av, Rd.av', Rd.fin, Rd.give, outAV, ho]
end R2

namespace R2
open Go Go.Proofs Sx

/-- Is there room? -/
def room (r : Rd) : Prop := r.text.length + r.pend.length + 1 ≤ 1000000000 ∧ r.out.length + 1 ≤ 1000000000 ∧ r.data.length + 1 ≤ 1000000000 ∧ r.attrs.length + 1 ≤ 1000000000 ∧ ∀ p ∈ r.attrs, p.2.length + 1 ≤ 1000000000
theorem s_add9 {p q : List UInt8} (h : p.length + q.length ≤ 1000000000) : binS .add (.s p) (.s q) = some (.s (p ++ q)) := s_add (Nat.le_trans h (by decide))
theorem s100 (r : Rd) (f : Ctx) (b : UInt8) (h : room r) : semCall C Tryd.prog 100 [.un, f.toAV, .u8 b, r.av, outAV r.out] = some (r.dataR f b).bk := by
  apply c100
  obtain ⟨g1, g2, _⟩ := h
  have hb := s110 r
  have hs := s109' r (by omega)
  have ht := s109 r [b] (by simpa using g1)
  simp only [Rd.av, Rd.av', Rd.bk, outAV, List.map_cons, List.map_nil] at hb hs ht
  have app1 : app 1 1 (r.pend.map .u8) (.ro 1 [.u8 b]) = some ((r.pend ++ [b]).map .u8) := app_u8 (m := [b]) (Nat.le_trans (by simp; omega) (show 1000000000 ≤ big by decide))
  simp only [X100, ueq_eq, condM_b, b2s_one, hs, ht, app1, Option.bind_some, tu3_0, tu3_1, tu3_2, asAg19, asAg1, n1_0, elems_ro, n19_0, n19_1, n19_2, n19_3, n19_4, n19_5, n19_6, n19_7, n19_8, n19_9, n19_10, n19_11, n19_12, n19_13, n19_14, n19_15, n19_16, n19_17, n19_18]
  unfold Rd.dataR
  cases h1 : (r.c.st == 1) with
  | true =>
    simp only [if_true]
    cases h2 : (f.st == 1) with
    | true => simp only [if_true]; apply r100_5; rfl
    | false => simp only [Bool.false_eq_true, if_false]; apply r100_5; rfl
  | false =>
  simp only [Bool.false_eq_true, if_false]
  cases h3 : (r.c.st == 2) with
  | true => rfl
  | false =>
  simp only [Bool.false_eq_true, if_false]
  cases h4 : (r.c.st == 3) with
  | true =>
    simp only [if_true]
    cases h5 : r.c.en with
    | true =>
      simp only [if_true]
      apply r100_12
      have := hb 2 r.c.nm [] (by omega) (by omega)
      rw [h5] at this
      simp only [X100_12, this, Option.bind_some, tu3_0, tu3_1, tu3_2, asAg19, asAg1, n1_0, elems_ro, n19_0, n19_1, n19_2, n19_3, n19_4, n19_5, n19_6, n19_7, n19_8, n19_9, n19_10, n19_11, n19_12, n19_13, n19_14, n19_15, n19_16, n19_17, n19_18]
      simp [Rd.bk, Rd.av, Rd.av', outAV, Rd.begin', Rd.flush]
    | false =>
      simp only [Bool.false_eq_true, if_false]
      apply r100_12
      have := hb 1 r.c.nm [] (by omega) (by omega)
      rw [h5] at this
      simp only [X100_12, this, Option.bind_some, tu3_0, tu3_1, tu3_2, asAg19, asAg1, n1_0, elems_ro, n19_0, n19_1, n19_2, n19_3, n19_4, n19_5, n19_6, n19_7, n19_8, n19_9, n19_10, n19_11, n19_12, n19_13, n19_14, n19_15, n19_16, n19_17, n19_18]
      simp [Rd.bk, Rd.av, Rd.av', outAV, Rd.begin', Rd.flush]
  | false =>
  simp only [Bool.false_eq_true, if_false]
  cases h5 : (r.c.st == 11) with
  | true =>
    simp only [if_true, hb 4 [] [] (by omega) (by omega), Option.bind_some, tu3_0, tu3_1, tu3_2, asAg19, asAg1, n1_0, elems_ro, n19_0, n19_1, n19_2, n19_3, n19_4, n19_5, n19_6, n19_7, n19_8, n19_9, n19_10, n19_11, n19_12, n19_13, n19_14, n19_15, n19_16, n19_17, n19_18]
    rfl
  | false =>
  simp only [Bool.false_eq_true, if_false]
  cases h6 : (r.c.st == 16) with
  | true =>
    simp only [if_true, hb 4 [] [b] (by omega) (by omega), Option.bind_some, tu3_0, tu3_1, tu3_2, asAg19, asAg1, n1_0, elems_ro, n19_0, n19_1, n19_2, n19_3, n19_4, n19_5, n19_6, n19_7, n19_8, n19_9, n19_10, n19_11, n19_12, n19_13, n19_14, n19_15, n19_16, n19_17, n19_18]
    rfl
  | false =>
  simp only [Bool.false_eq_true, if_false]
  cases h7 : (r.c.st == 0) with
  | true =>
    simp only [if_true]
    cases h8 : (f.st == 2) with
    | true => rfl
    | false => rfl
  | false => rfl
theorem s101 (r : Rd) (f : Ctx) (b : UInt8) (h : room r) : semCall C Tryd.prog 101 [.un, f.toAV, .u8 b, r.av, outAV r.out] = some (r.rawR f b).bk := by
  apply c101
  obtain ⟨g1, g2, _⟩ := h
  have hb := s110 r 2 f.nm [] (by omega) (by omega)
  have he := s111 (r.begin' 2 f.nm []) (by simp only [Rd.begin', Rd.flush]; split <;> (try simp) <;> omega)
  have hs := s109' r (by omega)
  have ht := s109 r [b] (by simpa using g1)
  simp only [Rd.av, Rd.av', Rd.bk, outAV, List.map_cons, List.map_nil] at hb hs ht he
  have app1 : app 1 1 (r.pend.map .u8) (.ro 1 [.u8 b]) = some ((r.pend ++ [b]).map .u8) := app_u8 (m := [b]) (Nat.le_trans (by simp; omega) (show 1000000000 ≤ big by decide))
  have key : F101_12 (semRun C Tryd.prog 101 Tryd.f101) f.st f.el f.en f.at' f.qu f.pa f.su f.es f.da f.nm r.c.st r.c.el r.c.en r.c.at' r.c.qu r.c.pa r.c.su r.c.es r.c.da r.c.nm (r.text.map .u8) (r.pend.map .u8) r.op r.kind r.name (r.attrs.map pairAV) r.data false (r.out.map Tok.av) = some (r.rawE f).bk := by
    apply r101_12
    simp only [X101_12, hb, Option.bind_some, tu3_0, tu3_1, tu3_2, asAg19, asAg1, n1_0, elems_ro, n19_0, n19_1, n19_2, n19_3, n19_4, n19_5, n19_6, n19_7, n19_8, n19_9, n19_10, n19_11, n19_12, n19_13, n19_14, n19_15, n19_16, n19_17, n19_18]
    rw [show (r.begin' 2 f.nm []).c.st = r.c.st from rfl] at he ⊢
    rw [u8_eql]
    simp only [Option.bind_some, condM_b]
    unfold Rd.rawE
    cases h0 : (r.c.st == 0) with
    | true => simp only [if_true, he, Option.bind_some, tu3_0, tu3_1, tu3_2, asAg19, asAg1, n1_0, elems_ro, n19_0, n19_1, n19_2, n19_3, n19_4, n19_5, n19_6, n19_7, n19_8, n19_9, n19_10, n19_11, n19_12, n19_13, n19_14, n19_15, n19_16, n19_17, n19_18]; rfl
    | false => rfl
  simp only [X101, ueq_eq, condM_b, hs, ht, app1, key, Option.bind_some, tu3_0, tu3_1, tu3_2, asAg19, asAg1, n1_0, elems_ro, n19_0, n19_1, n19_2, n19_3, n19_4, n19_5, n19_6, n19_7, n19_8, n19_9, n19_10, n19_11, n19_12, n19_13, n19_14, n19_15, n19_16, n19_17, n19_18]
  unfold Rd.rawR
  cases h1 : (r.c.st == 17) <;> cases h2 : (r.c.st == 18) <;> cases h3 : (r.c.st == 19) <;> cases h4 : (r.c.st == 4) <;> cases h5 : (r.c.st == 10) <;> cases h6 : (r.c.st == 0) <;> rfl
end R2

namespace R2
open Go Go.Proofs Sx

theorem s102 (r : Rd) (f : Ctx) (b : UInt8) (h : room r) (hn : r.c.st = 0 → f.st = 15 → 2 ≤ r.data.length) : semCall C Tryd.prog 102 [.un, f.toAV, .u8 b, r.av, outAV r.out] = some (r.noteR f b).bk := by
  apply c102
  obtain ⟨g1, g2, g3, _⟩ := h
  have key (d : List UInt8) : F102_3 (semRun C Tryd.prog 102 Tryd.f102) r.c.st r.c.el r.c.en r.c.at' r.c.qu r.c.pa r.c.su r.c.es r.c.da r.c.nm (r.text.map .u8) (r.pend.map .u8) r.op r.kind r.name (r.attrs.map pairAV) (.s d) false (r.out.map Tok.av) = some ({ r with data := d }.fin).bk := by
    apply r102_3
    have he := s111 { r with data := d } (by show r.out.length ≤ _; omega)
    simp only [Rd.av, Rd.av', Rd.bk, outAV] at he
    simp only [X102_3, he, Option.bind_some, tu3_0, tu3_1, tu3_2, asAg19, asAg1, n1_0, elems_ro, n19_0, n19_1, n19_2, n19_3, n19_4, n19_5, n19_6, n19_7, n19_8, n19_9, n19_10, n19_11, n19_12, n19_13, n19_14, n19_15, n19_16, n19_17, n19_18]
    rfl
  have hadd : binS .add (.s r.data) (.s [b]) = some (.s (r.data ++ [b])) := s_add9 (by simpa using g3)
  simp only [X102, ueq_eq, une_eq, condM_b, b2s_one, hadd, one_s, key, Option.bind_some, tu3_0, tu3_1, tu3_2, asAg19, asAg1, n1_0, elems_ro, n19_0, n19_1, n19_2, n19_3, n19_4, n19_5, n19_6, n19_7, n19_8, n19_9, n19_10, n19_11, n19_12, n19_13, n19_14, n19_15, n19_16, n19_17, n19_18]
  unfold Rd.noteR
  cases h1 : (r.c.st == 13) with
  | true => rfl
  | false =>
  simp only [Bool.false_eq_true, if_false]
  cases h2 : (r.c.st != 0) with
  | true => rfl
  | false =>
  simp only [Bool.false_eq_true, if_false]
  cases h3 : (f.st == 15) with
  | true =>
    have e0 : r.c.st = 0 := by simpa using h2
    have hl := hn e0 (by simpa using h3)
    have : slS (.s r.data) none (some (.int (w64 ((r.data.length : Int) - 2)))) = some (.s (r.data.take (r.data.length - 2))) := by
      rw [w64_eq (by omega) (by omega), show ((r.data.length : Int) - 2) = ((r.data.length - 2 : Nat) : Int) by omega]
      exact slS_hi (by omega)
    simp only [if_true, this, Option.bind_some, one_s, key]
  | false => rfl
theorem getD_pairs (l : List (List UInt8 × List UInt8)) (n : Nat) (h : n < l.length) : (l.map pairAV).getD n .un = pairAV (l.getD n ([], [])) := by
  simp [List.getD_eq_getElem?_getD, h]
theorem onLast_pairs (l : List (List UInt8 × List UInt8)) (g : List UInt8 × List UInt8 → List UInt8 × List UInt8) : (l.map pairAV).set (l.length - 1) (pairAV (g (l.getD (l.length - 1) ([], [])))) = (onLast g l).map pairAV := by
  simp [onLast, List.map_set]
theorem s103 (r : Rd) (f : Ctx) (b : UInt8) (h : room r) (hn : r.c.st = 5 → f.st = 5 → r.attrs ≠ []) (hv : r.c.st = 8 → (f.st == 8 || r.c.qu == 0) = true → r.attrs ≠ []) : semCall C Tryd.prog 103 [.un, f.toAV, .u8 b, r.av, outAV r.out] = some (r.tagR f b).bk := by
  apply c103
  obtain ⟨g1, g2, g3, g4, g5⟩ := h
  have he := s111 r (by omega)
  simp only [Rd.av, Rd.av', Rd.bk, outAV] at he
  have key15 : F103_15 (semRun C Tryd.prog 103 Tryd.f103) r.c.st r.c.el r.c.en r.c.at' r.c.qu r.c.pa r.c.su r.c.es r.c.da r.c.nm (r.text.map .u8) (r.pend.map .u8) r.op r.kind r.name (r.attrs.map pairAV) r.data false (r.out.map Tok.av) = some r.fin.bk := by
    apply r103_15
    simp only [X103_15, he, Option.bind_some, tu3_0, tu3_1, tu3_2, asAg19, asAg1, n1_0, elems_ro, n19_0, n19_1, n19_2, n19_3, n19_4, n19_5, n19_6, n19_7, n19_8, n19_9, n19_10, n19_11, n19_12, n19_13, n19_14, n19_15, n19_16, n19_17, n19_18]
    rfl
  have key9 (l : List (List UInt8 × List UInt8)) (hl : l ≠ []) (hl2 : l.length ≤ 1000000001) : F103_9 (semRun C Tryd.prog 103 Tryd.f103) (l.length : Int) r.c.st r.c.el r.c.en r.c.at' r.c.qu r.c.pa r.c.su r.c.es r.c.da r.c.nm (r.text.map .u8) (r.pend.map .u8) r.op r.kind r.name (l.map pairAV) r.data false (r.out.map Tok.av) = some ({ r with attrs := onLast (fun p => (r.c.nm, p.2)) l } : Rd).bk := by
    apply r103_9
    have hp : 0 < l.length := List.length_pos_iff.2 hl
    have e1 : inN (l.map pairAV).length (.int (w64 ((l.length : Int) - 1))) = some (l.length - 1) := by
      rw [w64_eq (by omega) (by omega), show ((l.length : Int) - 1) = ((l.length - 1 : Nat) : Int) by omega]
      exact inN_int (by simp; omega)
    simp only [X103_9, e1, Option.bind_some]
    rw [getD_pairs _ _ (by omega)]
    have e2 := onLast_pairs l (fun p => (r.c.nm, p.2))
    simp only [pairAV] at e2
    simp only [pairAV, AV.cell, Rd.bk, Rd.av, Rd.av', outAV]
    rw [← e2]
    rfl
  simp only [X103, ueq_eq, une_eq, condM_b, key15, selW_or, Option.bind_some, tu3_0, tu3_1, tu3_2, asAg19, asAg1, n1_0, elems_ro, n19_0, n19_1, n19_2, n19_3, n19_4, n19_5, n19_6, n19_7, n19_8, n19_9, n19_10, n19_11, n19_12, n19_13, n19_14, n19_15, n19_16, n19_17, n19_18]
  unfold Rd.tagR
  cases h1 : (r.c.st == 3) with
  | true => rfl
  | false =>
  simp only [Bool.false_eq_true, if_false]
  cases h2 : (r.c.st == 5) with
  | true =>
    simp only [if_true]
    cases h3 : (f.st != 5) with
    | true =>
      simp only [if_true]
      have e1 : app 32 2 (r.attrs.map pairAV) (.ro 2 [.ag [.s [], .s []]]) = some ((r.attrs ++ [([], [])]).map pairAV) := by
        simp only [app, AV.items, if_true, Option.bind_some, List.length_map, List.length_cons, List.length_nil]
        rw [if_pos (by have : big = 70368744177664 := by decide
                       omega)]
        simp [pairAV]
      have := key9 (r.attrs ++ [([], [])]) (by simp) (by simp; omega)
      simp only [e1, Option.bind_some, List.length_map]
      rw [w64_eq (by omega) (by omega), show ((r.attrs.length : Int) + 1) = (((r.attrs ++ [(([] : List UInt8), ([] : List UInt8))]).length : Nat) : Int) by simp, this]
    | false =>
      simp only [Bool.false_eq_true, if_false, List.length_map]
      exact key9 r.attrs (hn (by simpa using h2) (by simpa using h3)) (by omega)
  | false =>
  simp only [Bool.false_eq_true, if_false]
  cases h3 : (r.c.st == 8) with
  | true =>
    simp only [if_true]
    cases h4 : (f.st == 8 || r.c.qu == 0) with
    | true =>
      simp only [if_true]
      have hl := hv (by simpa using h3) h4
      have hp : 0 < r.attrs.length := List.length_pos_iff.2 hl
      have e1 : inN (r.attrs.map pairAV).length (.int (w64 ((r.attrs.length : Int) - 1))) = some (r.attrs.length - 1) := by
        rw [w64_eq (by omega) (by omega), show ((r.attrs.length : Int) - 1) = ((r.attrs.length - 1 : Nat) : Int) by omega]
        exact inN_int (by simp; omega)
      have e2 := onLast_pairs r.attrs (fun p => (p.1, p.2 ++ [b]))
      simp only [pairAV] at e2
      have hm : (r.attrs.getD (r.attrs.length - 1) ([], [])) ∈ r.attrs := by
        rw [List.getD_eq_getElem?_getD, List.getElem?_eq_getElem (by omega)]
        exact List.getElem_mem _
      have e3 : binS .add (.s (r.attrs.getD (r.attrs.length - 1) ([], [])).2) (.s [b]) = some (.s ((r.attrs.getD (r.attrs.length - 1) ([], [])).2 ++ [b])) := s_add9 (by have := g5 _ hm; simpa using this)
      simp only [List.length_map] at e1 ⊢
      simp only [e1, Option.bind_some, b2s_one]
      rw [getD_pairs _ _ (by omega)]
      simp only [pairAV, AV.cell, List.getD_cons_zero, List.getD_cons_succ, e3, Option.bind_some, one_s]
      simp only [Rd.bk, Rd.av, Rd.av', outAV]
      rw [← e2]
    | false => rfl
  | false =>
  simp only [Bool.false_eq_true, if_false]
  cases h4 : (r.c.st == 0) <;> cases h5 : (r.c.st == 17) <;> rfl
end R2

namespace R2
open Go Go.Proofs Sx

theorem k79_7 (r : Rd) (f : Ctx) (b : UInt8) (h : room r) : F79_7 (semRun C Tryd.prog 79 Tryd.f79) b f.st f.el f.en f.at' f.qu f.pa f.su f.es f.da f.nm (.u8 r.c.st) (.u8 r.c.el) (.b r.c.en) (.u8 r.c.at') (.u8 r.c.qu) (.u8 r.c.pa) (.u8 r.c.su) (.b r.c.es) (.u8 r.c.da) (.s r.c.nm) (r.text.map .u8) (r.pend.map .u8) r.op r.kind r.name (r.attrs.map pairAV) r.data false (r.out.map Tok.av) = some (r.dataR f b).bk := by
  apply r79_7
  have he := s100 r f b h
  simp only [Rd.av, Rd.av', Rd.bk, outAV] at he
  simp only [X79_7, ← mk_toAV, cx]
  simp only [Ctx.toAV, cx] at he
  simp only [he, Option.bind_some, tu3_0, tu3_1, tu3_2, asAg19, asAg1, n1_0, elems_ro, n19_0, n19_1, n19_2, n19_3, n19_4, n19_5, n19_6, n19_7, n19_8, n19_9, n19_10, n19_11, n19_12, n19_13, n19_14, n19_15, n19_16, n19_17, n19_18]
  rfl
theorem k79_11 (r : Rd) (f : Ctx) (b : UInt8) (h : room r) : F79_11 (semRun C Tryd.prog 79 Tryd.f79) b f.st f.el f.en f.at' f.qu f.pa f.su f.es f.da f.nm (.u8 r.c.st) (.u8 r.c.el) (.b r.c.en) (.u8 r.c.at') (.u8 r.c.qu) (.u8 r.c.pa) (.u8 r.c.su) (.b r.c.es) (.u8 r.c.da) (.s r.c.nm) (r.text.map .u8) (r.pend.map .u8) r.op r.kind r.name (r.attrs.map pairAV) r.data false (r.out.map Tok.av) = some (r.rawR f b).bk := by
  apply r79_11
  have he := s101 r f b h
  simp only [Rd.av, Rd.av', Rd.bk, outAV] at he
  simp only [X79_11, ← mk_toAV, cx]
  simp only [Ctx.toAV, cx] at he
  simp only [he, Option.bind_some, tu3_0, tu3_1, tu3_2, asAg19, asAg1, n1_0, elems_ro, n19_0, n19_1, n19_2, n19_3, n19_4, n19_5, n19_6, n19_7, n19_8, n19_9, n19_10, n19_11, n19_12, n19_13, n19_14, n19_15, n19_16, n19_17, n19_18]
  rfl
theorem k79_18 (r : Rd) (f : Ctx) (b : UInt8) (h : room r) (hn : r.c.st = 0 → f.st = 15 → 2 ≤ r.data.length) : F79_18 (semRun C Tryd.prog 79 Tryd.f79) b f.st f.el f.en f.at' f.qu f.pa f.su f.es f.da f.nm (.u8 r.c.st) (.u8 r.c.el) (.b r.c.en) (.u8 r.c.at') (.u8 r.c.qu) (.u8 r.c.pa) (.u8 r.c.su) (.b r.c.es) (.u8 r.c.da) (.s r.c.nm) (r.text.map .u8) (r.pend.map .u8) r.op r.kind r.name (r.attrs.map pairAV) r.data false (r.out.map Tok.av) = some (r.noteR f b).bk := by
  apply r79_18
  have he := s102 r f b h hn
  simp only [Rd.av, Rd.av', Rd.bk, outAV] at he
  simp only [X79_18, ← mk_toAV, cx]
  simp only [Ctx.toAV, cx] at he
  simp only [he, Option.bind_some, tu3_0, tu3_1, tu3_2, asAg19, asAg1, n1_0, elems_ro, n19_0, n19_1, n19_2, n19_3, n19_4, n19_5, n19_6, n19_7, n19_8, n19_9, n19_10, n19_11, n19_12, n19_13, n19_14, n19_15, n19_16, n19_17, n19_18]
  rfl
theorem k79_3 (r : Rd) (f : Ctx) (b : UInt8) (h : room r) (hn : r.c.st = 5 → f.st = 5 → r.attrs ≠ []) (hv : r.c.st = 8 → (f.st == 8 || r.c.qu == 0) = true → r.attrs ≠ []) : F79_3 (semRun C Tryd.prog 79 Tryd.f79) b f.st f.el f.en f.at' f.qu f.pa f.su f.es f.da f.nm (.u8 r.c.st) (.u8 r.c.el) (.b r.c.en) (.u8 r.c.at') (.u8 r.c.qu) (.u8 r.c.pa) (.u8 r.c.su) (.b r.c.es) (.u8 r.c.da) (.s r.c.nm) (r.text.map .u8) (r.pend.map .u8) r.op r.kind r.name (r.attrs.map pairAV) r.data false (r.out.map Tok.av) = some (r.tagR f b).bk := by
  apply r79_3
  have he := s103 r f b h hn hv
  simp only [Rd.av, Rd.av', Rd.bk, outAV] at he
  simp only [X79_3, ← mk_toAV, cx]
  simp only [Ctx.toAV, cx] at he
  simp only [he, Option.bind_some, tu3_0, tu3_1, tu3_2, asAg19, asAg1, n1_0, elems_ro, n19_0, n19_1, n19_2, n19_3, n19_4, n19_5, n19_6, n19_7, n19_8, n19_9, n19_10, n19_11, n19_12, n19_13, n19_14, n19_15, n19_16, n19_17, n19_18]
  rfl
theorem s79 (r : Rd) (b : UInt8) (n : Nat) (h : Good r n) (hn : n ≤ 100000000) : semCall C Tryd.prog 79 [.un, .u8 b, r.av, outAV r.out] = some (r.take b).bk := by
  apply c79
  obtain ⟨g0, g5, g8⟩ := good_room h b
  have hrm : room { r with c := plainB r.c b } := ⟨by show r.text.length + r.pend.length + 1 ≤ _; have := h.tx; omega, by show r.out.length + 1 ≤ _; have := h.ot; omega, by show r.data.length + 1 ≤ _; have := h.dt; omega, by show r.attrs.length + 1 ≤ _; have := h.al; omega, fun p hp => by have := h.av p hp; omega⟩
  have hp := s27 r.c b (form_lt h.fm)
  simp only [Ctx.toAV, cx] at hp
  have k7 := k79_7 { r with c := plainB r.c b } r.c b hrm
  have k11 := k79_11 { r with c := plainB r.c b } r.c b hrm
  have k18 := k79_18 { r with c := plainB r.c b } r.c b hrm g0
  have k3 := k79_3 { r with c := plainB r.c b } r.c b hrm g5 (fun e _ => g8 e)
  dsimp only at k7 k11 k18 k3
  simp only [X79, hp, Option.bind_some, asAg_ten, ten0, ten1, ten2, ten3, ten4, ten5, ten6, ten7, ten8, ten9, ueq_eq, condM_b, k7]
  unfold Rd.take Rd.take1
  cases e0 : (r.c.st == 0) with
  | true => rfl
  | false =>
  simp only [Bool.false_eq_true, if_false, Bool.false_or]
  cases e1 : (r.c.st == 1) with
  | true => rfl
  | false =>
  simp only [Bool.false_eq_true, if_false, Bool.false_or]
  cases e2 : (r.c.st == 2) with
  | true => rfl
  | false =>
  simp only [Bool.false_eq_true, if_false]
  apply r79_8
  simp only [X79_8, ueq_eq, condM_b, k11]
  cases e3 : (r.c.st == 17) with
  | true => rfl
  | false =>
  simp only [Bool.false_eq_true, if_false, Bool.false_or]
  cases e4 : (r.c.st == 18) with
  | true => rfl
  | false =>
  simp only [Bool.false_eq_true, if_false, Bool.false_or]
  cases e5 : (r.c.st == 19) with
  | true => rfl
  | false =>
  simp only [Bool.false_eq_true, if_false]
  apply r79_12
  simp only [X79_12, ueq_eq, condM_b, k18, k3]
  cases e6 : (r.c.st == 11) <;> cases e7 : (r.c.st == 12) <;> cases e8 : (r.c.st == 13) <;> cases e9 : (r.c.st == 14) <;> cases e10 : (r.c.st == 15) <;> cases e11 : (r.c.st == 16) <;> rfl
/-- What is left in the reader's variable by 'run'. -/
def runAV (r : Rd) (at' : Int) (A : AV) : AV := .tu [.int at', r.av' A, outAV r.out]
theorem l60 : ∀ (l p : List UInt8) (r : Rd), (p ++ l).length ≤ 10000000 → Good r p.length → ∃ A,
    F60_2 (semRun C Tryd.prog 60 Tryd.f60) (.ro 1 ((p ++ l).map .u8)) (.int (((p ++ l).map AV.u8).length : Int)) (p.length : Int) (.u8 r.c.st) (.u8 r.c.el) (.b r.c.en) (.u8 r.c.at') (.u8 r.c.qu) (.u8 r.c.pa) (.u8 r.c.su) (.b r.c.es) (.u8 r.c.da) (.s r.c.nm) (r.text.map .u8) (r.pend.map .u8) (.b r.op) (.u8 r.kind) (.s r.name) (r.attrs.map pairAV) (.s r.data) (.b false) (r.out.map Tok.av) = some (runAV (r.run l (p.length : Int)).1 (r.run l (p.length : Int)).2 A)
  | [], p, r, hp, h => by
    refine ⟨.ro 2 (r.attrs.map pairAV), ?_⟩
    apply r60_2
    have hf := s80 { r with pend := [] } (.ro 2 (r.attrs.map pairAV)) (by show r.out.length ≤ _; have := h.ot; simp at hp; omega) (by show r.text.length ≤ _; have := h.tx; simp at hp; omega)
    simp only [Rd.av', Rd.bk', outAV, List.map_nil] at hf
    simp only [X60_2, int_lss, nlt_map, Option.bind_some, condM_b, Bool.false_eq_true, if_false, List.append_nil, hf, Option.bind_some, tu3_0, tu3_1, tu3_2, asAg19, asAg1, n1_0, elems_ro, n19_0, n19_1, n19_2, n19_3, n19_4, n19_5, n19_6, n19_7, n19_8, n19_9, n19_10, n19_11, n19_12, n19_13, n19_14, n19_15, n19_16, n19_17, n19_18]
    rfl
  | b :: l, p, r, hp, h => by
    have hi : idx 1 (.ro 1 ((p ++ b :: l).map .u8)) (.int (p.length : Int)) = some (.u8 b) := idx_at p b l
    have ht := s79 r b p.length h (by simp at hp; omega)
    simp only [Rd.av, Rd.av', Rd.bk, outAV] at ht
    cases h20 : ((r.take b).c.st == 20) with
    | true =>
      refine ⟨.ro 2 ((r.take b).attrs.map pairAV), ?_⟩
      apply r60_2
      simp only [X60_2, int_lss, lt_len', hi, cell_u8, w64_inc p b l (by simp at hp ⊢; omega), Option.bind_some, condM_b, Bool.false_eq_true, if_false, if_true, ht, Option.bind_some, tu3_0, tu3_1, tu3_2, asAg19, asAg1, n1_0, elems_ro, n19_0, n19_1, n19_2, n19_3, n19_4, n19_5, n19_6, n19_7, n19_8, n19_9, n19_10, n19_11, n19_12, n19_13, n19_14, n19_15, n19_16, n19_17, n19_18, u8_eql, h20]
      unfold Rd.run
      rw [if_pos h20]
      rfl
    | false =>
      obtain ⟨A, hA⟩ := l60 l (p ++ [b]) (r.take b) (by rw [← snoc_app]; exact hp) (by have := good_take h b (by simpa using h20); simpa using this)
      refine ⟨A, ?_⟩
      apply r60_2
      simp only [X60_2, int_lss, lt_len', hi, cell_u8, w64_inc p b l (by simp at hp ⊢; omega), Option.bind_some, condM_b, Bool.false_eq_true, if_false, if_true, ht, Option.bind_some, tu3_0, tu3_1, tu3_2, asAg19, asAg1, n1_0, elems_ro, n19_0, n19_1, n19_2, n19_3, n19_4, n19_5, n19_6, n19_7, n19_8, n19_9, n19_10, n19_11, n19_12, n19_13, n19_14, n19_15, n19_16, n19_17, n19_18, u8_eql, h20]
      rw [← snoc_app] at hA
      rw [hA]
      conv => rhs; unfold Rd.run
      rw [if_neg (by simp [h20]), snoc_len p b]
theorem s39 (l : List UInt8) (h : l.length ≤ 10000000) : semCall C Tryd.prog 39 [.ro 1 (l.map .u8)] = some (.tu [.ro 4 ((tokAll l).1.map Tok.av), (tokAll l).2.1.toAV, .int (tokAll l).2.2]) := by
  apply c39
  obtain ⟨A, hA⟩ := l60 l [] Rd.new h good_new
  have hr : semCall C Tryd.prog 60 [.un, .ro 1 (l.map .u8), Rd.new.av, outAV []] = some (runAV (Rd.new.run l 0).1 (Rd.new.run l 0).2 A) := by
    apply c60
    simp only [X60, lenR_ro, Option.bind_some]
    exact hA
  simp only [Rd.av, Rd.av', Rd.new, st1, outAV, List.map_nil] at hr
  simp only [X39, hr, runAV, Rd.av', outAV, Option.bind_some, tu3_0, tu3_1, tu3_2, asAg19, asAg1, n1_0, elems_ro, n19_0, n19_1, n19_2, n19_3, n19_4, n19_5, n19_6, n19_7, n19_8, n19_9, n19_10, n19_11, n19_12, n19_13, n19_14, n19_15, n19_16, n19_17, n19_18]
  rfl
end R2

namespace R2
open Go Go.Proofs Sx

theorem trailE_ok (c : Ctx) (h : form c = true) (h20 : c.st ≠ 20) : trailE c = (trail c, 0) := by
  unfold trailE
  rw [if_pos h, if_neg (by simpa using h20)]
theorem run_cases (l : List UInt8) : ((bytesB (st1 0) l).2 = -1 ∧ form (bytesB (st1 0) l).1 = true ∧ okV (bytesB (st1 0) l).1 = true ∧ (bytesB (st1 0) l).1.st ≠ 20) ∨ (0 ≤ (bytesB (st1 0) l).2 ∧ (bytesB (st1 0) l).1 = badC) := by
  by_cases h : (bytesB (st1 0) l).2 = -1
  · exact .inl ⟨h, text_okV l _ (Prod.ext rfl h)⟩
  · refine .inr ⟨?_, ?_⟩
    · have := (runL_shift stepB l (st1 0) 0).2.2.2.1
      have e : bytesB (st1 0) l = runL stepB (st1 0) l 0 := rfl
      rw [e] at h ⊢
      omega
    · exact runL_bad step_form l _ 0 (Int.le_refl _) h
theorem s36 (l : List UInt8) (h : l.length ≤ 2000000) : semCall C Tryd.prog 36 [.ro 1 (l.map .u8)] = some (if 0 ≤ (bytesB (st1 0) l).2 then .tu [.nils, .int 5] else .tu [.ro 1 ((l ++ trail (bytesB (st1 0) l).1).map .u8), .int 0]) := by
  apply c36
  have s1 := s23 (st1 0) l (by decide) (by omega)
  have hz : (⟨0, 0, false, 0, 0, 0, 0, false, 0, []⟩ : Ctx) = st1 0 := rfl
  have hbig : (3000000 : Nat) ≤ big := by decide
  simp only [X36, Option.bind_some, condM_b, mk_toAV, hz, s1, ti_0, ti_1, asAg_toAV, ten0, ten1, ten2, ten3, ten4, ten5, ten6, ten7, ten8, ten9, int_geq]
  rcases run_cases l with ⟨h1, h2, h3, h4⟩ | ⟨h1, h2⟩
  · have e2 := (ends_bytes _ h2 h3 h4).2
    have a1 : app 1 1 [] (.ro 1 (l.map .u8)) = some (l.map .u8) := app_u8 (l := []) (m := l) (by simp; omega)
    rw [if_neg (by rw [h1]; decide), if_neg (by rw [h1]; decide)]
    simp only [mk_eta, s34 _ (form_lt h2), trailE_ok _ h2 h4, ts_0, ts_1, Option.bind_some, int_neq, bne_self_eq_false, condM_b, Bool.false_eq_true, if_false, a1]
    rw [app_s (by omega)]
    rfl
  · rw [if_pos (by simpa using h1), if_pos h1]
theorem comp3_0 (a b c : AV) : AV.comp (.tu [a, b, c]) 0 = a := rfl
theorem comp3_1 (a b c : AV) : AV.comp (.tu [a, b, c]) 1 = b := rfl
theorem comp3_2 (a b c : AV) : AV.comp (.tu [a, b, c]) 2 = c := rfl
theorem tu2_0' (a b : AV) : tupI (.tu [a, b]) 0 = some a := rfl
theorem tu2_1' (a b : AV) : tupI (.tu [a, b]) 1 = some b := rfl
theorem law17 (l : List UInt8) (h : l.length ≤ 1048576) : semCall C Tryd.prog 17 [.ro 1 (l.map .u8)] = some (.b true) := by
  apply c17
  have hbig : (3000000 : Nat) ≤ big := by decide
  have s1 := s23 (st1 0) l (by decide) (by omega)
  have sE := s36 l (by omega)
  have hz : (⟨0, 0, false, 0, 0, 0, 0, false, 0, []⟩ : Ctx) = st1 0 := rfl
  rcases run_cases l with ⟨h1, h2, h3, h4⟩ | ⟨h1, h2⟩
  · have e2 := ends_bytes _ h2 h3 h4
    rw [if_neg (by rw [h1]; decide)] at sE
    have hr : bytesB (st1 0) (l ++ trail (bytesB (st1 0) l).1) = (st1 0, -1) := by
      have hs := split_bytes (st1 0) (l ++ trail (bytesB (st1 0) l).1) l.length (by simp) _ _ _ rfl rfl rfl
      rw [List.take_left, List.drop_left, e2.1, h1] at hs
      obtain ⟨_, hs, _⟩ := hs
      obtain ⟨k1, k2, k3⟩ := hs (by decide)
      have k4 := (runL_shift stepB (l ++ trail (bytesB (st1 0) l).1) (st1 0) 0).2.2.2.1
      have k5 := k2 (by decide)
      refine Prod.ext k1 ?_
      have e : bytesB (st1 0) (l ++ trail (bytesB (st1 0) l).1) = runL stepB (st1 0) (l ++ trail (bytesB (st1 0) l).1) 0 := rfl
      rw [e] at k5 ⊢
      show _ = (-1 : Int)
      omega
    have ho : (l ++ trail (bytesB (st1 0) l).1).length ≤ 2000000 := by simp; omega
    generalize hout : l ++ trail (bytesB (st1 0) l).1 = out at sE hr ho
    have hfl : plainsB (st1 0) out = (st1 0, -1) := run_flat out (st1 0) 0 (st1 0) rfl (Int.le_refl _) hr
    have hc := tokAll_ctx out
    rw [hfl] at hc
    have s3 := s23 (st1 0) out (by decide) (by omega)
    rw [hr] at s3
    have sT := s39 out (by omega)
    rw [hc] at sT
    have eq : binAg [.i, .i, .b, .i, .i, .i, .i, .b, .i, .s] .eql (st1 0).toAV (st1 0).toAV = some (.b true) := by rw [eq_toAV]; simp
    have hn : decide ((-1 : Int) ≥ 0) = false := by decide
    have hge : decide ((out.length : Int) ≥ (l.length : Int)) = true := by rw [← hout]; simp <;> omega
    have sl : slR 1 (.ro 1 (out.map .u8)) none (some (.int (l.length : Int))) = some (.ro 1 (l.map .u8)) := by
      show ((if 1 = 1 then ((upN (out.map AV.u8).length (.int (l.length : Int))).bind fun h => some (0, h)).bind fun p => some (AV.ro 1 (((out.map AV.u8).take p.2).drop p.1)) else none)) = _
      rw [if_pos rfl]
      have : upN (out.map AV.u8).length (.int (l.length : Int)) = some l.length := by
        show (if 0 ≤ (l.length : Int) ∧ (l.length : Int) ≤ ((out.map AV.u8).length : Int) then some (l.length : Int).toNat else none) = _
        rw [if_pos ⟨by omega, by rw [← hout]; simp <;> omega⟩]; simp
      rw [this]
      simp only [Option.bind_some, List.drop_zero, ← hout, List.map_append]
      rw [List.take_left' (by simp)]
    simp only [X17, s33, Option.bind_some, unop_not, Bool.not_true, condM_b, Bool.false_eq_true, if_false, mk_toAV, hz, sE, tu2_0', tu2_1', s1, ti_0, ti_1, asAg_toAV, int_geq, h1, hn, s3, sT, comp3_0, comp3_1, comp3_2, ten0, ten1, ten2, ten3, ten4, ten5, ten6, ten7, ten8, ten9, int_eql, beq_self_eq_true, selW_and, Bool.and_self, Bool.true_and, lenR_ro, List.length_map, hge, sl, b2s_u8 (l := l) (by omega), s_eql, if_true]
    simp only [eq, Option.bind_some, selW_and, Bool.and_self, beq_self_eq_true]
  · rw [if_pos h1] at sE
    have hge : decide ((bytesB (st1 0) l).2 ≥ 0) = true := by simpa using h1
    simp only [X17, s33, Option.bind_some, unop_not, Bool.not_true, condM_b, Bool.false_eq_true, if_false, mk_toAV, hz, sE, tu2_0', tu2_1', s1, ti_0, ti_1, asAg_toAV, int_geq, hge, if_true, int_eql, beq_self_eq_true]
    rfl
end R2
