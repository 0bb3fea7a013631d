/-
  What the functions of chapter 9 compute, and the five laws of chapter 9 on plain data.
-/
import Derived.Test.YtbnblklbfighgaaSxD
import Derived.Test.YtbnblklbfighgaaTxtB
set_option linter.unusedVariables false
set_option linter.unusedSimpArgs false
set_option linter.unusedSectionVars false
set_option linter.unnecessarySimpa false
namespace R1
open Go Go.Proofs Sx

/-- JavaScript or CSS? -/
def coded (st el at' : UInt8) : Bool := st == 8 && (at' == 2 || at' == 3) || (decide (17 ≤ st) && decide (st ≤ 19)) && (el == 3 || el == 4)
/-- An element's name. -/
def nameOf (el : UInt8) : List UInt8 :=
  if el = 1 then [116, 101, 120, 116, 97, 114, 101, 97] else if el = 2 then [116, 105, 116, 108, 101] else if el = 3 then [115, 99, 114, 105, 112, 116] else if el = 4 then [115, 116, 121, 108, 101] else []

section
variable (st el : UInt8) (en : Bool) (at' qu pa su : UInt8) (es : Bool) (da : UInt8) (nm : List UInt8)

theorem nlt (n : UInt8) : (20 < n) → ¬ n = 0 ∧ ¬ n = 1 ∧ ¬ n = 2 ∧ ¬ n = 3 ∧ ¬ n = 4 ∧ ¬ n = 5 ∧ ¬ n = 6 ∧ ¬ n = 7 ∧ ¬ n = 8 ∧ ¬ n = 9 ∧ ¬ n = 10 ∧ ¬ n = 11 ∧ ¬ n = 12 ∧ ¬ n = 13 ∧ ¬ n = 14 ∧ ¬ n = 15 ∧ ¬ n = 16 ∧ ¬ n = 17 ∧ ¬ n = 18 ∧ ¬ n = 19 := by
  intro h
  refine ⟨?_, ?_, ?_, ?_, ?_, ?_, ?_, ?_, ?_, ?_, ?_, ?_, ?_, ?_, ?_, ?_, ?_, ?_, ?_, ?_⟩ <;> (rintro rfl; revert h; decide)

theorem s31 : semCall C Try.prog 31 [cx st el en at' qu pa su es da nm] = some (.b (coded st el at')) := by
  apply c31
  simp only [X31, ueq_eq, une_eq, ult_eq, ule_eq, ugt_eq, uge_eq, Option.bind_some, selW_and, selW_or, condM_b, w64_u8, ge_iff_le, coded]
  simp only [i_beq _ _ (show 8 < 256 by decide), i_ge _ _ (show 17 < 256 by decide), i_le _ _ (show 19 < 256 by decide)]

theorem l44 (n : Nat) : ∀ (r p : List UInt8), (p ++ r).length < 9223372036854775808 → low p = true → F44_2 (semRun C Try.prog 44 Try.f44) (p ++ r) (n : Int) (p.length : Int) = some (.b (small (p ++ r) n))
  | [], p, h, hp => by
    apply r44_2
    simp only [X44_2, nlt_len, nlt_self, List.append_nil, Option.bind_some, condM_b, Bool.false_eq_true, if_false, selW_and, small, hp, Bool.true_and, gt_iff_lt]
    congr 3
    rw [decide_eq_decide]; omega
  | c :: r, p, h, hp => by
    apply r44_2
    simp only [X44_2, lt_len, idxS_at, w64_inc p c r h, u8_geq, u8_leq, Option.bind_some, condM_b, if_true, selW_and]
    cases hc : (decide (65 ≤ c) && decide (c ≤ 90)) with
    | true =>
      have : low (p ++ c :: r) = false := by simp only [low, List.all_append, List.all_cons, hc, Bool.not_true, Bool.false_and, Bool.and_false]
      simp [small, this]
    | false =>
      simp only [Bool.false_eq_true, if_false]
      rw [snoc_app]
      exact l44 n r (p ++ [c]) (by rw [← snoc_app]; exact h) (by simp only [low, List.all_append, List.all_cons, List.all_nil, hc] at hp ⊢; simpa using hp)
theorem s44 (n : Nat) (h : nm.length < 9223372036854775808) : semCall C Try.prog 44 [.s nm, .int (n : Int)] = some (.b (small nm n)) := by
  apply c44
  exact l44 n nm [] h rfl
theorem l41 (n : Nat) : ∀ (r p : List UInt8), (p ++ r).length < 9223372036854775808 → low p = true → F41_2 (semRun C Try.prog 41 Try.f41) (p ++ r) (n : Int) ((p ++ r).length : Int) (p.length : Int) = some (.b (small (p ++ r) n))
  | [], p, h, hp => by
    apply r41_2
    simp only [X41_2, nlt_len, nlt_self, List.append_nil, Option.bind_some, condM_b, Bool.false_eq_true, if_false, selW_and, small, hp, Bool.true_and, ge_iff_le]
    congr 3
    rw [decide_eq_decide]; omega
  | c :: r, p, h, hp => by
    apply r41_2
    simp only [X41_2, lt_len, idxS_at, w64_inc p c r h, u8_geq, u8_leq, Option.bind_some, condM_b, if_true, selW_and]
    cases hc : (decide (65 ≤ c) && decide (c ≤ 90)) with
    | true =>
      have : low (p ++ c :: r) = false := by simp only [low, List.all_append, List.all_cons, hc, Bool.not_true, Bool.false_and, Bool.and_false]
      simp [small, this]
    | false =>
      simp only [Bool.false_eq_true, if_false]
      rw [snoc_app]
      exact l41 n r (p ++ [c]) (by rw [← snoc_app]; exact h) (by simp only [low, List.all_append, List.all_cons, List.all_nil, hc] at hp ⊢; simpa using hp)
theorem s41 (n : Nat) (h : nm.length < 9223372036854775808) : semCall C Try.prog 41 [.s nm, .int (n : Int)] = some (.b (small nm n)) := by
  apply c41
  simp only [X41]
  exact l41 n nm [] h rfl

theorem s36 : semCall C Try.prog 36 [.u8 el] = some (.s (nameOf el)) := by
  apply c36
  refine of_isStr ?_
  revert el
  exact all_u8 (by kernel_rfl)
theorem s37 : semCall C Try.prog 37 [.int el.toNat] = some (.s (nameOf el)) := by
  apply c37
  refine of_isStr ?_
  revert el
  exact all_u8 (by kernel_rfl)
theorem s49 (l p : List UInt8) : semCall C Try.prog 49 [.s l, .s p] = some (.b (pre p l)) := by
  apply c49
  simp only [X49, Option.bind_some, ge_iff_le]
  by_cases h : p.length ≤ l.length
  · rw [slS_hi h]
    simp [pre, h]
  · have : decide ((p.length : Int) ≤ (l.length : Int)) = false := by simp; omega
    rw [this, selW_tf]
    simp [pre, h]
theorem s46 (l p : List UInt8) : semCall C Try.prog 46 [.s l, .s p] = some (.b (pre p l)) := by
  apply c46
  simp only [X46, s49, Option.bind_some]

/-- Are Sub and Esc such as can be? -/
def subOk (su : UInt8) (es script : Bool) : Bool := (script || su != 4) && (!es || su == 1 || su == 2)
theorem s48 (b : Bool) : semCall C Try.prog 48 [cx st el en at' qu pa su es da nm, .b b] = some (.b (subOk su es b)) := by
  apply c48
  simp only [X48, ueq_eq, une_eq, ult_eq, ule_eq, ugt_eq, uge_eq, Option.bind_some, selW_and, selW_or, condM_b, subOk]
  cases b <;> by_cases h : su = 4 <;> simp [h]
theorem s45 : semCall C Try.prog 45 [cx st el en at' qu pa su es da nm] = some (.b ((su == 1 || su == 2) && !es)) := by
  apply c45
  simp [X45]
end
end R1

namespace R1
open Go Go.Proofs Sx

def isTag (st : UInt8) : Bool := decide (4 ≤ st) && decide (st ≤ 10)
def isRaw (st : UInt8) : Bool := decide (17 ≤ st) && decide (st ≤ 19)
/-- Is a context in form? -/
def form (c : Ctx) : Bool :=
  if decide (20 < c.st) || decide (4 < c.el) || decide (4 < c.at') || decide (5 < c.pa) || decide (6 < c.su) || decide (2 < c.da) then false
  else if (c.el != 0 && !isTag c.st && !isRaw c.st) || (isRaw c.st && c.el == 0) then false
  else if c.en && ((c.st != 3 && !isTag c.st) || c.el != 0) then false
  else if c.at' != 0 && c.st != 7 && c.st != 8 then false
  else if c.qu != 0 && (c.st != 8 || (c.qu != 34 && c.qu != 39)) then false
  else if c.pa != 0 && (c.st != 8 || c.at' != 1) then false
  else if c.da != 0 && c.st != 15 then false
  else if (c.su != 0 && !coded c.st c.el c.at') || (((c.st == 8 && c.at' == 3) || (isRaw c.st && c.el == 4)) && c.su == 4) then false
  else if c.es && c.su != 1 && c.su != 2 then false
  else if c.st == 3 || c.st == 5 || c.st == 6 then small c.nm 32
  else if c.st == 8 && c.at' == 1 && c.pa == 1 then small c.nm 16
  else if c.st == 19 then pre c.nm (nameOf c.el)
  else c.nm == []

section
variable (st el : UInt8) (en : Bool) (at' qu pa su : UInt8) (es : Bool) (da : UInt8) (nm : List UInt8)

theorem some_ite {c : Bool} {a b : Bool} : (if c = true then some (AV.b a) else some (AV.b b)) = some (.b (if c = true then a else b)) := by cases c <;> rfl

theorem s24 (h : nm.length < 9223372036854775808) : semCall C Try.prog 24 [cx st el en at' qu pa su es da nm] = some (.b (form ⟨st, el, en, at', qu, pa, su, es, da, nm⟩)) := by
  apply c24
  have e1 : semCall C Try.prog 44 [.s nm, .int 32] = some (.b (small nm 32)) := s44 nm 32 h
  have e2 : semCall C Try.prog 44 [.s nm, .int 16] = some (.b (small nm 16)) := s44 nm 16 h
  simp only [X24, cxeq, Bool.and_true, ueq_eq, une_eq, ult_eq, ule_eq, ugt_eq, uge_eq, Option.bind_some, selW_and, selW_or, condM_b, s31, e1, e2, s37, lenS_s, s_eql, w64_u8, ge_iff_le, gt_iff_lt, unop_not, int_leq]
  simp only [i_beq _ _ (show 3 < 256 by decide), i_beq _ _ (show 5 < 256 by decide), i_beq _ _ (show 6 < 256 by decide), i_beq _ _ (show 8 < 256 by decide), i_beq _ _ (show 19 < 256 by decide), i_bne _ _ (show 3 < 256 by decide), i_bne _ _ (show 7 < 256 by decide), i_bne _ _ (show 8 < 256 by decide), i_bne _ _ (show 15 < 256 by decide),
    i_ge _ _ (show 17 < 256 by decide), i_le _ _ (show 19 < 256 by decide), i_ge _ _ (show 4 < 256 by decide), i_le _ _ (show 10 < 256 by decide), i_gt _ _ (show 20 < 256 by decide)]
  have e3 : (selW (.b (decide ((nm.length : Int) ≤ ((nameOf el).length : Int)))) true ((slS (.s (nameOf el)) none (some (.int (nm.length : Int)))).bind fun v90 => (binS .eql v90 (.s nm)).bind fun v91 => some v91) (.b false)) = some (.b (pre nm (nameOf el))) := by
    by_cases hl : nm.length ≤ (nameOf el).length
    · rw [slS_hi hl]; simp [pre, hl]
    · have : decide ((nm.length : Int) ≤ ((nameOf el).length : Int)) = false := by simp; omega
      rw [this, selW_tf]; simp [pre, hl]
  rw [e3]
  simp only [Option.bind_some, some_ite, form, isTag, isRaw]

section two
variable (st1 el1 : UInt8) (en1 : Bool) (at1 qu1 pa1 su1 : UInt8) (es1 : Bool) (da1 : UInt8) (nm1 : List UInt8)
theorem f42_14 : F42_14 (semRun C Try.prog 42 Try.f42) st el en at' qu pa su es da nm st1 el1 en1 at1 qu1 pa1 su1 es1 da1 nm1 =
    some (.b (cxeq ⟨st, el, en, at', qu, pa, su, es, da, nm⟩ ⟨st1, el1, en1, at1, qu1, pa1, su1, es1, da1, nm1⟩)) := by
  apply r42_14
  simp only [X42_14, cxeq, Bool.and_true, ueq_eq, une_eq, ult_eq, ule_eq, ugt_eq, uge_eq, Option.bind_some, selW_and, selW_or, condM_b, Option.bind_some]
theorem f42_12 : F42_12 (semRun C Try.prog 42 Try.f42) st el en at' qu pa su es da nm st1 el1 en1 at1 qu1 pa1 su1 es1 da1 nm1 =
    some (.b (cxeq ⟨st, el, en, at', qu, pa, su, es, da, nm⟩ ⟨st1, el1, en1, at1, qu1, pa1, su, es, da1, nm1⟩ && subOk su es (at' == 2))) := by
  apply r42_12
  simp only [X42_12, cxeq, Bool.and_true, ueq_eq, une_eq, ult_eq, ule_eq, ugt_eq, uge_eq, Option.bind_some, selW_and, selW_or, condM_b, s48, selW_and]
theorem f43_6 : F43_6 (semRun C Try.prog 43 Try.f43) st el en at' qu pa su es da nm st1 el1 en1 at1 qu1 pa1 su1 es1 da1 nm1 =
    some (.b (cxeq ⟨st, el, en, at', qu, pa, su, es, da, nm⟩ ⟨st1, el1, en1, at1, qu1, pa1, su1, es1, da1, nm1⟩ && (el != 0) && pre nm (nameOf el) && subOk su es (el == 3))) := by
  apply r43_6
  simp only [X43_6, cxeq, Bool.and_true, ueq_eq, une_eq, ult_eq, ule_eq, ugt_eq, uge_eq, Option.bind_some, selW_and, selW_or, condM_b, s48, s36, s46, selW_and]
theorem f43_4 : F43_4 (semRun C Try.prog 43 Try.f43) st el en at' qu pa su es da nm st1 el1 en1 at1 qu1 pa1 su1 es1 da1 nm1 =
    some (.b (cxeq ⟨st, el, en, at', qu, pa, su, es, da, nm⟩ ⟨st1, el1, en1, at1, qu1, pa1, if (el == 3 || el == 4) = true then su else su1, if (el == 3 || el == 4) = true then es else es1, da1, nm1⟩ && (el != 0) && pre nm (nameOf el) && subOk su es (el == 3))) := by
  apply r43_4
  simp only [X43_4, cxeq, Bool.and_true, ueq_eq, une_eq, ult_eq, ule_eq, ugt_eq, uge_eq, Option.bind_some, selW_and, selW_or, condM_b, f43_6, condM_b]
  split <;> rfl
theorem s43 : semCall C Try.prog 43 [cx st el en at' qu pa su es da nm] =
    some (.b (cxeq ⟨st, el, en, at', qu, pa, su, es, da, nm⟩ ⟨st, el, false, 0, 0, 0, if (el == 3 || el == 4) = true then su else 0, if (el == 3 || el == 4) = true then es else false, 0, if (st == 19) = true then nm else []⟩ && (el != 0) && pre nm (nameOf el) && subOk su es (el == 3))) := by
  apply c43
  simp only [X43, cxeq, Bool.and_true, ueq_eq, une_eq, ult_eq, ule_eq, ugt_eq, uge_eq, Option.bind_some, selW_and, selW_or, condM_b, f43_4, condM_b]
  split <;> rfl
def valOk (c t : Ctx) : Bool :=
  if (c.qu != 0 && c.qu != 34 && c.qu != 39) = true then false
  else if (c.at' == 1) = true then (if (c.pa == 1) = true then cxeq c ⟨t.st, t.el, t.en, c.at', c.qu, c.pa, t.su, t.es, t.da, c.nm⟩ && small c.nm 16 else cxeq c ⟨t.st, t.el, t.en, c.at', c.qu, c.pa, t.su, t.es, t.da, t.nm⟩)
  else if (c.at' == 2 || c.at' == 3) = true then cxeq c ⟨t.st, t.el, t.en, c.at', c.qu, t.pa, c.su, c.es, t.da, t.nm⟩ && subOk c.su c.es (c.at' == 2)
  else cxeq c ⟨t.st, t.el, t.en, c.at', c.qu, t.pa, t.su, t.es, t.da, t.nm⟩
theorem s42 (h : nm.length < 9223372036854775808) : semCall C Try.prog 42 [cx st el en at' qu pa su es da nm, cx st1 el1 en1 at1 qu1 pa1 su1 es1 da1 nm1] =
    some (.b (valOk ⟨st, el, en, at', qu, pa, su, es, da, nm⟩ ⟨st1, el1, en1, at1, qu1, pa1, su1, es1, da1, nm1⟩)) := by
  apply c42
  have e2 : semCall C Try.prog 41 [.s nm, .int 16] = some (.b (small nm 16)) := s41 nm 16 h
  simp only [X42, cxeq, Bool.and_true, ueq_eq, une_eq, ult_eq, ule_eq, ugt_eq, uge_eq, Option.bind_some, selW_and, selW_or, condM_b, f42_12, f42_14, e2, valOk, if_true]
  cases h1 : (qu != 0 && qu != 34 && qu != 39) <;> cases h2 : (at' == 1) <;> cases h3 : (pa == 1) <;> cases h4 : (at' == 2) <;> cases h5 : (at' == 3) <;> simp
end two

theorem f23_11 : F23_11 (semRun C Try.prog 23 Try.f23) st el en at' qu pa su es da nm st el en 0 0 0 0 false 0 [] =
    some (.b (cxeq ⟨st, el, en, at', qu, pa, su, es, da, nm⟩ ⟨st, el, en, 0, 0, 0, 0, false, 0, []⟩)) := by
  apply r23_11
  simp only [X23_11, cxeq, Bool.and_true, ueq_eq, une_eq, ult_eq, ule_eq, ugt_eq, uge_eq, Option.bind_some, selW_and, selW_or, condM_b, Option.bind_some]
theorem f23_14 (h : nm.length < 9223372036854775808) : F23_14 (semRun C Try.prog 23 Try.f23) st el en at' qu pa su es da nm st el en 0 0 0 0 false 0 [] =
    some (.b (cxeq ⟨st, el, en, at', qu, pa, su, es, da, nm⟩ ⟨st, el, en, 0, 0, 0, 0, false, 0, nm⟩ && small nm 32)) := by
  apply r23_14
  have e2 : semCall C Try.prog 41 [.s nm, .int 32] = some (.b (small nm 32)) := s41 nm 32 h
  simp only [X23_14, cxeq, Bool.and_true, ueq_eq, une_eq, ult_eq, ule_eq, ugt_eq, uge_eq, Option.bind_some, selW_and, selW_or, condM_b, e2, selW_and]
theorem f23_27 : F23_27 (semRun C Try.prog 23 Try.f23) st el en at' qu pa su es da nm =
    some (.b (cxeq ⟨st, el, en, at', qu, pa, su, es, da, nm⟩ ⟨st, el, false, 0, 0, 0, if (el == 3 || el == 4) = true then su else 0, if (el == 3 || el == 4) = true then es else false, 0, if (st == 19) = true then nm else []⟩ && (el != 0) && pre nm (nameOf el) && subOk su es (el == 3))) := by
  apply r23_27
  simp only [X23_27, cxeq, Bool.and_true, ueq_eq, une_eq, ult_eq, ule_eq, ugt_eq, uge_eq, Option.bind_some, selW_and, selW_or, condM_b, s43, Option.bind_some]
theorem f23_28 : F23_28 (semRun C Try.prog 23 Try.f23) st el en at' qu pa su es da nm st 0 false 0 0 0 0 false 0 [] =
    some (.b (cxeq ⟨st, el, en, at', qu, pa, su, es, da, nm⟩ ⟨st, 0, false, 0, 0, 0, 0, false, 0, []⟩)) := by
  apply r23_28
  simp only [X23_28, cxeq, Bool.and_true, ueq_eq, une_eq, ult_eq, ule_eq, ugt_eq, uge_eq, Option.bind_some, selW_and, selW_or, condM_b, Option.bind_some]
/-- .. as the program asks. -/
def form1 (c : Ctx) : Bool :=
  if (decide (20 < c.st) || decide (4 < c.el) || decide (4 < c.at') || decide (5 < c.pa) || decide (6 < c.su) || (c.en && c.el != 0)) = true then false
  else if (c.st == 3) = true then cxeq c ⟨c.st, 0, c.en, 0, 0, 0, 0, false, 0, c.nm⟩ && small c.nm 32
  else if (c.st == 4 || c.st == 9 || c.st == 10) = true then cxeq c ⟨c.st, c.el, c.en, 0, 0, 0, 0, false, 0, []⟩
  else if (c.st == 5 || c.st == 6) = true then cxeq c ⟨c.st, c.el, c.en, 0, 0, 0, 0, false, 0, c.nm⟩ && small c.nm 32
  else if (c.st == 7) = true then cxeq c ⟨c.st, c.el, c.en, c.at', 0, 0, 0, false, 0, []⟩
  else if (c.st == 8) = true then valOk c ⟨c.st, c.el, c.en, 0, 0, 0, 0, false, 0, []⟩
  else if (c.st == 15) = true then cxeq c ⟨c.st, 0, false, 0, 0, 0, 0, false, c.da, []⟩ && decide (c.da ≤ 2)
  else if (c.st == 17 || c.st == 18 || c.st == 19) = true then (cxeq c ⟨c.st, c.el, false, 0, 0, 0, if (c.el == 3 || c.el == 4) = true then c.su else 0, if (c.el == 3 || c.el == 4) = true then c.es else false, 0, if (c.st == 19) = true then c.nm else []⟩ && (c.el != 0) && pre c.nm (nameOf c.el) && subOk c.su c.es (c.el == 3))
  else cxeq c ⟨c.st, 0, false, 0, 0, 0, 0, false, 0, []⟩
theorem f23_16 (h : nm.length < 9223372036854775808) : F23_16 (semRun C Try.prog 23 Try.f23) st st el en at' qu pa su es da nm st 0 false 0 0 0 0 false 0 []
    st el en 0 0 0 0 false 0 [] =
    some (.b (if (st == 7) = true then cxeq ⟨st, el, en, at', qu, pa, su, es, da, nm⟩ ⟨st, el, en, at', 0, 0, 0, false, 0, []⟩
      else if (st == 8) = true then valOk ⟨st, el, en, at', qu, pa, su, es, da, nm⟩ ⟨st, el, en, 0, 0, 0, 0, false, 0, []⟩
      else if (st == 15) = true then cxeq ⟨st, el, en, at', qu, pa, su, es, da, nm⟩ ⟨st, 0, false, 0, 0, 0, 0, false, da, []⟩ && decide (da ≤ 2)
      else if (st == 17 || st == 18 || st == 19) = true then (cxeq ⟨st, el, en, at', qu, pa, su, es, da, nm⟩ ⟨st, el, false, 0, 0, 0, if (el == 3 || el == 4) = true then su else 0, if (el == 3 || el == 4) = true then es else false, 0, if (st == 19) = true then nm else []⟩ && (el != 0) && pre nm (nameOf el) && subOk su es (el == 3))
      else cxeq ⟨st, el, en, at', qu, pa, su, es, da, nm⟩ ⟨st, 0, false, 0, 0, 0, 0, false, 0, []⟩)) := by
  apply r23_16
  simp only [X23_16, cxeq, Bool.and_true, ueq_eq, une_eq, ult_eq, ule_eq, ugt_eq, uge_eq, Option.bind_some, selW_and, selW_or, condM_b, s42 (h := h), f23_27, f23_28, if_true]
  cases h1 : (st == 7) <;> cases h2 : (st == 8) <;> cases h3 : (st == 15) <;> cases h4 : (st == 17) <;> cases h5 : (st == 18) <;> cases h6 : (st == 19) <;> rfl
theorem f23_12 (h : nm.length < 9223372036854775808) : F23_12 (semRun C Try.prog 23 Try.f23) st st el en at' qu pa su es da nm st 0 false 0 0 0 0 false 0 []
    st el en 0 0 0 0 false 0 [] =
    some (.b (if (st == 5 || st == 6) = true then cxeq ⟨st, el, en, at', qu, pa, su, es, da, nm⟩ ⟨st, el, en, 0, 0, 0, 0, false, 0, nm⟩ && small nm 32
      else if (st == 7) = true then cxeq ⟨st, el, en, at', qu, pa, su, es, da, nm⟩ ⟨st, el, en, at', 0, 0, 0, false, 0, []⟩
      else if (st == 8) = true then valOk ⟨st, el, en, at', qu, pa, su, es, da, nm⟩ ⟨st, el, en, 0, 0, 0, 0, false, 0, []⟩
      else if (st == 15) = true then cxeq ⟨st, el, en, at', qu, pa, su, es, da, nm⟩ ⟨st, 0, false, 0, 0, 0, 0, false, da, []⟩ && decide (da ≤ 2)
      else if (st == 17 || st == 18 || st == 19) = true then (cxeq ⟨st, el, en, at', qu, pa, su, es, da, nm⟩ ⟨st, el, false, 0, 0, 0, if (el == 3 || el == 4) = true then su else 0, if (el == 3 || el == 4) = true then es else false, 0, if (st == 19) = true then nm else []⟩ && (el != 0) && pre nm (nameOf el) && subOk su es (el == 3))
      else cxeq ⟨st, el, en, at', qu, pa, su, es, da, nm⟩ ⟨st, 0, false, 0, 0, 0, 0, false, 0, []⟩)) := by
  apply r23_12
  simp only [X23_12, cxeq, Bool.and_true, ueq_eq, une_eq, ult_eq, ule_eq, ugt_eq, uge_eq, Option.bind_some, selW_and, selW_or, condM_b, f23_14 (h := h), f23_16 (h := h), if_true]
  cases h1 : (st == 5) <;> cases h2 : (st == 6) <;> rfl
theorem s23a (h : nm.length < 9223372036854775808) : semCall C Try.prog 23 [cx st el en at' qu pa su es da nm] = some (.b (form1 ⟨st, el, en, at', qu, pa, su, es, da, nm⟩)) := by
  apply c23
  have e1 : semCall C Try.prog 41 [.s nm, .int 32] = some (.b (small nm 32)) := s41 nm 32 h
  simp only [X23, Bool.and_true, ueq_eq, une_eq, ult_eq, ule_eq, ugt_eq, uge_eq]
  simp only [Option.bind_some, selW_and, selW_or, condM_b, e1]
  rw [f23_12 (h := h)]
  simp only [f23_11]
  unfold form1
  dsimp only
  cases h0 : (decide (20 < st) || decide (4 < el) || decide (4 < at') || decide (5 < pa) || decide (6 < su) || en && el != 0) with
  | true => rfl
  | false => cases h2 : (st == 3) <;> cases h3 : (st == 4) <;> cases h4 : (st == 9) <;> cases h5 : (st == 10) <;> rfl
end
end R1

namespace R1
open Go Go.Proofs Sx

theorem form_eq (st el : UInt8) (en : Bool) (at' qu pa su : UInt8) (es : Bool) (da : UInt8) (nm : List UInt8) : form1 ⟨st, el, en, at', qu, pa, su, es, da, nm⟩ = form ⟨st, el, en, at', qu, pa, su, es, da, nm⟩ := by
  unfold form1 form
  dsimp only
  rcases st_cases st with h | h | h | h | h | h | h | h | h | h | h | h | h | h | h | h | h | h | h | h | h | h
  all_goals try subst h
  all_goals try simp [isTag, isRaw, cxeq, coded, subOk, valOk, *]
  all_goals try (grind; done)
  · rcases el_cases at' with h | h | h | h | h | h
    all_goals try subst h
    all_goals simp [*]
    all_goals try (grind; done)
  all_goals (have hp : pre [] (nameOf el) = true := by simp [pre]); cases nm <;> simp [hp] <;> rcases el_cases el with h | h | h | h | h | h <;> (try subst h) <;> (try simp [*]) <;> (try grind)

section
variable (st el : UInt8) (en : Bool) (at' qu pa su : UInt8) (es : Bool) (da : UInt8) (nm : List UInt8)

theorem s23 (h : nm.length < 9223372036854775808) : semCall C Try.prog 23 [cx st el en at' qu pa su es da nm] = some (.b (form ⟨st, el, en, at', qu, pa, su, es, da, nm⟩)) := by
  rw [s23a (h := h), form_eq]
theorem s22 : semCall C Try.prog 22 [] = some (.b true) := semCall_closed (n := 300) (by kernel_rfl)

/-- Which hole may be there. -/
def hole (c : Ctx) : UInt8 :=
  if c.st == 0 then 1
  else if c.st == 17 then (if c.el == 1 || c.el == 2 then 2 else if (c.su == 1 || c.su == 2) && !c.es && c.el == 3 then 7 else if (c.su == 1 || c.su == 2) && !c.es && c.el == 4 then 9 else 0)
  else if c.st == 8 then
    (if c.qu == 0 then 0 else if c.at' == 0 then 3
    else if c.at' == 1 then (if c.pa == 0 then 4 else if c.pa == 3 then 5 else if c.pa == 4 then 6 else 0)
    else if c.at' == 2 then (if (c.su == 1 || c.su == 2) && !c.es then 8 else 0)
    else if c.at' == 3 then (if (c.su == 1 || c.su == 2) && !c.es then 10 else 0) else 0)
  else 0
theorem s26 : semCall C Try.prog 26 [cx st el en at' qu pa su es da nm] = some (.u8 (hole ⟨st, el, en, at', qu, pa, su, es, da, nm⟩)) := by
  apply c26
  simp only [X26, ueq_eq, une_eq, Option.bind_some, selW_and, selW_or, condM_b, s45]
  unfold hole
  dsimp only
  generalize ((su == 1 || su == 2) && !es) = q
  cases h0 : (st == 0) <;> cases h17 : (st == 17) <;> cases h8 : (st == 8) <;> cases q <;> simp <;> grind
theorem f28 : F28_32 (semRun C Try.prog 28 Try.f28) = some (.int 0) := by
  apply r28_32
  rfl
theorem s28 : semCall C Try.prog 28 [cx st el en at' qu pa su es da nm] = some (.int ((hole ⟨st, el, en, at', qu, pa, su, es, da, nm⟩).toNat : Int)) := by
  apply c28
  simp only [X28, ueq_eq, une_eq, Option.bind_some, selW_and, selW_or, condM_b, f28, w64_u8]
  simp only [i_beq _ _ (show 0 < 256 by decide), i_beq _ _ (show 17 < 256 by decide), i_beq _ _ (show 8 < 256 by decide)]
  unfold hole
  dsimp only
  cases h0 : (st == 0) <;> cases h17 : (st == 17) <;> cases h8 : (st == 8) <;> cases hq : ((su == 1 || su == 2) && !es) <;> simp <;> (try (repeat' split) <;> first | rfl | simp_all | grind)
def badC : Ctx := ⟨20, 0, false, 0, 0, 0, 0, false, 0, []⟩
/-- The context behind a hole. -/
def after (c : Ctx) : Ctx := if hole c == 0 then badC else if hole c == 4 then { c with pa := 2 } else c
section
variable (st1 el1 : UInt8) (en1 : Bool) (at1 qu1 pa1 su1 : UInt8) (es1 : Bool) (da1 : UInt8) (nm1 : List UInt8)
theorem f27 : F27_6 (semRun C Try.prog 27 Try.f27) st el en at' qu pa su es da nm st1 el1 en1 at1 qu1 pa1 su1 es1 da1 nm1 = some (cx st el en at' qu pa su es da nm) := by
  apply r27_6
  rfl
theorem f29 : F29_6 (semRun C Try.prog 29 Try.f29) st el en at' qu pa su es da nm st1 el1 en1 at1 qu1 pa1 su1 es1 da1 nm1 = some (cx st el en at' qu pa su es da nm) := by
  apply r29_6
  rfl
end
theorem s27 : semCall C Try.prog 27 [cx st el en at' qu pa su es da nm] = some (after ⟨st, el, en, at', qu, pa, su, es, da, nm⟩).av := by
  apply c27
  simp only [X27, s26, Option.bind_some, u8_eql, condM_b, f27, after]
  split
  · rfl
  · split <;> rfl
theorem s29 : semCall C Try.prog 29 [cx st el en at' qu pa su es da nm] = some (after ⟨st, el, en, at', qu, pa, su, es, da, nm⟩).av := by
  apply c29
  simp only [X29, s28, Option.bind_some, int_eql, condM_b, f29, after]
  simp only [i_beq _ _ (show 0 < 256 by decide), i_beq _ _ (show 4 < 256 by decide)]
  split
  · rfl
  · split <;> rfl
theorem s30 : semCall C Try.prog 30 [cx st el en at' qu pa su es da nm] = some (.b (coded st el at')) := by
  apply c30
  have e1 : F30_7 (semRun C Try.prog 30 Try.f30) st el en at' qu pa su es da nm = some (.b (el == 3 || el == 4)) := by
    apply r30_7
    simp only [X30_7, ueq_eq, selW_or, Option.bind_some]
  have e2 : F30_8 (semRun C Try.prog 30 Try.f30) = some (.b false) := by
    apply r30_8
    rfl
  simp only [X30, ueq_eq, Option.bind_some, selW_or, condM_b, e1, e2, coded]
  rcases st_cases st with h | h | h | h | h | h | h | h | h | h | h | h | h | h | h | h | h | h | h | h | h | h <;> first | (subst h; rfl) | (subst h; simp; done) | skip
  obtain ⟨-, -, -, -, -, -, -, -, h8, -, -, -, -, -, -, -, -, h17, h18, h19⟩ := nlt st h
  have h2 : ¬ st ≤ 19 := by
    have := UInt8.lt_iff_toNat_lt.1 h
    rw [UInt8.le_iff_toNat_le]; simp at this ⊢; omega
  simp [h8, h17, h18, h19, h2]
/-- What HTML knows of a context. -/
def outer (c : Ctx) : Ctx := if c.st == 8 || c.st == 17 then ⟨c.st, c.el, c.en, c.at', c.qu, 0, 0, false, 0, []⟩ else c
theorem s25 : semCall C Try.prog 25 [cx st el en at' qu pa su es da nm] = some (outer ⟨st, el, en, at', qu, pa, su, es, da, nm⟩).av := by
  apply c25
  simp only [X25, ueq_eq, Option.bind_some, selW_or, condM_b, outer]
  split <;> rfl

/-- **CtxForms.** -/
theorem s7 (h : nm.length < 9223372036854775808) : semCall C Try.prog 7 [cx st el en at' qu pa su es da nm] = some (.b true) := by
  apply c7
  simp only [X7, s22, s23 (h := h), s24 (h := h), Option.bind_some, b_eql, beq_self_eq_true, selW_and, Bool.and_self]
/-- **CtxHoles.** -/
theorem s10 : semCall C Try.prog 10 [cx st el en at' qu pa su es da nm] = some (.b true) := by
  apply c10
  simp only [X10, s22, s26, s27, s28, s29, s30, s31, Option.bind_some, conv_int_u8, int_eql, b_eql, binAg_cx, cxeq, beq_self_eq_true, selW_and, Bool.and_self]
/-- **CtxOuter.** -/
theorem s8 : semCall C Try.prog 8 [cx st el en at' qu pa su es da nm] = some (.b true) := by
  apply c8
  have key : ∀ c : Ctx, outer (outer c) = outer c := by
    intro c
    unfold outer
    cases h : (c.st == 8 || c.st == 17) <;> simp [h]
  have f8 : ∀ o : Ctx, outer o = o → F8_7 (semRun C Try.prog 8 Try.f8) (.u8 o.st) (.u8 o.el) (.b o.en) (.u8 o.at') (.u8 o.qu) (.u8 o.pa) (.u8 o.su) (.b o.es) (.u8 o.da) (.s o.nm) o.st o.el o.en o.at' o.qu o.pa o.su o.es o.da o.nm = some (.b true) := by
    intro o ho
    apply r8_7
    simp only [X8_7, s25, binAg_cx, Option.bind_some]
    rw [show (⟨o.st, o.el, o.en, o.at', o.qu, o.pa, o.su, o.es, o.da, o.nm⟩ : Ctx) = o from rfl, ho]
    simp only [binAg_cx, cxeq, beq_self_eq_true, Bool.and_self, selW_and, Option.bind_some]
  simp only [X8, s22, s25, Option.bind_some, unop_not, Bool.not_true, condM_b, Bool.false_eq_true, if_false, asAg_ten, ten0, ten1, ten2, ten3, ten4, ten5, ten6, ten7, ten8, ten9, w64_u8, selW_or]
  simp only [i_beq _ _ (show 8 < 256 by decide), i_beq _ _ (show 17 < 256 by decide)]
  have := f8 (outer ⟨st, el, en, at', qu, pa, su, es, da, nm⟩) (key _)
  cases h : (st == 8 || st == 17) with
  | true => simpa [outer, h] using this
  | false => simpa [outer, h] using this
end
end R1

namespace R1
open Go Go.Proofs Sx

theorem hole4 (c : Ctx) (h : hole c = 4) : c.st = 8 ∧ c.qu ≠ 0 ∧ c.at' = 1 ∧ c.pa = 0 := by
  unfold hole at h
  grind (splits := 30)
theorem form_after (c : Ctx) (h : hole c ≠ 0) (hf : form c = true) : form (after c) = true := by
  unfold after
  have h0 : (hole c == 0) = false := by simpa using h
  cases h4 : (hole c == 4) with
  | false => simpa [h0] using hf
  | true =>
    obtain ⟨h1, h2, h3, h5⟩ := hole4 c (by simpa using h4)
    obtain ⟨st, el, en, at', qu, pa, su, es, da, nm⟩ := c
    simp only at h1 h2 h3 h5
    subst h1 h3 h5
    simp only [h0, Bool.false_eq_true, if_false, if_true]
    unfold form at hf ⊢
    simp only [isTag, isRaw, coded] at hf ⊢
    simp at hf ⊢
    grind
theorem outer_after (c : Ctx) (h : hole c ≠ 0) : outer (after c) = outer c := by
  unfold after
  have h0 : (hole c == 0) = false := by simpa using h
  cases h4 : (hole c == 4) with
  | false => simp [h0]
  | true =>
    obtain ⟨h1, h2, h3, h5⟩ := hole4 c (by simpa using h4)
    simp [h0, outer, h1]
theorem hole_after4 (c : Ctx) (h : hole c = 4) : hole (after c) = 0 := by
  obtain ⟨h1, h2, h3, h5⟩ := hole4 c h
  have : after c = { c with pa := 2 } := by simp [after, h]
  rw [this]
  simp [hole, h1, h2, h3]
theorem after_same (c : Ctx) (h : hole c ≠ 0) (h4 : hole c ≠ 4) : after c = c := by
  simp [after, h, h4]

section
variable (st el : UInt8) (en : Bool) (at' qu pa su : UInt8) (es : Bool) (da : UInt8) (nm : List UInt8)
/-- **CtxKeeps.** -/
theorem s9 (h : nm.length < 9223372036854775808) : semCall C Try.prog 9 [cx st el en at' qu pa su es da nm] = some (.b true) := by
  apply c9
  simp only [X9, s22, s26, s27, s23 (h := h), Option.bind_some, unop_not, Bool.not_true, condM_b, Bool.false_eq_true, if_false, asAg_ten, ten0, ten1, ten2, ten3, ten4, ten5, ten6, ten7, ten8, ten9, u8_eql]
  generalize hc : (⟨st, el, en, at', qu, pa, su, es, da, nm⟩ : Ctx) = c
  by_cases h0 : hole c = 0
  · rw [if_pos (by simpa using h0)]
    have : after c = badC := by simp [after, h0]
    rw [this]
    simp only [badC, binAg_cx, cxeq, beq_self_eq_true, Bool.and_self, Option.bind_some]
  · rw [if_neg (by simpa using h0)]
    have hn : (after c).nm.length < 9223372036854775808 := by
      have : (after c).nm = nm := by
        unfold after
        rw [if_neg (by simpa using h0)]
        split <;> rw [← hc]
      rw [this]; exact h
    simp only [s23 (h := hn), s25, Option.bind_some, unop_not, binAg_cx_ne, binAg_cx, s26]
    rw [show (⟨(after c).st, (after c).el, (after c).en, (after c).at', (after c).qu, (after c).pa, (after c).su, (after c).es, (after c).da, (after c).nm⟩ : Ctx) = after c from rfl, hc]
    have e1 : outer (after c) = outer c := outer_after c h0
    rw [e1]
    simp only [cxeq, beq_self_eq_true, Bool.and_self, Bool.not_true]
    have e2 : (selW (.b (form c)) true (some (.b (!form (after c)))) (.b false)) = some (.b false) := by
      rw [selW_and]
      cases hf : form c with
      | false => rfl
      | true => rw [form_after c h0 hf]; rfl
    rw [e2]
    simp only [Option.bind_some, selW_or, Bool.or_self, condM_b, Bool.false_eq_true, if_false]
    by_cases h4 : hole c = 4
    · rw [if_pos (by simpa using h4), hole_after4 c h4]
      rfl
    · rw [if_neg (by simpa using h4), after_same c h0 h4]
      rw [← hc]
      simp only [beq_self_eq_true, Bool.and_self, selW_and, u8_eql, Option.bind_some]
end

/-- The element of a name. -/
def elemOf (nm : List UInt8) : UInt8 :=
  if nm == [116, 101, 120, 116, 97, 114, 101, 97] then 1 else if nm == [116, 105, 116, 108, 101] then 2 else if nm == [115, 99, 114, 105, 112, 116] then 3 else if nm == [115, 116, 121, 108, 101] then 4 else 0
def urls : List (List UInt8) := [[97, 99, 116, 105, 111, 110], [98, 97, 99, 107, 103, 114, 111, 117, 110, 100], [99, 105, 116, 101], [100, 97, 116, 97], [102, 111, 114, 109, 97, 99, 116, 105, 111, 110], [104, 114, 101, 102], [108, 111, 110, 103, 100, 101, 115, 99], [109, 97, 110, 105, 102, 101, 115, 116], [112, 111, 115, 116, 101, 114], [115, 114, 99], [120, 108, 105, 110, 107, 58, 104, 114, 101, 102]]
def odds : List (List UInt8) := [[115, 114, 99, 100, 111, 99], [115, 114, 99, 115, 101, 116], [105, 109, 97, 103, 101, 115, 114, 99, 115, 101, 116], [99, 111, 110, 116, 101, 110, 116], [104, 116, 116, 112, 45, 101, 113, 117, 105, 118]]
/-- What the value of an attribute of a name is. -/
def attrOf (nm : List UInt8) : UInt8 :=
  if urls.contains nm then 1 else if nm == [115, 116, 121, 108, 101] then 3 else if odds.contains nm then 4 else if decide (2 < nm.length) && pre [111, 110] nm then 2 else 0

theorem s32 (nm : List UInt8) : semCall C Try.prog 32 [.s nm] = some (.u8 (elemOf nm)) := by
  apply c32
  simp only [X32, condM_b, elemOf]
  split
  · rfl
  · split
    · rfl
    · split
      · rfl
      · split <;> rfl
theorem beqf {a b : List UInt8} (h : (a == b) = false) : (b == a) = false := by
  rw [beq_eq_false_iff_ne] at h ⊢; exact fun e => h e.symm
theorem s33 (nm : List UInt8) : semCall C Try.prog 33 [.s nm] = some (.int ((elemOf nm).toNat : Int)) := by
  apply c33
  simp only [X33]
  apply r33_3
  show condM (.b ([116, 101, 120, 116, 97, 114, 101, 97] == nm)) (some (.int 1)) (F33_3 _ _ _ 2) = _
  rw [condM_b]
  cases h1 : ([116, 101, 120, 116, 97, 114, 101, 97] == nm) with
  | true => rw [← eq_of_beq h1]; rfl
  | false =>
  rw [if_neg (by simp)]
  apply r33_3
  show condM (.b ([116, 105, 116, 108, 101] == nm)) (some (.int 2)) (F33_3 _ _ _ 3) = _
  rw [condM_b]
  cases h2 : ([116, 105, 116, 108, 101] == nm) with
  | true => rw [← eq_of_beq h2]; rfl
  | false =>
  rw [if_neg (by simp)]
  apply r33_3
  show condM (.b ([115, 99, 114, 105, 112, 116] == nm)) (some (.int 3)) (F33_3 _ _ _ 4) = _
  rw [condM_b]
  cases h3 : ([115, 99, 114, 105, 112, 116] == nm) with
  | true => rw [← eq_of_beq h3]; rfl
  | false =>
  rw [if_neg (by simp)]
  apply r33_3
  show condM (.b ([115, 116, 121, 108, 101] == nm)) (some (.int 4)) (F33_3 _ _ _ 5) = _
  rw [condM_b]
  cases h4 : ([115, 116, 121, 108, 101] == nm) with
  | true => rw [← eq_of_beq h4]; rfl
  | false =>
  rw [if_neg (by simp)]
  apply r33_3
  simp only [elemOf, beqf h1, beqf h2, beqf h3, beqf h4]
  rfl

theorem f34_13 : F34_13 (semRun C Try.prog 34 Try.f34) = some (.u8 1) := by apply r34_13; rfl
theorem f34_21 : F34_21 (semRun C Try.prog 34 Try.f34) = some (.u8 4) := by apply r34_21; rfl
theorem f34_22 (nm : List UInt8) : F34_22 (semRun C Try.prog 34 Try.f34) nm = some (.u8 (if decide (2 < nm.length) && pre [111, 110] nm then 2 else 0)) := by
  apply r34_22
  simp only [X34_22, s46, Option.bind_some, selW_and, condM_b]
  have : decide ((nm.length : Int) > 2) = decide (2 < nm.length) := by rw [decide_eq_decide]; omega
  rw [this]
  split <;> rfl
theorem f34_14 (nm : List UInt8) : F34_14 (semRun C Try.prog 34 Try.f34) nm nm = some (.u8 (if nm == [115, 116, 121, 108, 101] then 3 else if odds.contains nm then 4 else if decide (2 < nm.length) && pre [111, 110] nm then 2 else 0)) := by
  apply r34_14
  simp only [X34_14, f34_21, f34_22, condM_b, odds, List.contains_cons, List.contains_nil, Bool.or_false]
  cases nm == [115, 116, 121, 108, 101] <;> cases nm == [115, 114, 99, 100, 111, 99] <;> cases nm == [115, 114, 99, 115, 101, 116] <;> cases nm == [105, 109, 97, 103, 101, 115, 114, 99, 115, 101, 116] <;> cases nm == [99, 111, 110, 116, 101, 110, 116] <;> cases nm == [104, 116, 116, 112, 45, 101, 113, 117, 105, 118] <;> rfl
theorem s34 (nm : List UInt8) : semCall C Try.prog 34 [.s nm] = some (.u8 (attrOf nm)) := by
  apply c34
  simp only [X34, f34_13, f34_14, condM_b, attrOf, urls, List.contains_cons, List.contains_nil, Bool.or_false]
  generalize (if (nm == [115, 116, 121, 108, 101]) = true then (3 : UInt8) else if odds.contains nm = true then 4 else if (decide (2 < nm.length) && pre [111, 110] nm) = true then 2 else 0) = z
  cases nm == [97, 99, 116, 105, 111, 110] with
  | true => rfl
  | false =>
  cases nm == [98, 97, 99, 107, 103, 114, 111, 117, 110, 100] with
  | true => rfl
  | false =>
  cases nm == [99, 105, 116, 101] with
  | true => rfl
  | false =>
  cases nm == [100, 97, 116, 97] with
  | true => rfl
  | false =>
  cases nm == [102, 111, 114, 109, 97, 99, 116, 105, 111, 110] with
  | true => rfl
  | false =>
  cases nm == [104, 114, 101, 102] with
  | true => rfl
  | false =>
  cases nm == [108, 111, 110, 103, 100, 101, 115, 99] with
  | true => rfl
  | false =>
  cases nm == [109, 97, 110, 105, 102, 101, 115, 116] with
  | true => rfl
  | false =>
  cases nm == [112, 111, 115, 116, 101, 114] with
  | true => rfl
  | false =>
  cases nm == [115, 114, 99] with
  | true => rfl
  | false =>
  cases nm == [120, 108, 105, 110, 107, 58, 104, 114, 101, 102] <;> rfl

theorem inN_s (P : List (List UInt8)) (c : List UInt8) (R : List (List UInt8)) : inN ((P ++ c :: R).map AV.s).length (.int (P.length : Int)) = some P.length := inN_int (by simp)
theorem getD_s (P : List (List UInt8)) (c : List UInt8) (R : List (List UInt8)) : ((P ++ c :: R).map AV.s).getD P.length .un = .s c := by simp
theorem l35_9 (nm : List UInt8) : ∀ (R P : List (List UInt8)), (P ++ R).length < 100 → F35_9 (semRun C Try.prog 35 Try.f35) nm ((P ++ R).map .s) (P.length : Int) = some (.int (if R.contains nm then 4 else if nm == [115, 116, 121, 108, 101] then 3 else if decide (2 < nm.length) && pre [111, 110] nm then 2 else 0))
  | [], P, h => by
    apply r35_9
    have e1 : decide ((P.length : Int) < (((P ++ []).map AV.s).length : Int)) = false := by simp
    simp only [X35_9, e1, condM_b, Bool.false_eq_true, if_false, List.contains_nil]
    cases h3 : (nm == [115, 116, 121, 108, 101]) with
    | true => rfl
    | false =>
      rw [if_neg (by simp), if_neg (by simp)]
      match nm with
      | [] => rfl
      | [a] => rfl
      | [a, b] => rfl
      | a :: b :: c :: r =>
        have e2 : decide (((a :: b :: c :: r).length : Int) ≥ 3) = true := by simp; omega
        have i0 : idxS (.s (a :: b :: c :: r)) (.int 0) = some (.u8 a) := idxS_int (i := 0) (l := a :: b :: c :: r) (by simp)
        have i1 : idxS (.s (a :: b :: c :: r)) (.int 1) = some (.u8 b) := idxS_int (i := 1) (l := a :: b :: c :: r) (by simp)
        have e3 : decide (2 < (a :: b :: c :: r).length) = true := by simp
        have e4 : pre [111, 110] (a :: b :: c :: r) = (a == 111 && b == 110) := by simp [pre]
        simp only [e2, i0, i1, e3, e4, u8_eql, Option.bind_some, selW_and, Bool.true_and, condM_b]
        split <;> rfl
  | c :: R, P, h => by
    apply r35_9
    have e1 : decide ((P.length : Int) < (((P ++ c :: R).map AV.s).length : Int)) = true := by simp; omega
    simp only [X35_9, e1, condM_b, if_true, inN_s, getD_s, cell_s, s_eql, Option.bind_some, List.contains_cons]
    cases hc : (c == nm) with
    | true => rw [if_pos rfl, eq_of_beq hc]; simp
    | false =>
      rw [if_neg (by simp), beqf hc, Bool.false_or]
      have h' : P.length < 100 := by simp at h; omega
      rw [w64_eq (by omega) (by omega), show ((P.length : Int) + 1) = ((P ++ [c]).length : Int) by simp, show P ++ c :: R = (P ++ [c]) ++ R by simp]
      exact l35_9 nm R (P ++ [c]) (by simpa using h)
theorem l35_3 (nm : List UInt8) : ∀ (R P : List (List UInt8)), (P ++ R).length < 100 → F35_3 (semRun C Try.prog 35 Try.f35) nm ((P ++ R).map .s) (P.length : Int) = some (.int (if R.contains nm then 1 else if odds.contains nm then 4 else if nm == [115, 116, 121, 108, 101] then 3 else if decide (2 < nm.length) && pre [111, 110] nm then 2 else 0))
  | [], P, h => by
    apply r35_3
    have e1 : decide ((P.length : Int) < (((P ++ []).map AV.s).length : Int)) = false := by simp
    simp only [X35_3, e1, condM_b, Bool.false_eq_true, if_false, List.contains_nil]
    exact l35_9 nm odds [] (by decide)
  | c :: R, P, h => by
    apply r35_3
    have e1 : decide ((P.length : Int) < (((P ++ c :: R).map AV.s).length : Int)) = true := by simp; omega
    simp only [X35_3, e1, condM_b, if_true, inN_s, getD_s, cell_s, s_eql, Option.bind_some, List.contains_cons]
    cases hc : (c == nm) with
    | true => rw [if_pos rfl, eq_of_beq hc]; simp
    | false =>
      rw [if_neg (by simp), beqf hc, Bool.false_or]
      have h' : P.length < 100 := by simp at h; omega
      rw [w64_eq (by omega) (by omega), show ((P.length : Int) + 1) = ((P ++ [c]).length : Int) by simp, show P ++ c :: R = (P ++ [c]) ++ R by simp]
      exact l35_3 nm R (P ++ [c]) (by simpa using h)
theorem s35 (nm : List UInt8) : semCall C Try.prog 35 [.s nm] = some (.int ((attrOf nm).toNat : Int)) := by
  apply c35
  have h := l35_3 nm urls [] (by decide)
  refine Eq.trans h ?_
  unfold attrOf
  cases h1 : urls.contains nm with
  | true => rfl
  | false =>
    cases h3 : (nm == [115, 116, 121, 108, 101]) with
    | true => rw [eq_of_beq h3]; rfl
    | false => cases odds.contains nm <;> cases (decide (2 < nm.length) && pre [111, 110] nm) <;> rfl

theorem name_elem (e : UInt8) : (e == 0 || decide (4 < e) || elemOf (nameOf e) == e) = true := by
  revert e
  exact all_u8 (by kernel_rfl)
/-- **CtxNames.** -/
theorem s11 (nm : List UInt8) (e : UInt8) : semCall C Try.prog 11 [.s nm, .u8 e] = some (.b true) := by
  apply c11
  have h := name_elem e
  simp only [X11, s22, s32, s33, s34, s35, s36, s37, Option.bind_some, unop_not, Bool.not_true, selW_tf, condM_b, Bool.false_eq_true, if_false, conv_int_u8, int_eql, s_eql, beq_self_eq_true, selW_tt, w64_u8, ueq_eq, ugt_eq, selW_or, selW_and, u8_beq]
  rw [h]; rfl
end R1
