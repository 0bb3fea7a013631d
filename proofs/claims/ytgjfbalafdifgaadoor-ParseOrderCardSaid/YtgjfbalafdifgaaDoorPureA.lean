/-
  What the document says, in plain Lean, with no program in sight.
-/
import Derived.Test.YtgjfbalafdifgaaDoorSxC
set_option linter.unusedVariables false
set_option linter.unusedSimpArgs false
set_option linter.unusedSectionVars false
set_option linter.unnecessarySimpa false
/-
  SxCtx: the context, as plain data: ten cells.
-/
namespace Sx
open Go

structure Ctx where
  st : UInt8
  el : UInt8
  en : Bool
  at' : UInt8
  qu : UInt8
  pa : UInt8
  su : UInt8
  es : Bool
  da : UInt8
  nm : List UInt8
  deriving DecidableEq

/-- As it lies in ten cells. -/
abbrev cx (st el : UInt8) (en : Bool) (at' qu pa su : UInt8) (es : Bool) (da : UInt8) (nm : List UInt8) : AV :=
  .ag [.u8 st, .u8 el, .b en, .u8 at', .u8 qu, .u8 pa, .u8 su, .b es, .u8 da, .s nm]
abbrev Ctx.av (c : Ctx) : AV := cx c.st c.el c.en c.at' c.qu c.pa c.su c.es c.da c.nm

@[simp] theorem asAg_ten (a b c d e f g h i j : AV) : AV.asAg 10 (.ag [a, b, c, d, e, f, g, h, i, j]) = some [a, b, c, d, e, f, g, h, i, j] := rfl

section get
variable (a b c d e f g h i j : AV)
@[simp] theorem ten0 : [a, b, c, d, e, f, g, h, i, j].getD 0 .un = a := rfl
@[simp] theorem ten1 : [a, b, c, d, e, f, g, h, i, j].getD 1 .un = b := rfl
@[simp] theorem ten2 : [a, b, c, d, e, f, g, h, i, j].getD 2 .un = c := rfl
@[simp] theorem ten3 : [a, b, c, d, e, f, g, h, i, j].getD 3 .un = d := rfl
@[simp] theorem ten4 : [a, b, c, d, e, f, g, h, i, j].getD 4 .un = e := rfl
@[simp] theorem ten5 : [a, b, c, d, e, f, g, h, i, j].getD 5 .un = f := rfl
@[simp] theorem ten6 : [a, b, c, d, e, f, g, h, i, j].getD 6 .un = g := rfl
@[simp] theorem ten7 : [a, b, c, d, e, f, g, h, i, j].getD 7 .un = h := rfl
@[simp] theorem ten8 : [a, b, c, d, e, f, g, h, i, j].getD 8 .un = i := rfl
@[simp] theorem ten9 : [a, b, c, d, e, f, g, h, i, j].getD 9 .un = j := rfl
end get

theorem u8_beq (x y : UInt8) : ((x.toNat : Int) == (y.toNat : Int)) = (x == y) := by
  rw [Bool.eq_iff_iff]
  simp only [beq_iff_eq, Int.ofNat_inj]
  exact ⟨fun h => UInt8.toNat_inj.1 h, fun h => by rw [h]⟩
/-- Two contexts, compared. -/
def cxeq (a b : Ctx) : Bool :=
  a.st == b.st && (a.el == b.el && (a.en == b.en && (a.at' == b.at' && (a.qu == b.qu && (a.pa == b.pa && (a.su == b.su && (a.es == b.es && (a.da == b.da && a.nm == b.nm))))))))
@[simp] theorem binAg_cx (st el : UInt8) (en : Bool) (at' qu pa su : UInt8) (es : Bool) (da : UInt8) (nm : List UInt8) (st1 el1 : UInt8) (en1 : Bool) (at1 qu1 pa1 su1 : UInt8) (es1 : Bool) (da1 : UInt8) (nm1 : List UInt8) :
    binAg [.i, .i, .b, .i, .i, .i, .i, .b, .i, .s] .eql (.ag [.u8 st, .u8 el, .b en, .u8 at', .u8 qu, .u8 pa, .u8 su, .b es, .u8 da, .s nm]) (.ag [.u8 st1, .u8 el1, .b en1, .u8 at1, .u8 qu1, .u8 pa1, .u8 su1, .b es1, .u8 da1, .s nm1]) =
      some (.b (cxeq ⟨st, el, en, at', qu, pa, su, es, da, nm⟩ ⟨st1, el1, en1, at1, qu1, pa1, su1, es1, da1, nm1⟩)) := by
  simp only [binAg, eqs, eq1, Option.bind_some, cxeq, Bool.and_true]
@[simp] theorem binAg_cx_ne (st el : UInt8) (en : Bool) (at' qu pa su : UInt8) (es : Bool) (da : UInt8) (nm : List UInt8) (st1 el1 : UInt8) (en1 : Bool) (at1 qu1 pa1 su1 : UInt8) (es1 : Bool) (da1 : UInt8) (nm1 : List UInt8) :
    binAg [.i, .i, .b, .i, .i, .i, .i, .b, .i, .s] .neq (.ag [.u8 st, .u8 el, .b en, .u8 at', .u8 qu, .u8 pa, .u8 su, .b es, .u8 da, .s nm]) (.ag [.u8 st1, .u8 el1, .b en1, .u8 at1, .u8 qu1, .u8 pa1, .u8 su1, .b es1, .u8 da1, .s nm1]) =
      some (.b (!cxeq ⟨st, el, en, at', qu, pa, su, es, da, nm⟩ ⟨st1, el1, en1, at1, qu1, pa1, su1, es1, da1, nm1⟩)) := by
  simp only [binAg, eqs, eq1, Option.bind_some, cxeq, Bool.and_true]
theorem cxeq_iff (a b : Ctx) : cxeq a b = decide (a = b) := by
  obtain ⟨⟩ := a; obtain ⟨⟩ := b
  rw [Bool.eq_iff_iff]
  simp only [cxeq, Ctx.mk.injEq, Bool.and_eq_true, beq_iff_eq, decide_eq_true_eq]

/-- A context, out of an argument. -/
theorem is_ctx {a : AV} (h : IsArg true [.u8, .u8, .b, .u8, .u8, .u8, .u8, .b, .u8, .s] a) : ∃ c : Ctx, a = c.av ∧ c.nm.length ≤ maxLen := by
  obtain ⟨m, rfl, hl, hi⟩ := h
  match m, hl with
  | [a0, a1, a2, a3, a4, a5, a6, a7, a8, a9], _ =>
    have h0 := hi 0 _ _ rfl rfl
    have h1 := hi 1 _ _ rfl rfl
    have h2 := hi 2 _ _ rfl rfl
    have h3 := hi 3 _ _ rfl rfl
    have h4 := hi 4 _ _ rfl rfl
    have h5 := hi 5 _ _ rfl rfl
    have h6 := hi 6 _ _ rfl rfl
    have h7 := hi 7 _ _ rfl rfl
    have h8 := hi 8 _ _ rfl rfl
    have h9 := hi 9 _ _ rfl rfl
    cases h0; cases h1; cases h2; cases h3; cases h4; cases h5; cases h6; cases h7; cases h8
    cases h9 with
    | s l hl => exact ⟨⟨_, _, _, _, _, _, _, _, _, l⟩, rfl, hl⟩

theorem st_cases (st : UInt8) : st = 0 ∨ st = 1 ∨ st = 2 ∨ st = 3 ∨ st = 4 ∨ st = 5 ∨ st = 6 ∨ st = 7 ∨ st = 8 ∨ st = 9 ∨ st = 10 ∨ st = 11 ∨ st = 12 ∨ st = 13 ∨ st = 14 ∨ st = 15 ∨ st = 16 ∨ st = 17 ∨ st = 18 ∨ st = 19 ∨ st = 20 ∨ 20 < st := by
  have := all_u8 (p := fun st => st == 0 || (st == 1 || (st == 2 || (st == 3 || (st == 4 || (st == 5 || (st == 6 || (st == 7 || (st == 8 || (st == 9 || (st == 10 || (st == 11 || (st == 12 || (st == 13 || (st == 14 || (st == 15 || (st == 16 || (st == 17 || (st == 18 || (st == 19 || (st == 20 || decide (20 < st)))))))))))))))))))))) (by kernel_rfl) st
  simpa only [Bool.or_eq_true, beq_iff_eq, decide_eq_true_eq] using this
theorem el_cases (x : UInt8) : x = 0 ∨ x = 1 ∨ x = 2 ∨ x = 3 ∨ x = 4 ∨ 4 < x := by
  have := all_u8 (p := fun st => st == 0 || (st == 1 || (st == 2 || (st == 3 || (st == 4 || decide (4 < st)))))) (by kernel_rfl) x
  simpa only [Bool.or_eq_true, beq_iff_eq, decide_eq_true_eq] using this
theorem pa_cases (x : UInt8) : x = 0 ∨ x = 1 ∨ x = 2 ∨ x = 3 ∨ x = 4 ∨ x = 5 ∨ 5 < x := by
  have := all_u8 (p := fun st => st == 0 || (st == 1 || (st == 2 || (st == 3 || (st == 4 || (st == 5 || decide (5 < st))))))) (by kernel_rfl) x
  simpa only [Bool.or_eq_true, beq_iff_eq, decide_eq_true_eq] using this
theorem su_cases (x : UInt8) : x = 0 ∨ x = 1 ∨ x = 2 ∨ x = 3 ∨ x = 4 ∨ x = 5 ∨ x = 6 ∨ 6 < x := by
  have := all_u8 (p := fun st => st == 0 || (st == 1 || (st == 2 || (st == 3 || (st == 4 || (st == 5 || (st == 6 || decide (6 < st)))))))) (by kernel_rfl) x
  simpa only [Bool.or_eq_true, beq_iff_eq, decide_eq_true_eq] using this

theorem toNat_ofNat8 {k : Nat} (h : k < 256) : (OfNat.ofNat k : UInt8).toNat = k := UInt8.toNat_ofNat_of_lt' h
theorem i_beq (x : UInt8) (k : Nat) (h : k < 256) : ((x.toNat : Int) == (OfNat.ofNat k : Int)) = (x == (OfNat.ofNat k : UInt8)) := by
  have h1 := toNat_ofNat8 h
  rw [Bool.eq_iff_iff, beq_iff_eq, beq_iff_eq]
  show (x.toNat : Int) = ((k : Nat) : Int) ↔ _
  exact ⟨fun e => UInt8.toNat_inj.1 (by rw [h1]; omega), fun e => by rw [e, h1]⟩
theorem i_bne (x : UInt8) (k : Nat) (h : k < 256) : ((x.toNat : Int) != (OfNat.ofNat k : Int)) = (x != (OfNat.ofNat k : UInt8)) := by
  simp only [bne, i_beq x k h]
theorem i_le (x : UInt8) (k : Nat) (h : k < 256) : decide ((x.toNat : Int) ≤ (OfNat.ofNat k : Int)) = decide (x ≤ (OfNat.ofNat k : UInt8)) := by
  have h1 := toNat_ofNat8 h
  rw [decide_eq_decide, UInt8.le_iff_toNat_le, h1]
  show (x.toNat : Int) ≤ ((k : Nat) : Int) ↔ _
  omega
theorem i_ge (x : UInt8) (k : Nat) (h : k < 256) : decide ((OfNat.ofNat k : Int) ≤ (x.toNat : Int)) = decide ((OfNat.ofNat k : UInt8) ≤ x) := by
  have h1 := toNat_ofNat8 h
  rw [decide_eq_decide, UInt8.le_iff_toNat_le, h1]
  show ((k : Nat) : Int) ≤ (x.toNat : Int) ↔ _
  omega
theorem i_lt (x : UInt8) (k : Nat) (h : k < 256) : decide ((x.toNat : Int) < (OfNat.ofNat k : Int)) = decide (x < (OfNat.ofNat k : UInt8)) := by
  have h1 := toNat_ofNat8 h
  rw [decide_eq_decide, UInt8.lt_iff_toNat_lt, h1]
  show (x.toNat : Int) < ((k : Nat) : Int) ↔ _
  omega
theorem i_gt (x : UInt8) (k : Nat) (h : k < 256) : decide ((OfNat.ofNat k : Int) < (x.toNat : Int)) = decide ((OfNat.ofNat k : UInt8) < x) := by
  have h1 := toNat_ofNat8 h
  rw [decide_eq_decide, UInt8.lt_iff_toNat_lt, h1]
  show ((k : Nat) : Int) < (x.toNat : Int) ↔ _
  omega

/-- No letter A to Z. -/
def low (l : List UInt8) : Bool := l.all fun b => !(decide (65 ≤ b) && decide (b ≤ 90))
/-- A name in small letters, of 1 to so many bytes. -/
def small (l : List UInt8) (most : Int) : Bool := low l && (decide (1 ≤ l.length) && decide ((l.length : Int) ≤ most))
def pre (p l : List UInt8) : Bool := decide (p.length ≤ l.length) && l.take p.length == p
theorem slS_hi {l : List UInt8} {i : Nat} (h : i ≤ l.length) : slS (.s l) none (some (.int (i : Int))) = some (.s (l.take i)) := by
  show ((lohi l.length none (some (.int (i : Int)))).bind fun p => some (AV.s ((l.take p.2).drop p.1))) = _
  simp [lohi, upN_int h]
theorem slS_lo {l : List UInt8} {i : Nat} (h : i ≤ l.length) : slS (.s l) (some (.int (i : Int))) none = some (.s (l.drop i)) := by
  show ((lohi l.length (some (.int (i : Int))) none).bind fun p => some (AV.s ((l.take p.2).drop p.1))) = _
  simp [lohi, upN_int h]
end Sx

/-
  SxPCtx: contexts: their form, their holes, what HTML knows of them: plain Lean.
-/
namespace Sx
open Go

/-- JavaScript or CSS? -/
def coded (st el at' : UInt8) : Bool := st == 8 && (at' == 2 || at' == 3) || (decide (17 ≤ st) && decide (st ≤ 19)) && (el == 3 || el == 4)
/-- An element's name. -/
def nameOf (el : UInt8) : List UInt8 :=
  if el = 1 then [116, 101, 120, 116, 97, 114, 101, 97] else if el = 2 then [116, 105, 116, 108, 101] else if el = 3 then [115, 99, 114, 105, 112, 116] else if el = 4 then [115, 116, 121, 108, 101] else []


theorem nlt (n : UInt8) : (20 < n) → ¬ n = 0 ∧ ¬ n = 1 ∧ ¬ n = 2 ∧ ¬ n = 3 ∧ ¬ n = 4 ∧ ¬ n = 5 ∧ ¬ n = 6 ∧ ¬ n = 7 ∧ ¬ n = 8 ∧ ¬ n = 9 ∧ ¬ n = 10 ∧ ¬ n = 11 ∧ ¬ n = 12 ∧ ¬ n = 13 ∧ ¬ n = 14 ∧ ¬ n = 15 ∧ ¬ n = 16 ∧ ¬ n = 17 ∧ ¬ n = 18 ∧ ¬ n = 19 := by
  intro h
  refine ⟨?_, ?_, ?_, ?_, ?_, ?_, ?_, ?_, ?_, ?_, ?_, ?_, ?_, ?_, ?_, ?_, ?_, ?_, ?_, ?_⟩ <;> (rintro rfl; revert h; decide)

/-- Are Sub and Esc such as can be? -/
def subOk (su : UInt8) (es script : Bool) : Bool := (script || su != 4) && (!es || su == 1 || su == 2)


def isTag (st : UInt8) : Bool := decide (4 ≤ st) && decide (st ≤ 10)
def isRaw (st : UInt8) : Bool := decide (17 ≤ st) && decide (st ≤ 19)
/-- Is a context in form? -/
def form (c : Ctx) : Bool :=
  if decide (20 < c.st) || decide (4 < c.el) || decide (4 < c.at') || decide (5 < c.pa) || decide (6 < c.su) || decide (2 < c.da) then false
  else if (c.el != 0 && !isTag c.st && !isRaw c.st) || (isRaw c.st && c.el == 0) then false
  else if c.en && ((c.st != 3 && !isTag c.st) || c.el != 0) then false
  else if c.at' != 0 && c.st != 7 && c.st != 8 then false
  else if c.qu != 0 && (c.st != 8 || (c.qu != 34 && c.qu != 39)) then false
  else if c.pa != 0 && (c.st != 8 || c.at' != 1) then false
  else if c.da != 0 && c.st != 15 then false
  else if (c.su != 0 && !coded c.st c.el c.at') || (((c.st == 8 && c.at' == 3) || (isRaw c.st && c.el == 4)) && c.su == 4) then false
  else if c.es && c.su != 1 && c.su != 2 then false
  else if c.st == 3 || c.st == 5 || c.st == 6 then small c.nm 32
  else if c.st == 8 && c.at' == 1 && c.pa == 1 then small c.nm 16
  else if c.st == 19 then pre c.nm (nameOf c.el)
  else c.nm == []


theorem some_ite {c : Bool} {a b : Bool} : (if c = true then some (AV.b a) else some (AV.b b)) = some (.b (if c = true then a else b)) := by cases c <;> rfl

def valOk (c t : Ctx) : Bool :=
  if (c.qu != 0 && c.qu != 34 && c.qu != 39) = true then false
  else if (c.at' == 1) = true then (if (c.pa == 1) = true then cxeq c ⟨t.st, t.el, t.en, c.at', c.qu, c.pa, t.su, t.es, t.da, c.nm⟩ && small c.nm 16 else cxeq c ⟨t.st, t.el, t.en, c.at', c.qu, c.pa, t.su, t.es, t.da, t.nm⟩)
  else if (c.at' == 2 || c.at' == 3) = true then cxeq c ⟨t.st, t.el, t.en, c.at', c.qu, t.pa, c.su, c.es, t.da, t.nm⟩ && subOk c.su c.es (c.at' == 2)
  else cxeq c ⟨t.st, t.el, t.en, c.at', c.qu, t.pa, t.su, t.es, t.da, t.nm⟩

/-- .. as the program asks. -/
def form1 (c : Ctx) : Bool :=
  if (decide (20 < c.st) || decide (4 < c.el) || decide (4 < c.at') || decide (5 < c.pa) || decide (6 < c.su) || (c.en && c.el != 0)) = true then false
  else if (c.st == 3) = true then cxeq c ⟨c.st, 0, c.en, 0, 0, 0, 0, false, 0, c.nm⟩ && small c.nm 32
  else if (c.st == 4 || c.st == 9 || c.st == 10) = true then cxeq c ⟨c.st, c.el, c.en, 0, 0, 0, 0, false, 0, []⟩
  else if (c.st == 5 || c.st == 6) = true then cxeq c ⟨c.st, c.el, c.en, 0, 0, 0, 0, false, 0, c.nm⟩ && small c.nm 32
  else if (c.st == 7) = true then cxeq c ⟨c.st, c.el, c.en, c.at', 0, 0, 0, false, 0, []⟩
  else if (c.st == 8) = true then valOk c ⟨c.st, c.el, c.en, 0, 0, 0, 0, false, 0, []⟩
  else if (c.st == 15) = true then cxeq c ⟨c.st, 0, false, 0, 0, 0, 0, false, c.da, []⟩ && decide (c.da ≤ 2)
  else if (c.st == 17 || c.st == 18 || c.st == 19) = true then (cxeq c ⟨c.st, c.el, false, 0, 0, 0, if (c.el == 3 || c.el == 4) = true then c.su else 0, if (c.el == 3 || c.el == 4) = true then c.es else false, 0, if (c.st == 19) = true then c.nm else []⟩ && (c.el != 0) && pre c.nm (nameOf c.el) && subOk c.su c.es (c.el == 3))
  else cxeq c ⟨c.st, 0, false, 0, 0, 0, 0, false, 0, []⟩


theorem form_eq (st el : UInt8) (en : Bool) (at' qu pa su : UInt8) (es : Bool) (da : UInt8) (nm : List UInt8) : form1 ⟨st, el, en, at', qu, pa, su, es, da, nm⟩ = form ⟨st, el, en, at', qu, pa, su, es, da, nm⟩ := by
  unfold form1 form
  dsimp only
  rcases st_cases st with h | h | h | h | h | h | h | h | h | h | h | h | h | h | h | h | h | h | h | h | h | h
  all_goals try subst h
  all_goals try simp [isTag, isRaw, cxeq, coded, subOk, valOk, *]
  all_goals try (grind; done)
  · rcases el_cases at' with h | h | h | h | h | h
    all_goals try subst h
    all_goals simp [*]
    all_goals try (grind; done)
  all_goals (have hp : pre [] (nameOf el) = true := by simp [pre]); cases nm <;> simp [hp] <;> rcases el_cases el with h | h | h | h | h | h <;> (try subst h) <;> (try simp [*]) <;> (try grind)


/-- Which hole may be there. -/
def hole (c : Ctx) : UInt8 :=
  if c.st == 0 then 1
  else if c.st == 17 then (if c.el == 1 || c.el == 2 then 2 else if (c.su == 1 || c.su == 2) && !c.es && c.el == 3 then 7 else if (c.su == 1 || c.su == 2) && !c.es && c.el == 4 then 9 else 0)
  else if c.st == 8 then
    (if c.qu == 0 then 0 else if c.at' == 0 then 3
    else if c.at' == 1 then (if c.pa == 0 then 4 else if c.pa == 3 then 5 else if c.pa == 4 then 6 else 0)
    else if c.at' == 2 then (if (c.su == 1 || c.su == 2) && !c.es then 8 else 0)
    else if c.at' == 3 then (if (c.su == 1 || c.su == 2) && !c.es then 10 else 0) else 0)
  else 0
def badC : Ctx := ⟨20, 0, false, 0, 0, 0, 0, false, 0, []⟩
/-- The context behind a hole. -/
def after (c : Ctx) : Ctx := if hole c == 0 then badC else if hole c == 4 then { c with pa := 2 } else c
/-- What HTML knows of a context. -/
def outer (c : Ctx) : Ctx := if c.st == 8 || c.st == 17 then ⟨c.st, c.el, c.en, c.at', c.qu, 0, 0, false, 0, []⟩ else c


theorem hole4 (c : Ctx) (h : hole c = 4) : c.st = 8 ∧ c.qu ≠ 0 ∧ c.at' = 1 ∧ c.pa = 0 := by
  unfold hole at h
  grind (splits := 30)
theorem form_after (c : Ctx) (h : hole c ≠ 0) (hf : form c = true) : form (after c) = true := by
  unfold after
  have h0 : (hole c == 0) = false := by simpa using h
  cases h4 : (hole c == 4) with
  | false => simpa [h0] using hf
  | true =>
    obtain ⟨h1, h2, h3, h5⟩ := hole4 c (by simpa using h4)
    obtain ⟨st, el, en, at', qu, pa, su, es, da, nm⟩ := c
    simp only at h1 h2 h3 h5
    subst h1 h3 h5
    simp only [h0, Bool.false_eq_true, if_false, if_true]
    unfold form at hf ⊢
    simp only [isTag, isRaw, coded] at hf ⊢
    simp at hf ⊢
    grind
theorem outer_after (c : Ctx) (h : hole c ≠ 0) : outer (after c) = outer c := by
  unfold after
  have h0 : (hole c == 0) = false := by simpa using h
  cases h4 : (hole c == 4) with
  | false => simp [h0]
  | true =>
    obtain ⟨h1, h2, h3, h5⟩ := hole4 c (by simpa using h4)
    simp [h0, outer, h1]
theorem hole_after4 (c : Ctx) (h : hole c = 4) : hole (after c) = 0 := by
  obtain ⟨h1, h2, h3, h5⟩ := hole4 c h
  have : after c = { c with pa := 2 } := by simp [after, h]
  rw [this]
  simp [hole, h1, h2, h3]
theorem after_same (c : Ctx) (h : hole c ≠ 0) (h4 : hole c ≠ 4) : after c = c := by
  simp [after, h, h4]


/-- The element of a name. -/
def elOf (nm : List UInt8) : UInt8 :=
  if nm == [116, 101, 120, 116, 97, 114, 101, 97] then 1 else if nm == [116, 105, 116, 108, 101] then 2 else if nm == [115, 99, 114, 105, 112, 116] then 3 else if nm == [115, 116, 121, 108, 101] then 4 else 0
def urls : List (List UInt8) := [[97, 99, 116, 105, 111, 110], [98, 97, 99, 107, 103, 114, 111, 117, 110, 100], [99, 105, 116, 101], [100, 97, 116, 97], [102, 111, 114, 109, 97, 99, 116, 105, 111, 110], [104, 114, 101, 102], [108, 111, 110, 103, 100, 101, 115, 99], [109, 97, 110, 105, 102, 101, 115, 116], [112, 111, 115, 116, 101, 114], [115, 114, 99], [120, 108, 105, 110, 107, 58, 104, 114, 101, 102]]
def odds : List (List UInt8) := [[115, 114, 99, 100, 111, 99], [115, 114, 99, 115, 101, 116], [105, 109, 97, 103, 101, 115, 114, 99, 115, 101, 116], [99, 111, 110, 116, 101, 110, 116], [104, 116, 116, 112, 45, 101, 113, 117, 105, 118]]
/-- What the value of an attribute of a name is. -/
def attrOf (nm : List UInt8) : UInt8 :=
  if urls.contains nm then 1 else if nm == [115, 116, 121, 108, 101] then 3 else if odds.contains nm then 4 else if decide (2 < nm.length) && pre [111, 110] nm then 2 else 0

theorem beqf {a b : List UInt8} (h : (a == b) = false) : (b == a) = false := by
  rw [beq_eq_false_iff_ne] at h ⊢; exact fun e => h e.symm
theorem inN_s (P : List (List UInt8)) (c : List UInt8) (R : List (List UInt8)) : inN ((P ++ c :: R).map AV.s).length (.int (P.length : Int)) = some P.length := inN_int (by simp)
theorem getD_s (P : List (List UInt8)) (c : List UInt8) (R : List (List UInt8)) : ((P ++ c :: R).map AV.s).getD P.length .un = .s c := by simp
theorem name_elem (e : UInt8) : (e == 0 || decide (4 < e) || elOf (nameOf e) == e) = true := by
  revert e
  exact all_u8 (by kernel_rfl)
end Sx

/-
  SxCtxAV: a context as one word among plain data.
-/
namespace Sx
open Go

/-- A context, as a value. -/
def Ctx.toAV (c : Ctx) : AV := cx c.st c.el c.en c.at' c.qu c.pa c.su c.es c.da c.nm
theorem mk_toAV (st el : UInt8) (en : Bool) (at' qu pa su : UInt8) (es : Bool) (da : UInt8) (nm : List UInt8) :
    (.ag [.u8 st, .u8 el, .b en, .u8 at', .u8 qu, .u8 pa, .u8 su, .b es, .u8 da, .s nm] : AV) = Ctx.toAV ⟨st, el, en, at', qu, pa, su, es, da, nm⟩ := rfl
theorem mk_eta (d : Ctx) : (⟨d.st, d.el, d.en, d.at', d.qu, d.pa, d.su, d.es, d.da, d.nm⟩ : Ctx) = d := rfl
theorem asAg_toAV (d : Ctx) : AV.asAg 10 d.toAV = some [.u8 d.st, .u8 d.el, .b d.en, .u8 d.at', .u8 d.qu, .u8 d.pa, .u8 d.su, .b d.es, .u8 d.da, .s d.nm] := rfl
theorem eq_toAV (a b : Ctx) : binAg [.i, .i, .b, .i, .i, .i, .i, .b, .i, .s] .eql a.toAV b.toAV = some (.b (decide (a = b))) := by
  obtain ⟨⟩ := a; obtain ⟨⟩ := b
  rw [← cxeq_iff]
  exact binAg_cx ..
theorem ne_toAV (a b : Ctx) : binAg [.i, .i, .b, .i, .i, .i, .i, .b, .i, .s] .neq a.toAV b.toAV = some (.b (!decide (a = b))) := by
  obtain ⟨⟩ := a; obtain ⟨⟩ := b
  rw [← cxeq_iff]
  exact binAg_cx_ne ..
theorem toAV_ite (p : Prop) [Decidable p] (a b : Ctx) : some (Ctx.toAV (if p then a else b)) = if p then some a.toAV else some b.toAV := by split <;> rfl
/-- A context and a mark. -/
def tv (p : Ctx × Bool) : AV := .tu [p.1.toAV, .b p.2]
theorem tv_mk (c : Ctx) (b : Bool) : (.tu [c.toAV, .b b] : AV) = tv (c, b) := rfl
theorem tv_ite (p : Prop) [Decidable p] (a b : Ctx × Bool) : some (tv (if p then a else b)) = if p then some (tv a) else some (tv b) := by split <;> rfl
theorem tv_0 (p : Ctx × Bool) : tupI (tv p) 0 = some p.1.toAV := rfl
theorem tv_1 (p : Ctx × Bool) : tupI (tv p) 1 = some (.b p.2) := rfl
/-- A context and a place. -/
def ti (p : Ctx × Int) : AV := .tu [p.1.toAV, .int p.2]
theorem ti_mk (c : Ctx) (n : Int) : (.tu [c.toAV, .int n] : AV) = ti (c, n) := rfl
theorem ti_0 (p : Ctx × Int) : tupI (ti p) 0 = some p.1.toAV := rfl
theorem ti_1 (p : Ctx × Int) : tupI (ti p) 1 = some (.int p.2) := rfl
theorem b2s_one (x : UInt8) : b2s (.ro 1 [.u8 x]) = some (.s [x]) := b2s_u8 (l := [x]) (by show 1 ≤ big; decide)
theorem is_ctx' {a : AV} (h : IsArg true [.u8, .u8, .b, .u8, .u8, .u8, .u8, .b, .u8, .s] a) : ∃ c : Ctx, a = c.toAV ∧ c.nm.length < 9223372036854775808 := by
  obtain ⟨c, rfl, hc⟩ := is_ctx h
  exact ⟨c, rfl, Nat.lt_of_le_of_lt hc (by decide)⟩
theorem s_add' {p q : List UInt8} (h : p.length + q.length ≤ 1000000) : binS .add (.s p) (.s q) = some (.s (p ++ q)) := s_add (Nat.le_trans h (by decide))
theorem ge_len (l : List UInt8) (k : Nat) : decide ((l.length : Int) ≥ (k : Int)) = decide (k ≤ l.length) := by rw [decide_eq_decide]; omega
end Sx
