/-
  What the document says, in plain Lean, with no program in sight.
-/
import Derived.Test.YtcmpmpnjidjenaaDoorSxC
set_option linter.unusedVariables false
set_option linter.unusedSimpArgs false
set_option linter.unusedSectionVars false
set_option linter.unnecessarySimpa false
/-
  SxCtx: the context, as plain data: ten cells.
-/
namespace Sx
open Go

structure Ctx where
  st : UInt8
  el : UInt8
  en : Bool
  at' : UInt8
  qu : UInt8
  pa : UInt8
  su : UInt8
  es : Bool
  da : UInt8
  nm : List UInt8
  deriving DecidableEq

/-- As it lies in ten cells. -/
abbrev cx (st el : UInt8) (en : Bool) (at' qu pa su : UInt8) (es : Bool) (da : UInt8) (nm : List UInt8) : AV :=
  .ag [.u8 st, .u8 el, .b en, .u8 at', .u8 qu, .u8 pa, .u8 su, .b es, .u8 da, .s nm]
abbrev Ctx.av (c : Ctx) : AV := cx c.st c.el c.en c.at' c.qu c.pa c.su c.es c.da c.nm

@[simp] theorem asAg_ten (a b c d e f g h i j : AV) : AV.asAg 10 (.ag [a, b, c, d, e, f, g, h, i, j]) = some [a, b, c, d, e, f, g, h, i, j] := rfl

section get
variable (a b c d e f g h i j : AV)
@[simp] theorem ten0 : [a, b, c, d, e, f, g, h, i, j].getD 0 .un = a := rfl
@[simp] theorem ten1 : [a, b, c, d, e, f, g, h, i, j].getD 1 .un = b := rfl
@[simp] theorem ten2 : [a, b, c, d, e, f, g, h, i, j].getD 2 .un = c := rfl
@[simp] theorem ten3 : [a, b, c, d, e, f, g, h, i, j].getD 3 .un = d := rfl
@[simp] theorem ten4 : [a, b, c, d, e, f, g, h, i, j].getD 4 .un = e := rfl
@[simp] theorem ten5 : [a, b, c, d, e, f, g, h, i, j].getD 5 .un = f := rfl
@[simp] theorem ten6 : [a, b, c, d, e, f, g, h, i, j].getD 6 .un = g := rfl
@[simp] theorem ten7 : [a, b, c, d, e, f, g, h, i, j].getD 7 .un = h := rfl
@[simp] theorem ten8 : [a, b, c, d, e, f, g, h, i, j].getD 8 .un = i := rfl
@[simp] theorem ten9 : [a, b, c, d, e, f, g, h, i, j].getD 9 .un = j := rfl
end get

theorem u8_beq (x y : UInt8) : ((x.toNat : Int) == (y.toNat : Int)) = (x == y) := by
  rw [Bool.eq_iff_iff]
  simp only [beq_iff_eq, Int.ofNat_inj]
  exact ⟨fun h => UInt8.toNat_inj.1 h, fun h => by rw [h]⟩
/-- Two contexts, compared. -/
def cxeq (a b : Ctx) : Bool :=
  a.st == b.st && (a.el == b.el && (a.en == b.en && (a.at' == b.at' && (a.qu == b.qu && (a.pa == b.pa && (a.su == b.su && (a.es == b.es && (a.da == b.da && a.nm == b.nm))))))))
@[simp] theorem binAg_cx (st el : UInt8) (en : Bool) (at' qu pa su : UInt8) (es : Bool) (da : UInt8) (nm : List UInt8) (st1 el1 : UInt8) (en1 : Bool) (at1 qu1 pa1 su1 : UInt8) (es1 : Bool) (da1 : UInt8) (nm1 : List UInt8) :
    binAg [.i, .i, .b, .i, .i, .i, .i, .b, .i, .s] .eql (.ag [.u8 st, .u8 el, .b en, .u8 at', .u8 qu, .u8 pa, .u8 su, .b es, .u8 da, .s nm]) (.ag [.u8 st1, .u8 el1, .b en1, .u8 at1, .u8 qu1, .u8 pa1, .u8 su1, .b es1, .u8 da1, .s nm1]) =
      some (.b (cxeq ⟨st, el, en, at', qu, pa, su, es, da, nm⟩ ⟨st1, el1, en1, at1, qu1, pa1, su1, es1, da1, nm1⟩)) := by
  simp only [binAg, eqs, eq1, Option.bind_some, cxeq, Bool.and_true]
@[simp] theorem binAg_cx_ne (st el : UInt8) (en : Bool) (at' qu pa su : UInt8) (es : Bool) (da : UInt8) (nm : List UInt8) (st1 el1 : UInt8) (en1 : Bool) (at1 qu1 pa1 su1 : UInt8) (es1 : Bool) (da1 : UInt8) (nm1 : List UInt8) :
    binAg [.i, .i, .b, .i, .i, .i, .i, .b, .i, .s] .neq (.ag [.u8 st, .u8 el, .b en, .u8 at', .u8 qu, .u8 pa, .u8 su, .b es, .u8 da, .s nm]) (.ag [.u8 st1, .u8 el1, .b en1, .u8 at1, .u8 qu1, .u8 pa1, .u8 su1, .b es1, .u8 da1, .s nm1]) =
      some (.b (!cxeq ⟨st, el, en, at', qu, pa, su, es, da, nm⟩ ⟨st1, el1, en1, at1, qu1, pa1, su1, es1, da1, nm1⟩)) := by
  simp only [binAg, eqs, eq1, Option.bind_some, cxeq, Bool.and_true]
theorem cxeq_iff (a b : Ctx) : cxeq a b = decide (a = b) := by
  obtain ⟨⟩ := a; obtain ⟨⟩ := b
  rw [Bool.eq_iff_iff]
  simp only [cxeq, Ctx.mk.injEq, Bool.and_eq_true, beq_iff_eq, decide_eq_true_eq]

/-- A context, out of an argument. -/
theorem is_ctx {a : AV} (h : IsArg true [.u8, .u8, .b, .u8, .u8, .u8, .u8, .b, .u8, .s] a) : ∃ c : Ctx, a = c.av ∧ c.nm.length ≤ maxLen := by
  obtain ⟨m, rfl, hl, hi⟩ := h
  match m, hl with
  | [a0, a1, a2, a3, a4, a5, a6, a7, a8, a9], _ =>
    have h0 := hi 0 _ _ rfl rfl
    have h1 := hi 1 _ _ rfl rfl
    have h2 := hi 2 _ _ rfl rfl
    have h3 := hi 3 _ _ rfl rfl
    have h4 := hi 4 _ _ rfl rfl
    have h5 := hi 5 _ _ rfl rfl
    have h6 := hi 6 _ _ rfl rfl
    have h7 := hi 7 _ _ rfl rfl
    have h8 := hi 8 _ _ rfl rfl
    have h9 := hi 9 _ _ rfl rfl
    cases h0; cases h1; cases h2; cases h3; cases h4; cases h5; cases h6; cases h7; cases h8
    cases h9 with
    | s l hl => exact ⟨⟨_, _, _, _, _, _, _, _, _, l⟩, rfl, hl⟩

theorem st_cases (st : UInt8) : st = 0 ∨ st = 1 ∨ st = 2 ∨ st = 3 ∨ st = 4 ∨ st = 5 ∨ st = 6 ∨ st = 7 ∨ st = 8 ∨ st = 9 ∨ st = 10 ∨ st = 11 ∨ st = 12 ∨ st = 13 ∨ st = 14 ∨ st = 15 ∨ st = 16 ∨ st = 17 ∨ st = 18 ∨ st = 19 ∨ st = 20 ∨ 20 < st := by
  have := all_u8 (p := fun st => st == 0 || (st == 1 || (st == 2 || (st == 3 || (st == 4 || (st == 5 || (st == 6 || (st == 7 || (st == 8 || (st == 9 || (st == 10 || (st == 11 || (st == 12 || (st == 13 || (st == 14 || (st == 15 || (st == 16 || (st == 17 || (st == 18 || (st == 19 || (st == 20 || decide (20 < st)))))))))))))))))))))) (by kernel_rfl) st
  simpa only [Bool.or_eq_true, beq_iff_eq, decide_eq_true_eq] using this
theorem el_cases (x : UInt8) : x = 0 ∨ x = 1 ∨ x = 2 ∨ x = 3 ∨ x = 4 ∨ 4 < x := by
  have := all_u8 (p := fun st => st == 0 || (st == 1 || (st == 2 || (st == 3 || (st == 4 || decide (4 < st)))))) (by kernel_rfl) x
  simpa only [Bool.or_eq_true, beq_iff_eq, decide_eq_true_eq] using this
theorem pa_cases (x : UInt8) : x = 0 ∨ x = 1 ∨ x = 2 ∨ x = 3 ∨ x = 4 ∨ x = 5 ∨ 5 < x := by
  have := all_u8 (p := fun st => st == 0 || (st == 1 || (st == 2 || (st == 3 || (st == 4 || (st == 5 || decide (5 < st))))))) (by kernel_rfl) x
  simpa only [Bool.or_eq_true, beq_iff_eq, decide_eq_true_eq] using this
theorem su_cases (x : UInt8) : x = 0 ∨ x = 1 ∨ x = 2 ∨ x = 3 ∨ x = 4 ∨ x = 5 ∨ x = 6 ∨ 6 < x := by
  have := all_u8 (p := fun st => st == 0 || (st == 1 || (st == 2 || (st == 3 || (st == 4 || (st == 5 || (st == 6 || decide (6 < st)))))))) (by kernel_rfl) x
  simpa only [Bool.or_eq_true, beq_iff_eq, decide_eq_true_eq] using this

theorem toNat_ofNat8 {k : Nat} (h : k < 256) : (OfNat.ofNat k : UInt8).toNat = k := UInt8.toNat_ofNat_of_lt' h
theorem i_beq (x : UInt8) (k : Nat) (h : k < 256) : ((x.toNat : Int) == (OfNat.ofNat k : Int)) = (x == (OfNat.ofNat k : UInt8)) := by
  have h1 := toNat_ofNat8 h
  rw [Bool.eq_iff_iff, beq_iff_eq, beq_iff_eq]
  show (x.toNat : Int) = ((k : Nat) : Int) ↔ _
  exact ⟨fun e => UInt8.toNat_inj.1 (by rw [h1]; omega), fun e => by rw [e, h1]⟩
theorem i_bne (x : UInt8) (k : Nat) (h : k < 256) : ((x.toNat : Int) != (OfNat.ofNat k : Int)) = (x != (OfNat.ofNat k : UInt8)) := by
  simp only [bne, i_beq x k h]
theorem i_le (x : UInt8) (k : Nat) (h : k < 256) : decide ((x.toNat : Int) ≤ (OfNat.ofNat k : Int)) = decide (x ≤ (OfNat.ofNat k : UInt8)) := by
  have h1 := toNat_ofNat8 h
  rw [decide_eq_decide, UInt8.le_iff_toNat_le, h1]
  show (x.toNat : Int) ≤ ((k : Nat) : Int) ↔ _
  omega
theorem i_ge (x : UInt8) (k : Nat) (h : k < 256) : decide ((OfNat.ofNat k : Int) ≤ (x.toNat : Int)) = decide ((OfNat.ofNat k : UInt8) ≤ x) := by
  have h1 := toNat_ofNat8 h
  rw [decide_eq_decide, UInt8.le_iff_toNat_le, h1]
  show ((k : Nat) : Int) ≤ (x.toNat : Int) ↔ _
  omega
theorem i_lt (x : UInt8) (k : Nat) (h : k < 256) : decide ((x.toNat : Int) < (OfNat.ofNat k : Int)) = decide (x < (OfNat.ofNat k : UInt8)) := by
  have h1 := toNat_ofNat8 h
  rw [decide_eq_decide, UInt8.lt_iff_toNat_lt, h1]
  show (x.toNat : Int) < ((k : Nat) : Int) ↔ _
  omega
theorem i_gt (x : UInt8) (k : Nat) (h : k < 256) : decide ((OfNat.ofNat k : Int) < (x.toNat : Int)) = decide ((OfNat.ofNat k : UInt8) < x) := by
  have h1 := toNat_ofNat8 h
  rw [decide_eq_decide, UInt8.lt_iff_toNat_lt, h1]
  show ((k : Nat) : Int) < (x.toNat : Int) ↔ _
  omega

/-- No letter A to Z. -/
def low (l : List UInt8) : Bool := l.all fun b => !(decide (65 ≤ b) && decide (b ≤ 90))
/-- A name in small letters, of 1 to so many bytes. -/
def small (l : List UInt8) (most : Int) : Bool := low l && (decide (1 ≤ l.length) && decide ((l.length : Int) ≤ most))
def pre (p l : List UInt8) : Bool := decide (p.length ≤ l.length) && l.take p.length == p
theorem slS_hi {l : List UInt8} {i : Nat} (h : i ≤ l.length) : slS (.s l) none (some (.int (i : Int))) = some (.s (l.take i)) := by
  show ((lohi l.length none (some (.int (i : Int)))).bind fun p => some (AV.s ((l.take p.2).drop p.1))) = _
  simp [lohi, upN_int h]
theorem slS_lo {l : List UInt8} {i : Nat} (h : i ≤ l.length) : slS (.s l) (some (.int (i : Int))) none = some (.s (l.drop i)) := by
  show ((lohi l.length (some (.int (i : Int))) none).bind fun p => some (AV.s ((l.take p.2).drop p.1))) = _
  simp [lohi, upN_int h]
end Sx

/-
  SxPCtx: contexts: their form, their holes, what HTML knows of them: plain Lean.
-/
namespace Sx
open Go

/-- JavaScript or CSS? -/
def coded (st el at' : UInt8) : Bool := st == 8 && (at' == 2 || at' == 3) || (decide (17 ≤ st) && decide (st ≤ 19)) && (el == 3 || el == 4)
/-- An element's name. -/
def nameOf (el : UInt8) : List UInt8 :=
  if el = 1 then [116, 101, 120, 116, 97, 114, 101, 97] else if el = 2 then [116, 105, 116, 108, 101] else if el = 3 then [115, 99, 114, 105, 112, 116] else if el = 4 then [115, 116, 121, 108, 101] else []


theorem nlt (n : UInt8) : (20 < n) → ¬ n = 0 ∧ ¬ n = 1 ∧ ¬ n = 2 ∧ ¬ n = 3 ∧ ¬ n = 4 ∧ ¬ n = 5 ∧ ¬ n = 6 ∧ ¬ n = 7 ∧ ¬ n = 8 ∧ ¬ n = 9 ∧ ¬ n = 10 ∧ ¬ n = 11 ∧ ¬ n = 12 ∧ ¬ n = 13 ∧ ¬ n = 14 ∧ ¬ n = 15 ∧ ¬ n = 16 ∧ ¬ n = 17 ∧ ¬ n = 18 ∧ ¬ n = 19 := by
  intro h
  refine ⟨?_, ?_, ?_, ?_, ?_, ?_, ?_, ?_, ?_, ?_, ?_, ?_, ?_, ?_, ?_, ?_, ?_, ?_, ?_, ?_⟩ <;> (rintro rfl; revert h; decide)

/-- Are Sub and Esc such as can be? -/
def subOk (su : UInt8) (es script : Bool) : Bool := (script || su != 4) && (!es || su == 1 || su == 2)


def isTag (st : UInt8) : Bool := decide (4 ≤ st) && decide (st ≤ 10)
def isRaw (st : UInt8) : Bool := decide (17 ≤ st) && decide (st ≤ 19)
/-- Is a context in form? -/
def form (c : Ctx) : Bool :=
  if decide (20 < c.st) || decide (4 < c.el) || decide (4 < c.at') || decide (5 < c.pa) || decide (6 < c.su) || decide (2 < c.da) then false
  else if (c.el != 0 && !isTag c.st && !isRaw c.st) || (isRaw c.st && c.el == 0) then false
  else if c.en && ((c.st != 3 && !isTag c.st) || c.el != 0) then false
  else if c.at' != 0 && c.st != 7 && c.st != 8 then false
  else if c.qu != 0 && (c.st != 8 || (c.qu != 34 && c.qu != 39)) then false
  else if c.pa != 0 && (c.st != 8 || c.at' != 1) then false
  else if c.da != 0 && c.st != 15 then false
  else if (c.su != 0 && !coded c.st c.el c.at') || (((c.st == 8 && c.at' == 3) || (isRaw c.st && c.el == 4)) && c.su == 4) then false
  else if c.es && c.su != 1 && c.su != 2 then false
  else if c.st == 3 || c.st == 5 || c.st == 6 then small c.nm 32
  else if c.st == 8 && c.at' == 1 && c.pa == 1 then small c.nm 16
  else if c.st == 19 then pre c.nm (nameOf c.el)
  else c.nm == []


theorem some_ite {c : Bool} {a b : Bool} : (if c = true then some (AV.b a) else some (AV.b b)) = some (.b (if c = true then a else b)) := by cases c <;> rfl

def valOk (c t : Ctx) : Bool :=
  if (c.qu != 0 && c.qu != 34 && c.qu != 39) = true then false
  else if (c.at' == 1) = true then (if (c.pa == 1) = true then cxeq c ⟨t.st, t.el, t.en, c.at', c.qu, c.pa, t.su, t.es, t.da, c.nm⟩ && small c.nm 16 else cxeq c ⟨t.st, t.el, t.en, c.at', c.qu, c.pa, t.su, t.es, t.da, t.nm⟩)
  else if (c.at' == 2 || c.at' == 3) = true then cxeq c ⟨t.st, t.el, t.en, c.at', c.qu, t.pa, c.su, c.es, t.da, t.nm⟩ && subOk c.su c.es (c.at' == 2)
  else cxeq c ⟨t.st, t.el, t.en, c.at', c.qu, t.pa, t.su, t.es, t.da, t.nm⟩

/-- .. as the program asks. -/
def form1 (c : Ctx) : Bool :=
  if (decide (20 < c.st) || decide (4 < c.el) || decide (4 < c.at') || decide (5 < c.pa) || decide (6 < c.su) || (c.en && c.el != 0)) = true then false
  else if (c.st == 3) = true then cxeq c ⟨c.st, 0, c.en, 0, 0, 0, 0, false, 0, c.nm⟩ && small c.nm 32
  else if (c.st == 4 || c.st == 9 || c.st == 10) = true then cxeq c ⟨c.st, c.el, c.en, 0, 0, 0, 0, false, 0, []⟩
  else if (c.st == 5 || c.st == 6) = true then cxeq c ⟨c.st, c.el, c.en, 0, 0, 0, 0, false, 0, c.nm⟩ && small c.nm 32
  else if (c.st == 7) = true then cxeq c ⟨c.st, c.el, c.en, c.at', 0, 0, 0, false, 0, []⟩
  else if (c.st == 8) = true then valOk c ⟨c.st, c.el, c.en, 0, 0, 0, 0, false, 0, []⟩
  else if (c.st == 15) = true then cxeq c ⟨c.st, 0, false, 0, 0, 0, 0, false, c.da, []⟩ && decide (c.da ≤ 2)
  else if (c.st == 17 || c.st == 18 || c.st == 19) = true then (cxeq c ⟨c.st, c.el, false, 0, 0, 0, if (c.el == 3 || c.el == 4) = true then c.su else 0, if (c.el == 3 || c.el == 4) = true then c.es else false, 0, if (c.st == 19) = true then c.nm else []⟩ && (c.el != 0) && pre c.nm (nameOf c.el) && subOk c.su c.es (c.el == 3))
  else cxeq c ⟨c.st, 0, false, 0, 0, 0, 0, false, 0, []⟩


theorem form_eq (st el : UInt8) (en : Bool) (at' qu pa su : UInt8) (es : Bool) (da : UInt8) (nm : List UInt8) : form1 ⟨st, el, en, at', qu, pa, su, es, da, nm⟩ = form ⟨st, el, en, at', qu, pa, su, es, da, nm⟩ := by
  unfold form1 form
  dsimp only
  rcases st_cases st with h | h | h | h | h | h | h | h | h | h | h | h | h | h | h | h | h | h | h | h | h | h
  all_goals try subst h
  all_goals try simp [isTag, isRaw, cxeq, coded, subOk, valOk, *]
  all_goals try (grind; done)
  · rcases el_cases at' with h | h | h | h | h | h
    all_goals try subst h
    all_goals simp [*]
    all_goals try (grind; done)
  all_goals (have hp : pre [] (nameOf el) = true := by simp [pre]); cases nm <;> simp [hp] <;> rcases el_cases el with h | h | h | h | h | h <;> (try subst h) <;> (try simp [*]) <;> (try grind)


/-- Which hole may be there. -/
def hole (c : Ctx) : UInt8 :=
  if c.st == 0 then 1
  else if c.st == 17 then (if c.el == 1 || c.el == 2 then 2 else if (c.su == 1 || c.su == 2) && !c.es && c.el == 3 then 7 else if (c.su == 1 || c.su == 2) && !c.es && c.el == 4 then 9 else 0)
  else if c.st == 8 then
    (if c.qu == 0 then 0 else if c.at' == 0 then 3
    else if c.at' == 1 then (if c.pa == 0 then 4 else if c.pa == 3 then 5 else if c.pa == 4 then 6 else 0)
    else if c.at' == 2 then (if (c.su == 1 || c.su == 2) && !c.es then 8 else 0)
    else if c.at' == 3 then (if (c.su == 1 || c.su == 2) && !c.es then 10 else 0) else 0)
  else 0
def badC : Ctx := ⟨20, 0, false, 0, 0, 0, 0, false, 0, []⟩
/-- The context behind a hole. -/
def after (c : Ctx) : Ctx := if hole c == 0 then badC else if hole c == 4 then { c with pa := 2 } else c
/-- What HTML knows of a context. -/
def outer (c : Ctx) : Ctx := if c.st == 8 || c.st == 17 then ⟨c.st, c.el, c.en, c.at', c.qu, 0, 0, false, 0, []⟩ else c


theorem hole4 (c : Ctx) (h : hole c = 4) : c.st = 8 ∧ c.qu ≠ 0 ∧ c.at' = 1 ∧ c.pa = 0 := by
  unfold hole at h
  grind (splits := 30)
theorem form_after (c : Ctx) (h : hole c ≠ 0) (hf : form c = true) : form (after c) = true := by
  unfold after
  have h0 : (hole c == 0) = false := by simpa using h
  cases h4 : (hole c == 4) with
  | false => simpa [h0] using hf
  | true =>
    obtain ⟨h1, h2, h3, h5⟩ := hole4 c (by simpa using h4)
    obtain ⟨st, el, en, at', qu, pa, su, es, da, nm⟩ := c
    simp only at h1 h2 h3 h5
    subst h1 h3 h5
    simp only [h0, Bool.false_eq_true, if_false, if_true]
    unfold form at hf ⊢
    simp only [isTag, isRaw, coded] at hf ⊢
    simp at hf ⊢
    grind
theorem outer_after (c : Ctx) (h : hole c ≠ 0) : outer (after c) = outer c := by
  unfold after
  have h0 : (hole c == 0) = false := by simpa using h
  cases h4 : (hole c == 4) with
  | false => simp [h0]
  | true =>
    obtain ⟨h1, h2, h3, h5⟩ := hole4 c (by simpa using h4)
    simp [h0, outer, h1]
theorem hole_after4 (c : Ctx) (h : hole c = 4) : hole (after c) = 0 := by
  obtain ⟨h1, h2, h3, h5⟩ := hole4 c h
  have : after c = { c with pa := 2 } := by simp [after, h]
  rw [this]
  simp [hole, h1, h2, h3]
theorem after_same (c : Ctx) (h : hole c ≠ 0) (h4 : hole c ≠ 4) : after c = c := by
  simp [after, h, h4]


/-- The element of a name. -/
def elOf (nm : List UInt8) : UInt8 :=
  if nm == [116, 101, 120, 116, 97, 114, 101, 97] then 1 else if nm == [116, 105, 116, 108, 101] then 2 else if nm == [115, 99, 114, 105, 112, 116] then 3 else if nm == [115, 116, 121, 108, 101] then 4 else 0
def urls : List (List UInt8) := [[97, 99, 116, 105, 111, 110], [98, 97, 99, 107, 103, 114, 111, 117, 110, 100], [99, 105, 116, 101], [100, 97, 116, 97], [102, 111, 114, 109, 97, 99, 116, 105, 111, 110], [104, 114, 101, 102], [108, 111, 110, 103, 100, 101, 115, 99], [109, 97, 110, 105, 102, 101, 115, 116], [112, 111, 115, 116, 101, 114], [115, 114, 99], [120, 108, 105, 110, 107, 58, 104, 114, 101, 102]]
def odds : List (List UInt8) := [[115, 114, 99, 100, 111, 99], [115, 114, 99, 115, 101, 116], [105, 109, 97, 103, 101, 115, 114, 99, 115, 101, 116], [99, 111, 110, 116, 101, 110, 116], [104, 116, 116, 112, 45, 101, 113, 117, 105, 118]]
/-- What the value of an attribute of a name is. -/
def attrOf (nm : List UInt8) : UInt8 :=
  if urls.contains nm then 1 else if nm == [115, 116, 121, 108, 101] then 3 else if odds.contains nm then 4 else if decide (2 < nm.length) && pre [111, 110] nm then 2 else 0

theorem beqf {a b : List UInt8} (h : (a == b) = false) : (b == a) = false := by
  rw [beq_eq_false_iff_ne] at h ⊢; exact fun e => h e.symm
theorem inN_s (P : List (List UInt8)) (c : List UInt8) (R : List (List UInt8)) : inN ((P ++ c :: R).map AV.s).length (.int (P.length : Int)) = some P.length := inN_int (by simp)
theorem getD_s (P : List (List UInt8)) (c : List UInt8) (R : List (List UInt8)) : ((P ++ c :: R).map AV.s).getD P.length .un = .s c := by simp
theorem name_elem (e : UInt8) : (e == 0 || decide (4 < e) || elOf (nameOf e) == e) = true := by
  revert e
  exact all_u8 (by kernel_rfl)
end Sx

/-
  SxCtxAV: a context as one word among plain data.
-/
namespace Sx
open Go

/-- A context, as a value. -/
def Ctx.toAV (c : Ctx) : AV := cx c.st c.el c.en c.at' c.qu c.pa c.su c.es c.da c.nm
theorem mk_toAV (st el : UInt8) (en : Bool) (at' qu pa su : UInt8) (es : Bool) (da : UInt8) (nm : List UInt8) :
    (.ag [.u8 st, .u8 el, .b en, .u8 at', .u8 qu, .u8 pa, .u8 su, .b es, .u8 da, .s nm] : AV) = Ctx.toAV ⟨st, el, en, at', qu, pa, su, es, da, nm⟩ := rfl
theorem mk_eta (d : Ctx) : (⟨d.st, d.el, d.en, d.at', d.qu, d.pa, d.su, d.es, d.da, d.nm⟩ : Ctx) = d := rfl
theorem asAg_toAV (d : Ctx) : AV.asAg 10 d.toAV = some [.u8 d.st, .u8 d.el, .b d.en, .u8 d.at', .u8 d.qu, .u8 d.pa, .u8 d.su, .b d.es, .u8 d.da, .s d.nm] := rfl
theorem eq_toAV (a b : Ctx) : binAg [.i, .i, .b, .i, .i, .i, .i, .b, .i, .s] .eql a.toAV b.toAV = some (.b (decide (a = b))) := by
  obtain ⟨⟩ := a; obtain ⟨⟩ := b
  rw [← cxeq_iff]
  exact binAg_cx ..
theorem ne_toAV (a b : Ctx) : binAg [.i, .i, .b, .i, .i, .i, .i, .b, .i, .s] .neq a.toAV b.toAV = some (.b (!decide (a = b))) := by
  obtain ⟨⟩ := a; obtain ⟨⟩ := b
  rw [← cxeq_iff]
  exact binAg_cx_ne ..
theorem toAV_ite (p : Prop) [Decidable p] (a b : Ctx) : some (Ctx.toAV (if p then a else b)) = if p then some a.toAV else some b.toAV := by split <;> rfl
/-- A context and a mark. -/
def tv (p : Ctx × Bool) : AV := .tu [p.1.toAV, .b p.2]
theorem tv_mk (c : Ctx) (b : Bool) : (.tu [c.toAV, .b b] : AV) = tv (c, b) := rfl
theorem tv_ite (p : Prop) [Decidable p] (a b : Ctx × Bool) : some (tv (if p then a else b)) = if p then some (tv a) else some (tv b) := by split <;> rfl
theorem tv_0 (p : Ctx × Bool) : tupI (tv p) 0 = some p.1.toAV := rfl
theorem tv_1 (p : Ctx × Bool) : tupI (tv p) 1 = some (.b p.2) := rfl
/-- A context and a place. -/
def ti (p : Ctx × Int) : AV := .tu [p.1.toAV, .int p.2]
theorem ti_mk (c : Ctx) (n : Int) : (.tu [c.toAV, .int n] : AV) = ti (c, n) := rfl
theorem ti_0 (p : Ctx × Int) : tupI (ti p) 0 = some p.1.toAV := rfl
theorem ti_1 (p : Ctx × Int) : tupI (ti p) 1 = some (.int p.2) := rfl
theorem b2s_one (x : UInt8) : b2s (.ro 1 [.u8 x]) = some (.s [x]) := b2s_u8 (l := [x]) (by show 1 ≤ big; decide)
theorem is_ctx' {a : AV} (h : IsArg true [.u8, .u8, .b, .u8, .u8, .u8, .u8, .b, .u8, .s] a) : ∃ c : Ctx, a = c.toAV ∧ c.nm.length < 9223372036854775808 := by
  obtain ⟨c, rfl, hc⟩ := is_ctx h
  exact ⟨c, rfl, Nat.lt_of_le_of_lt hc (by decide)⟩
theorem s_add' {p q : List UInt8} (h : p.length + q.length ≤ 1000000) : binS .add (.s p) (.s q) = some (.s (p ++ q)) := s_add (Nat.le_trans h (by decide))
theorem ge_len (l : List UInt8) (k : Nat) : decide ((l.length : Int) ≥ (k : Int)) = decide (k ≤ l.length) := by rw [decide_eq_decide]; omega
end Sx

/-
  SxPStep: the context behind one byte more, in plain Lean.
-/
namespace Sx
open Go

def blankB (b : UInt8) : Bool := b == 32 || b == 9 || b == 10 || b == 12 || b == 13
def letter (b : UInt8) : Bool := decide (97 ≤ b) && decide (b ≤ 122) || decide (65 ≤ b) && decide (b ≤ 90)
def lowb (b : UInt8) : UInt8 := if decide (65 ≤ b) && decide (b ≤ 90) then b + 32 else b
def st1 (s : UInt8) : Ctx := ⟨s, 0, false, 0, 0, 0, 0, false, 0, []⟩
def opened (b : UInt8) : Ctx × Bool :=
  if letter b then (⟨3, 0, false, 0, 0, 0, 0, false, 0, [lowb b]⟩, true) else if b == 47 then (st1 2, true) else if b == 33 then (st1 11, true) else if b == 63 then (st1 16, true) else (st1 0, false)
def closed (b : UInt8) : Ctx := if letter b then ⟨3, 0, true, 0, 0, 0, 0, false, 0, [lowb b]⟩ else if b == 62 then st1 0 else st1 16
def tagEnd (el : UInt8) : Ctx := if el != 0 then ⟨17, el, false, 0, 0, 0, 0, false, 0, []⟩ else st1 0
def grown (c : Ctx) (b : UInt8) : Ctx := if decide (32 ≤ c.nm.length) then badC else { c with nm := c.nm ++ [lowb b] }
def within (c : Ctx) (s : UInt8) : Ctx := ⟨s, c.el, c.en, 0, 0, 0, 0, false, 0, []⟩
def ends (c : Ctx) : Bool := c.su == 0 || c.su == 4
def begunV (c : Ctx) (b : UInt8) : Ctx × Bool :=
  if blankB b then (c, false) else if b == 62 then (badC, false) else if b == 34 || b == 39 then ({ c with st := 8, qu := b }, false) else ({ c with st := 8 }, true)
def named (c : Ctx) (b : UInt8) : Ctx × Bool :=
  if b == 61 && c.nm != [] then ({ within c 7 with at' := attrOf c.nm }, false) else if b == 47 || b == 62 then (within c 9, true) else if blankB b then ({ c with st := 6 }, false)
  else if c.st == 6 then (within c 4, true) else if b == 34 || b == 39 || b == 60 then (badC, false) else (grown c b, false)
def tag (c : Ctx) (b : UInt8) : Ctx × Bool :=
  if c.st == 3 then (if !blankB b && b != 47 && b != 62 then (grown c b, false) else if !c.en then (within { c with el := elOf c.nm } 9, true) else (within c 9, true))
  else if c.st == 9 then (if blankB b then (within c 4, false) else if b == 47 then (within c 10, false) else if b == 62 then (tagEnd c.el, false) else (badC, false))
  else if c.st == 10 then (if b == 62 then (tagEnd c.el, false) else (within c 4, true))
  else if c.st == 4 then (if blankB b then (c, false) else if b == 47 || b == 62 then (within c 9, true) else if b == 61 then (badC, false) else ({ c with st := 5 }, true))
  else if c.st == 7 then begunV c b else named c b
def text (c : Ctx) (b : UInt8) : Ctx :=
  if c.es then { c with es := false } else if b == 92 then { c with es := true } else if b == 10 || b == 13 then badC else if b == 34 && c.su == 1 || b == 39 && c.su == 2 then { c with su := 0 } else c
def code0 (c : Ctx) (b : UInt8) (script : Bool) : Ctx :=
  if b == 34 then { c with su := 1 } else if b == 39 then { c with su := 2 } else if b == 47 then { c with su := 3 } else if script && b == 96 then badC else if !script && (b == 40 || b == 92) then badC else c
def code (c : Ctx) (b : UInt8) (script : Bool) : Ctx :=
  if c.su == 0 then code0 c b script
  else if c.su == 3 then (if b == 42 then { c with su := 5 } else if script && b == 47 then { c with su := 4 } else if script then badC else code0 { c with su := 0 } b script)
  else if c.su == 1 then text c b else if c.su == 2 then text c b
  else if c.su == 4 then (if b == 10 || b == 13 then { c with su := 0 } else c)
  else if c.su == 5 then (if b == 42 then { c with su := 6 } else c)
  else if c.su == 6 then (if b == 47 then { c with su := 0 } else if b == 42 then c else { c with su := 5 }) else c
def httpS (l : List UInt8) : Bool := l == [104, 116, 116, 112] || l == [104, 116, 116, 112, 115] || l == [109, 97, 105, 108, 116, 111]
def url (c : Ctx) (b : UInt8) : Ctx :=
  if c.pa == 4 || c.pa == 5 then { c with nm := [] } else if b == 38 then badC else if b == 63 || b == 35 then { c with pa := 4, nm := [] } else if c.pa == 3 then { c with nm := [] } else if b == 47 then { c with pa := 3, nm := [] }
  else if b == 58 && c.pa == 2 then badC else if b == 58 then (if httpS c.nm then { c with pa := 3, nm := [] } else { c with pa := 5, nm := [] }) else if c.pa == 2 then { c with nm := [] }
  else if decide (16 ≤ c.nm.length) then { c with pa := 1 } else { c with pa := 1, nm := c.nm ++ [lowb b] }
def quoteB (b : UInt8) : Bool := b == 34 || b == 39 || b == 60 || b == 61 || b == 96
def value (c : Ctx) (b : UInt8) : Ctx :=
  if (!(c.qu == 0) && b == c.qu) || (c.qu == 0 && (blankB b || b == 62)) then (if !ends c then badC else if !(c.qu == 0) then within c 9 else if b == 62 then tagEnd c.el else within c 4)
  else if c.qu == 0 && quoteB b then badC else if c.at' == 1 then url c b else if c.at' == 2 || c.at' == 3 then (if b == 38 then badC else code c b (c.at' == 2)) else c
def feedL (c : Ctx) : List UInt8 → Ctx
  | [] => c
  | b :: r => if (code c b (c.el == 3)).st == 20 then badC else feedL (code c b (c.el == 3)) r
def fed (c : Ctx) (s : List UInt8) (feed : Bool) : Ctx :=
  if !feed || !coded 17 c.el c.at' then { c with st := 17, nm := [] } else feedL { c with st := 17, nm := [] } s
def raw2 (c : Ctx) (b : UInt8) (feed : Bool) : Ctx :=
  if c.st == 20 then badC else if (fed c [b] feed).st == 17 && b == 60 then { fed c [b] feed with st := 18 } else fed c [b] feed
def raw (c : Ctx) (b : UInt8) (feed : Bool) : Ctx :=
  if c.st == 18 && b == 47 then { c with st := 19 }
  else if c.st == 18 && b == 33 && c.el == 3 then badC
  else if c.st == 19 && c.nm == nameOf c.el && (blankB b || b == 47 || b == 62) then (if !ends c then badC else (tag ⟨9, 0, true, 0, 0, 0, 0, false, 0, []⟩ b).1)
  else if c.st == 19 && pre (c.nm ++ [lowb b]) (nameOf c.el) then { c with nm := c.nm ++ [lowb b] }
  else if c.st == 19 then raw2 (fed c (47 :: c.nm) feed) b feed else raw2 c b feed
def note (c : Ctx) (b : UInt8) : Ctx :=
  if c.st == 11 || c.st == 12 then (if b == 62 then st1 0 else if b == 45 && c.st == 11 then st1 12 else if b == 45 then st1 13 else st1 16)
  else if c.st == 13 || c.st == 14 then (if b == 62 then badC else if b == 45 && c.st == 13 then st1 14 else if b == 45 then ⟨15, 0, false, 0, 0, 0, 0, false, 2, []⟩ else st1 15)
  else if c.st == 15 then (if b == 62 && c.da == 2 then st1 0 else if b == 33 && c.da == 2 then badC else if b == 45 then ⟨15, 0, false, 0, 0, 0, 0, false, (if decide (2 < c.da + 1) then 2 else c.da + 1), []⟩ else st1 15)
  else if c.st == 16 then (if b == 62 then st1 0 else c) else c
def isT (s : UInt8) : Bool := s == 3 || s == 4 || s == 5 || s == 6 || s == 7 || s == 9 || s == 10
/-- The context behind a byte; so many looks at it. -/
def again : Nat → Ctx → UInt8 → Bool → Option Ctx
  | 0, _, _, _ => none
  | n + 1, c, b, feed =>
    if c.st == 0 then (if b == 60 then some { c with st := 1 } else some c)
    else if c.st == 1 then (if (opened b).2 then some (opened b).1 else again n { c with st := 0 } b feed)
    else if c.st == 2 then some (closed b)
    else if isT c.st then (if (tag c b).2 then again n (tag c b).1 b feed else some (tag c b).1)
    else if c.st == 8 then some (value c b)
    else if c.st == 17 || c.st == 18 || c.st == 19 then some (raw c b feed)
    else some (note c b)
end Sx
namespace Sx
theorem named_nm (c : Ctx) (b : UInt8) (h : (named c b).2 = true) : (named c b).1.nm.length ≤ c.nm.length := by
  unfold named at *
  cases h1 : (b == 61 && c.nm != []) <;> cases h2 : (b == 47 || b == 62) <;> cases h3 : blankB b <;> cases h4 : (c.st == 6) <;> cases h5 : (b == 34 || b == 39 || b == 60) <;> rw [h1, h2, h3, h4, h5] at h <;> first | (cases h; done) | exact Nat.zero_le _
theorem begun_nm (c : Ctx) (b : UInt8) (h : (begunV c b).2 = true) : (begunV c b).1.nm.length ≤ c.nm.length := by
  unfold begunV at *
  cases h3 : blankB b <;> cases h4 : (b == 62) <;> cases h5 : (b == 34 || b == 39) <;> rw [h3, h4, h5] at h <;> first | (cases h; done) | exact Nat.le_refl _
theorem tag_nm (c : Ctx) (b : UInt8) (h : (tag c b).2 = true) : (tag c b).1.nm.length ≤ c.nm.length := by
  unfold tag at *
  cases h3 : (c.st == 3) with
  | true =>
    rw [h3] at h
    cases h1 : (!blankB b && b != 47 && b != 62) <;> cases h2 : c.en <;> rw [h1, h2] at h <;> first | (cases h; done) | exact Nat.zero_le _
  | false =>
  cases h9 : (c.st == 9) with
  | true =>
    rw [h3, h9] at h
    cases h1 : blankB b <;> cases h2 : (b == 47) <;> cases h4 : (b == 62) <;> rw [h1, h2, h4] at h <;> cases h
  | false =>
  cases h10 : (c.st == 10) with
  | true =>
    rw [h3, h9, h10] at h
    cases h1 : (b == 62) <;> rw [h1] at h <;> first | (cases h; done) | exact Nat.zero_le _
  | false =>
  cases h4 : (c.st == 4) with
  | true =>
    rw [h3, h9, h10, h4] at h
    cases h1 : blankB b <;> cases h2 : (b == 47 || b == 62) <;> cases h5 : (b == 61) <;> rw [h1, h2, h5] at h <;> first | (cases h; done) | exact Nat.zero_le _ | exact Nat.le_refl _
  | false =>
  cases h7 : (c.st == 7) with
  | true =>
    rw [h3, h9, h10, h4, h7] at h
    exact begun_nm c b h
  | false =>
    rw [h3, h9, h10, h4, h7] at h
    exact named_nm c b h
theorem again_mono (b : UInt8) (feed : Bool) : ∀ (n : Nat) (c d : Ctx), again n c b feed = some d → again (n + 1) c b feed = some d
  | 0, c, d, h => by cases h
  | n + 1, c, d, h => by
    unfold again at h ⊢
    split at h
    · rename_i h0; rw [if_pos h0]; exact h
    · rename_i h0; rw [if_neg h0]
      split at h
      · rename_i h1; rw [if_pos h1]
        split at h
        · rename_i h2; rw [if_pos h2]; exact h
        · rename_i h2; rw [if_neg h2]; exact again_mono b feed n _ _ h
      · rename_i h1; rw [if_neg h1]
        split at h
        · rename_i h2; rw [if_pos h2]; exact h
        · rename_i h2; rw [if_neg h2]
          split at h
          · rename_i h3; rw [if_pos h3]
            split at h
            · rename_i h4; rw [if_pos h4]; exact again_mono b feed n _ _ h
            · rename_i h4; rw [if_neg h4]; exact h
          · rename_i h3; rw [if_neg h3]; exact h
end Sx

/-
  SxPStep2: laws of the step: it ends; it stays in form.
-/
namespace Sx
open Go

def rank (s : UInt8) : Nat := if s == 1 || s == 3 || s == 5 || s == 7 then 2 else if s == 4 then 3 else if s == 6 || s == 10 then 4 else 1

theorem rank_begun (c : Ctx) (b : UInt8) (h : (begunV c b).2 = true) : rank (begunV c b).1.st = 1 := by
  unfold begunV at *
  cases h3 : blankB b <;> cases h4 : (b == 62) <;> cases h5 : (b == 34 || b == 39) <;> rw [h3, h4, h5] at h <;> first | (cases h; done) | rfl
theorem rank_named (c : Ctx) (b : UInt8) (h : (named c b).2 = true) : rank (named c b).1.st = 1 ∨ (c.st == 6) = true ∧ rank (named c b).1.st = 3 := by
  unfold named at *
  cases h1 : (b == 61 && c.nm != []) <;> cases h2 : (b == 47 || b == 62) <;> cases h3 : blankB b <;> cases h4 : (c.st == 6) <;> cases h5 : (b == 34 || b == 39 || b == 60) <;> rw [h1, h2, h3, h4, h5] at h <;> first | (cases h; done) | exact .inl rfl | exact .inr ⟨rfl, rfl⟩
theorem rank_tag (c : Ctx) (b : UInt8) (hT : isT c.st = true) (h : (tag c b).2 = true) : rank (tag c b).1.st < rank c.st := by
  unfold tag at *
  cases h3 : (c.st == 3) with
  | true =>
    rw [h3] at h
    rw [eq_of_beq h3]
    cases h1 : (!blankB b && b != 47 && b != 62) <;> cases h2 : c.en <;> rw [h1, h2] at h <;> first | (cases h; done) | (show 1 < 2; omega)
  | false =>
  cases h9 : (c.st == 9) with
  | true =>
    rw [h3, h9] at h
    cases h1 : blankB b <;> cases h2 : (b == 47) <;> cases h4 : (b == 62) <;> rw [h1, h2, h4] at h <;> cases h
  | false =>
  cases h10 : (c.st == 10) with
  | true =>
    rw [h3, h9, h10] at h
    rw [eq_of_beq h10]
    cases h1 : (b == 62) <;> rw [h1] at h <;> first | (cases h; done) | (show 3 < 4; omega)
  | false =>
  cases h4 : (c.st == 4) with
  | true =>
    rw [h3, h9, h10, h4] at h
    rw [eq_of_beq h4]
    cases h1 : blankB b <;> cases h2 : (b == 47 || b == 62) <;> cases h5 : (b == 61) <;> rw [h1, h2, h5] at h <;> first | (cases h; done) | (show 1 < 3; omega) | (show 2 < 3; omega)
  | false =>
  cases h7 : (c.st == 7) with
  | true =>
    rw [h3, h9, h10, h4, h7] at h
    have := rank_begun c b h
    show rank (begunV c b).1.st < rank c.st
    rw [this, eq_of_beq h7]; show 1 < 2; omega
  | false =>
    rw [h3, h9, h10, h4, h7] at h
    show rank (named c b).1.st < rank c.st
    have h56 : (c.st == 5) = true ∨ (c.st == 6) = true := by
      unfold isT at hT
      rw [h3, h4, h7, h9, h10] at hT
      simpa using hT
    rcases rank_named c b h with e | ⟨h6, e⟩
    · rw [e]
      rcases h56 with h | h <;> rw [eq_of_beq h]
      · show 1 < 2; omega
      · show 1 < 4; omega
    · rw [e, eq_of_beq h6]; show 3 < 4; omega
theorem again_some (b : UInt8) (feed : Bool) : ∀ (n : Nat) (c : Ctx), rank c.st ≤ n → ∃ d, again n c b feed = some d
  | 0, c, h => by
    unfold rank at h
    repeat' split at h
    all_goals omega
  | n + 1, c, h => by
    unfold again
    split
    · split <;> exact ⟨_, rfl⟩
    · split
      · rename_i h1
        split
        · exact ⟨_, rfl⟩
        · refine again_some b feed n _ ?_
          rw [eq_of_beq h1] at h
          have h' : 2 ≤ n + 1 := h
          show 1 ≤ n; omega
      · split
        · exact ⟨_, rfl⟩
        · split
          · rename_i hT
            split
            · rename_i h4
              refine again_some b feed n _ ?_
              have := rank_tag c b hT h4
              omega
            · exact ⟨_, rfl⟩
          · split
            · exact ⟨_, rfl⟩
            · split <;> exact ⟨_, rfl⟩
theorem rank_le (s : UInt8) : rank s ≤ 4 := by
  unfold rank
  repeat' split
  all_goals omega
/-- The context behind a byte; JavaScript and CSS are looked at, or not. -/
def mv (c : Ctx) (b : UInt8) (feed : Bool) : Ctx := if form c then (again 4 c b feed).getD badC else badC
theorem mv_some (c : Ctx) (b : UInt8) (feed : Bool) (h : form c = true) : again 4 c b feed = some (mv c b feed) := by
  obtain ⟨d, hd⟩ := again_some b feed 4 c (rank_le c.st)
  unfold mv
  rw [h, hd]; rfl
theorem mv_bad (c : Ctx) (b : UInt8) (feed : Bool) (h : form c = false) : mv c b feed = badC := by
  unfold mv
  rw [h]; rfl
def stepB (c : Ctx) (b : UInt8) : Ctx := mv c b true
theorem of_ite {p : Prop} [Decidable p] {q : Bool} (h : (if p then false else q) = true) : ¬ p ∧ q = true := by
  split at h
  · cases h
  · rename_i hp; exact ⟨hp, h⟩
theorem form_name (c : Ctx) (h : form c = true) : (if c.st == 3 || c.st == 5 || c.st == 6 then small c.nm 32 else if c.st == 8 && c.at' == 1 && c.pa == 1 then small c.nm 16 else if c.st == 19 then pre c.nm (nameOf c.el) else c.nm == []) = true := by
  unfold form at h
  exact (of_ite (of_ite (of_ite (of_ite (of_ite (of_ite (of_ite (of_ite (of_ite h).2).2).2).2).2).2).2).2).2
theorem pre_le {p l : List UInt8} (h : pre p l = true) : p.length ≤ l.length := by
  simp only [pre, Bool.and_eq_true, decide_eq_true_eq] at h
  exact h.1
theorem nameOf_le (el : UInt8) : (nameOf el).length ≤ 8 := of_decide_eq_true (all_u8 (p := fun el => decide ((nameOf el).length ≤ 8)) (by kernel_rfl) el)
theorem small_len {l : List UInt8} {n : Int} (h : small l n = true) : 1 ≤ l.length ∧ (l.length : Int) ≤ n := by
  simp only [small, Bool.and_eq_true, decide_eq_true_eq] at h
  exact h.2
theorem form_nm (c : Ctx) (h : form c = true) : c.nm.length ≤ 32 := by
  have h := form_name c h
  split at h
  · have := small_len h; omega
  · split at h
    · have := small_len h; omega
    · split at h
      · have := pre_le h; have := nameOf_le c.el; omega
      · rw [eq_of_beq h]; simp
end Sx

/-
  SxPRef: the document's steps, as it has them, are the program's.
-/
namespace Sx
open Go

def rcode0 (c : Ctx) (b : UInt8) (script : Bool) : Ctx :=
  if script && b == 96 || !script && (b == 40 || b == 92) then badC else if b == 34 then (if b == 39 then (if b == 47 then { c with su := 3 } else { c with su := 2 }) else if b == 47 then { c with su := 3 } else { c with su := 1 })
  else if b == 39 then (if b == 47 then { c with su := 3 } else { c with su := 2 }) else if b == 47 then { c with su := 3 } else c
theorem rcode0_eq (c : Ctx) (b : UInt8) (script : Bool) : rcode0 c b script = code0 c b script := by
  unfold rcode0 code0
  cases h34 : (b == 34) with
  | true => rw [eq_of_beq h34]; cases script <;> rfl
  | false =>
  cases h39 : (b == 39) with
  | true => rw [eq_of_beq h39]; cases script <;> rfl
  | false =>
  cases h47 : (b == 47) with
  | true => rw [eq_of_beq h47]; cases script <;> rfl
  | false => cases script <;> cases (b == 96) <;> cases (b == 40) <;> cases (b == 92) <;> rfl
def rtext (c : Ctx) (b : UInt8) : Ctx :=
  if c.es then { c with es := false } else if b == 92 then (if b == 10 || b == 13 then badC else if c.su == 1 && b == 34 || c.su == 2 && b == 39 then { c with es := true, su := 0 } else { c with es := true })
  else if b == 10 || b == 13 then badC else if c.su == 1 && b == 34 || c.su == 2 && b == 39 then { c with su := 0 } else c
theorem rtext_eq (c : Ctx) (b : UInt8) : rtext c b = text c b := by
  unfold rtext text
  cases h92 : (b == 92) with
  | true => rw [eq_of_beq h92]; cases c.es <;> cases (c.su == 1) <;> cases (c.su == 2) <;> rfl
  | false => cases c.es <;> cases (b == 10) <;> cases (b == 13) <;> cases (c.su == 1) <;> cases (c.su == 2) <;> cases (b == 34) <;> cases (b == 39) <;> rfl
def rcode (c : Ctx) (b : UInt8) (script : Bool) : Ctx :=
  if c.su == 0 then rcode0 c b script else if c.su == 1 then rtext c b else if c.su == 2 then rtext c b
  else if c.su == 3 then (if b == 42 then { c with su := 5 } else if script && b == 47 then { c with su := 4 } else if script then badC else rcode0 { c with su := 0 } b script)
  else if c.su == 4 then (if b == 10 || b == 13 then { c with su := 0 } else c)
  else if c.su == 5 then (if b == 42 then { c with su := 6 } else c)
  else if c.su == 6 then (if b == 47 then { c with su := 0 } else if b != 42 then { c with su := 5 } else c) else c
theorem rcode_eq (c : Ctx) (b : UInt8) (script : Bool) : rcode c b script = code c b script := by
  unfold rcode code
  simp only [rcode0_eq, rtext_eq]
  cases h3 : (c.su == 3) with
  | true => rw [eq_of_beq h3]; rfl
  | false =>
    have : (if (b != 42) = true then { c with su := 5 } else c : Ctx) = if (b == 42) = true then c else { c with su := 5 } := by
      unfold bne; cases (b == 42) <;> rfl
    rw [this]
    rfl
def rurl (c : Ctx) (b : UInt8) : Ctx :=
  if decide (4 ≤ c.pa) then c else if b == 38 then badC else if b == 63 || b == 35 then { c with pa := 4, nm := [] } else if c.pa == 3 then c else if b == 47 then { c with pa := 3, nm := [] }
  else if b == 58 then (if c.pa == 2 then badC else if httpS c.nm then { c with pa := 3, nm := [] } else { c with pa := 5, nm := [] }) else if c.pa == 2 then c
  else if decide (c.nm.length < 16) then { c with pa := 1, nm := c.nm ++ [lowb b] } else { c with pa := 1 }
theorem rurl_eq (c : Ctx) (b : UInt8) (hp : c.pa ≤ 5) (h : c.pa ≠ 1 → c.nm = []) : rurl c b = url c b := by
  obtain ⟨st, el, en, at', qu, pa, su, es, da, nm⟩ := c
  simp only at hp h
  unfold rurl url
  simp only
  rcases pa_cases pa with e | e | e | e | e | e | e
  · subst e; have := h (by decide); subst this; cases (b == 38) <;> cases (b == 63 || b == 35) <;> cases (b == 47) <;> cases (b == 58) <;> rfl
  · subst e
    have e1 : decide (nm.length < 16) = !decide (16 ≤ nm.length) := by rw [← decide_not, decide_eq_decide]; omega
    rw [e1]
    cases (b == 38) <;> cases (b == 63 || b == 35) <;> cases (b == 47) <;> cases (b == 58) <;> cases httpS nm <;> cases decide (16 ≤ nm.length) <;> rfl
  · subst e; have := h (by decide); subst this; cases (b == 38) <;> cases (b == 63 || b == 35) <;> cases (b == 47) <;> cases (b == 58) <;> rfl
  · subst e; have := h (by decide); subst this; cases (b == 38) <;> cases (b == 63 || b == 35) <;> rfl
  · subst e; have := h (by decide); subst this; rfl
  · subst e; have := h (by decide); subst this; rfl
  · rw [UInt8.le_iff_toNat_le] at hp; rw [UInt8.lt_iff_toNat_lt] at e; omega
def rvalue (c : Ctx) (b : UInt8) : Ctx :=
  if c.qu != 0 && b == c.qu then (if !(c.su == 0 || c.su == 4) then badC else within c 9)
  else if c.qu == 0 then (if blankB b || b == 62 then (if !(c.su == 0 || c.su == 4) then badC else if b == 62 then tagEnd c.el else within c 4) else if quoteB b then badC else
    (if c.at' == 1 then rurl c b else if c.at' == 2 then (if b == 38 then badC else rcode c b (c.at' == 2)) else if c.at' == 3 then (if b == 38 then badC else rcode c b (c.at' == 2)) else c))
  else (if c.at' == 1 then rurl c b else if c.at' == 2 then (if b == 38 then badC else rcode c b (c.at' == 2)) else if c.at' == 3 then (if b == 38 then badC else rcode c b (c.at' == 2)) else c)
theorem rvalue_eq (c : Ctx) (b : UInt8) (h : (c.at' == 1) = true → rurl c b = url c b) : rvalue c b = value c b := by
  have hc : (if c.at' == 1 then rurl c b else if c.at' == 2 then (if b == 38 then badC else rcode c b (c.at' == 2)) else if c.at' == 3 then (if b == 38 then badC else rcode c b (c.at' == 2)) else c : Ctx) =
      if c.at' == 1 then url c b else if c.at' == 2 || c.at' == 3 then (if b == 38 then badC else code c b (c.at' == 2)) else c := by
    simp only [rcode_eq]
    cases h1 : (c.at' == 1) with
    | true => rw [if_pos rfl, if_pos rfl, h h1]
    | false => cases (c.at' == 2) <;> cases (c.at' == 3) <;> rfl
  unfold rvalue value ends
  rw [hc]
  unfold bne
  cases (c.qu == 0) <;> cases (b == c.qu) <;> cases (blankB b || b == 62) <;> cases (quoteB b) <;> rfl
def rnote (c : Ctx) (b : UInt8) : Ctx :=
  if c.st == 11 || c.st == 12 then (if b == 62 then st1 0 else if b == 45 then (if c.st == 11 then st1 12 else st1 13) else st1 16)
  else if c.st == 13 || c.st == 14 then (if b == 62 then badC else if b != 45 then st1 15 else if c.st == 13 then st1 14 else ⟨15, 0, false, 0, 0, 0, 0, false, 2, []⟩)
  else if c.st == 15 then (if b == 45 then (if decide (c.da < 2) then { c with da := c.da + 1 } else c) else if c.da == 2 && b == 62 then st1 0 else if c.da == 2 && b == 33 then badC else st1 15)
  else if c.st == 16 then (if b == 62 then st1 0 else c) else c
theorem rnote_eq (c : Ctx) (b : UInt8) (h : (c.st == 15) = true → c = ⟨15, 0, false, 0, 0, 0, 0, false, c.da, []⟩ ∧ c.da ≤ 2) : rnote c b = note c b := by
  unfold rnote note
  cases h15 : (c.st == 15) with
  | true =>
    obtain ⟨hc, hd⟩ := h h15
    rw [eq_of_beq h15]
    have hx : ((15 : UInt8) == 11 || (15 : UInt8) == 12) = false := rfl
    have hy : ((15 : UInt8) == 13 || (15 : UInt8) == 14) = false := rfl
    rw [hx, hy]
    simp only [Bool.false_eq_true, if_false, if_true]
    cases h45 : (b == 45) with
    | true =>
      rw [eq_of_beq h45]
      have : c.da = 0 ∨ c.da = 1 ∨ c.da = 2 := by
        have := all_u8 (p := fun d => !decide (d ≤ 2) || (d == 0 || (d == 1 || d == 2))) (by kernel_rfl) c.da
        simp only [Bool.or_eq_true, Bool.not_eq_true', decide_eq_false_iff_not, beq_iff_eq] at this
        rcases this with h | h
        · exact absurd hd h
        · exact h
      rw [hc]
      rcases this with e | e | e <;> rw [e] <;> rfl
    | false => cases (c.da == 2) <;> cases h62 : (b == 62) <;> cases h33 : (b == 33) <;> first | rfl | (rw [eq_of_beq h62] at h33; cases h33)
  | false =>
    unfold bne
    cases h11 : (c.st == 11) <;> cases (c.st == 12) <;> cases (c.st == 13) <;> cases (c.st == 14) <;> cases (c.st == 16) <;> cases (b == 62) <;> cases (b == 45) <;> rfl
theorem form1_of (c : Ctx) (h : form c = true) : form1 c = true := by
  obtain ⟨⟩ := c
  rw [form_eq]; exact h
theorem form_tail (c : Ctx) (h : form c = true) : (if (c.st == 3) = true then cxeq c ⟨c.st, 0, c.en, 0, 0, 0, 0, false, 0, c.nm⟩ && small c.nm 32
  else if (c.st == 4 || c.st == 9 || c.st == 10) = true then cxeq c ⟨c.st, c.el, c.en, 0, 0, 0, 0, false, 0, []⟩
  else if (c.st == 5 || c.st == 6) = true then cxeq c ⟨c.st, c.el, c.en, 0, 0, 0, 0, false, 0, c.nm⟩ && small c.nm 32
  else if (c.st == 7) = true then cxeq c ⟨c.st, c.el, c.en, c.at', 0, 0, 0, false, 0, []⟩
  else if (c.st == 8) = true then valOk c ⟨c.st, c.el, c.en, 0, 0, 0, 0, false, 0, []⟩
  else if (c.st == 15) = true then cxeq c ⟨c.st, 0, false, 0, 0, 0, 0, false, c.da, []⟩ && decide (c.da ≤ 2)
  else if (c.st == 17 || c.st == 18 || c.st == 19) = true then (cxeq c ⟨c.st, c.el, false, 0, 0, 0, if (c.el == 3 || c.el == 4) = true then c.su else 0, if (c.el == 3 || c.el == 4) = true then c.es else false, 0, if (c.st == 19) = true then c.nm else []⟩ && (c.el != 0) && pre c.nm (nameOf c.el) && subOk c.su c.es (c.el == 3))
  else cxeq c ⟨c.st, 0, false, 0, 0, 0, 0, false, 0, []⟩) = true := (of_ite (form1_of c h)).2
theorem of_cxeq {a b : Ctx} (h : cxeq a b = true) : a = b := by rw [cxeq_iff] at h; exact of_decide_eq_true h
theorem form_pl (c : Ctx) (h : form c = true) (hs : c.st = 0 ∨ c.st = 1 ∨ c.st = 2 ∨ c.st = 11 ∨ c.st = 12 ∨ c.st = 13 ∨ c.st = 14 ∨ c.st = 16 ∨ c.st = 20) : c = st1 c.st := by
  have t := form_tail c h
  rcases hs with e | e | e | e | e | e | e | e | e <;> rw [e] at t <;> have := of_cxeq t <;> rw [e] <;> exact this
theorem form_st3 (c : Ctx) (h : form c = true) (e : c.st = 3) : c = ⟨3, 0, c.en, 0, 0, 0, 0, false, 0, c.nm⟩ ∧ small c.nm 32 = true := by
  have t := form_tail c h
  rw [e] at t
  have t : (cxeq c ⟨3, 0, c.en, 0, 0, 0, 0, false, 0, c.nm⟩ && small c.nm 32) = true := t
  rw [Bool.and_eq_true] at t
  exact ⟨of_cxeq t.1, t.2⟩
theorem form_st4 (c : Ctx) (h : form c = true) (e : c.st = 4 ∨ c.st = 9 ∨ c.st = 10) : c = within c c.st := by
  have t := form_tail c h
  rcases e with e | e | e <;> rw [e] at t <;> have := of_cxeq t <;> rw [e] <;> exact this
theorem form_st5 (c : Ctx) (h : form c = true) (e : c.st = 5 ∨ c.st = 6) : c = { within c c.st with nm := c.nm } ∧ small c.nm 32 = true := by
  have t := form_tail c h
  rcases e with e | e <;> rw [e] at t <;> (have t := Bool.and_eq_true_iff.1 t) <;> rw [e] <;> exact ⟨of_cxeq t.1, t.2⟩
theorem form_st7 (c : Ctx) (h : form c = true) (e : c.st = 7) : c = { within c 7 with at' := c.at' } := by
  have t := form_tail c h
  rw [e] at t
  exact of_cxeq t
theorem form_st8 (c : Ctx) (h : form c = true) (e : c.st = 8) : valOk c ⟨8, c.el, c.en, 0, 0, 0, 0, false, 0, []⟩ = true := by
  have t := form_tail c h
  rw [e] at t
  exact t
theorem form_st15 (c : Ctx) (h : form c = true) (e : c.st = 15) : c = ⟨15, 0, false, 0, 0, 0, 0, false, c.da, []⟩ ∧ c.da ≤ 2 := by
  have t := form_tail c h
  rw [e] at t
  have t : (cxeq c ⟨15, 0, false, 0, 0, 0, 0, false, c.da, []⟩ && decide (c.da ≤ 2)) = true := t
  rw [Bool.and_eq_true] at t
  exact ⟨of_cxeq t.1, of_decide_eq_true t.2⟩
theorem form_pa (c : Ctx) (h : form c = true) : c.pa ≤ 5 := by
  have t := (of_ite (form1_of c h)).1
  simp only [Bool.or_eq_true, decide_eq_true_eq] at t
  rw [UInt8.le_iff_toNat_le]
  have : ¬ 5 < c.pa := fun hh => t (.inl (.inl (.inr hh)))
  rw [UInt8.lt_iff_toNat_lt] at this
  omega
theorem form_url (c : Ctx) (h : form c = true) (e : c.st = 8) : c.pa ≠ 1 → c.nm = [] := by
  intro hp
  have t := form_name c h
  rw [e] at t
  have h1 : (c.pa == 1) = false := by simpa using hp
  rw [h1, Bool.and_false] at t
  simpa using t
end Sx
namespace Sx
theorem elOf_le (nm : List UInt8) : elOf nm ≤ 4 := by
  unfold elOf
  repeat' split
  all_goals decide
theorem form_tagS (s el : UInt8) (en : Bool) (hs : s = 4 ∨ s = 9 ∨ s = 10) : form ⟨s, el, en, 0, 0, 0, 0, false, 0, []⟩ = (decide (el ≤ 4) && !(en && el != 0)) := by
  rcases el_cases el with h | h | h | h | h | h
  · subst h; cases en <;> rcases hs with e | e | e <;> subst e <;> rfl
  · subst h; cases en <;> rcases hs with e | e | e <;> subst e <;> rfl
  · subst h; cases en <;> rcases hs with e | e | e <;> subst e <;> rfl
  · subst h; cases en <;> rcases hs with e | e | e <;> subst e <;> rfl
  · subst h; cases en <;> rcases hs with e | e | e <;> subst e <;> rfl
  · have h1 : decide (el ≤ 4) = false := by rw [decide_eq_false_iff_not, UInt8.le_iff_toNat_le]; rw [UInt8.lt_iff_toNat_lt] at h; omega
    rw [h1, Bool.false_and]
    unfold form
    have : decide (4 < el) = true := decide_eq_true h
    simp only [this, Bool.or_true, Bool.true_or, if_true]
theorem form_en (c : Ctx) (h : form c = true) : c.el ≤ 4 ∧ (c.en && c.el != 0) = false := by
  have t := (of_ite (form1_of c h)).1
  simp only [Bool.not_eq_true, Bool.or_eq_false_iff, decide_eq_false_iff_not] at t
  refine ⟨?_, t.2⟩
  have := t.1.1.1.1.2
  rw [UInt8.lt_iff_toNat_lt] at this
  rw [UInt8.le_iff_toNat_le]; omega
theorem form_within (c : Ctx) (h : form c = true) (s : UInt8) (hs : s = 4 ∨ s = 9 ∨ s = 10) : form (within c s) = true := by
  obtain ⟨h1, h2⟩ := form_en c h
  have := form_tagS s c.el c.en hs
  unfold within
  rw [this, h2, decide_eq_true h1]; rfl
theorem form_at (c : Ctx) (h : form c = true) : c.at' ≤ 4 := by
  have t := (of_ite (form1_of c h)).1
  simp only [Bool.not_eq_true, Bool.or_eq_false_iff, decide_eq_false_iff_not] at t
  have := t.1.1.1.2
  rw [UInt8.lt_iff_toNat_lt] at this
  rw [UInt8.le_iff_toNat_le]; omega
theorem form_st8mk (el at' qu : UInt8) (en : Bool) (h1 : el ≤ 4) (h2 : (en && el != 0) = false) (h3 : at' ≤ 4) (h4 : qu = 0 ∨ qu = 34 ∨ qu = 39) : form ⟨8, el, en, at', qu, 0, 0, false, 0, []⟩ = true := by
  have l1 : el = 0 ∨ el = 1 ∨ el = 2 ∨ el = 3 ∨ el = 4 := by
    rcases el_cases el with h | h | h | h | h | h
    · exact .inl h
    · exact .inr (.inl h)
    · exact .inr (.inr (.inl h))
    · exact .inr (.inr (.inr (.inl h)))
    · exact .inr (.inr (.inr (.inr h)))
    · rw [UInt8.lt_iff_toNat_lt] at h; rw [UInt8.le_iff_toNat_le] at h1; omega
  have l3 : at' = 0 ∨ at' = 1 ∨ at' = 2 ∨ at' = 3 ∨ at' = 4 := by
    rcases el_cases at' with h | h | h | h | h | h
    · exact .inl h
    · exact .inr (.inl h)
    · exact .inr (.inr (.inl h))
    · exact .inr (.inr (.inr (.inl h)))
    · exact .inr (.inr (.inr (.inr h)))
    · rw [UInt8.lt_iff_toNat_lt] at h; rw [UInt8.le_iff_toNat_le] at h3; omega
  rcases l1 with e | e | e | e | e <;> subst e <;> cases en <;> first | (cases h2; done) | (rcases l3 with e | e | e | e | e <;> subst e <;> rcases h4 with e | e | e <;> subst e <;> rfl)
/-- What the document's look may be asked. -/
def Q (c : Ctx) (b : UInt8) : Prop := form c = true ∨ (c = within c 5 ∧ (b == 61) = false ∧ (b == 47 || b == 62) = false ∧ blankB b = false)
theorem Q_nm {c : Ctx} {b : UInt8} (h : Q c b) : c.nm.length ≤ 32 := by
  rcases h with h | ⟨h, _⟩
  · exact form_nm c h
  · rw [h]; exact Nat.zero_le _
theorem conv_back (x : UInt8) : conv .u8 (.int (x.toNat : Int)) = some (.u8 x) := by
  rw [conv_u8_int (u8_lt x), UInt8.ofNat_toNat]
theorem tagEnd_eq (el : UInt8) : tagEnd el = if el == 0 then st1 0 else ⟨17, el, false, 0, 0, 0, 0, false, 0, []⟩ := by
  unfold tagEnd bne
  by_cases h : (el == 0) = true
  · rw [h]; rfl
  · have : (el == 0) = false := by simpa using h
    rw [this]; rfl
def rfeedL (c : Ctx) : List UInt8 → Ctx
  | [] => c
  | b :: r => if (c.el == 3 || c.el == 4) && c.st == 17 then rfeedL (code c b (c.el == 3)) r else c
theorem code0_keep (c : Ctx) (b : UInt8) (s : Bool) : code0 c b s = badC ∨ ((code0 c b s).st = c.st ∧ (code0 c b s).el = c.el) := by
  unfold code0
  repeat' split
  all_goals first | exact .inl rfl | exact .inr ⟨rfl, rfl⟩
theorem code_keep (c : Ctx) (b : UInt8) (s : Bool) : code c b s = badC ∨ ((code c b s).st = c.st ∧ (code c b s).el = c.el) := by
  unfold code
  split
  · exact code0_keep c b s
  · split
    · repeat' split
      all_goals first | exact .inl rfl | exact .inr ⟨rfl, rfl⟩ | exact code0_keep _ b s
    · unfold text
      repeat' split
      all_goals first | exact .inl rfl | exact .inr ⟨rfl, rfl⟩
theorem rfeedL_bad (l : List UInt8) : rfeedL badC l = badC := by cases l <;> rfl
theorem rfeedL_eq : ∀ (l : List UInt8) (c : Ctx), (c.el == 3 || c.el == 4) = true → (c.st == 17) = true → rfeedL c l = feedL c l
  | [], c, h1, h2 => rfl
  | b :: r, c, h1, h2 => by
    simp only [rfeedL, feedL, h1, h2, Bool.and_self, if_true]
    rcases code_keep c b (c.el == 3) with e | ⟨e1, e2⟩
    · rw [e]; exact rfeedL_bad r
    · have : ((code c b (c.el == 3)).st == 20) = false := by rw [e1, eq_of_beq h2]; rfl
      rw [this, if_neg (by simp)]
      exact rfeedL_eq r _ (by rw [e2]; exact h1) (by rw [e1]; exact h2)
theorem rfeed_eq (c : Ctx) (s : List UInt8) : rfeedL { c with st := 17, nm := [] } s = fed c s true := by
  unfold fed
  have h : coded 17 c.el c.at' = (c.el == 3 || c.el == 4) := by
    unfold coded
    cases (c.el == 3 || c.el == 4) <;> rfl
  rw [h]
  cases he : (c.el == 3 || c.el == 4) with
  | true =>
    rw [if_neg (by simp)]
    exact rfeedL_eq s _ he rfl
  | false =>
    rw [if_pos (by simp)]
    cases s with
    | nil => rfl
    | cons b r => simp only [rfeedL, he, Bool.false_and, Bool.false_eq_true, if_false]
theorem tag9 (c : Ctx) (b : UInt8) (h : c.st = 9) : (tag c b).2 = false := by
  unfold tag
  rw [h]
  cases blankB b <;> cases (b == 47) <;> cases (b == 62) <;> rfl
theorem feedL_st : ∀ (l : List UInt8) (c : Ctx), c.st = 17 → (feedL c l).st = 17 ∨ feedL c l = badC
  | [], c, h => .inl h
  | b :: r, c, h => by
    unfold feedL
    split
    · exact .inr rfl
    · rename_i h2
      rcases code_keep c b (c.el == 3) with e | ⟨e1, e2⟩
      · rw [e] at h2; exact absurd rfl h2
      · exact feedL_st r _ (e1.trans h)
theorem fed_st (c : Ctx) (s : List UInt8) (feed : Bool) : (fed c s feed).st = 17 ∨ fed c s feed = badC := by
  unfold fed
  split
  · exact .inl rfl
  · exact feedL_st s _ rfl
end Sx

/-
  SxPForm: behind a byte a context in form is in form.
-/
namespace Sx
open Go

/-- Of the open tag: an element that is known, an end tag of none. -/
def okE (el : UInt8) (en : Bool) : Bool := decide (el ≤ 4) && !(en && el != 0)
theorem okE_of (c : Ctx) (h : form c = true) : okE c.el c.en = true := by
  obtain ⟨h1, h2⟩ := form_en c h
  unfold okE
  rw [h2, decide_eq_true h1]; rfl
theorem okE_cases {el : UInt8} {en : Bool} (h : okE el en = true) : (en = true ∧ el = 0) ∨ (en = false ∧ (el = 0 ∨ el = 1 ∨ el = 2 ∨ el = 3 ∨ el = 4)) := by
  unfold okE at h
  rw [Bool.and_eq_true, decide_eq_true_eq] at h
  rcases el_cases el with e | e | e | e | e | e
  · cases en
    · exact .inr ⟨rfl, .inl e⟩
    · exact .inl ⟨rfl, e⟩
  · subst e; cases en
    · exact .inr ⟨rfl, by decide⟩
    · exact absurd h.2 (by decide)
  · subst e; cases en
    · exact .inr ⟨rfl, by decide⟩
    · exact absurd h.2 (by decide)
  · subst e; cases en
    · exact .inr ⟨rfl, by decide⟩
    · exact absurd h.2 (by decide)
  · subst e; cases en
    · exact .inr ⟨rfl, by decide⟩
    · exact absurd h.2 (by decide)
  · have := h.1
    rw [UInt8.le_iff_toNat_le] at this
    rw [UInt8.lt_iff_toNat_lt] at e
    omega
theorem mk3 (en : Bool) (nm : List UInt8) : form ⟨3, 0, en, 0, 0, 0, 0, false, 0, nm⟩ = small nm 32 := by cases en <;> rfl
theorem mkT {el : UInt8} {en : Bool} (h : okE el en = true) (s : UInt8) (hs : s = 4 ∨ s = 9 ∨ s = 10) : form ⟨s, el, en, 0, 0, 0, 0, false, 0, []⟩ = true := by
  rw [form_tagS s el en hs]; exact h
theorem mk5 {el : UInt8} {en : Bool} (h : okE el en = true) (s : UInt8) (hs : s = 5 ∨ s = 6) (nm : List UInt8) : form ⟨s, el, en, 0, 0, 0, 0, false, 0, nm⟩ = small nm 32 := by
  rcases okE_cases h with ⟨rfl, rfl⟩ | ⟨rfl, e | e | e | e | e⟩ <;> rcases hs with e' | e' <;> subst e' <;> (try subst e) <;> rfl
theorem mk7 {el : UInt8} {en : Bool} (h : okE el en = true) {at' : UInt8} (ha : at' = 0 ∨ at' = 1 ∨ at' = 2 ∨ at' = 3 ∨ at' = 4) : form ⟨7, el, en, at', 0, 0, 0, false, 0, []⟩ = true := by
  rcases okE_cases h with ⟨rfl, rfl⟩ | ⟨rfl, e | e | e | e | e⟩ <;> rcases ha with e' | e' | e' | e' | e' <;> subst e' <;> (try subst e) <;> rfl
theorem mk8E {el : UInt8} {en : Bool} (h : okE el en = true) (at' qu pa su : UInt8) (es : Bool) (nm : List UInt8) : form ⟨8, el, en, at', qu, pa, su, es, 0, nm⟩ = form ⟨8, 0, false, at', qu, pa, su, es, 0, nm⟩ := by
  rcases okE_cases h with ⟨rfl, rfl⟩ | ⟨rfl, e | e | e | e | e⟩ <;> (try subst e) <;> rfl
theorem mk8url (qu : UInt8) (hq : qu = 0 ∨ qu = 34 ∨ qu = 39) (pa : UInt8) (hp : pa = 0 ∨ pa = 1 ∨ pa = 2 ∨ pa = 3 ∨ pa = 4 ∨ pa = 5) (nm : List UInt8) : form ⟨8, 0, false, 1, qu, pa, 0, false, 0, nm⟩ = if pa == 1 then small nm 16 else nm == [] := by
  rcases hq with e | e | e <;> subst e <;> rcases hp with e | e | e | e | e | e <;> subst e <;> rfl
theorem mk8code (qu : UInt8) (hq : qu = 0 ∨ qu = 34 ∨ qu = 39) (at' : UInt8) (ha : at' = 2 ∨ at' = 3) (su : UInt8) (hs : su = 0 ∨ su = 1 ∨ su = 2 ∨ su = 3 ∨ su = 4 ∨ su = 5 ∨ su = 6) (es : Bool) : form ⟨8, 0, false, at', qu, 0, su, es, 0, []⟩ = subOk su es (at' == 2) := by
  rcases hq with e | e | e <;> subst e <;> rcases ha with e | e <;> subst e <;> rcases hs with e | e | e | e | e | e | e <;> subst e <;> cases es <;> rfl
theorem mk8none (qu : UInt8) (hq : qu = 0 ∨ qu = 34 ∨ qu = 39) (at' : UInt8) (ha : at' = 0 ∨ at' = 4) : form ⟨8, 0, false, at', qu, 0, 0, false, 0, []⟩ = true := by
  rcases hq with e | e | e <;> subst e <;> rcases ha with e | e <;> subst e <;> rfl
theorem mkR (s el : UInt8) (hs : s = 17 ∨ s = 18) (he : el = 1 ∨ el = 2) : form ⟨s, el, false, 0, 0, 0, 0, false, 0, []⟩ = true := by
  rcases hs with e | e <;> subst e <;> rcases he with e | e <;> subst e <;> rfl
theorem mkRc (s el : UInt8) (hs : s = 17 ∨ s = 18) (he : el = 3 ∨ el = 4) (su : UInt8) (hu : su = 0 ∨ su = 1 ∨ su = 2 ∨ su = 3 ∨ su = 4 ∨ su = 5 ∨ su = 6) (es : Bool) : form ⟨s, el, false, 0, 0, 0, su, es, 0, []⟩ = subOk su es (el == 3) := by
  rcases hs with e | e <;> subst e <;> rcases he with e | e <;> subst e <;> rcases hu with e | e | e | e | e | e | e <;> subst e <;> cases es <;> rfl
theorem mkRe (el : UInt8) (he : el = 1 ∨ el = 2) (nm : List UInt8) : form ⟨19, el, false, 0, 0, 0, 0, false, 0, nm⟩ = pre nm (nameOf el) := by
  rcases he with e | e <;> subst e <;> rfl
theorem mkRec (el : UInt8) (he : el = 3 ∨ el = 4) (su : UInt8) (hu : su = 0 ∨ su = 1 ∨ su = 2 ∨ su = 3 ∨ su = 4 ∨ su = 5 ∨ su = 6) (es : Bool) (nm : List UInt8) : form ⟨19, el, false, 0, 0, 0, su, es, 0, nm⟩ = (subOk su es (el == 3) && pre nm (nameOf el)) := by
  rcases he with e | e <;> subst e <;> rcases hu with e | e | e | e | e | e | e <;> subst e <;> cases es <;> rfl
theorem attrOf_cases (nm : List UInt8) : attrOf nm = 0 ∨ attrOf nm = 1 ∨ attrOf nm = 2 ∨ attrOf nm = 3 ∨ attrOf nm = 4 := by
  unfold attrOf
  repeat' split
  all_goals simp
theorem form_bad : form badC = true := rfl
theorem low_lowb (b : UInt8) : low [lowb b] = true := by
  revert b
  exact all_u8 (by kernel_rfl)
theorem low_snoc {nm : List UInt8} (h : low nm = true) (b : UInt8) : low (nm ++ [lowb b]) = true := by
  have := low_lowb b
  unfold low at *
  rw [List.all_append, h, this]; rfl
theorem small_low {nm : List UInt8} {n : Int} (h : small nm n = true) : low nm = true := by
  unfold small at h
  rw [Bool.and_eq_true] at h
  exact h.1
theorem small_snoc {nm : List UInt8} (h : low nm = true) (b : UInt8) {n : Nat} (hl : nm.length < n) : small (nm ++ [lowb b]) (n : Int) = true := by
  unfold small
  rw [low_snoc h b, Bool.true_and, Bool.and_eq_true, decide_eq_true_eq, decide_eq_true_eq]
  simp; omega
theorem tagEnd_form {el : UInt8} (h : el ≤ 4) : form (tagEnd el) = true := by
  rcases el_cases el with e | e | e | e | e | e
  · subst e; rfl
  · subst e; rfl
  · subst e; rfl
  · subst e; rfl
  · subst e; rfl
  · rw [UInt8.le_iff_toNat_le] at h; rw [UInt8.lt_iff_toNat_lt] at e; omega
theorem opened_form (b : UInt8) : form (opened b).1 = true := by
  unfold opened
  repeat' split
  all_goals first | rfl | (show form ⟨3, 0, false, 0, 0, 0, 0, false, 0, [lowb b]⟩ = true; rw [mk3]; exact small_snoc (nm := []) rfl b (n := 32) (by decide))
theorem closed_form (b : UInt8) : form (closed b) = true := by
  unfold closed
  repeat' split
  all_goals first | rfl | (rw [mk3]; exact small_snoc (nm := []) rfl b (n := 32) (by decide))
end Sx

/-
  SxPForm2: behind a byte a context in form is in form: all of it.
-/
namespace Sx
open Go

theorem su_of (c : Ctx) (h : form c = true) : c.su = 0 ∨ c.su = 1 ∨ c.su = 2 ∨ c.su = 3 ∨ c.su = 4 ∨ c.su = 5 ∨ c.su = 6 := by
  have t := (of_ite (form1_of c h)).1
  simp only [Bool.not_eq_true, Bool.or_eq_false_iff, decide_eq_false_iff_not] at t
  have := t.1.2
  rcases su_cases c.su with e | e | e | e | e | e | e | e
  · exact .inl e
  · exact .inr (.inl e)
  · exact .inr (.inr (.inl e))
  · exact .inr (.inr (.inr (.inl e)))
  · exact .inr (.inr (.inr (.inr (.inl e))))
  · exact .inr (.inr (.inr (.inr (.inr (.inl e)))))
  · exact .inr (.inr (.inr (.inr (.inr (.inr e)))))
  · exact absurd e this
theorem at_of (c : Ctx) (h : form c = true) : c.at' = 0 ∨ c.at' = 1 ∨ c.at' = 2 ∨ c.at' = 3 ∨ c.at' = 4 := by
  have := form_at c h
  rcases el_cases c.at' with e | e | e | e | e | e
  · exact .inl e
  · exact .inr (.inl e)
  · exact .inr (.inr (.inl e))
  · exact .inr (.inr (.inr (.inl e)))
  · exact .inr (.inr (.inr (.inr e)))
  · rw [UInt8.le_iff_toNat_le] at this; rw [UInt8.lt_iff_toNat_lt] at e; omega
theorem pa_of (c : Ctx) (h : form c = true) : c.pa = 0 ∨ c.pa = 1 ∨ c.pa = 2 ∨ c.pa = 3 ∨ c.pa = 4 ∨ c.pa = 5 := by
  have := form_pa c h
  rcases pa_cases c.pa with e | e | e | e | e | e | e
  · exact .inl e
  · exact .inr (.inl e)
  · exact .inr (.inr (.inl e))
  · exact .inr (.inr (.inr (.inl e)))
  · exact .inr (.inr (.inr (.inr (.inl e))))
  · exact .inr (.inr (.inr (.inr (.inr e))))
  · rw [UInt8.le_iff_toNat_le] at this; rw [UInt8.lt_iff_toNat_lt] at e; omega
/-- What a context within a value is. -/
theorem form_val (c : Ctx) (h : form c = true) (e : c.st = 8) : (c.qu = 0 ∨ c.qu = 34 ∨ c.qu = 39) ∧
    ((c.at' = 1 ∧ c = ⟨8, c.el, c.en, 1, c.qu, c.pa, 0, false, 0, c.nm⟩ ∧ (if c.pa == 1 then small c.nm 16 else c.nm == []) = true) ∨
     ((c.at' = 2 ∨ c.at' = 3) ∧ c = ⟨8, c.el, c.en, c.at', c.qu, 0, c.su, c.es, 0, []⟩ ∧ subOk c.su c.es (c.at' == 2) = true) ∨
     ((c.at' = 0 ∨ c.at' = 4) ∧ c = ⟨8, c.el, c.en, c.at', c.qu, 0, 0, false, 0, []⟩)) := by
  have t := form_st8 c h e
  unfold valOk at t
  obtain ⟨t1, t⟩ := of_ite t
  have hq : c.qu = 0 ∨ c.qu = 34 ∨ c.qu = 39 := by
    simp only [Bool.and_eq_true, bne_iff_ne, not_and, Classical.not_not] at t1
    by_cases h0 : c.qu = 0
    · exact .inl h0
    · by_cases h34 : c.qu = 34
      · exact .inr (.inl h34)
      · exact .inr (.inr (t1 ⟨h0, h34⟩))
  refine ⟨hq, ?_⟩
  split at t
  · rename_i h1
    have h1 := eq_of_beq h1
    split at t
    · rename_i hp
      rw [Bool.and_eq_true] at t
      refine .inl ⟨h1, ?_, ?_⟩
      · have := of_cxeq t.1; rw [h1] at this; exact this
      · rw [hp, if_pos rfl]; exact t.2
    · rename_i hp
      have hcx := of_cxeq t
      refine .inl ⟨h1, ?_, ?_⟩
      · have hn : c.nm = [] := by rw [hcx]
        rw [h1] at hcx; rw [hn]; exact hcx
      · rw [if_neg hp, hcx]; rfl
  · rename_i h1
    split at t
    · rename_i h23
      rw [Bool.and_eq_true] at t
      refine .inr (.inl ⟨?_, of_cxeq t.1, t.2⟩)
      simpa using h23
    · rename_i h23
      refine .inr (.inr ⟨?_, of_cxeq t⟩)
      rcases at_of c h with x | x | x | x | x
      · exact .inl x
      · rw [x] at h1; exact absurd rfl h1
      · rw [x] at h23; exact absurd rfl h23
      · rw [x] at h23; exact absurd rfl h23
      · exact .inr x

def okSu (su : UInt8) : Prop := su = 0 ∨ su = 1 ∨ su = 2 ∨ su = 3 ∨ su = 4 ∨ su = 5 ∨ su = 6
theorem code0_shape (c : Ctx) (b : UInt8) (script : Bool) (hs : subOk c.su c.es script = true) (h0 : c.su = 0) : code0 c b script = badC ∨ ∃ su' es', code0 c b script = { c with su := su', es := es' } ∧ okSu su' ∧ subOk su' es' script = true := by
  have hes : c.es = false := by
    rw [h0] at hs
    cases hx : c.es with
    | false => rfl
    | true => rw [hx] at hs; cases script <;> cases hs
  unfold code0
  repeat' split
  · exact .inr ⟨1, c.es, rfl, by simp [okSu], by rw [hes]; cases script <;> rfl⟩
  · exact .inr ⟨2, c.es, rfl, by simp [okSu], by rw [hes]; cases script <;> rfl⟩
  · exact .inr ⟨3, c.es, rfl, by simp [okSu], by rw [hes]; cases script <;> rfl⟩
  · exact .inl rfl
  · exact .inl rfl
  · exact .inr ⟨c.su, c.es, rfl, by simp [okSu, h0], hs⟩
theorem code_shape (c : Ctx) (b : UInt8) (script : Bool) (hu : okSu c.su) (hs : subOk c.su c.es script = true) : code c b script = badC ∨ ∃ su' es', code c b script = { c with su := su', es := es' } ∧ okSu su' ∧ subOk su' es' script = true := by
  have hes : c.su ≠ 1 → c.su ≠ 2 → c.es = false := by
    intro h1 h2
    unfold subOk at hs
    cases hx : c.es with
    | false => rfl
    | true =>
      rw [hx, Bool.and_eq_true] at hs
      have h3 : (c.su == 1) = false := by simpa using h1
      have h4 : (c.su == 2) = false := by simpa using h2
      rw [h3, h4] at hs
      exact absurd hs.2 (by simp)
  have stay : ∃ su' es', c = { c with su := su', es := es' } ∧ okSu su' ∧ subOk su' es' script = true := ⟨c.su, c.es, rfl, hu, hs⟩
  have to (su : UInt8) (hk : okSu su) (hz : c.es = false) (h : subOk su false script = true) : ∃ su' es', ({ c with su := su } : Ctx) = { c with su := su', es := es' } ∧ okSu su' ∧ subOk su' es' script = true := ⟨su, c.es, rfl, hk, by rw [hz]; exact h⟩
  have s0 : subOk 0 false script = true := by cases script <;> rfl
  have s5 : subOk 5 false script = true := by cases script <;> rfl
  have s6 : subOk 6 false script = true := by cases script <;> rfl
  unfold code
  split
  · rename_i h
    exact code0_shape c b script hs (eq_of_beq h)
  · split
    · rename_i h
      have hz := hes (by rw [eq_of_beq h]; decide) (by rw [eq_of_beq h]; decide)
      split
      · exact .inr (to 5 (by simp [okSu]) hz s5)
      · split
        · rename_i h2
          rw [Bool.and_eq_true] at h2
          exact .inr (to 4 (by simp [okSu]) hz (by rw [h2.1]; rfl))
        · split
          · exact .inl rfl
          · rcases code0_shape { c with su := 0 } b script (by show subOk 0 c.es script = true; rw [hz]; exact s0) rfl with e | ⟨su', es', e, k1, k2⟩
            · exact .inl e
            · exact .inr ⟨su', es', e, k1, k2⟩
    · have tx : (c.su = 1 ∨ c.su = 2) → text c b = badC ∨ ∃ su' es', text c b = { c with su := su', es := es' } ∧ okSu su' ∧ subOk su' es' script = true := by
        intro h12
        unfold text
        have keep (es : Bool) : subOk c.su es script = true := by rcases h12 with e | e <;> rw [e] <;> cases es <;> cases script <;> rfl
        split
        · exact .inr ⟨c.su, false, rfl, hu, keep false⟩
        · rename_i hn
          have hz : c.es = false := by simpa using hn
          split
          · exact .inr ⟨c.su, true, rfl, hu, keep true⟩
          · split
            · exact .inl rfl
            · split
              · exact .inr (to 0 (by simp [okSu]) hz s0)
              · exact .inr stay
      split
      · rename_i h; exact tx (.inl (eq_of_beq h))
      · split
        · rename_i h; exact tx (.inr (eq_of_beq h))
        · rename_i h1 h2
          have hz := hes (by simpa using h1) (by simpa using h2)
          repeat' split
          all_goals first | exact .inr stay | exact .inr (to 0 (by simp [okSu]) hz s0) | exact .inr (to 5 (by simp [okSu]) hz s5) | exact .inr (to 6 (by simp [okSu]) hz s6)

theorem url_form (c : Ctx) (b : UInt8) (hE : okE c.el c.en = true) (hq : c.qu = 0 ∨ c.qu = 34 ∨ c.qu = 39) (hp : c.pa = 0 ∨ c.pa = 1 ∨ c.pa = 2 ∨ c.pa = 3 ∨ c.pa = 4 ∨ c.pa = 5) (hc : c = ⟨8, c.el, c.en, 1, c.qu, c.pa, 0, false, 0, c.nm⟩) (hn : (if c.pa == 1 then small c.nm 16 else c.nm == []) = true) : form (url c b) = true := by
  have mk (pa : UInt8) (nm : List UInt8) (hp : pa = 0 ∨ pa = 1 ∨ pa = 2 ∨ pa = 3 ∨ pa = 4 ∨ pa = 5) (h : (if pa == 1 then small nm 16 else nm == []) = true) : form ⟨c.st, c.el, c.en, c.at', c.qu, pa, c.su, c.es, c.da, nm⟩ = true := by
    rw [hc]
    show form ⟨8, c.el, c.en, 1, c.qu, pa, 0, false, 0, nm⟩ = true
    rw [mk8E hE, mk8url c.qu hq pa hp nm]; exact h
  have hlow : low c.nm = true := by
    split at hn
    · exact small_low hn
    · rw [eq_of_beq hn]; rfl
  unfold url
  split
  · rename_i h
    refine mk c.pa [] hp ?_
    rw [Bool.or_eq_true] at h
    rcases h with h | h <;> rw [eq_of_beq h] <;> rfl
  · split
    · rfl
    · split
      · exact mk 4 [] (by simp) rfl
      · split
        · rename_i h; refine mk c.pa [] hp ?_; rw [eq_of_beq h]; rfl
        · split
          · exact mk 3 [] (by simp) rfl
          · split
            · rfl
            · split
              · split
                · exact mk 3 [] (by simp) rfl
                · exact mk 5 [] (by simp) rfl
              · split
                · rename_i h; refine mk c.pa [] hp ?_; rw [eq_of_beq h]; rfl
                · split
                  · rename_i hlen
                    refine mk 1 c.nm (by simp) ?_
                    show small c.nm 16 = true
                    split at hn
                    · exact hn
                    · rw [eq_of_beq hn] at hlen; simp at hlen
                  · rename_i hlen
                    refine mk 1 (c.nm ++ [lowb b]) (by simp) ?_
                    show small (c.nm ++ [lowb b]) 16 = true
                    exact small_snoc hlow b (n := 16) (by simpa using hlen)
theorem value_form (c : Ctx) (b : UInt8) (h : form c = true) (e : c.st = 8) : form (value c b) = true := by
  have hE := okE_of c h
  obtain ⟨hq, hv⟩ := form_val c h e
  unfold value
  split
  · split
    · rfl
    · split
      · exact form_within c h 9 (by simp)
      · split
        · exact tagEnd_form (form_en c h).1
        · exact form_within c h 4 (by simp)
  · split
    · rfl
    · split
      · rename_i h1
        rcases hv with ⟨_, hc, hn⟩ | ⟨ha, _, _⟩ | ⟨ha, _⟩
        · exact url_form c b hE hq (pa_of c h) hc hn
        · rcases ha with x | x <;> (rw [x] at h1; cases h1)
        · rcases ha with x | x <;> (rw [x] at h1; cases h1)
      · split
        · rename_i h23
          split
          · rfl
          · rcases hv with ⟨ha, _, _⟩ | ⟨ha, hc, hs⟩ | ⟨ha, _⟩
            · rw [ha] at h23; cases h23
            · rcases code_shape c b (c.at' == 2) (su_of c h) hs with x | ⟨su', es', x, k1, k2⟩
              · rw [x]; rfl
              · rw [x, hc]
                show form ⟨8, c.el, c.en, c.at', c.qu, 0, su', es', 0, []⟩ = true
                rw [mk8E hE, mk8code c.qu hq c.at' ha su' k1 es']; exact k2
            · rcases ha with x | x <;> (rw [x] at h23; cases h23)
        · exact h
/-- What a context within an element's text is. -/
theorem form_raw (c : Ctx) (h : form c = true) (e : c.st = 17 ∨ c.st = 18 ∨ c.st = 19) : ∃ su es, c = ⟨c.st, c.el, false, 0, 0, 0, su, es, 0, if (c.st == 19) = true then c.nm else []⟩ ∧ (c.el = 1 ∨ c.el = 2 ∨ c.el = 3 ∨ c.el = 4) ∧ pre c.nm (nameOf c.el) = true ∧ okSu su ∧ subOk su es (c.el == 3) = true ∧ ((c.el = 1 ∨ c.el = 2) → su = 0 ∧ es = false) := by
  have t := form_tail c h
  have t : (cxeq c ⟨c.st, c.el, false, 0, 0, 0, if (c.el == 3 || c.el == 4) = true then c.su else 0, if (c.el == 3 || c.el == 4) = true then c.es else false, 0, if (c.st == 19) = true then c.nm else []⟩ && (c.el != 0) && pre c.nm (nameOf c.el) && subOk c.su c.es (c.el == 3)) = true := by
    rcases e with e | e | e <;> rw [e] at t ⊢ <;> exact t
  simp only [Bool.and_eq_true] at t
  obtain ⟨⟨⟨t1, t2⟩, t3⟩, t4⟩ := t
  have hc := of_cxeq t1
  have hel : c.el = 1 ∨ c.el = 2 ∨ c.el = 3 ∨ c.el = 4 := by
    have := (form_en c h).1
    rcases el_cases c.el with x | x | x | x | x | x
    · rw [x] at t2; cases t2
    · exact .inl x
    · exact .inr (.inl x)
    · exact .inr (.inr (.inl x))
    · exact .inr (.inr (.inr x))
    · rw [UInt8.le_iff_toNat_le] at this; rw [UInt8.lt_iff_toNat_lt] at x; omega
  have hsu : c.su = if (c.el == 3 || c.el == 4) = true then c.su else 0 := congrArg Ctx.su hc
  have hes : c.es = if (c.el == 3 || c.el == 4) = true then c.es else false := congrArg Ctx.es hc
  refine ⟨c.su, c.es, ?_, hel, t3, su_of c h, t4, fun h12 => ?_⟩
  · rw [← hsu, ← hes] at hc; exact hc
  · rcases h12 with x | x <;> rw [x] at hsu hes <;> exact ⟨hsu, hes⟩
end Sx

/-
  SxPForm3: behind a byte a context in form is in form: elements' texts, tags, all.
-/
namespace Sx
open Go

/-- A context within an element's text. -/
def RW (s : UInt8) (d : Ctx) (nm : List UInt8) : Prop := ∃ el su es, d = ⟨s, el, false, 0, 0, 0, su, es, 0, nm⟩ ∧ (el = 1 ∨ el = 2 ∨ el = 3 ∨ el = 4) ∧ okSu su ∧ subOk su es (el == 3) = true ∧ ((el = 1 ∨ el = 2) → su = 0 ∧ es = false)
theorem RW.form {s : UInt8} {d : Ctx} (h : RW s d []) (hs : s = 17 ∨ s = 18) : form d = true := by
  obtain ⟨el, su, es, rfl, hel, hu, hk, h12⟩ := h
  rcases hel with x | x | x | x
  · obtain ⟨rfl, rfl⟩ := h12 (.inl x); exact mkR s el hs (.inl x)
  · obtain ⟨rfl, rfl⟩ := h12 (.inr x); exact mkR s el hs (.inr x)
  · rw [mkRc s el hs (.inl x) su hu es]; exact hk
  · rw [mkRc s el hs (.inr x) su hu es]; exact hk
theorem RW.form19 {d : Ctx} {nm : List UInt8} (h : RW 19 d nm) (hp : pre nm (nameOf d.el) = true) : Sx.form d = true := by
  obtain ⟨el, su, es, rfl, hel, hu, hk, h12⟩ := h
  rcases hel with x | x | x | x
  · obtain ⟨rfl, rfl⟩ := h12 (.inl x); rw [mkRe el (.inl x)]; exact hp
  · obtain ⟨rfl, rfl⟩ := h12 (.inr x); rw [mkRe el (.inr x)]; exact hp
  · rw [mkRec el (.inl x) su hu es]; rw [hk, Bool.true_and]; exact hp
  · rw [mkRec el (.inr x) su hu es]; rw [hk, Bool.true_and]; exact hp
theorem RW.to {s : UInt8} {d : Ctx} {nm : List UInt8} (h : RW s d nm) (s' : UInt8) (nm' : List UInt8) : RW s' { d with st := s', nm := nm' } nm' := by
  obtain ⟨el, su, es, rfl, r⟩ := h
  exact ⟨el, su, es, rfl, r⟩
theorem feedL_rw : ∀ (l : List UInt8) (d : Ctx), RW 17 d [] → (d.el = 3 ∨ d.el = 4) → feedL d l = badC ∨ RW 17 (feedL d l) []
  | [], d, h, _ => .inr h
  | b :: r, d, h, he => by
    unfold feedL
    split
    · exact .inl rfl
    · rename_i hb
      obtain ⟨el, su, es, rfl, hel, hu, hk, h12⟩ := h
      simp only at he
      rcases code_shape ⟨17, el, false, 0, 0, 0, su, es, 0, []⟩ b (el == 3) hu hk with x | ⟨su', es', x, k1, k2⟩
      · simp only at hb; rw [x] at hb; exact absurd rfl hb
      · simp only
        rw [x]
        refine feedL_rw r _ ⟨el, su', es', rfl, hel, k1, k2, fun h => ?_⟩ he
        rcases he with e | e <;> rw [e] at h <;> rcases h with h | h <;> exact absurd h (by decide)
theorem fed_rw {s : UInt8} {d : Ctx} {nm : List UInt8} (h : RW s d nm) (l : List UInt8) (feed : Bool) : fed d l feed = badC ∨ RW 17 (fed d l feed) [] := by
  have h' := h.to 17 []
  unfold fed
  split
  · exact .inr h'
  · rename_i hc
    refine feedL_rw l _ h' ?_
    simp only [Bool.or_eq_true, not_or, Bool.not_eq_true, Bool.not_eq_false', Bool.not_eq_true'] at hc
    have := hc.2
    obtain ⟨el, su, es, rfl, hel, _⟩ := h
    show el = 3 ∨ el = 4
    rcases hel with x | x | x | x
    · subst x; exact absurd rfl this
    · subst x; exact absurd rfl this
    · exact .inl x
    · exact .inr x
theorem raw2_form {s : UInt8} {d : Ctx} {nm : List UInt8} (h : RW s d nm ∨ d = badC) (b : UInt8) (feed : Bool) : form (raw2 d b feed) = true := by
  rcases h with h | rfl
  case inr => rfl
  unfold raw2
  split
  · rfl
  · rcases fed_rw h [b] feed with x | x
    · rw [x]; rfl
    · split
      · have := (x.to 18 []).form (.inr rfl)
        obtain ⟨el, su, es, e, _⟩ := x
        rw [e] at this ⊢; exact this
      · exact x.form (.inl rfl)
theorem raw_form (c : Ctx) (b : UInt8) (feed : Bool) (h : form c = true) (e : c.st = 17 ∨ c.st = 18 ∨ c.st = 19) : form (raw c b feed) = true := by
  obtain ⟨su, es, hc, hel, hp, hu, hk, h12⟩ := form_raw c h e
  have hR : RW c.st c (if (c.st == 19) = true then c.nm else []) := ⟨c.el, su, es, hc, hel, hu, hk, h12⟩
  unfold raw
  split
  · rename_i h1
    rw [Bool.and_eq_true] at h1
    have h18 := eq_of_beq h1.1
    have hn : c.nm = [] := by rw [hc, h18]; rfl
    have := (hR.to 19 []).form19 rfl
    rw [show ({ c with st := 19, nm := [] } : Ctx) = { c with st := 19 } by rw [← hn]] at this
    exact this
  · split
    · rfl
    · split
      · split
        · rfl
        · unfold tag
          simp only [show ((9 : UInt8) == 3) = false from rfl, show ((9 : UInt8) == 9) = true from rfl, Bool.false_eq_true, if_false, if_true]
          repeat' split
          all_goals rfl
      · split
        · rename_i hx
          rw [Bool.and_eq_true] at hx
          have h19 := eq_of_beq hx.1
          have := (hR.to 19 (c.nm ++ [lowb b])).form19 hx.2
          rw [← h19] at this
          exact this
        · split
          · exact raw2_form (s := 17) (nm := []) ((fed_rw hR (47 :: c.nm) feed).symm) b feed
          · exact raw2_form (.inl hR) b feed
theorem note_form (c : Ctx) (b : UInt8) (h : form c = true) : form (note c b) = true := by
  unfold note
  repeat' split
  all_goals first | rfl | exact h | skip
  rename_i h15 _ _ _ hd
  have hda := (form_st15 c h (eq_of_beq h15)).2
  have : c.da = 0 ∨ c.da = 1 ∨ c.da = 2 := by
    have := all_u8 (p := fun d => !decide (d ≤ 2) || (d == 0 || (d == 1 || d == 2))) (by kernel_rfl) c.da
    simp only [Bool.or_eq_true, Bool.not_eq_true', decide_eq_false_iff_not, beq_iff_eq] at this
    rcases this with h | h
    · exact absurd hda h
    · exact h
  rcases this with x | x | x
  · rw [x]; rfl
  · rw [x]; rfl
  · rw [x] at hd; exact absurd rfl hd
theorem begunV_form (c : Ctx) (b : UInt8) (h : form c = true) (e : c.st = 7) : form (begunV c b).1 = true := by
  have hc := form_st7 c h e
  obtain ⟨q1, q2⟩ := form_en c h
  unfold begunV
  split
  · exact h
  · split
    · rfl
    · split
      · rename_i hq
        have : form ⟨8, c.el, c.en, c.at', b, 0, 0, false, 0, []⟩ = true := form_st8mk c.el c.at' b c.en q1 q2 (form_at c h) (by simpa using .inr (by simpa using hq))
        rw [hc]; exact this
      · have : form ⟨8, c.el, c.en, c.at', 0, 0, 0, false, 0, []⟩ = true := form_st8mk c.el c.at' 0 c.en q1 q2 (form_at c h) (.inl rfl)
        rw [hc]; exact this
theorem Q_okE {c : Ctx} {b : UInt8} (h : Q c b) (he : form c = false → okE c.el c.en = true) : okE c.el c.en = true := by
  cases hf : form c with
  | true => exact okE_of c hf
  | false => exact he hf
theorem grown_form3 (en : Bool) (c : Ctx) (b : UInt8) (hc : c = ⟨3, 0, c.en, 0, 0, 0, 0, false, 0, c.nm⟩) (hl : low c.nm = true) : form (grown c b) = true := by
  unfold grown
  split
  · rfl
  · rename_i h
    have : form ⟨3, 0, c.en, 0, 0, 0, 0, false, 0, c.nm ++ [lowb b]⟩ = true := by
      rw [mk3]; exact small_snoc hl b (n := 32) (by simpa using h)
    rw [hc]; exact this
theorem grown_form5 (c : Ctx) (b : UInt8) (hE : okE c.el c.en = true) (hs : c.st = 5 ∨ c.st = 6) (hc : c = { within c c.st with nm := c.nm }) (hl : low c.nm = true) : form (grown c b) = true := by
  unfold grown
  split
  · rfl
  · rename_i h
    have : form ⟨c.st, c.el, c.en, 0, 0, 0, 0, false, 0, c.nm ++ [lowb b]⟩ = true := by
      rw [mk5 hE c.st hs]; exact small_snoc hl b (n := 32) (by simpa using h)
    rw [hc]; exact this
theorem named_form (c : Ctx) (b : UInt8) (hE : okE c.el c.en = true) (hs : c.st = 5 ∨ c.st = 6) (hc : c = { within c c.st with nm := c.nm }) (hn : small c.nm 32 = true ∨ (c.nm = [] ∧ blankB b = false)) : form (named c b).1 = true := by
  have hl : low c.nm = true := by
    rcases hn with h | ⟨h, _⟩
    · exact small_low h
    · rw [h]; rfl
  unfold named
  split
  · exact mk7 hE (attrOf_cases c.nm)
  · split
    · exact mkT hE 9 (by simp)
    · split
      · rename_i hb
        rcases hn with h | ⟨_, h⟩
        · have : form ⟨6, c.el, c.en, 0, 0, 0, 0, false, 0, c.nm⟩ = true := by rw [mk5 hE 6 (by simp)]; exact h
          rw [hc]; exact this
        · rw [hb] at h; cases h
      · split
        · exact mkT hE 4 (by simp)
        · split
          · rfl
          · exact grown_form5 c b hE hs hc hl
theorem again_form (b : UInt8) (feed : Bool) : ∀ (n : Nat) (c d : Ctx), Q c b → (form c = false → okE c.el c.en = true) → again n c b feed = some d → form d = true
  | 0, c, d, _, _, h => by cases h
  | n + 1, c, d, hQ, hE0, h => by
    have hE := Q_okE hQ hE0
    have IH (c' : Ctx) (hf : form c' = true) (h : again n c' b feed = some d) : form d = true := again_form b feed n c' d (.inl hf) (fun h => absurd hf (by rw [h]; simp)) h
    -- names
    have nmd (hs : c.st = 5 ∨ c.st = 6) (hh : (if (named c b).2 then again n (named c b).1 b feed else some (named c b).1) = some d) : form d = true := by
      have key : c = { within c c.st with nm := c.nm } ∧ (small c.nm 32 = true ∨ (c.nm = [] ∧ blankB b = false)) := by
        rcases hQ with hf | ⟨hx, _, _, hb⟩
        · obtain ⟨h1, h2⟩ := form_st5 c hf hs
          exact ⟨h1, .inl h2⟩
        · have hn : c.nm = [] := by rw [hx]; rfl
          have h5 : c.st = 5 := by rw [hx]; rfl
          refine ⟨?_, .inr ⟨hn, hb⟩⟩
          rw [h5, hn]; exact hx
      have hf := named_form c b hE hs key.1 key.2
      split at hh
      · exact IH _ hf hh
      · cases hh; exact hf
    unfold again at h
    rcases hQ with hf | ⟨hx, h61, h47, hbl⟩
    case inr =>
      have e : c.st = 5 := by rw [hx]; rfl
      refine nmd (.inl e) ?_
      rw [e] at h
      have h : (if (tag c b).2 then again n (tag c b).1 b feed else some (tag c b).1) = some d := h
      unfold tag at h
      rw [e] at h
      exact h
    rcases st_cases c.st with e | e | e | e | e | e | e | e | e | e | e | e | e | e | e | e | e | e | e | e | e | e
    · have hc := form_pl c hf (by simp [e])
      rw [e] at hc
      subst hc
      have h : (if (b == 60) = true then some (st1 1) else some (st1 0)) = some d := h
      split at h <;> cases h <;> rfl
    · have hc := form_pl c hf (by simp [e])
      rw [e] at hc
      subst hc
      have h : (if (opened b).2 then some (opened b).1 else again n (st1 0) b feed) = some d := h
      split at h
      · cases h; exact opened_form b
      · exact IH (st1 0) rfl h
    · rw [e] at h
      have h : some (closed b) = some d := h
      cases h; exact closed_form b
    · rw [e] at h
      have h : (if (tag c b).2 then again n (tag c b).1 b feed else some (tag c b).1) = some d := h
      obtain ⟨hc, hsm⟩ := form_st3 c hf e
      have ht : form (tag c b).1 = true := by
        unfold tag
        rw [e]
        simp only [show ((3 : UInt8) == 3) = true from rfl, if_true]
        split
        · exact grown_form3 c.en c b hc (small_low hsm)
        · split
          · rename_i hen
            have : c.en = false := by simpa using hen
            have h2 := form_tagS 9 (elOf c.nm) c.en (by simp)
            show form ⟨9, elOf c.nm, c.en, 0, 0, 0, 0, false, 0, []⟩ = true
            rw [h2, this, decide_eq_true (elOf_le c.nm)]; rfl
          · exact form_within c hf 9 (by simp)
      split at h
      · exact IH _ ht h
      · cases h; exact ht
    · rw [e] at h
      have h : (if (tag c b).2 then again n (tag c b).1 b feed else some (tag c b).1) = some d := h
      have hc := form_st4 c hf (by simp [e])
      unfold tag at h
      rw [e] at h
      simp only [show ((4 : UInt8) == 3) = false from rfl, show ((4 : UInt8) == 9) = false from rfl, show ((4 : UInt8) == 10) = false from rfl, show ((4 : UInt8) == 4) = true from rfl, Bool.false_eq_true, if_false, if_true] at h
      cases hbl : blankB b with
      | true => rw [hbl] at h; cases h; exact hf
      | false =>
      rw [hbl] at h
      cases h47 : (b == 47 || b == 62) with
      | true => rw [h47] at h; exact IH _ (form_within c hf 9 (by simp)) h
      | false =>
      rw [h47] at h
      cases h61 : (b == 61) with
      | true => rw [h61] at h; cases h; rfl
      | false =>
        rw [h61] at h
        have hcw : { c with st := 5 } = within c 5 := by rw [hc]; rfl
        have h : again n (within c 5) b feed = some d := by rw [← hcw]; exact h
        exact again_form b feed n (within c 5) d (.inr ⟨rfl, h61, h47, hbl⟩) (fun _ => hE) h
    · rw [e] at h
      have h : (if (tag c b).2 then again n (tag c b).1 b feed else some (tag c b).1) = some d := h
      unfold tag at h
      rw [e] at h
      exact nmd (.inl e) h
    · rw [e] at h
      have h : (if (tag c b).2 then again n (tag c b).1 b feed else some (tag c b).1) = some d := h
      unfold tag at h
      rw [e] at h
      exact nmd (.inr e) h
    · rw [e] at h
      have h : (if (tag c b).2 then again n (tag c b).1 b feed else some (tag c b).1) = some d := h
      unfold tag at h
      rw [e] at h
      have h : (if (begunV c b).2 then again n (begunV c b).1 b feed else some (begunV c b).1) = some d := h
      have ht := begunV_form c b hf e
      split at h
      · exact IH _ ht h
      · cases h; exact ht
    · rw [e] at h
      have h : some (value c b) = some d := h
      cases h; exact value_form c b hf e
    · rw [e] at h
      have h : (if (tag c b).2 then again n (tag c b).1 b feed else some (tag c b).1) = some d := h
      rw [tag9 c b e, if_neg (by simp)] at h
      cases h
      unfold tag
      rw [e]
      simp only [show ((9 : UInt8) == 3) = false from rfl, show ((9 : UInt8) == 9) = true from rfl, Bool.false_eq_true, if_false, if_true]
      split
      · exact form_within c hf 4 (by simp)
      · split
        · exact form_within c hf 10 (by simp)
        · split
          · exact tagEnd_form (form_en c hf).1
          · rfl
    · rw [e] at h
      have h : (if (tag c b).2 then again n (tag c b).1 b feed else some (tag c b).1) = some d := h
      unfold tag at h
      rw [e] at h
      simp only [show ((10 : UInt8) == 3) = false from rfl, show ((10 : UInt8) == 9) = false from rfl, show ((10 : UInt8) == 10) = true from rfl, Bool.false_eq_true, if_false, if_true] at h
      cases h62 : (b == 62) with
      | true => rw [h62] at h; cases h; exact tagEnd_form (form_en c hf).1
      | false => rw [h62] at h; exact IH _ (form_within c hf 4 (by simp)) h
    all_goals first
      | (rw [e] at h; have h : some (note c b) = some d := h; cases h; exact note_form c b hf)
      | (rw [e] at h; have h : some (raw c b feed) = some d := h; cases h; exact raw_form c b feed hf (by simp [e]))
      | skip
    exfalso
    have t := (of_ite (form1_of c hf)).1
    rw [decide_eq_true e] at t
    exact t rfl
theorem mv_form (c : Ctx) (b : UInt8) (feed : Bool) : form (mv c b feed) = true := by
  cases hf : form c with
  | true => exact again_form b feed 4 c _ (.inl hf) (fun h => absurd hf (by rw [h]; simp)) (mv_some c b feed hf)
  | false => rw [mv_bad c b feed hf]; rfl
theorem step_form (c : Ctx) (b : UInt8) : form (stepB c b) = true := mv_form c b true
end Sx

/-
  SxPRun: bytes, one behind the other.
-/
namespace Sx
open Go

def runL (f : Ctx → UInt8 → Ctx) : Ctx → List UInt8 → Int → Ctx × Int
  | c, [], _ => (c, -1)
  | c, b :: r, i => if (f c b).st == 20 then (f c b, i) else runL f (f c b) r (i + 1)
/-- A context in form, or Bad. -/
def inF (c : Ctx) : Ctx := if form c then c else badC
theorem inF_form (c : Ctx) : form (inF c) = true := by
  unfold inF
  split
  · assumption
  · rfl
def bytesB (c : Ctx) (p : List UInt8) : Ctx × Int := runL stepB (inF c) p 0
theorem runL_form {f : Ctx → UInt8 → Ctx} (hf : ∀ c b, form (f c b) = true) : ∀ (l : List UInt8) (c : Ctx) (i : Int), form c = true → form (runL f c l i).1 = true
  | [], c, i, h => h
  | b :: r, c, i, h => by
    unfold runL
    split
    · exact hf c b
    · exact runL_form hf r _ _ (hf c b)
theorem bad_of {c : Ctx} (h : form c = true) (e : (c.st == 20) = true) : c = badC := by
  have := form_pl c h (by simp [eq_of_beq e])
  rw [eq_of_beq e] at this
  exact this
theorem form_lt {c : Ctx} (h : form c = true) : c.nm.length < 9223372036854775808 := by have := form_nm c h; omega
theorem step_badC (b : UInt8) : stepB badC b = badC := rfl
/-- Whether it began so far, or behind. -/
theorem runL_shift (f : Ctx → UInt8 → Ctx) : ∀ (l : List UInt8) (c : Ctx) (i : Int), (runL f c l i).1 = (runL f c l 0).1 ∧ ((runL f c l 0).2 = -1 → (runL f c l i).2 = -1) ∧ ((runL f c l 0).2 ≠ -1 → (runL f c l i).2 = (runL f c l 0).2 + i) ∧ -1 ≤ (runL f c l 0).2 ∧ (runL f c l 0).2 < l.length
  | [], c, i => ⟨rfl, fun _ => rfl, fun h => absurd rfl h, Int.le_refl _, (by show (-1 : Int) < 0; omega)⟩
  | b :: r, c, i => by
    unfold runL
    split
    · refine ⟨rfl, fun h => ?_, fun _ => (by simp), (by simp), ?_⟩
      · exact absurd (show (0 : Int) = -1 from h) (by decide)
      · show (0 : Int) < ((r.length + 1 : Nat) : Int); omega
    · obtain ⟨a1, a2, a3, a4, a5⟩ := runL_shift f r (f c b) (i + 1)
      obtain ⟨b1, b2, b3, b4, b5⟩ := runL_shift f r (f c b) (0 + 1)
      refine ⟨a1.trans b1.symm, ?_⟩
      by_cases h : (runL f (f c b) r 0).2 = -1
      · rw [a2 h, b2 h]
        exact ⟨fun _ => rfl, fun hh => absurd rfl hh, Int.le_refl _, (by simp; omega)⟩
      · rw [a3 h, b3 h]
        simp only [List.length_cons]
        refine ⟨fun hh => ?_, fun _ => by omega, by omega, by omega⟩
        omega
/-- In two pieces. -/
theorem runL_append (f : Ctx → UInt8 → Ctx) : ∀ (p q : List UInt8) (c : Ctx) (i : Int), 0 ≤ i → runL f c (p ++ q) i = if (runL f c p i).2 = -1 then runL f (runL f c p i).1 q (i + p.length) else runL f c p i
  | [], q, c, i, hi => by simp [runL]
  | b :: r, q, c, i, hi => by
    simp only [List.cons_append, runL]
    split
    · rw [if_neg (show ¬ i = -1 by omega)]
    · rw [runL_append f r q _ _ (by omega)]
      simp only [List.length_cons]
      rw [show i + 1 + (r.length : Int) = i + ((r.length + 1 : Nat) : Int) by omega]
theorem runL_bad {f : Ctx → UInt8 → Ctx} (hf : ∀ c b, form (f c b) = true) : ∀ (l : List UInt8) (c : Ctx) (i : Int), 0 ≤ i → (runL f c l i).2 ≠ -1 → (runL f c l i).1 = badC
  | [], c, i, hi, h => absurd rfl h
  | b :: r, c, i, hi, h => by
    unfold runL at h ⊢
    split
    · rename_i e; exact bad_of (hf c b) e
    · rename_i e
      rw [if_neg e] at h
      exact runL_bad hf r _ _ (by omega) h
/-- Bytes without a < change no text. -/
theorem run_text : ∀ (l : List UInt8) (i : Int), (l.any (· == 60)) = false → runL stepB (st1 0) l i = (st1 0, -1)
  | [], i, _ => rfl
  | b :: r, i, h => by
    simp only [List.any_cons, Bool.or_eq_false_iff] at h
    have : stepB (st1 0) b = st1 0 := by
      have h60 := h.1
      have h1 := mv_some (st1 0) b true rfl
      have h2 : again 4 (st1 0) b true = if b == 60 then some (st1 1) else some (st1 0) := rfl
      rw [h2, h60] at h1
      exact (Option.some.inj h1).symm
    unfold runL
    rw [this]
    exact run_text r (i + 1) h.2
/-- Without its quote none changes a plain value. -/
theorem run_value (q : UInt8) (hq : q = 34 ∨ q = 39) : ∀ (l : List UInt8) (i : Int), (l.any (· == q)) = false → runL stepB ⟨8, 0, false, 0, q, 0, 0, false, 0, []⟩ l i = (⟨8, 0, false, 0, q, 0, 0, false, 0, []⟩, -1)
  | [], i, _ => rfl
  | b :: r, i, h => by
    simp only [List.any_cons, Bool.or_eq_false_iff] at h
    have hf : form ⟨8, 0, false, 0, q, 0, 0, false, 0, []⟩ = true := by rcases hq with e | e <;> rw [e] <;> rfl
    have : stepB ⟨8, 0, false, 0, q, 0, 0, false, 0, []⟩ b = ⟨8, 0, false, 0, q, 0, 0, false, 0, []⟩ := by
      have h1 := mv_some ⟨8, 0, false, 0, q, 0, 0, false, 0, []⟩ b true hf
      have h2 : again 4 ⟨8, 0, false, 0, q, 0, 0, false, 0, []⟩ b true = some (value ⟨8, 0, false, 0, q, 0, 0, false, 0, []⟩ b) := rfl
      rw [h2] at h1
      have h3 : value ⟨8, 0, false, 0, q, 0, 0, false, 0, []⟩ b = ⟨8, 0, false, 0, q, 0, 0, false, 0, []⟩ := by
        unfold value
        simp only [h.1]
        rcases hq with e | e <;> subst e <;> rfl
      rw [h3] at h1
      exact (Option.some.inj h1).symm
    unfold runL
    rw [this]
    have hs : ((8 : UInt8) == 20) = false := rfl
    rw [hs, if_neg (by simp)]
    exact run_value q hq r (i + 1) h.2
/-- Bytes read in two pieces. -/
theorem split_bytes (c : Ctx) (l : List UInt8) (n : Nat) (hn : n ≤ l.length) (A W B : Ctx × Int) (hA : bytesB c (l.take n) = A) (hW : bytesB c l = W) (hB : bytesB A.1 (l.drop n) = B) :
    (0 ≤ A.2 → W = A ∧ A.1 = badC) ∧ (A.2 < 0 → W.1 = B.1 ∧ (B.2 < 0 → W.2 < 0) ∧ (0 ≤ B.2 → W.2 = B.2 + n)) ∧ B.2 < ((l.drop n).length : Int) ∧ -1 ≤ B.2 := by
  have hfA : form A.1 = true := by rw [← hA]; exact runL_form step_form _ _ _ (inF_form c)
  have e : bytesB c l = if (runL stepB (inF c) (l.take n) 0).2 = -1 then runL stepB (runL stepB (inF c) (l.take n) 0).1 (l.drop n) (0 + (l.take n).length) else runL stepB (inF c) (l.take n) 0 := by
    rw [← runL_append stepB _ _ _ _ (Int.le_refl _), List.take_append_drop]; rfl
  have hA' : runL stepB (inF c) (l.take n) 0 = A := hA
  rw [hA', hW] at e
  have hB' : runL stepB A.1 (l.drop n) 0 = B := by
    have : inF A.1 = A.1 := by unfold inF; rw [if_pos hfA]
    rw [← hB]; unfold bytesB; rw [this]
  obtain ⟨a1, a2, a3, a4, a5⟩ := runL_shift stepB (l.take n) (inF c) 0
  obtain ⟨b1, b2, b3, b4, b5⟩ := runL_shift stepB (l.drop n) A.1 (0 + (l.take n).length)
  rw [hA'] at a4
  rw [hB'] at b1 b2 b3 b4 b5
  refine ⟨fun h => ?_, fun h => ?_, b5, b4⟩
  · rw [if_neg (by omega)] at e
    refine ⟨e, ?_⟩
    rw [← hA']
    exact runL_bad step_form _ _ _ (Int.le_refl _) (by rw [hA']; omega)
  · rw [if_pos (by omega)] at e
    have hl : (l.take n).length = n := by simp; omega
    rw [e]
    refine ⟨b1, fun h => ?_, fun h => ?_⟩
    · rw [b2 (by omega)]; omega
    · rw [b3 (by omega), hl]; omega
end Sx
namespace Sx
theorem agree_same {R : Type} (x : R) : agree (some x) (some x) = some x := agree_of rfl rfl
end Sx
namespace Sx
open Go
/-- A small letter. -/
def lowL (b : UInt8) : Bool := decide (97 ≤ b) && decide (b ≤ 122)
theorem step_name (p : List UInt8) (b : UInt8) (hb : lowL b = true) (hp : small p 32 = true) (h32 : p.length < 32) : stepB ⟨3, 0, false, 0, 0, 0, 0, false, 0, p⟩ b = ⟨3, 0, false, 0, 0, 0, 0, false, 0, p ++ [b]⟩ := by
  have hf : form ⟨3, 0, false, 0, 0, 0, 0, false, 0, p⟩ = true := hp
  have h1 := mv_some ⟨3, 0, false, 0, 0, 0, 0, false, 0, p⟩ b true hf
  have hx : (lowL b = true → (!blankB b && b != 47 && b != 62) = true ∧ lowb b = b) := by
    have := all_u8 (p := fun b => !lowL b || ((!blankB b && b != 47 && b != 62) && lowb b == b)) (by kernel_rfl) b
    intro h
    rw [h] at this
    simp only [Bool.not_true, Bool.false_or, Bool.and_eq_true, beq_iff_eq] at this
    exact ⟨by simpa [Bool.and_eq_true] using this.1, this.2⟩
  obtain ⟨x1, x2⟩ := hx hb
  have h2 : again 4 ⟨3, 0, false, 0, 0, 0, 0, false, 0, p⟩ b true = if (tag ⟨3, 0, false, 0, 0, 0, 0, false, 0, p⟩ b).2 then again 3 (tag ⟨3, 0, false, 0, 0, 0, 0, false, 0, p⟩ b).1 b true else some (tag ⟨3, 0, false, 0, 0, 0, 0, false, 0, p⟩ b).1 := rfl
  have h3 : tag ⟨3, 0, false, 0, 0, 0, 0, false, 0, p⟩ b = (⟨3, 0, false, 0, 0, 0, 0, false, 0, p ++ [b]⟩, false) := by
    show (if !blankB b && b != 47 && b != 62 then (grown ⟨3, 0, false, 0, 0, 0, 0, false, 0, p⟩ b, false) else _) = _
    rw [if_pos x1]
    unfold grown
    rw [if_neg (by simpa using h32), x2]
  rw [h2, h3] at h1
  exact (Option.some.inj h1).symm
/-- A name is read. -/
theorem run_name : ∀ (r p t : List UInt8) (i : Int), r.all lowL = true → small p 32 = true → p.length + r.length ≤ 32 → runL stepB ⟨3, 0, false, 0, 0, 0, 0, false, 0, p⟩ (r ++ t) i = runL stepB ⟨3, 0, false, 0, 0, 0, 0, false, 0, p ++ r⟩ t (i + r.length)
  | [], p, t, i, hr, hp, h => by simp
  | b :: r, p, t, i, hr, hp, h => by
    simp only [List.all_cons, Bool.and_eq_true] at hr
    simp only [List.length_cons] at h
    have hs := step_name p b hr.1 hp (by omega)
    have hp' : small (p ++ [b]) 32 = true := by
      have := step_form ⟨3, 0, false, 0, 0, 0, 0, false, 0, p⟩ b
      rw [hs] at this
      exact this
    show (if (stepB ⟨3, 0, false, 0, 0, 0, 0, false, 0, p⟩ b).st == 20 then _ else runL stepB (stepB ⟨3, 0, false, 0, 0, 0, 0, false, 0, p⟩ b) (r ++ t) (i + 1)) = _
    rw [hs, if_neg (show ¬ ((3 : UInt8) == 20) = true by decide), run_name r (p ++ [b]) t (i + 1) hr.2 hp' (by simp; omega)]
    simp only [List.append_assoc, List.cons_append, List.nil_append, List.length_cons]
    rw [show i + 1 + (r.length : Int) = i + ((r.length + 1 : Nat) : Int) by omega]
def letter26 (b : UInt8) : UInt8 := 97 + b % 26
def nameL (l : List UInt8) : List UInt8 := 113 :: (l.take 11).map letter26
theorem letter26_low (b : UInt8) : lowL (letter26 b) = true := all_u8 (p := fun b => lowL (letter26 b)) (by kernel_rfl) b
theorem nameL_el (l : List UInt8) : elOf (nameL l) = 0 := rfl
theorem small_name (l : List UInt8) : small (nameL l) 32 = true := by
  have hl : (l.take 11).length ≤ 11 := by simp; omega
  have h1 : low (nameL l) = true := by
    unfold low
    rw [List.all_eq_true]
    intro x hx
    rcases List.mem_cons.1 hx with rfl | hx
    · rfl
    · obtain ⟨y, _, rfl⟩ := List.mem_map.1 hx
      exact all_u8 (p := fun b => !(decide (65 ≤ letter26 b) && decide (letter26 b ≤ 90))) (by kernel_rfl) y
  unfold small
  rw [h1]
  simp [nameL]
  omega
theorem run_tag (l : List UInt8) : bytesB (st1 0) (60 :: (nameL l ++ [32, 97, 61, 39, 98, 39, 32, 99, 62])) = (st1 0, -1) := by
  have hl : (l.take 11).length ≤ 11 := by simp; omega
  have e : bytesB (st1 0) (60 :: (nameL l ++ [32, 97, 61, 39, 98, 39, 32, 99, 62])) = runL stepB ⟨3, 0, false, 0, 0, 0, 0, false, 0, [113]⟩ ((l.take 11).map letter26 ++ [32, 97, 61, 39, 98, 39, 32, 99, 62]) 2 := rfl
  rw [e, run_name _ _ _ _ (by rw [List.all_eq_true]; intro x hx; obtain ⟨y, _, rfl⟩ := List.mem_map.1 hx; exact letter26_low y) rfl (by simp; omega)]
  have hs : stepB ⟨3, 0, false, 0, 0, 0, 0, false, 0, [113] ++ (l.take 11).map letter26⟩ 32 = ⟨4, 0, false, 0, 0, 0, 0, false, 0, []⟩ := by
    have h1 := mv_some ⟨3, 0, false, 0, 0, 0, 0, false, 0, nameL l⟩ 32 true (small_name l)
    exact (Option.some.inj h1).symm
  show (if (stepB ⟨3, 0, false, 0, 0, 0, 0, false, 0, [113] ++ (l.take 11).map letter26⟩ 32).st == 20 then _ else runL stepB (stepB ⟨3, 0, false, 0, 0, 0, 0, false, 0, [113] ++ (l.take 11).map letter26⟩ 32) [97, 61, 39, 98, 39, 32, 99, 62] _) = _
  rw [hs, if_neg (by decide)]
  generalize (2 : Int) + _ + 1 = j
  rfl
end Sx

/-
  SxPFlat: what HTML alone knows of a context, and the step by that.
-/
namespace Sx
open Go

/-- Without what is known of a URL, of JavaScript or CSS. -/
def flat (c : Ctx) : Ctx := ⟨c.st, c.el, c.en, 0, c.qu, 0, 0, false, c.da, if c.st == 8 then [] else c.nm⟩
def plainB (c : Ctx) (b : UInt8) : Ctx := if form c then flat (mv (flat c) b false) else badC
def plainsB (c : Ctx) (p : List UInt8) : Ctx × Int := runL plainB (inF c) p 0
theorem flat_flat (c : Ctx) : flat (flat c) = flat c := by
  unfold flat
  simp only
  cases h : (c.st == 8) <;> rfl
theorem flat_st (c : Ctx) (s : UInt8) (h : (c.st == 8) = false) (hs : (s == 8) = false) : flat { c with st := s } = { flat c with st := s } := by
  unfold flat
  simp only []
  rw [h, hs]
theorem code0_flat (c : Ctx) (b : UInt8) (s : Bool) : code0 c b s = badC ∨ flat (code0 c b s) = flat c := by
  unfold code0
  repeat' split
  all_goals first | exact .inr rfl | exact .inl rfl
theorem text_flat (c : Ctx) (b : UInt8) : text c b = badC ∨ flat (text c b) = flat c := by
  unfold text
  repeat' split
  all_goals first | exact .inr rfl | exact .inl rfl
theorem code_flat (c : Ctx) (b : UInt8) (s : Bool) : code c b s = badC ∨ flat (code c b s) = flat c := by
  unfold code
  repeat' split
  all_goals first | exact .inr rfl | exact .inl rfl | exact code0_flat c b s | exact text_flat c b | exact code0_flat { c with su := 0 } b s
theorem feedL_flat : ∀ (l : List UInt8) (c : Ctx), feedL c l = badC ∨ flat (feedL c l) = flat c
  | [], c => .inr rfl
  | b :: r, c => by
    unfold feedL
    split
    · exact .inl rfl
    · rename_i h
      rcases code_flat c b (c.el == 3) with e | e
      · rw [e] at h; exact absurd rfl h
      · rw [← e]; exact feedL_flat r _
theorem fed_flat (c : Ctx) (s : List UInt8) (feed : Bool) : fed c s feed = badC ∨ flat (fed c s feed) = flat { c with st := 17, nm := [] } := by
  unfold fed
  split
  · exact .inr rfl
  · exact feedL_flat s _
theorem url_flat (c : Ctx) (b : UInt8) (h : (c.st == 8) = true) : url c b = badC ∨ flat (url c b) = flat c := by
  have key (pa : UInt8) (nm : List UInt8) : flat { c with pa := pa, nm := nm } = flat c := by
    unfold flat
    simp only []
    rw [if_pos h, if_pos h]
  unfold url
  repeat' split
  all_goals first | exact .inr (key _ _) | exact .inl rfl
theorem value_flat (c : Ctx) (b : UInt8) (h : (c.st == 8) = true) : value c b = badC ∨ flat (value c b) = flat (value (flat c) b) := by
  have e1 : value (flat c) b = if (!(c.qu == 0) && b == c.qu) || (c.qu == 0 && (blankB b || b == 62)) then (if !(c.qu == 0) then within c 9 else if b == 62 then tagEnd c.el else within c 4) else if c.qu == 0 && quoteB b then badC else flat c := rfl
  rw [e1]
  unfold value
  split
  · split
    · exact .inl rfl
    · split
      · exact .inr rfl
      · split <;> exact .inr rfl
  · split
    · exact .inl rfl
    · rw [flat_flat]
      split
      · exact url_flat c b h
      · split
        · split
          · exact .inl rfl
          · exact code_flat _ _ _
        · exact .inr rfl
theorem fed_false (c : Ctx) (s : List UInt8) : fed c s false = { c with st := 17, nm := [] } := rfl
theorem raw2_flat (c c' : Ctx) (b : UInt8) (h : (c.st == 20) = false) (h' : (c'.st == 20) = false) (e : flat { c with st := 17, nm := [] } = flat { c' with st := 17, nm := [] }) : (raw2 c b true).st = 20 ∨ flat (raw2 c b true) = flat (raw2 c' b false) := by
  have e1 : raw2 c' b false = if b == 60 then { c' with st := 18, nm := [] } else { c' with st := 17, nm := [] } := by
    unfold raw2
    rw [h']
    rfl
  rw [e1]
  have e2 : raw2 c b true = if (fed c [b] true).st == 17 && b == 60 then { fed c [b] true with st := 18 } else fed c [b] true := by
    unfold raw2
    rw [h]
    rfl
  rw [e2]
  rcases fed_flat c [b] true with hf | hf
  · rw [hf]; exact .inl rfl
  · have hs : (fed c [b] true).st = 17 := by
      have := congrArg Ctx.st hf
      exact this
    rw [hs]
    refine .inr ?_
    cases hb : (b == 60) with
    | false =>
      show flat (fed c [b] true) = flat { c' with st := 17, nm := [] }
      rw [hf, e]
    | true =>
      show flat { fed c [b] true with st := 18 } = flat { c' with st := 18, nm := [] }
      rw [flat_st _ 18 (by rw [hs]; rfl) rfl, hf, e]; rfl
theorem raw_flat (c : Ctx) (b : UInt8) (hs : c.st = 17 ∨ c.st = 18 ∨ c.st = 19) : (raw c b true).st = 20 ∨ flat (raw c b true) = flat (raw (flat c) b false) := by
  obtain ⟨st, el, en, at', qu, pa, su, es, da, nm⟩ := c
  simp only at hs
  rcases hs with rfl | rfl | rfl
  · exact raw2_flat ⟨17, el, en, at', qu, pa, su, es, da, nm⟩ (flat ⟨17, el, en, at', qu, pa, su, es, da, nm⟩) b rfl rfl rfl
  · show (if b == 47 then (⟨19, el, en, at', qu, pa, su, es, da, nm⟩ : Ctx) else if b == 33 && el == 3 then badC else raw2 ⟨18, el, en, at', qu, pa, su, es, da, nm⟩ b true).st = 20 ∨ flat (if b == 47 then (⟨19, el, en, at', qu, pa, su, es, da, nm⟩ : Ctx) else if b == 33 && el == 3 then badC else raw2 ⟨18, el, en, at', qu, pa, su, es, da, nm⟩ b true) = flat (if b == 47 then (⟨19, el, en, 0, qu, 0, 0, false, da, nm⟩ : Ctx) else if b == 33 && el == 3 then badC else raw2 (flat ⟨18, el, en, at', qu, pa, su, es, da, nm⟩) b false)
    cases (b == 47) with
    | true => exact .inr rfl
    | false =>
      cases (b == 33 && el == 3) with
      | true => exact .inl rfl
      | false => exact raw2_flat ⟨18, el, en, at', qu, pa, su, es, da, nm⟩ (flat ⟨18, el, en, at', qu, pa, su, es, da, nm⟩) b rfl rfl rfl
  · have hf := fed_flat ⟨19, el, en, at', qu, pa, su, es, da, nm⟩ (47 :: nm) true
    show (if nm == nameOf el && (blankB b || b == 47 || b == 62) then (if !ends ⟨19, el, en, at', qu, pa, su, es, da, nm⟩ then badC else (tag ⟨9, 0, true, 0, 0, 0, 0, false, 0, []⟩ b).1) else if pre (nm ++ [lowb b]) (nameOf el) then (⟨19, el, en, at', qu, pa, su, es, da, nm ++ [lowb b]⟩ : Ctx) else raw2 (fed ⟨19, el, en, at', qu, pa, su, es, da, nm⟩ (47 :: nm) true) b true).st = 20 ∨
      flat (if nm == nameOf el && (blankB b || b == 47 || b == 62) then (if !ends ⟨19, el, en, at', qu, pa, su, es, da, nm⟩ then badC else (tag ⟨9, 0, true, 0, 0, 0, 0, false, 0, []⟩ b).1) else if pre (nm ++ [lowb b]) (nameOf el) then (⟨19, el, en, at', qu, pa, su, es, da, nm ++ [lowb b]⟩ : Ctx) else raw2 (fed ⟨19, el, en, at', qu, pa, su, es, da, nm⟩ (47 :: nm) true) b true) =
      flat (if nm == nameOf el && (blankB b || b == 47 || b == 62) then (tag ⟨9, 0, true, 0, 0, 0, 0, false, 0, []⟩ b).1 else if pre (nm ++ [lowb b]) (nameOf el) then (⟨19, el, en, 0, qu, 0, 0, false, da, nm ++ [lowb b]⟩ : Ctx) else raw2 ⟨17, el, en, 0, qu, 0, 0, false, da, []⟩ b false)
    cases (nm == nameOf el && (blankB b || b == 47 || b == 62)) with
    | true => cases (ends ⟨19, el, en, at', qu, pa, su, es, da, nm⟩) with
      | true => exact .inr rfl
      | false => exact .inl rfl
    | false => cases (pre (nm ++ [lowb b]) (nameOf el)) with
      | true => exact .inr rfl
      | false =>
        rcases hf with hf | hf
        · rw [hf]; exact .inl rfl
        · generalize fed ⟨19, el, en, at', qu, pa, su, es, da, nm⟩ (47 :: nm) true = d at hf
          obtain ⟨st', el', en', at2, qu', pa', su', es', da', nm'⟩ := d
          have h1 : st' = 17 := congrArg Ctx.st hf
          subst h1
          have h2 : el' = el := congrArg Ctx.el hf
          have h3 : en' = en := congrArg Ctx.en hf
          have h4 : qu' = qu := congrArg Ctx.qu hf
          have h5 : da' = da := congrArg Ctx.da hf
          subst h2 h3 h4 h5
          simp only [Bool.false_eq_true, if_false]
          refine raw2_flat _ _ b ?_ ?_ ?_ <;> rfl
theorem note_flat (c : Ctx) (b : UInt8) : flat (note c b) = flat (note (flat c) b) := by
  have e1 : note (flat c) b = if c.st == 11 || c.st == 12 then (if b == 62 then st1 0 else if b == 45 && c.st == 11 then st1 12 else if b == 45 then st1 13 else st1 16)
    else if c.st == 13 || c.st == 14 then (if b == 62 then badC else if b == 45 && c.st == 13 then st1 14 else if b == 45 then ⟨15, 0, false, 0, 0, 0, 0, false, 2, []⟩ else st1 15)
    else if c.st == 15 then (if b == 62 && c.da == 2 then st1 0 else if b == 33 && c.da == 2 then badC else if b == 45 then ⟨15, 0, false, 0, 0, 0, 0, false, (if decide (2 < c.da + 1) then 2 else c.da + 1), []⟩ else st1 15)
    else if c.st == 16 then (if b == 62 then st1 0 else flat c) else flat c := rfl
  rw [e1]
  unfold note
  repeat' split
  all_goals first | rfl | exact (flat_flat c).symm
theorem begun_flat (c : Ctx) (b : UInt8) (h : c.st = 7) (hn : c.nm = []) : (begunV (flat c) b).2 = (begunV c b).2 ∧ flat (begunV (flat c) b).1 = flat (begunV c b).1 ∧ ((begunV c b).2 = true → (begunV (flat c) b).1 = flat (begunV c b).1) := by
  obtain ⟨st, el, en, at', qu, pa, su, es, da, nm⟩ := c
  simp only at h hn
  subst h; subst hn
  unfold begunV
  cases blankB b <;> cases (b == 62) <;> cases (b == 34 || b == 39) <;> exact ⟨rfl, rfl, fun h => by first | rfl | cases h⟩
theorem named_eq (st el : UInt8) (en : Bool) (at' qu pa su : UInt8) (es : Bool) (da : UInt8) (nm : List UInt8) (b : UInt8) : named ⟨st, el, en, at', qu, pa, su, es, da, nm⟩ b =
    if b == 61 && nm != [] then (⟨7, el, en, attrOf nm, 0, 0, 0, false, 0, []⟩, false) else if b == 47 || b == 62 then (⟨9, el, en, 0, 0, 0, 0, false, 0, []⟩, true) else if blankB b then (⟨6, el, en, at', qu, pa, su, es, da, nm⟩, false)
    else if st == 6 then (⟨4, el, en, 0, 0, 0, 0, false, 0, []⟩, true) else if b == 34 || b == 39 || b == 60 then (badC, false) else (grown ⟨st, el, en, at', qu, pa, su, es, da, nm⟩ b, false) := rfl
theorem grown_flat (c : Ctx) (b : UInt8) (h : (c.st == 8) = false) : flat (grown (flat c) b) = flat (grown c b) := by
  have hn : (flat c).nm = c.nm := by unfold flat; simp only; rw [h]; rfl
  unfold grown
  rw [hn]
  split
  · rfl
  · unfold flat
    simp only
theorem named_flat (c : Ctx) (b : UInt8) (h : c.st = 5 ∨ c.st = 6) : (named (flat c) b).2 = (named c b).2 ∧ flat (named (flat c) b).1 = flat (named c b).1 ∧ ((named c b).2 = true → (named (flat c) b).1 = flat (named c b).1) := by
  have h8 : (c.st == 8) = false := by rcases h with e | e <;> rw [e] <;> rfl
  have hg := grown_flat c b h8
  have e : flat c = ⟨c.st, c.el, c.en, 0, c.qu, 0, 0, false, c.da, c.nm⟩ := by unfold flat; rw [h8]; rfl
  obtain ⟨st, el, en, at', qu, pa, su, es, da, nm⟩ := c
  simp only at h e
  rw [e] at hg ⊢
  rw [named_eq, named_eq]
  cases (b == 61 && nm != []) <;> cases (b == 47 || b == 62) <;> cases blankB b <;> cases (st == 6) <;> cases (b == 34 || b == 39 || b == 60) <;>
    first
    | exact ⟨rfl, rfl, fun h => by first | rfl | cases h⟩
    | exact ⟨rfl, hg, fun h => by cases h⟩
    | (refine ⟨rfl, ?_, fun h => by cases h⟩; rcases h with rfl | rfl <;> rfl)
theorem tag_flat (c : Ctx) (b : UInt8) (h : isT c.st = true) (hn : c.st = 7 → c.nm = []) : (tag (flat c) b).2 = (tag c b).2 ∧ flat (tag (flat c) b).1 = flat (tag c b).1 ∧ ((tag c b).2 = true → (tag (flat c) b).1 = flat (tag c b).1 ∧ ((tag c b).1.st = 7 → (tag c b).1.nm = [])) := by
  have hc : c.st = 3 ∨ c.st = 9 ∨ c.st = 10 ∨ c.st = 4 ∨ c.st = 7 ∨ c.st = 5 ∨ c.st = 6 := by
    unfold isT at h
    simp only [Bool.or_eq_true, beq_iff_eq] at h
    rcases h with (((((h | h) | h) | h) | h) | h) | h <;> simp [h]
  have st2 (s : UInt8) (d : Ctx) (hd : d.st = s) (hs : s ≠ 7) : d.st = 7 → d.nm = [] := fun e => absurd (hd.symm.trans e) hs
  rcases hc with e | e | e | e | e | e | e
  · have e8 : (c.st == 8) = false := by rw [e]; rfl
    have hg := grown_flat c b e8
    have ef : flat c = ⟨c.st, c.el, c.en, 0, c.qu, 0, 0, false, c.da, c.nm⟩ := by unfold flat; rw [e8]; rfl
    obtain ⟨st, el, en, at', qu, pa, su, es, da, nm⟩ := c
    simp only at e ef
    subst e
    rw [ef] at hg ⊢
    have tq (a p s : UInt8) (x : Bool) : tag ⟨3, el, en, a, qu, p, s, x, da, nm⟩ b = if !blankB b && b != 47 && b != 62 then (grown ⟨3, el, en, a, qu, p, s, x, da, nm⟩ b, false) else if !en then (⟨9, elOf nm, en, 0, 0, 0, 0, false, 0, []⟩, true) else (⟨9, el, en, 0, 0, 0, 0, false, 0, []⟩, true) := rfl
    rw [tq, tq]
    cases (!blankB b && b != 47 && b != 62) <;> cases en <;> first | exact ⟨rfl, rfl, fun h => ⟨rfl, st2 9 _ rfl (by decide)⟩⟩ | exact ⟨rfl, hg, fun h => by cases h⟩
  · obtain ⟨st, el, en, at', qu, pa, su, es, da, nm⟩ := c
    simp only at e
    subst e
    show (if blankB b then (⟨4, el, en, 0, 0, 0, 0, false, 0, []⟩, false) else if b == 47 then (⟨10, el, en, 0, 0, 0, 0, false, 0, []⟩, false) else if b == 62 then (tagEnd el, false) else (badC, false) : Ctx × Bool).2 = (if blankB b then (⟨4, el, en, 0, 0, 0, 0, false, 0, []⟩, false) else if b == 47 then (⟨10, el, en, 0, 0, 0, 0, false, 0, []⟩, false) else if b == 62 then (tagEnd el, false) else (badC, false) : Ctx × Bool).2 ∧ _
    refine ⟨rfl, rfl, ?_⟩
    intro h
    have : (tag ⟨9, el, en, at', qu, pa, su, es, da, nm⟩ b).2 = false := tag9 _ b rfl
    rw [this] at h; cases h
  · obtain ⟨st, el, en, at', qu, pa, su, es, da, nm⟩ := c
    simp only at e
    subst e
    refine ⟨rfl, rfl, ?_⟩
    have tq : tag ⟨10, el, en, at', qu, pa, su, es, da, nm⟩ b = if b == 62 then (tagEnd el, false) else (⟨4, el, en, 0, 0, 0, 0, false, 0, []⟩, true) := rfl
    have tq' : tag (flat ⟨10, el, en, at', qu, pa, su, es, da, nm⟩) b = if b == 62 then (tagEnd el, false) else (⟨4, el, en, 0, 0, 0, 0, false, 0, []⟩, true) := rfl
    rw [tq, tq']
    cases (b == 62) <;> first | exact fun h => ⟨rfl, st2 4 _ rfl (by decide)⟩ | exact fun h => by cases h
  · have e8 : (c.st == 8) = false := by rw [e]; rfl
    have ef : flat c = ⟨c.st, c.el, c.en, 0, c.qu, 0, 0, false, c.da, c.nm⟩ := by unfold flat; rw [e8]; rfl
    obtain ⟨st, el, en, at', qu, pa, su, es, da, nm⟩ := c
    simp only at e ef
    subst e
    rw [ef]
    have tq (a p s : UInt8) (x : Bool) : tag ⟨4, el, en, a, qu, p, s, x, da, nm⟩ b = if blankB b then (⟨4, el, en, a, qu, p, s, x, da, nm⟩, false) else if b == 47 || b == 62 then (⟨9, el, en, 0, 0, 0, 0, false, 0, []⟩, true) else if b == 61 then (badC, false) else (⟨5, el, en, a, qu, p, s, x, da, nm⟩, true) := rfl
    rw [tq, tq]
    cases blankB b <;> cases (b == 47 || b == 62) <;> cases (b == 61) <;> first | exact ⟨rfl, rfl, fun h => ⟨rfl, st2 9 _ rfl (by decide)⟩⟩ | exact ⟨rfl, rfl, fun h => ⟨rfl, st2 5 _ rfl (by decide)⟩⟩ | exact ⟨rfl, rfl, fun h => by cases h⟩
  · have hb := begun_flat c b e (hn e)
    have t1 : tag c b = begunV c b := by unfold tag; rw [e]; rfl
    have t2 : tag (flat c) b = begunV (flat c) b := by
      have : (flat c).st = 7 := e
      unfold tag; rw [this]; rfl
    rw [t1, t2]
    refine ⟨hb.1, hb.2.1, fun h => ⟨hb.2.2 h, fun h7 => ?_⟩⟩
    have := rank_begun c b h
    rw [h7] at this
    exact absurd this (by decide)
  all_goals
    have hb := named_flat c b (by first | exact .inl e | exact .inr e)
    have t1 : tag c b = named c b := by unfold tag; rw [e]; rfl
    have t2 : tag (flat c) b = named (flat c) b := by
      have := e
      unfold tag
      show (if (c.st == 3) = true then _ else if (c.st == 9) = true then _ else if (c.st == 10) = true then _ else if (c.st == 4) = true then _ else if (c.st == 7) = true then _ else named (flat c) b) = _
      rw [e]; rfl
    rw [t1, t2]
    refine ⟨hb.1, hb.2.1, fun h => ⟨hb.2.2 h, fun h7 => ?_⟩⟩
    rcases rank_named c b h with h' | ⟨_, h'⟩ <;> rw [h7] at h' <;> exact absurd h' (by decide)
/-- HTML alone reads it alike, as far as it is taken. -/
theorem again_flat (b : UInt8) : ∀ (n : Nat) (c d : Ctx), (c.st = 7 → c.nm = []) → again n c b true = some d → d.st = 20 ∨ ∃ d', again n (flat c) b false = some d' ∧ flat d = flat d'
  | 0, c, d, hn, h => by cases h
  | n + 1, c, d, hn, h => by
    unfold again at h ⊢
    have hst : (flat c).st = c.st := rfl
    rw [hst]
    cases h0 : (c.st == 0) with
    | true =>
      rw [h0] at h
      simp only [if_true] at h ⊢
      refine .inr ?_
      have h8 : (c.st == 8) = false := by rw [eq_of_beq h0]; rfl
      cases hb : (b == 60) with
      | true =>
        rw [hb] at h; simp only [if_true, Option.some.injEq] at h ⊢
        refine ⟨_, rfl, ?_⟩
        rw [← h, flat_st c 1 h8 rfl]
        have q := flat_st (flat c) 1 h8 rfl
        rw [flat_flat] at q
        exact q.symm
      | false =>
        rw [hb] at h; simp only [Bool.false_eq_true, if_false, Option.some.injEq] at h ⊢
        exact ⟨_, rfl, by rw [← h, flat_flat]⟩
    | false =>
    cases h1 : (c.st == 1) with
    | true =>
      rw [h0, h1] at h
      simp only [Bool.false_eq_true, if_false, if_true] at h ⊢
      have h8 : (c.st == 8) = false := by rw [eq_of_beq h1]; rfl
      cases hb : (opened b).2 with
      | true => rw [hb] at h; simp only [if_true, Option.some.injEq] at h ⊢; exact .inr ⟨_, rfl, by rw [← h]⟩
      | false =>
        rw [hb] at h
        simp only [Bool.false_eq_true, if_false] at h ⊢
        have := again_flat b n _ d (fun e => by cases e) h
        rwa [flat_st c 0 h8 rfl] at this
    | false =>
    cases h2 : (c.st == 2) with
    | true =>
      rw [h0, h1, h2] at h
      simp only [Bool.false_eq_true, if_false, if_true, Option.some.injEq] at h ⊢
      exact .inr ⟨_, rfl, by rw [← h]⟩
    | false =>
    cases hT : isT c.st with
    | true =>
      rw [h0, h1, h2, hT] at h
      simp only [Bool.false_eq_true, if_false, if_true] at h ⊢
      obtain ⟨f1, f2, f3⟩ := tag_flat c b hT hn
      rw [f1]
      cases ht : (tag c b).2 with
      | true =>
        rw [ht] at h
        simp only [if_true] at h ⊢
        obtain ⟨g1, g2⟩ := f3 ht
        rw [g1]
        exact again_flat b n _ d g2 h
      | false =>
        rw [ht] at h
        simp only [Bool.false_eq_true, if_false, Option.some.injEq] at h ⊢
        exact .inr ⟨_, rfl, by rw [f2, h]⟩
    | false =>
    cases h8 : (c.st == 8) with
    | true =>
      rw [h0, h1, h2, hT, h8] at h
      simp only [Bool.false_eq_true, if_false, if_true, Option.some.injEq] at h ⊢
      rcases value_flat c b h8 with e | e
      · rw [e] at h; exact .inl (by rw [← h]; rfl)
      · exact .inr ⟨_, rfl, by rw [← h, e]⟩
    | false =>
    cases hr : (c.st == 17 || c.st == 18 || c.st == 19) with
    | true =>
      rw [h0, h1, h2, hT, h8, hr] at h
      simp only [Bool.false_eq_true, if_false, if_true, Option.some.injEq] at h ⊢
      rcases raw_flat c b (by simpa [or_assoc] using hr) with e | e
      · rw [h] at e; exact .inl e
      · exact .inr ⟨_, rfl, by rw [← h, e]⟩
    | false =>
      rw [h0, h1, h2, hT, h8, hr] at h
      simp only [Bool.false_eq_true, if_false, Option.some.injEq] at h ⊢
      exact .inr ⟨_, rfl, by rw [← h, note_flat]⟩
theorem flat_form (c : Ctx) (h : form c = true) : form (flat c) = true := by
  unfold form at h
  obtain ⟨a1, h⟩ := of_ite h
  obtain ⟨a2, h⟩ := of_ite h
  obtain ⟨a3, h⟩ := of_ite h
  obtain ⟨a4, h⟩ := of_ite h
  obtain ⟨a5, h⟩ := of_ite h
  obtain ⟨a6, h⟩ := of_ite h
  obtain ⟨a7, h⟩ := of_ite h
  obtain ⟨a8, h⟩ := of_ite h
  obtain ⟨a9, h⟩ := of_ite h
  have b1 : ¬ (decide (20 < c.st) || decide (4 < c.el) || decide (4 < (0 : UInt8)) || decide (5 < (0 : UInt8)) || decide (6 < (0 : UInt8)) || decide (2 < c.da)) = true := by
    simp only [Bool.or_eq_true, decide_eq_true_eq, not_or] at a1 ⊢
    exact ⟨⟨⟨⟨a1.1.1.1.1, by decide⟩, by decide⟩, by decide⟩, a1.2⟩
  show (if decide (20 < c.st) || decide (4 < c.el) || decide (4 < (0 : UInt8)) || decide (5 < (0 : UInt8)) || decide (6 < (0 : UInt8)) || decide (2 < c.da) then false
    else if (c.el != 0 && !isTag c.st && !isRaw c.st) || (isRaw c.st && c.el == 0) then false
    else if c.en && ((c.st != 3 && !isTag c.st) || c.el != 0) then false
    else if (0 : UInt8) != 0 && c.st != 7 && c.st != 8 then false
    else if c.qu != 0 && (c.st != 8 || (c.qu != 34 && c.qu != 39)) then false
    else if (0 : UInt8) != 0 && (c.st != 8 || (0 : UInt8) != 1) then false
    else if c.da != 0 && c.st != 15 then false
    else if ((0 : UInt8) != 0 && !coded c.st c.el 0) || (((c.st == 8 && (0 : UInt8) == 3) || (isRaw c.st && c.el == 4)) && (0 : UInt8) == 4) then false
    else if false && (0 : UInt8) != 1 && (0 : UInt8) != 2 then false
    else if c.st == 3 || c.st == 5 || c.st == 6 then small (flat c).nm 32
    else if c.st == 8 && (0 : UInt8) == 1 && (0 : UInt8) == 1 then small (flat c).nm 16
    else if c.st == 19 then pre (flat c).nm (nameOf c.el)
    else (flat c).nm == []) = true
  have b8 : ¬ (((0 : UInt8) != 0 && !coded c.st c.el 0) || (((c.st == 8 && (0 : UInt8) == 3) || (isRaw c.st && c.el == 4)) && (0 : UInt8) == 4)) = true := by
    have e1 : ((0 : UInt8) != 0) = false := rfl
    have e2 : ((0 : UInt8) == 4) = false := rfl
    rw [e1, e2, Bool.and_false, Bool.false_and]; decide
  have b10 : ¬ (c.st == 8 && (0 : UInt8) == 1 && (0 : UInt8) == 1) = true := by
    have e1 : ((0 : UInt8) == 1) = false := rfl
    rw [e1, Bool.and_false]; decide
  rw [if_neg b1, if_neg a2, if_neg a3, if_neg (show ¬ ((0 : UInt8) != 0 && c.st != 7 && c.st != 8) = true from fun h => by cases h), if_neg a5, if_neg (show ¬ ((0 : UInt8) != 0 && (c.st != 8 || (0 : UInt8) != 1)) = true from fun h => by cases h), if_neg a7, if_neg b8, if_neg (show ¬ (false && (0 : UInt8) != 1 && (0 : UInt8) != 2) = true by decide), if_neg b10]
  cases h8 : (c.st == 8) with
  | true =>
    have hn : (flat c).nm = [] := by unfold flat; simp only; rw [if_pos h8]
    rw [hn, eq_of_beq h8]; rfl
  | false =>
    have hn : (flat c).nm = c.nm := by unfold flat; simp only; rw [h8]; rfl
    rw [hn]
    rw [h8] at h
    exact h
theorem plain_form (c : Ctx) (b : UInt8) : form (plainB c b) = true := by
  unfold plainB
  split
  · exact flat_form _ (mv_form _ _ _)
  · rfl
theorem form_nm7 (c : Ctx) (h : form c = true) : c.st = 7 → c.nm = [] := fun e => by rw [form_st7 c h e]; rfl
/-- HTML alone reads alike what is taken. -/
theorem step_flat (c : Ctx) (b : UInt8) (h : form c = true) : (stepB c b).st = 20 ∨ flat (stepB c b) = plainB (flat c) b := by
  have h1 := mv_some c b true h
  have h2 := mv_some (flat c) b false (flat_form c h)
  rcases again_flat b 4 c _ (form_nm7 c h) h1 with e | ⟨d, e1, e2⟩
  · exact .inl e
  · refine .inr ?_
    rw [h2] at e1
    unfold plainB
    rw [if_pos (flat_form c h), flat_flat]
    rw [← Option.some.inj e1] at e2
    exact e2
theorem fed_uncoded (c : Ctx) (s : List UInt8) (h : (c.el == 3 || c.el == 4) = false) : fed c s false = fed c s true := by
  have : coded 17 c.el c.at' = false := by
    show ((17 : UInt8) == 8 && (c.at' == 2 || c.at' == 3) || (decide ((17 : UInt8) ≤ 17) && decide ((17 : UInt8) ≤ 19)) && (c.el == 3 || c.el == 4)) = false
    rw [h]; rfl
  unfold fed
  rw [this]; rfl
theorem raw2_uncoded (c : Ctx) (b : UInt8) (h : (c.el == 3 || c.el == 4) = false) : raw2 c b false = raw2 c b true := by
  unfold raw2
  rw [fed_uncoded c [b] h]
theorem raw_uncoded (c : Ctx) (b : UInt8) (h : (c.el == 3 || c.el == 4) = false) : raw c b false = raw c b true := by
  have h1 := raw2_uncoded c b h
  have h2 := fed_uncoded c (47 :: c.nm) h
  have h3 : raw2 (fed c (47 :: c.nm) true) b false = raw2 (fed c (47 :: c.nm) true) b true := by
    refine raw2_uncoded _ b ?_
    have : (fed c (47 :: c.nm) true).el = c.el := by rw [← h2]; rfl
    rw [this]; exact h
  unfold raw
  rw [h1, h2, h3]
theorem raw_begun (c : Ctx) (b : UInt8) (h : (begunV c b).2 = true) : isRaw (begunV c b).1.st = false := by
  unfold begunV at *
  cases h3 : blankB b <;> cases h4 : (b == 62) <;> cases h5 : (b == 34 || b == 39) <;> rw [h3, h4, h5] at h <;> first | (cases h; done) | rfl
theorem raw_named (c : Ctx) (b : UInt8) (h : (named c b).2 = true) : isRaw (named c b).1.st = false := by
  unfold named at *
  cases h1 : (b == 61 && c.nm != []) <;> cases h2 : (b == 47 || b == 62) <;> cases h3 : blankB b <;> cases h4 : (c.st == 6) <;> cases h5 : (b == 34 || b == 39 || b == 60) <;> rw [h1, h2, h3, h4, h5] at h <;> first | (cases h; done) | rfl
theorem raw_tag (c : Ctx) (b : UInt8) (h : (tag c b).2 = true) : isRaw (tag c b).1.st = false := by
  unfold tag at *
  cases h3 : (c.st == 3) with
  | true =>
    rw [h3] at h
    cases h1 : (!blankB b && b != 47 && b != 62) <;> cases h2 : c.en <;> rw [h1, h2] at h <;> first | (cases h; done) | rfl
  | false =>
  cases h9 : (c.st == 9) with
  | true =>
    rw [h3, h9] at h
    cases h1 : blankB b <;> cases h2 : (b == 47) <;> cases h4 : (b == 62) <;> rw [h1, h2, h4] at h <;> cases h
  | false =>
  cases h10 : (c.st == 10) with
  | true =>
    rw [h3, h9, h10] at h
    cases h1 : (b == 62) <;> rw [h1] at h <;> first | (cases h; done) | rfl
  | false =>
  cases h4 : (c.st == 4) with
  | true =>
    rw [h3, h9, h10, h4] at h
    cases h1 : blankB b <;> cases h2 : (b == 47 || b == 62) <;> cases h5 : (b == 61) <;> rw [h1, h2, h5] at h <;> first | (cases h; done) | rfl
  | false =>
  cases h7 : (c.st == 7) with
  | true =>
    rw [h3, h9, h10, h4, h7] at h
    exact raw_begun c b h
  | false =>
    rw [h3, h9, h10, h4, h7] at h
    exact raw_named c b h
/-- Where no JavaScript and no CSS is, it is the same whether they are looked at. -/
theorem again_uncoded (b : UInt8) : ∀ (n : Nat) (c : Ctx), (c.st = 17 ∨ c.st = 18 ∨ c.st = 19 → (c.el == 3 || c.el == 4) = false) → again n c b false = again n c b true
  | 0, c, h => rfl
  | n + 1, c, h => by
    unfold again
    have e1 : again n { c with st := 0 } b false = again n { c with st := 0 } b true := again_uncoded b n _ (fun hh => by rcases hh with e | e | e <;> cases e)
    rw [e1]
    by_cases h0 : (c.st == 0) = true
    · rw [if_pos h0, if_pos h0]
    rw [if_neg h0, if_neg h0]
    by_cases h1 : (c.st == 1) = true
    · rw [if_pos h1, if_pos h1]
    rw [if_neg h1, if_neg h1]
    by_cases h2 : (c.st == 2) = true
    · rw [if_pos h2, if_pos h2]
    rw [if_neg h2, if_neg h2]
    by_cases hT : isT c.st = true
    · rw [if_pos hT, if_pos hT]
      by_cases ht : (tag c b).2 = true
      · rw [if_pos ht, if_pos ht]
        refine again_uncoded b n _ (fun hh => ?_)
        have := raw_tag c b ht
        rcases hh with e | e | e <;> rw [e] at this <;> cases this
      · rw [if_neg ht, if_neg ht]
    rw [if_neg hT, if_neg hT]
    by_cases h8 : (c.st == 8) = true
    · rw [if_pos h8, if_pos h8]
    rw [if_neg h8, if_neg h8]
    by_cases hr : (c.st == 17 || c.st == 18 || c.st == 19) = true
    · rw [if_pos hr, if_pos hr, raw_uncoded c b (h (by simpa [or_assoc] using hr))]
    · rw [if_neg hr, if_neg hr]
theorem mv_uncoded (c : Ctx) (b : UInt8) (h : c.st = 17 ∨ c.st = 18 ∨ c.st = 19 → (c.el == 3 || c.el == 4) = false) : mv c b false = stepB c b := by
  unfold stepB mv
  rw [again_uncoded b 4 c h]
end Sx

/-
  SxPTrail: the text that ends all that is open, in plain Lean.
-/
namespace Sx
open Go

def codeT (su : UInt8) (es script : Bool) : List UInt8 :=
  if su == 1 then (if es then [110] else []) ++ [34] else if su == 2 then (if es then [110] else []) ++ [39] else if su == 3 then (if script then [47] else [120]) else if su == 5 then [42, 47] else if su == 6 then [47] else []
def elemT (el : UInt8) : List UInt8 := if el == 0 then [] else 60 :: 47 :: (nameOf el ++ [62])
def backC (c : Ctx) : Ctx := (bytesB ⟨17, c.el, false, 0, 0, 0, c.su, c.es, 0, []⟩ (47 :: c.nm)).1
def trailR (c : Ctx) : List UInt8 :=
  if c.st != 19 then codeT c.su c.es (c.el == 3) ++ elemT c.el
  else if c.su == 0 || c.su == 4 then (nameOf c.el).drop c.nm.length ++ [62] else codeT (backC c).su (backC c).es (c.el == 3) ++ elemT c.el
def quoteT (qu : UInt8) : List UInt8 := if qu != 0 then [qu] else []
/-- What ends all that is open. -/
def trail (c : Ctx) : List UInt8 :=
  if c.st == 1 then [32] else if c.st == 3 then (if c.en then [62] else 62 :: elemT (elOf c.nm)) else if c.st == 2 || c.st == 11 || c.st == 12 || c.st == 16 then [62]
  else if c.st == 13 || c.st == 14 || c.st == 15 then [45, 45, 62] else if c.st == 4 || c.st == 5 || c.st == 6 || c.st == 9 || c.st == 10 then 62 :: elemT c.el
  else if c.st == 7 then 34 :: 34 :: 62 :: elemT c.el else if c.st == 8 then codeT c.su c.es (c.at' == 2) ++ (quoteT c.qu ++ 62 :: elemT c.el) else if c.st == 17 || c.st == 18 || c.st == 19 then trailR c else []
/-- What markup leads to: no string of its own quote; where a tag's end may begin in an element's text, nothing half read. -/
def okV (c : Ctx) : Bool :=
  if c.st == 8 then (if c.qu == 34 then c.su != 1 else if c.qu == 39 then c.su != 2 else c.su != 1 && c.su != 2)
  else if c.st == 18 || c.st == 19 then (c.su == 0 || c.su == 1 || c.su == 2 || c.su == 4 || c.su == 5) && !c.es else true
/-- What ends all, ends all. -/
def endsAll (c : Ctx) : Bool := cxeq (runL stepB c (trail c) 0).1 (st1 0) && (runL stepB c (trail c) 0).2 == -1 && decide ((trail c).length ≤ 40)
def chk (c : Ctx) : Bool := !(form c && okV c) || endsAll c
def els : List UInt8 := [0, 1, 2, 3, 4]
def sus : List UInt8 := [0, 1, 2, 3, 4, 5, 6]
theorem chk8 : ([2, 3] : List UInt8).all (fun a => ([0, 34, 39] : List UInt8).all fun q => els.all fun el => sus.all fun su => [false, true].all fun es => [false, true].all fun en => chk ⟨8, el, en, a, q, 0, su, es, 0, []⟩) = true := by kernel_rfl
theorem chkR : els.all (fun el => sus.all fun su => [false, true].all fun es => chk ⟨17, el, false, 0, 0, 0, su, es, 0, []⟩ && chk ⟨18, el, false, 0, 0, 0, su, es, 0, []⟩) = true := by kernel_rfl
theorem chkE : els.all (fun el => sus.all fun su => [false, true].all fun es => (List.range 9).all fun k => chk ⟨19, el, false, 0, 0, 0, su, es, 0, (nameOf el).take k⟩) = true := by kernel_rfl
theorem chkB : els.all (fun el => sus.all fun su => [false, true].all fun es => (List.range 9).all fun k => su == 0 || su == 4 || !form ⟨19, el, false, 0, 0, 0, su, es, 0, (nameOf el).take k⟩ || ((backC ⟨19, el, false, 0, 0, 0, su, es, 0, (nameOf el).take k⟩).el == el && (backC ⟨19, el, false, 0, 0, 0, su, es, 0, (nameOf el).take k⟩).st != 8 && (!(backC ⟨19, el, false, 0, 0, 0, su, es, 0, (nameOf el).take k⟩).es || (backC ⟨19, el, false, 0, 0, 0, su, es, 0, (nameOf el).take k⟩).su == 1 || (backC ⟨19, el, false, 0, 0, 0, su, es, 0, (nameOf el).take k⟩).su == 2))) = true := by kernel_rfl
theorem mem_sus {su : UInt8} (h : okSu su) : su ∈ sus := by
  rcases h with e | e | e | e | e | e | e <;> subst e <;> simp [sus]
theorem mem_b (b : Bool) : b ∈ [false, true] := by cases b <;> simp
theorem mem_els {el : UInt8} (h : el = 0 ∨ el = 1 ∨ el = 2 ∨ el = 3 ∨ el = 4) : el ∈ els := by
  rcases h with e | e | e | e | e <;> subst e <;> simp [els]
theorem of_all {α : Type} {l : List α} {p : α → Bool} (h : l.all p = true) {x : α} (hx : x ∈ l) : p x = true := List.all_eq_true.1 h x hx
theorem el5 {c : Ctx} (h : form c = true) : c.el = 0 ∨ c.el = 1 ∨ c.el = 2 ∨ c.el = 3 ∨ c.el = 4 := by
  rcases okE_cases (okE_of c h) with ⟨_, e⟩ | ⟨_, e⟩
  · exact .inl e
  · exact e
theorem nameOf_len (el : UInt8) : (nameOf el).length ≤ 8 := by
  unfold nameOf
  repeat' split
  all_goals decide
theorem pre_take {p l : List UInt8} (h : pre p l = true) : p = l.take p.length ∧ p.length ≤ l.length := by
  unfold pre at h
  rw [Bool.and_eq_true] at h
  exact ⟨(eq_of_beq h.2).symm, of_decide_eq_true h.1⟩
theorem stepB_eq {c d : Ctx} {b : UInt8} (h : form c = true) (e : again 4 c b true = some d) : stepB c b = d := Option.some.inj ((mv_some c b true h).symm.trans e)
theorem run_cons {f : Ctx → UInt8 → Ctx} {c d : Ctx} {b : UInt8} {r : List UInt8} {i : Int} (h : f c b = d) (hd : (d.st == 20) = false) : runL f c (b :: r) i = runL f d r (i + 1) := by
  show (if (f c b).st == 20 then _ else runL f (f c b) r (i + 1)) = _
  rw [h, hd]; rfl
theorem run_i {f : Ctx → UInt8 → Ctx} {c d : Ctx} {l : List UInt8} (i : Int) (h : runL f c l 0 = (d, -1)) : runL f c l i = (d, -1) := by
  obtain ⟨a1, a2, _⟩ := runL_shift f l c i
  rw [h] at a1 a2
  exact Prod.ext a1 (a2 rfl)
theorem elem_run {el : UInt8} (h : el = 0 ∨ el = 1 ∨ el = 2 ∨ el = 3 ∨ el = 4) (i : Int) : runL stepB (tagEnd el) (elemT el) i = (st1 0, -1) := by
  refine run_i i ?_
  rcases h with e | e | e | e | e <;> subst e <;> kernel_rfl
theorem tagEnd_st {el : UInt8} (h : el = 0 ∨ el = 1 ∨ el = 2 ∨ el = 3 ∨ el = 4) : ((tagEnd el).st == 20) = false := by
  rcases h with e | e | e | e | e <;> subst e <;> rfl
theorem elemT_len (el : UInt8) : (elemT el).length ≤ 11 := by
  unfold elemT
  split
  · simp
  · have := nameOf_len el
    simp; omega
theorem endsAll_of {c : Ctx} (h : runL stepB c (trail c) 0 = (st1 0, -1)) (hl : (trail c).length ≤ 40) : endsAll c = true := by
  unfold endsAll
  rw [h, decide_eq_true hl]; rfl
theorem of_endsAll {c : Ctx} (h : endsAll c = true) : runL stepB c (trail c) 0 = (st1 0, -1) ∧ (trail c).length ≤ 40 := by
  unfold endsAll at h
  simp only [Bool.and_eq_true, decide_eq_true_eq] at h
  exact ⟨Prod.ext (of_cxeq h.1.1) (eq_of_beq h.1.2), h.2⟩
theorem of_chk {c : Ctx} (h : chk c = true) (hf : form c = true) (hv : okV c = true) : endsAll c = true := by
  unfold chk at h
  rw [hf, hv] at h
  simpa using h
theorem elOf_cases (nm : List UInt8) : elOf nm = 0 ∨ elOf nm = 1 ∨ elOf nm = 2 ∨ elOf nm = 3 ∨ elOf nm = 4 := by
  unfold elOf
  repeat' split
  all_goals simp
theorem cls (c : Ctx) (h : form c = true) : c.st = 0 ∨ c.st = 1 ∨ c.st = 2 ∨ c.st = 3 ∨ c.st = 4 ∨ c.st = 5 ∨ c.st = 6 ∨ c.st = 7 ∨ c.st = 8 ∨ c.st = 9 ∨ c.st = 10 ∨ c.st = 11 ∨ c.st = 12 ∨ c.st = 13 ∨ c.st = 14 ∨ c.st = 15 ∨ c.st = 16 ∨ c.st = 17 ∨ c.st = 18 ∨ c.st = 19 ∨ c.st = 20 := by
  have h1 : ¬ (20 < c.st) := by
    unfold form at h
    obtain ⟨a, _⟩ := of_ite h
    simp only [Bool.or_eq_true, decide_eq_true_eq, not_or] at a
    exact a.1.1.1.1.1
  rw [UInt8.lt_iff_toNat_lt] at h1
  have h2 : (20 : UInt8).toNat = 20 := rfl
  have h3 : c.st = UInt8.ofNat c.st.toNat := by simp
  have h4 : c.st.toNat ≤ 20 := by omega
  generalize c.st.toNat = n at h3 h4
  rw [h3]
  have : n = 0 ∨ n = 1 ∨ n = 2 ∨ n = 3 ∨ n = 4 ∨ n = 5 ∨ n = 6 ∨ n = 7 ∨ n = 8 ∨ n = 9 ∨ n = 10 ∨ n = 11 ∨ n = 12 ∨ n = 13 ∨ n = 14 ∨ n = 15 ∨ n = 16 ∨ n = 17 ∨ n = 18 ∨ n = 19 ∨ n = 20 := by omega
  rcases this with e | e | e | e | e | e | e | e | e | e | e | e | e | e | e | e | e | e | e | e | e <;> rw [e] <;> decide
/-- A value of no code ends. -/
theorem val_ends (c : Ctx) (h : form c = true) (hc : (c.qu = 0 ∨ c.qu = 34 ∨ c.qu = 39) ∧ c.st = 8 ∧ c.su = 0 ∧ c.es = false) : endsAll c = true := by
  have he := el5 h
  have hel := elemT_len c.el
  obtain ⟨st, el, en, at', qu, pa, su, es, da, nm⟩ := c
  simp only at hc hel he
  obtain ⟨hq, rfl, rfl, rfl⟩ := hc
  rcases hq with rfl | rfl | rfl
  · refine endsAll_of ?_ (by show (elemT el).length + 1 ≤ 40; omega)
    show runL stepB _ (62 :: elemT el) 0 = _
    rw [run_cons (d := tagEnd el) (stepB_eq h rfl) (tagEnd_st he)]
    exact elem_run he _
  · refine endsAll_of ?_ (by show (elemT el).length + 1 + 1 ≤ 40; omega)
    show runL stepB _ (34 :: 62 :: elemT el) 0 = _
    have h2 : stepB ⟨8, el, en, at', 34, pa, 0, false, da, nm⟩ 34 = ⟨9, el, en, 0, 0, 0, 0, false, 0, []⟩ := stepB_eq h rfl
    have f2 := step_form ⟨8, el, en, at', 34, pa, 0, false, da, nm⟩ 34
    rw [h2] at f2
    have h3 : stepB ⟨9, el, en, 0, 0, 0, 0, false, 0, []⟩ 62 = tagEnd el := stepB_eq f2 rfl
    rw [run_cons h2 rfl, run_cons h3 (tagEnd_st he)]
    exact elem_run he _
  · refine endsAll_of ?_ (by show (elemT el).length + 1 + 1 ≤ 40; omega)
    show runL stepB _ (39 :: 62 :: elemT el) 0 = _
    have h2 : stepB ⟨8, el, en, at', 39, pa, 0, false, da, nm⟩ 39 = ⟨9, el, en, 0, 0, 0, 0, false, 0, []⟩ := stepB_eq h rfl
    have f2 := step_form ⟨8, el, en, at', 39, pa, 0, false, da, nm⟩ 39
    rw [h2] at f2
    have h3 : stepB ⟨9, el, en, 0, 0, 0, 0, false, 0, []⟩ 62 = tagEnd el := stepB_eq f2 rfl
    rw [run_cons h2 rfl, run_cons h3 (tagEnd_st he)]
    exact elem_run he _
/-- Behind what markup leads to, its trailer leads to text. -/
theorem trail_ends (c : Ctx) (h : form c = true) (hv : okV c = true) (h20 : c.st ≠ 20) : endsAll c = true := by
  have he := el5 h
  have hel := elemT_len c.el
  rcases cls c h with e | e | e | e | e | e | e | e | e | e | e | e | e | e | e | e | e | e | e | e | e
  · rw [form_pl c h (by simp [e]), e]; rfl
  · rw [form_pl c h (by simp [e]), e]; show endsAll (st1 1) = true; kernel_rfl
  · rw [form_pl c h (by simp [e]), e]; show endsAll (st1 2) = true; kernel_rfl
  · obtain ⟨hc, hn⟩ := form_st3 c h e
    obtain ⟨st, el, en, at', qu, pa, su, es, da, nm⟩ := c
    simp only [Ctx.mk.injEq] at hc hn
    obtain ⟨rfl, rfl, -, rfl, rfl, rfl, rfl, rfl, rfl, -⟩ := hc
    cases en with
    | true =>
      refine endsAll_of ?_ (by show 1 ≤ 40; omega)
      show runL stepB _ [62] 0 = _
      rw [run_cons (d := st1 0) (stepB_eq h rfl) rfl]; rfl
    | false =>
      have hE := elOf_cases nm
      refine endsAll_of ?_ (by have := elemT_len (elOf nm); show (elemT (elOf nm)).length + 1 ≤ 40; omega)
      show runL stepB _ (62 :: elemT (elOf nm)) 0 = _
      rw [run_cons (d := tagEnd (elOf nm)) (stepB_eq h rfl) (tagEnd_st hE)]
      exact elem_run hE _
  · have hc := form_st4 c h (by simp [e])
    obtain ⟨st, el, en, at', qu, pa, su, es, da, nm⟩ := c
    simp only at e; subst e
    rw [hc] at h ⊢
    refine endsAll_of ?_ (by show (elemT el).length + 1 ≤ 40; simp only at hel; omega)
    show runL stepB _ (62 :: elemT el) 0 = _
    rw [run_cons (d := tagEnd el) (stepB_eq h rfl) (tagEnd_st he)]
    exact elem_run he _
  · obtain ⟨hc, hn⟩ := form_st5 c h (by simp [e])
    obtain ⟨st, el, en, at', qu, pa, su, es, da, nm⟩ := c
    simp only at e; subst e
    rw [hc] at h ⊢
    refine endsAll_of ?_ (by show (elemT el).length + 1 ≤ 40; simp only at hel; omega)
    show runL stepB _ (62 :: elemT el) 0 = _
    rw [run_cons (d := tagEnd el) (stepB_eq h rfl) (tagEnd_st he)]
    exact elem_run he _
  · obtain ⟨hc, hn⟩ := form_st5 c h (by simp [e])
    obtain ⟨st, el, en, at', qu, pa, su, es, da, nm⟩ := c
    simp only at e; subst e
    rw [hc] at h ⊢
    refine endsAll_of ?_ (by show (elemT el).length + 1 ≤ 40; simp only at hel; omega)
    show runL stepB _ (62 :: elemT el) 0 = _
    rw [run_cons (d := tagEnd el) (stepB_eq h rfl) (tagEnd_st he)]
    exact elem_run he _
  · have hc := form_st7 c h e
    have hA := at_of c h
    obtain ⟨st, el, en, at', qu, pa, su, es, da, nm⟩ := c
    simp only at e; subst e
    rw [hc] at h ⊢
    refine endsAll_of ?_ (by show (elemT el).length + 1 + 1 + 1 ≤ 40; simp only at hel; omega)
    show runL stepB ⟨7, el, en, at', 0, 0, 0, false, 0, []⟩ (34 :: 34 :: 62 :: elemT el) 0 = _
    have h1 : stepB ⟨7, el, en, at', 0, 0, 0, false, 0, []⟩ 34 = ⟨8, el, en, at', 34, 0, 0, false, 0, []⟩ := stepB_eq h rfl
    have f1 := step_form ⟨7, el, en, at', 0, 0, 0, false, 0, []⟩ 34
    rw [h1] at f1
    have h2 : stepB ⟨8, el, en, at', 34, 0, 0, false, 0, []⟩ 34 = ⟨9, el, en, 0, 0, 0, 0, false, 0, []⟩ := stepB_eq f1 rfl
    have f2 := step_form ⟨8, el, en, at', 34, 0, 0, false, 0, []⟩ 34
    rw [h2] at f2
    have h3 : stepB ⟨9, el, en, 0, 0, 0, 0, false, 0, []⟩ 62 = tagEnd el := stepB_eq f2 rfl
    rw [run_cons (d := ⟨8, el, en, at', 34, 0, 0, false, 0, []⟩) h1 rfl, run_cons h2 rfl, run_cons h3 (tagEnd_st he)]
    exact elem_run he _
  · obtain ⟨hq, hc⟩ := form_val c h e
    rcases hc with ⟨ha, hc, hn⟩ | ⟨ha, hc, hs⟩ | ⟨ha, hc⟩
    · exact val_ends c h ⟨hq, by rw [hc], by rw [hc], by rw [hc]⟩
    · rw [hc] at h hv ⊢
      refine of_chk ?_ h hv
      refine of_all (of_all (of_all (of_all (of_all (of_all chk8 (x := c.at') ?_) (x := c.qu) ?_) (mem_els he)) (mem_sus (su_of c (by rw [hc]; exact h)))) (mem_b c.es)) (mem_b c.en)
      · rcases ha with x | x <;> rw [x] <;> simp
      · rcases hq with x | x | x <;> rw [x] <;> simp
    · exact val_ends c h ⟨hq, by rw [hc], by rw [hc], by rw [hc]⟩
  · have hc := form_st4 c h (by simp [e])
    obtain ⟨st, el, en, at', qu, pa, su, es, da, nm⟩ := c
    simp only at e; subst e
    rw [hc] at h ⊢
    refine endsAll_of ?_ (by show (elemT el).length + 1 ≤ 40; simp only at hel; omega)
    show runL stepB _ (62 :: elemT el) 0 = _
    rw [run_cons (d := tagEnd el) (stepB_eq h rfl) (tagEnd_st he)]
    exact elem_run he _
  · have hc := form_st4 c h (by simp [e])
    obtain ⟨st, el, en, at', qu, pa, su, es, da, nm⟩ := c
    simp only at e; subst e
    rw [hc] at h ⊢
    refine endsAll_of ?_ (by show (elemT el).length + 1 ≤ 40; simp only at hel; omega)
    show runL stepB _ (62 :: elemT el) 0 = _
    rw [run_cons (d := tagEnd el) (stepB_eq h rfl) (tagEnd_st he)]
    exact elem_run he _
  · rw [form_pl c h (by simp [e]), e]; show endsAll (st1 11) = true; kernel_rfl
  · rw [form_pl c h (by simp [e]), e]; show endsAll (st1 12) = true; kernel_rfl
  · rw [form_pl c h (by simp [e]), e]; show endsAll (st1 13) = true; kernel_rfl
  · rw [form_pl c h (by simp [e]), e]; show endsAll (st1 14) = true; kernel_rfl
  · obtain ⟨hc, hd⟩ := form_st15 c h e
    have hda : c.da = 0 ∨ c.da = 1 ∨ c.da = 2 := by
      rw [UInt8.le_iff_toNat_le] at hd
      have h2 : (2 : UInt8).toNat = 2 := rfl
      have : c.da.toNat = 0 ∨ c.da.toNat = 1 ∨ c.da.toNat = 2 := by omega
      rcases this with x | x | x
      · exact .inl (UInt8.toNat_inj.1 x)
      · exact .inr (.inl (UInt8.toNat_inj.1 x))
      · exact .inr (.inr (UInt8.toNat_inj.1 x))
    rw [hc]
    rcases hda with x | x | x <;> rw [x]
    · show endsAll ⟨15, 0, false, 0, 0, 0, 0, false, 0, []⟩ = true; kernel_rfl
    · show endsAll ⟨15, 0, false, 0, 0, 0, 0, false, 1, []⟩ = true; kernel_rfl
    · show endsAll ⟨15, 0, false, 0, 0, 0, 0, false, 2, []⟩ = true; kernel_rfl
  · rw [form_pl c h (by simp [e]), e]; show endsAll (st1 16) = true; kernel_rfl
  · obtain ⟨su, es, hc, hl, hp, hu, hs, h12⟩ := form_raw c h (by simp [e])
    have hc : c = ⟨17, c.el, false, 0, 0, 0, su, es, 0, []⟩ := by rw [e] at hc; exact hc
    rw [hc] at h hv ⊢
    refine of_chk ?_ h hv
    have := of_all (of_all (of_all chkR (mem_els he)) (mem_sus hu)) (mem_b es)
    rw [Bool.and_eq_true] at this
    exact this.1
  · obtain ⟨su, es, hc, hl, hp, hu, hs, h12⟩ := form_raw c h (by simp [e])
    have hc : c = ⟨18, c.el, false, 0, 0, 0, su, es, 0, []⟩ := by rw [e] at hc; exact hc
    rw [hc] at h hv ⊢
    refine of_chk ?_ h hv
    have := of_all (of_all (of_all chkR (mem_els he)) (mem_sus hu)) (mem_b es)
    rw [Bool.and_eq_true] at this
    exact this.2
  · obtain ⟨su, es, hc, hl, hp, hu, hs, h12⟩ := form_raw c h (by simp [e])
    obtain ⟨p1, p2⟩ := pre_take hp
    have hc : c = ⟨19, c.el, false, 0, 0, 0, su, es, 0, (nameOf c.el).take c.nm.length⟩ := by rw [e] at hc; rw [← p1]; exact hc
    have hk : c.nm.length ∈ List.range 9 := by have := nameOf_len c.el; simp; omega
    have hx := of_all (of_all (of_all (of_all chkE (mem_els he)) (mem_sus hu)) (mem_b es)) hk
    rw [← hc] at hx
    exact of_chk hx h hv
  · exact absurd e h20
end Sx

/-
  SxPTrail2: what markup leads to has a trailer that ends all; HTML alone, too.
-/
namespace Sx
open Go

theorem okV_su (c : Ctx) (h : c.su = 0) (he : c.st = 18 ∨ c.st = 19 → c.es = false) : okV c = true := by
  unfold okV
  rw [h]
  split
  · split
    · rfl
    · split <;> rfl
  · split
    · rename_i h1
      rw [he (by simpa using h1)]; rfl
    · rfl
theorem okV_st (c : Ctx) (h8 : c.st ≠ 8) (h18 : c.st ≠ 18) (h19 : c.st ≠ 19) : okV c = true := by
  unfold okV
  simp [h8, h18, h19]
theorem tagEnd_okV (el : UInt8) : okV (tagEnd el) = true := by
  unfold tagEnd
  split <;> rfl
theorem begun_okV (c : Ctx) (b : UInt8) (h : c.st = 7) (hs : c.su = 0) : okV (begunV c b).1 = true := by
  unfold begunV
  split
  · exact okV_su _ hs (fun h' => by rw [h] at h'; rcases h' with e | e <;> cases e)
  · split
    · rfl
    · split
      · exact okV_su _ hs (fun h' => by rcases h' with e | e <;> cases e)
      · exact okV_su _ hs (fun h' => by rcases h' with e | e <;> cases e)
theorem begun_su (c : Ctx) (b : UInt8) (hs : c.su = 0) : (begunV c b).1.su = 0 := by
  unfold begunV
  repeat' split
  all_goals first | exact hs | rfl
theorem grown_su (c : Ctx) (b : UInt8) (hs : c.su = 0) : (grown c b).su = 0 := by
  unfold grown
  split
  · rfl
  · exact hs
theorem named_su (c : Ctx) (b : UInt8) (hs : c.su = 0) : (named c b).1.su = 0 := by
  unfold named
  repeat' split
  all_goals first | exact hs | rfl | exact grown_su c b hs
theorem tag_su (c : Ctx) (b : UInt8) (hs : c.su = 0) : (tag c b).1.su = 0 := by
  unfold tag
  repeat' split
  all_goals first | exact hs | rfl | exact grown_su c b hs | exact begun_su c b hs | exact named_su c b hs | (unfold tagEnd; split <;> rfl)
theorem grown_st (c : Ctx) (b : UInt8) : (grown c b).st = 20 ∨ (grown c b).st = c.st := by
  unfold grown
  split
  · exact .inl rfl
  · exact .inr rfl
theorem tag_st (c : Ctx) (b : UInt8) (h : isT c.st = true) : (tag c b).1.st ≠ 18 ∧ (tag c b).1.st ≠ 19 := by
  have hc : c.st ≠ 18 ∧ c.st ≠ 19 := by
    constructor <;> (intro e; rw [e] at h; cases h)
  have hg := grown_st c b
  have key : (grown c b).st ≠ 18 ∧ (grown c b).st ≠ 19 := by
    rcases hg with e | e <;> rw [e]
    · decide
    · exact hc
  have k4 (s : UInt8) (d : Ctx) (hs : s ≠ 18 ∧ s ≠ 19) (e : d.st = s) : d.st ≠ 18 ∧ d.st ≠ 19 := by rw [e]; exact hs
  unfold tag begunV named tagEnd
  repeat' split
  all_goals first | exact hc | exact key | exact k4 9 _ (by decide) rfl | exact k4 4 _ (by decide) rfl | exact k4 10 _ (by decide) rfl | exact k4 17 _ (by decide) rfl | exact k4 5 _ (by decide) rfl | exact k4 8 _ (by decide) rfl | exact k4 7 _ (by decide) rfl | exact k4 6 _ (by decide) rfl | exact k4 0 _ (by decide) rfl | exact k4 20 _ (by decide) rfl
theorem tag_okV (c : Ctx) (b : UInt8) (h : isT c.st = true) (hs : c.su = 0) : okV (tag c b).1 = true := by
  obtain ⟨h1, h2⟩ := tag_st c b h
  exact okV_su _ (tag_su c b hs) (fun h' => by rcases h' with e | e; exact absurd e h1; exact absurd e h2)
/-- A string begins by its quote. -/
theorem code_str (c : Ctx) (b : UInt8) (s : Bool) : ((code c b s).su = 1 → c.su = 1 ∨ b = 34) ∧ ((code c b s).su = 2 → c.su = 2 ∨ b = 39) := by
  have q0 (x : UInt8) (d : Ctx) (e : d.su = x) (h1 : x ≠ 1) (h2 : x ≠ 2) : (d.su = 1 → c.su = 1 ∨ b = 34) ∧ (d.su = 2 → c.su = 2 ∨ b = 39) := by
    rw [e]; exact ⟨fun h => absurd h h1, fun h => absurd h h2⟩
  have q1 (d : Ctx) (e : d.su = 1) (h : (b == 34) = true) : (d.su = 1 → c.su = 1 ∨ b = 34) ∧ (d.su = 2 → c.su = 2 ∨ b = 39) := by
    rw [e]; exact ⟨fun _ => .inr (eq_of_beq h), fun h => absurd h (by decide)⟩
  have q2 (d : Ctx) (e : d.su = 2) (h : (b == 39) = true) : (d.su = 1 → c.su = 1 ∨ b = 34) ∧ (d.su = 2 → c.su = 2 ∨ b = 39) := by
    rw [e]; exact ⟨fun h => absurd h (by decide), fun _ => .inr (eq_of_beq h)⟩
  have k0 (d : Ctx) (hd : d.su = 0 ∨ d = c) : ((code0 d b s).su = 1 → c.su = 1 ∨ b = 34) ∧ ((code0 d b s).su = 2 → c.su = 2 ∨ b = 39) := by
    have kd : (d.su = 1 → c.su = 1 ∨ b = 34) ∧ (d.su = 2 → c.su = 2 ∨ b = 39) := by
      rcases hd with e | e
      · exact q0 0 d e (by decide) (by decide)
      · rw [e]; exact ⟨.inl, .inl⟩
    unfold code0
    repeat' split
    all_goals first
      | exact kd
      | exact q0 0 _ rfl (by decide) (by decide)
      | exact q0 3 _ rfl (by decide) (by decide)
      | (rename_i h; exact q1 _ rfl h)
      | (rename_i h; exact q2 _ rfl h)
  have kt : ((text c b).su = 1 → c.su = 1 ∨ b = 34) ∧ ((text c b).su = 2 → c.su = 2 ∨ b = 39) := by
    unfold text
    repeat' split
    all_goals first
      | exact ⟨.inl, .inl⟩
      | exact q0 0 _ rfl (by decide) (by decide)
  unfold code
  repeat' split
  all_goals first
    | exact ⟨.inl, .inl⟩
    | exact k0 c (.inr rfl)
    | exact k0 _ (.inl rfl)
    | exact kt
    | exact q0 0 _ rfl (by decide) (by decide)
    | exact q0 4 _ rfl (by decide) (by decide)
    | exact q0 5 _ rfl (by decide) (by decide)
    | exact q0 6 _ rfl (by decide) (by decide)
theorem okV8 (c : Ctx) (h : c.st = 8) : okV c = (if c.qu == 34 then c.su != 1 else if c.qu == 39 then c.su != 2 else c.su != 1 && c.su != 2) := by
  unfold okV
  rw [h]; rfl
theorem value_okV (c : Ctx) (b : UInt8) (h : form c = true) (hv : okV c = true) (e : c.st = 8) : okV (value c b) = true := by
  obtain ⟨hq, hc⟩ := form_val c h e
  unfold value
  split
  · split
    · rfl
    · split
      · rfl
      · split
        · exact tagEnd_okV _
        · rfl
  · rename_i hne
    split
    · rfl
    · rename_i hnq
      split
      · rename_i ha
        have hs : c.su = 0 := by
          rcases hc with ⟨_, hc, _⟩ | ⟨h23, _⟩ | ⟨h04, _⟩
          · rw [hc]
          · rw [beq_iff_eq] at ha; rcases h23 with x | x <;> rw [x] at ha <;> exact absurd ha (by decide)
          · rw [beq_iff_eq] at ha; rcases h04 with x | x <;> rw [x] at ha <;> exact absurd ha (by decide)
        have : (url c b).su = 0 ∧ ((url c b).st = 8 ∨ (url c b).st = 20) := by
          unfold url
          repeat' split
          all_goals first | exact ⟨rfl, .inr rfl⟩ | exact ⟨hs, .inl e⟩
        refine okV_su _ this.1 (fun h' => ?_)
        rcases this.2 with x | x <;> rw [x] at h' <;> rcases h' with y | y <;> cases y
      · split
        · split
          · rfl
          · generalize (c.at' == 2) = s
            obtain ⟨k1, k2⟩ := code_str c b s
            have kf := code_flat c b s
            rcases kf with x | x
            · rw [x]; rfl
            · have hst : (code c b s).st = 8 := by have := congrArg Ctx.st x; exact this.trans e
              have hqu : (code c b s).qu = c.qu := by have := congrArg Ctx.qu x; exact this
              rw [okV8 _ hst, hqu]
              rw [okV8 _ e] at hv
              have hne' : (!(c.qu == 0) && b == c.qu || c.qu == 0 && (blankB b || b == 62)) = false := by simpa using hne
              have hnq' : (c.qu == 0 && quoteB b) = false := by simpa using hnq
              rcases hq with y | y | y <;> rw [y] at hv hne' hnq' ⊢
              · have hq1 : quoteB b = false := hnq'
                have n34 : b ≠ 34 := fun z => by rw [z] at hq1; cases hq1
                have n39 : b ≠ 39 := fun z => by rw [z] at hq1; cases hq1
                have hv : (c.su != 1 && c.su != 2) = true := hv
                show ((code c b s).su != 1 && (code c b s).su != 2) = true
                simp only [Bool.and_eq_true, bne_iff_ne] at hv ⊢
                exact ⟨fun z => (k1 z).elim hv.1 n34, fun z => (k2 z).elim hv.2 n39⟩
              · have n34 : b ≠ 34 := fun z => by rw [z] at hne'; cases hne'
                have hv : (c.su != 1) = true := hv
                show ((code c b s).su != 1) = true
                simp only [bne_iff_ne] at hv ⊢
                exact fun z => (k1 z).elim hv n34
              · have n39 : b ≠ 39 := fun z => by rw [z] at hne'; cases hne'
                have hv : (c.su != 2) = true := hv
                show ((code c b s).su != 2) = true
                simp only [bne_iff_ne] at hv ⊢
                exact fun z => (k2 z).elim hv n39
        · exact hv
/-- Behind a < in code. -/
theorem code60 (c : Ctx) (s : Bool) (hu : okSu c.su) (hs : subOk c.su c.es s = true) : code c 60 s = badC ∨ (((code c 60 s).su == 0 || (code c 60 s).su == 1 || (code c 60 s).su == 2 || (code c 60 s).su == 4 || (code c 60 s).su == 5) && !(code c 60 s).es) = true := by
  obtain ⟨st, el, en, at', qu, pa, su, es, da, nm⟩ := c
  simp only at hu hs
  rcases hu with e | e | e | e | e | e | e <;> subst e <;> cases es <;> cases s <;> first | (cases hs; done) | exact .inr rfl | exact .inl rfl
theorem raw2_okV {s : UInt8} {d : Ctx} {nm : List UInt8} (h : RW s d nm ∨ d = badC) (b : UInt8) : okV (raw2 d b true) = true := by
  rcases h with h | h
  · have hf := fed_rw h [b] true
    unfold raw2
    split
    · rfl
    · rcases hf with x | x
      · rw [x]; rfl
      · have h17 : (fed d [b] true).st = 17 := by obtain ⟨el, su, es, x, _⟩ := x; rw [x]
        split
        · rename_i hb
          rw [Bool.and_eq_true] at hb
          have hb := eq_of_beq hb.2
          subst hb
          show (if (18 : UInt8) == 8 then _ else if (18 : UInt8) == 18 || (18 : UInt8) == 19 then ((fed d [60] true).su == 0 || (fed d [60] true).su == 1 || (fed d [60] true).su == 2 || (fed d [60] true).su == 4 || (fed d [60] true).su == 5) && !(fed d [60] true).es else true) = true
          obtain ⟨el, su, es, rfl, hel, hu, hk, h12⟩ := h
          rw [if_neg (by decide), if_pos (by decide)]
          by_cases hc : (el == 3 || el == 4) = true
          · have hfd : fed ⟨s, el, false, 0, 0, 0, su, es, 0, nm⟩ [60] true = if (code ⟨17, el, false, 0, 0, 0, su, es, 0, []⟩ 60 (el == 3)).st == 20 then badC else code ⟨17, el, false, 0, 0, 0, su, es, 0, []⟩ 60 (el == 3) := by
              have : coded 17 el 0 = true := by
                show ((17 : UInt8) == 8 && ((0 : UInt8) == 2 || (0 : UInt8) == 3) || (decide ((17 : UInt8) ≤ 17) && decide ((17 : UInt8) ≤ 19)) && (el == 3 || el == 4)) = true
                rw [hc]; rfl
              unfold fed
              simp only [this]
              rfl
            rw [hfd]
            rcases code60 ⟨17, el, false, 0, 0, 0, su, es, 0, []⟩ (el == 3) hu hk with y | y
            · rw [y]; rfl
            · split
              · rfl
              · exact y
          · have h0 : su = 0 ∧ es = false := by
              refine h12 ?_
              simp only [Bool.or_eq_true, beq_iff_eq, not_or] at hc
              rcases hel with y | y | y | y
              · exact .inl y
              · exact .inr y
              · exact absurd y hc.1
              · exact absurd y hc.2
            obtain ⟨rfl, rfl⟩ := h0
            have hfd := fed_uncoded ⟨s, el, false, 0, 0, 0, 0, false, 0, nm⟩ [60] (by simpa using hc)
            rw [← hfd]; rfl
        · exact okV_st _ (by rw [h17]; decide) (by rw [h17]; decide) (by rw [h17]; decide)
  · rw [h]; rfl
theorem rw_of {c : Ctx} (h : form c = true) (e : c.st = 17 ∨ c.st = 18 ∨ c.st = 19) : RW c.st c (if (c.st == 19) = true then c.nm else []) := by
  obtain ⟨su, es, hc, hel, hp, hu, hs, h12⟩ := form_raw c h e
  exact ⟨c.el, su, es, hc, hel, hu, hs, h12⟩
theorem raw_okV (c : Ctx) (b : UInt8) (h : form c = true) (hv : okV c = true) (e : c.st = 17 ∨ c.st = 18 ∨ c.st = 19) : okV (raw c b true) = true := by
  have hr := rw_of h e
  have hv' : c.st = 18 ∨ c.st = 19 → ((c.su == 0 || c.su == 1 || c.su == 2 || c.su == 4 || c.su == 5) && !c.es) = true := by
    intro hh
    unfold okV at hv
    rcases hh with x | x <;> rw [x] at hv <;> exact hv
  unfold raw
  split
  · rename_i h1
    rw [Bool.and_eq_true, beq_iff_eq] at h1
    exact hv' (.inl h1.1)
  · split
    · rfl
    · split
      · split
        · rfl
        · exact tag_okV _ b rfl rfl
      · split
        · rename_i h1
          rw [Bool.and_eq_true, beq_iff_eq] at h1
          have := hv' (.inr h1.1)
          unfold okV
          rw [h1.1]
          exact this
        · split
          · rcases fed_rw hr (47 :: c.nm) true with x | x
            · exact raw2_okV (s := 17) (nm := []) (.inr x) b
            · exact raw2_okV (.inl x) b
          · exact raw2_okV (.inl hr) b
theorem note_okV (c : Ctx) (b : UInt8) (h : c.st ≠ 8 ∧ c.st ≠ 18 ∧ c.st ≠ 19) : okV (note c b) = true := by
  unfold note
  repeat' split
  all_goals first | rfl | exact okV_st c h.1 h.2.1 h.2.2
theorem opened_okV (b : UInt8) : okV (opened b).1 = true := by
  unfold opened
  repeat' split
  all_goals rfl
theorem closed_okV (b : UInt8) : okV (closed b) = true := by
  unfold closed
  repeat' split
  all_goals rfl
theorem isT_su (c : Ctx) (h : form c = true) (hT : isT c.st = true) : c.su = 0 := by
  unfold isT at hT
  simp only [Bool.or_eq_true, beq_iff_eq] at hT
  rcases hT with (((((e | e) | e) | e) | e) | e) | e
  · rw [(form_st3 c h e).1]
  · rw [form_st4 c h (by simp [e])]; rfl
  · rw [(form_st5 c h (by simp [e])).1]; rfl
  · rw [(form_st5 c h (by simp [e])).1]; rfl
  · rw [form_st7 c h e]; rfl
  · rw [form_st4 c h (by simp [e])]; rfl
  · rw [form_st4 c h (by simp [e])]; rfl
theorem s7_begun (c : Ctx) (b : UInt8) (h : (begunV c b).2 = true) : ((begunV c b).1.st == 7) = false := by
  unfold begunV at *
  cases h3 : blankB b <;> cases h4 : (b == 62) <;> cases h5 : (b == 34 || b == 39) <;> rw [h3, h4, h5] at h <;> first | (cases h; done) | rfl
theorem s7_named (c : Ctx) (b : UInt8) (h : (named c b).2 = true) : ((named c b).1.st == 7) = false := by
  unfold named at *
  cases h1 : (b == 61 && c.nm != []) <;> cases h2 : (b == 47 || b == 62) <;> cases h3 : blankB b <;> cases h4 : (c.st == 6) <;> cases h5 : (b == 34 || b == 39 || b == 60) <;> rw [h1, h2, h3, h4, h5] at h <;> first | (cases h; done) | rfl
theorem s7_tag (c : Ctx) (b : UInt8) (h : (tag c b).2 = true) : ((tag c b).1.st == 7) = false := by
  unfold tag at *
  cases h3 : (c.st == 3) with
  | true =>
    rw [h3] at h
    cases h1 : (!blankB b && b != 47 && b != 62) <;> cases h2 : c.en <;> rw [h1, h2] at h <;> first | (cases h; done) | rfl
  | false =>
  cases h9 : (c.st == 9) with
  | true =>
    rw [h3, h9] at h
    cases h1 : blankB b <;> cases h2 : (b == 47) <;> cases h4 : (b == 62) <;> rw [h1, h2, h4] at h <;> cases h
  | false =>
  cases h10 : (c.st == 10) with
  | true =>
    rw [h3, h9, h10] at h
    cases h1 : (b == 62) <;> rw [h1] at h <;> first | (cases h; done) | rfl
  | false =>
  cases h4 : (c.st == 4) with
  | true =>
    rw [h3, h9, h10, h4] at h
    cases h1 : blankB b <;> cases h2 : (b == 47 || b == 62) <;> cases h5 : (b == 61) <;> rw [h1, h2, h5] at h <;> first | (cases h; done) | rfl
  | false =>
  cases h7 : (c.st == 7) with
  | true =>
    rw [h3, h9, h10, h4, h7] at h
    exact s7_begun c b h
  | false =>
    rw [h3, h9, h10, h4, h7] at h
    exact s7_named c b h
theorem tag_st8 (c : Ctx) (b : UInt8) (h : isT c.st = true) (h7 : (c.st == 7) = false) : (tag c b).1.st ≠ 8 := by
  have hc : c.st ≠ 8 := by intro e; rw [e] at h; cases h
  have hg := grown_st c b
  have key : (grown c b).st ≠ 8 := by
    rcases hg with e | e <;> rw [e]
    · decide
    · exact hc
  have k4 (s : UInt8) (d : Ctx) (hs : s ≠ 8) (e : d.st = s) : d.st ≠ 8 := by rw [e]; exact hs
  unfold tag named tagEnd
  rw [h7]
  repeat' split
  all_goals first | exact hc | exact key | exact k4 9 _ (by decide) rfl | exact k4 4 _ (by decide) rfl | exact k4 10 _ (by decide) rfl | exact k4 17 _ (by decide) rfl | exact k4 5 _ (by decide) rfl | exact k4 7 _ (by decide) rfl | exact k4 6 _ (by decide) rfl | exact k4 0 _ (by decide) rfl | exact k4 20 _ (by decide) rfl | contradiction
theorem again_okV (b : UInt8) : ∀ (n : Nat) (c d : Ctx), okV c = true → (isT c.st = true → c.su = 0) → (c.st = 7 ∨ c.st = 8 ∨ c.st = 17 ∨ c.st = 18 ∨ c.st = 19 → form c = true) → again n c b true = some d → okV d = true
  | 0, c, d, hv, ht, hf, h => by cases h
  | n + 1, c, d, hv, ht, hf, h => by
    unfold again at h
    by_cases h0 : (c.st == 0) = true
    · rw [if_pos h0] at h
      by_cases hb : (b == 60) = true
      · rw [if_pos hb] at h; cases h; rfl
      · rw [if_neg hb] at h; cases h; exact hv
    rw [if_neg h0] at h
    by_cases h1 : (c.st == 1) = true
    · rw [if_pos h1] at h
      by_cases hb : (opened b).2 = true
      · rw [if_pos hb] at h; cases h; exact opened_okV b
      · rw [if_neg hb] at h
        exact again_okV b n _ d rfl (fun h => by cases h) (fun h => by rcases h with e | e | e | e | e <;> cases e) h
    rw [if_neg h1] at h
    by_cases h2 : (c.st == 2) = true
    · rw [if_pos h2] at h; cases h; exact closed_okV b
    rw [if_neg h2] at h
    by_cases hT : isT c.st = true
    · rw [if_pos hT] at h
      by_cases hb : (tag c b).2 = true
      · rw [if_pos hb] at h
        refine again_okV b n _ d (tag_okV c b hT (ht hT)) (fun _ => tag_su c b (ht hT)) (fun hh => ?_) h
        have n7 := s7_tag c b hb
        have nr := raw_tag c b hb
        rcases hh with e | e | e | e | e
        · rw [e] at n7; cases n7
        · cases hc7 : (c.st == 7) with
          | false => exact absurd e (tag_st8 c b hT hc7)
          | true =>
            have e7 := eq_of_beq hc7
            have t1 : tag c b = begunV c b := by unfold tag; rw [e7]; rfl
            rw [t1]
            exact begunV_form c b (hf (.inl e7)) e7
        · rw [e] at nr; cases nr
        · rw [e] at nr; cases nr
        · rw [e] at nr; cases nr
      · rw [if_neg hb] at h; cases h; exact tag_okV c b hT (ht hT)
    rw [if_neg hT] at h
    by_cases h8 : (c.st == 8) = true
    · rw [if_pos h8] at h; cases h
      have e8 := eq_of_beq h8
      exact value_okV c b (hf (.inr (.inl e8))) hv e8
    rw [if_neg h8] at h
    by_cases hr : (c.st == 17 || c.st == 18 || c.st == 19) = true
    · rw [if_pos hr] at h; cases h
      have er : c.st = 17 ∨ c.st = 18 ∨ c.st = 19 := by simpa [or_assoc] using hr
      exact raw_okV c b (hf (by rcases er with e | e | e <;> simp [e])) hv er
    · rw [if_neg hr] at h; cases h
      refine note_okV c b ⟨by simpa using h8, ?_⟩
      simp only [Bool.or_eq_true, beq_iff_eq, not_or] at hr
      exact ⟨hr.1.2, hr.2⟩
theorem step_okV (c : Ctx) (b : UInt8) (h : form c = true) (hv : okV c = true) : okV (stepB c b) = true :=
  again_okV b 4 c _ hv (isT_su c h) (fun _ => h) (mv_some c b true h)
/-- What markup leads to. -/
theorem run_okV : ∀ (l : List UInt8) (c : Ctx) (i : Int) (d : Ctx), form c = true → okV c = true → c.st ≠ 20 → 0 ≤ i → runL stepB c l i = (d, -1) → form d = true ∧ okV d = true ∧ d.st ≠ 20
  | [], c, i, d, hf, hv, hs, hi, h => by cases h; exact ⟨hf, hv, hs⟩
  | b :: r, c, i, d, hf, hv, hs, hi, h => by
    unfold runL at h
    split at h
    · cases h; omega
    · rename_i h20
      exact run_okV r _ (i + 1) d (step_form c b) (step_okV c b hf hv) (by simpa using h20) (by omega) h
theorem text_okV (p : List UInt8) (d : Ctx) (h : bytesB (st1 0) p = (d, -1)) : form d = true ∧ okV d = true ∧ d.st ≠ 20 := run_okV p (st1 0) 0 d rfl rfl (by decide) (Int.le_refl _) h
theorem ends_bytes (c : Ctx) (h : form c = true) (hv : okV c = true) (h20 : c.st ≠ 20) : bytesB c (trail c) = (st1 0, -1) ∧ (trail c).length ≤ 40 := by
  obtain ⟨h1, h2⟩ := of_endsAll (trail_ends c h hv h20)
  refine ⟨?_, h2⟩
  unfold bytesB inF
  rw [if_pos h]; exact h1
/-- HTML alone reads alike, piece by piece. -/
theorem run_flat : ∀ (l : List UInt8) (c : Ctx) (i : Int) (d : Ctx), form c = true → 0 ≤ i → runL stepB c l i = (d, -1) → runL plainB (flat c) l i = (flat d, -1)
  | [], c, i, d, hf, hi, h => by cases h; rfl
  | b :: r, c, i, d, hf, hi, h => by
    unfold runL at h ⊢
    split at h
    · cases h; omega
    · rename_i h20
      rcases step_flat c b hf with e | e
      · rw [e] at h20; exact absurd rfl h20
      · rw [← e]
        have : (flat (stepB c b)).st = (stepB c b).st := rfl
        rw [this, if_neg h20]
        exact run_flat r _ (i + 1) d (step_form c b) (by omega) h
theorem ends_plains (c : Ctx) (h : form c = true) (hv : okV c = true) (h20 : c.st ≠ 20) : plainsB (flat c) (trail c) = (st1 0, -1) := by
  obtain ⟨h1, h2⟩ := of_endsAll (trail_ends c h hv h20)
  unfold plainsB inF
  rw [if_pos (flat_form c h), run_flat _ c 0 _ h (Int.le_refl _) h1]
  rfl
/-- What a hole leads to is ended alike. -/
theorem trail_pa (c : Ctx) (pa : UInt8) (h : c.st = 8) : trail { c with pa := pa } = trail c := by
  unfold trail
  simp only [h]
  rfl
theorem trail_after (c : Ctx) (h : hole c ≠ 0) : trail (after c) = trail c := by
  unfold after
  split
  · rename_i e; exact absurd (eq_of_beq e) h
  · split
    · rename_i e; exact trail_pa c 2 (hole4 c (eq_of_beq e)).1
    · rfl
end Sx

/-
  SxPTok: markup cut into tokens, byte by byte, in plain Lean.
-/
namespace Sx
open Go

section
variable (a0 a1 a2 a3 a4 a5 a6 a7 a8 a9 a10 a11 a12 a13 a14 a15 a16 a17 a18 : AV)
theorem asAg19 : AV.asAg 19 (.ag [a0, a1, a2, a3, a4, a5, a6, a7, a8, a9, a10, a11, a12, a13, a14, a15, a16, a17, a18]) = some [a0, a1, a2, a3, a4, a5, a6, a7, a8, a9, a10, a11, a12, a13, a14, a15, a16, a17, a18] := rfl
theorem n19_0 : [a0, a1, a2, a3, a4, a5, a6, a7, a8, a9, a10, a11, a12, a13, a14, a15, a16, a17, a18].getD 0 .un = a0 := rfl
theorem n19_1 : [a0, a1, a2, a3, a4, a5, a6, a7, a8, a9, a10, a11, a12, a13, a14, a15, a16, a17, a18].getD 1 .un = a1 := rfl
theorem n19_2 : [a0, a1, a2, a3, a4, a5, a6, a7, a8, a9, a10, a11, a12, a13, a14, a15, a16, a17, a18].getD 2 .un = a2 := rfl
theorem n19_3 : [a0, a1, a2, a3, a4, a5, a6, a7, a8, a9, a10, a11, a12, a13, a14, a15, a16, a17, a18].getD 3 .un = a3 := rfl
theorem n19_4 : [a0, a1, a2, a3, a4, a5, a6, a7, a8, a9, a10, a11, a12, a13, a14, a15, a16, a17, a18].getD 4 .un = a4 := rfl
theorem n19_5 : [a0, a1, a2, a3, a4, a5, a6, a7, a8, a9, a10, a11, a12, a13, a14, a15, a16, a17, a18].getD 5 .un = a5 := rfl
theorem n19_6 : [a0, a1, a2, a3, a4, a5, a6, a7, a8, a9, a10, a11, a12, a13, a14, a15, a16, a17, a18].getD 6 .un = a6 := rfl
theorem n19_7 : [a0, a1, a2, a3, a4, a5, a6, a7, a8, a9, a10, a11, a12, a13, a14, a15, a16, a17, a18].getD 7 .un = a7 := rfl
theorem n19_8 : [a0, a1, a2, a3, a4, a5, a6, a7, a8, a9, a10, a11, a12, a13, a14, a15, a16, a17, a18].getD 8 .un = a8 := rfl
theorem n19_9 : [a0, a1, a2, a3, a4, a5, a6, a7, a8, a9, a10, a11, a12, a13, a14, a15, a16, a17, a18].getD 9 .un = a9 := rfl
theorem n19_10 : [a0, a1, a2, a3, a4, a5, a6, a7, a8, a9, a10, a11, a12, a13, a14, a15, a16, a17, a18].getD 10 .un = a10 := rfl
theorem n19_11 : [a0, a1, a2, a3, a4, a5, a6, a7, a8, a9, a10, a11, a12, a13, a14, a15, a16, a17, a18].getD 11 .un = a11 := rfl
theorem n19_12 : [a0, a1, a2, a3, a4, a5, a6, a7, a8, a9, a10, a11, a12, a13, a14, a15, a16, a17, a18].getD 12 .un = a12 := rfl
theorem n19_13 : [a0, a1, a2, a3, a4, a5, a6, a7, a8, a9, a10, a11, a12, a13, a14, a15, a16, a17, a18].getD 13 .un = a13 := rfl
theorem n19_14 : [a0, a1, a2, a3, a4, a5, a6, a7, a8, a9, a10, a11, a12, a13, a14, a15, a16, a17, a18].getD 14 .un = a14 := rfl
theorem n19_15 : [a0, a1, a2, a3, a4, a5, a6, a7, a8, a9, a10, a11, a12, a13, a14, a15, a16, a17, a18].getD 15 .un = a15 := rfl
theorem n19_16 : [a0, a1, a2, a3, a4, a5, a6, a7, a8, a9, a10, a11, a12, a13, a14, a15, a16, a17, a18].getD 16 .un = a16 := rfl
theorem n19_17 : [a0, a1, a2, a3, a4, a5, a6, a7, a8, a9, a10, a11, a12, a13, a14, a15, a16, a17, a18].getD 17 .un = a17 := rfl
theorem n19_18 : [a0, a1, a2, a3, a4, a5, a6, a7, a8, a9, a10, a11, a12, a13, a14, a15, a16, a17, a18].getD 18 .un = a18 := rfl
end
theorem asAg1 (a : AV) : AV.asAg 1 (.ag [a]) = some [a] := rfl
theorem n1_0 (a : AV) : [a].getD 0 .un = a := rfl
theorem tu2_0 (a b : AV) : tupI (.tu [a, b]) 0 = some a := rfl
theorem tu2_1 (a b : AV) : tupI (.tu [a, b]) 1 = some b := rfl
theorem tu3_0 (a b c : AV) : tupI (.tu [a, b, c]) 0 = some a := rfl
theorem tu3_1 (a b c : AV) : tupI (.tu [a, b, c]) 1 = some b := rfl
theorem tu3_2 (a b c : AV) : tupI (.tu [a, b, c]) 2 = some c := rfl
theorem elems_ro (k : Nat) (l : List AV) : (AV.ro k l).elems = l := rfl

/-- A token: its kind, its name, its attributes, its bytes; is its list of attributes none at all? -/
structure Tok where
  kind : UInt8
  name : List UInt8
  attrs : List (List UInt8 × List UInt8)
  data : List UInt8
  nil : Bool := false
def pairAV (p : List UInt8 × List UInt8) : AV := .ag [.s p.1, .s p.2]
def Tok.atAV (t : Tok) : AV := if t.nil then .nils else .ro 2 (t.attrs.map pairAV)
def Tok.av (t : Tok) : AV := .ag [.u8 t.kind, .s t.name, t.atAV, .s t.data]

/-- What the reader of markup knows. -/
structure Rd where
  c : Ctx
  text : List UInt8
  pend : List UInt8
  op : Bool
  kind : UInt8
  name : List UInt8
  attrs : List (List UInt8 × List UInt8)
  data : List UInt8
  out : List Tok
def Rd.av' (r : Rd) (A : AV) : AV :=
  .ag [.u8 r.c.st, .u8 r.c.el, .b r.c.en, .u8 r.c.at', .u8 r.c.qu, .u8 r.c.pa, .u8 r.c.su, .b r.c.es, .u8 r.c.da, .s r.c.nm, .ro 1 (r.text.map .u8), .ro 1 (r.pend.map .u8), .b r.op, .u8 r.kind, .s r.name, A, .s r.data, .un, .b false]
def Rd.av (r : Rd) : AV := r.av' (.ro 2 (r.attrs.map pairAV))
def outAV (l : List Tok) : AV := .ag [.ro 4 (l.map Tok.av)]
def Rd.bk' (r : Rd) (A : AV) : AV := .tu [.tu [], r.av' A, outAV r.out]
def Rd.bk (r : Rd) : AV := .tu [.tu [], r.av, outAV r.out]

def Rd.settle (r : Rd) (more : List UInt8) : Rd := { r with text := r.text ++ r.pend ++ more, pend := [] }
def Rd.give (r : Rd) (t : Tok) : Rd := { r with out := r.out ++ [t] }
def Rd.flush (r : Rd) : Rd := { r with text := [], pend := [], out := if r.text.isEmpty then r.out else r.out ++ [⟨0, [], [], r.text, true⟩] }
def Rd.begin' (r : Rd) (k : UInt8) (name data : List UInt8) : Rd := { r.flush with op := true, kind := k, name := name, attrs := [], data := data }
def Rd.fin (r : Rd) : Rd := { r with op := false, kind := 0, name := [], attrs := [], data := [], out := if r.op then r.out ++ [⟨r.kind, r.name, r.attrs, r.data, false⟩] else r.out }
def Rd.dataR (r : Rd) (f : Ctx) (b : UInt8) : Rd :=
  if r.c.st == 1 then (if f.st == 1 then { r.settle [] with pend := [b] } else { r with pend := [b] })
  else if r.c.st == 2 then { r with pend := r.pend ++ [b] }
  else if r.c.st == 3 then r.begin' (if r.c.en then 2 else 1) r.c.nm []
  else if r.c.st == 11 then r.begin' 4 [] []
  else if r.c.st == 16 then r.begin' 4 [] [b]
  else if r.c.st == 0 then (if f.st == 2 then { r with pend := [] } else r.settle [b])
  else r
def Rd.rawE (r : Rd) (f : Ctx) : Rd := if r.c.st == 0 then (r.begin' 2 f.nm []).fin else r.begin' 2 f.nm []
def Rd.rawR (r : Rd) (f : Ctx) (b : UInt8) : Rd :=
  if r.c.st == 17 then r.settle [b]
  else if r.c.st == 18 then { r.settle [] with pend := [b] }
  else if r.c.st == 19 then { r with pend := r.pend ++ [b] }
  else if r.c.st == 4 then r.rawE f else if r.c.st == 10 then r.rawE f else if r.c.st == 0 then r.rawE f
  else r
def Rd.noteR (r : Rd) (f : Ctx) (b : UInt8) : Rd :=
  if r.c.st == 13 then { r with kind := 3, name := [], attrs := [], data := [] }
  else if r.c.st != 0 then { r with data := r.data ++ [b] }
  else if f.st == 15 then { r with data := r.data.take (r.data.length - 2) }.fin else r.fin
/-- The last attribute, otherwise. -/
def onLast (g : List UInt8 × List UInt8 → List UInt8 × List UInt8) (l : List (List UInt8 × List UInt8)) : List (List UInt8 × List UInt8) := l.set (l.length - 1) (g (l.getD (l.length - 1) ([], [])))
def Rd.tagR (r : Rd) (f : Ctx) (b : UInt8) : Rd :=
  if r.c.st == 3 then { r with name := r.c.nm }
  else if r.c.st == 5 then { r with attrs := onLast (fun p => (r.c.nm, p.2)) (if f.st != 5 then r.attrs ++ [([], [])] else r.attrs) }
  else if r.c.st == 8 then (if f.st == 8 || r.c.qu == 0 then { r with attrs := onLast (fun p => (p.1, p.2 ++ [b])) r.attrs } else r)
  else if r.c.st == 0 then r.fin else if r.c.st == 17 then r.fin else r
def Rd.take1 (r : Rd) (f : Ctx) (b : UInt8) : Rd :=
  if f.st == 0 || f.st == 1 || f.st == 2 then r.dataR f b
  else if f.st == 17 || f.st == 18 || f.st == 19 then r.rawR f b
  else if f.st == 11 || f.st == 12 || f.st == 13 || f.st == 14 || f.st == 15 || f.st == 16 then r.noteR f b
  else r.tagR f b
/-- One byte more. -/
def Rd.take (r : Rd) (b : UInt8) : Rd := { r with c := plainB r.c b }.take1 r.c b
/-- All bytes; the place of that which isn't taken, or -1. -/
def Rd.run : Rd → List UInt8 → Int → Rd × Int
  | r, [], _ => ({ r with pend := [] }.flush, -1)
  | r, b :: l, i => if (r.take b).c.st == 20 then (r.take b, i) else (r.take b).run l (i + 1)
def Rd.new : Rd := ⟨st1 0, [], [], false, 0, [], [], [], []⟩
def tokAll (p : List UInt8) : List Tok × Ctx × Int := ((Rd.new.run p 0).1.out, (Rd.new.run p 0).1.c, (Rd.new.run p 0).2)

/-- How much it holds. -/
def atLen (l : List (List UInt8 × List UInt8)) : Nat := (l.map fun p => p.2.length + 1).sum
def Rd.size (r : Rd) : Nat := r.text.length + r.pend.length + r.data.length + atLen r.attrs + r.out.length + (if r.op then 1 else 0)
end Sx

/-
  SxPTok2: from which contexts a byte leads where; what the reader of markup always holds.
-/
namespace Sx
open Go

theorem isT_cases {s : UInt8} (h : isT s = true) : s = 3 ∨ s = 4 ∨ s = 5 ∨ s = 6 ∨ s = 7 ∨ s = 9 ∨ s = 10 := by
  revert s; intro s h
  have := all_u8 (p := fun s => !isT s || (s == 3 || s == 4 || s == 5 || s == 6 || s == 7 || s == 9 || s == 10)) (by kernel_rfl) s
  simp only [h, Bool.not_true, Bool.false_or, Bool.or_eq_true, beq_iff_eq] at this
  grind

theorem grown_stC (c : Ctx) (b : UInt8) : (grown c b).st = 20 ∨ (grown c b).st = c.st := by unfold grown; split; exact .inl rfl; exact .inr rfl
theorem tagEnd_st0 (el : UInt8) : (tagEnd el).st = 17 ∨ (tagEnd el).st = 0 := by unfold tagEnd; split; exact .inl rfl; exact .inr rfl
/-- What a look at a tag's byte leads to that isn't done. -/
theorem tag_more (c : Ctx) (b : UInt8) (hT : isT c.st = true) (h : (tag c b).2 = true) :
    (tag c b).1.st = 9 ∨ (tag c b).1.st = 4 ∨ ((tag c b).1.st = 5 ∧ blankB b = false ∧ (b == 61) = false) ∨ ((tag c b).1.st = 8 ∧ c.st = 7) := by
  have hg := grown_stC c b
  have ht := tagEnd_st0 c.el
  rcases isT_cases hT with e | e | e | e | e | e | e
  all_goals unfold tag at h ⊢
  all_goals simp only [e] at h hg ht ⊢
  · revert h; cases (!blankB b && b != 47 && b != 62) <;> cases c.en <;> simp [within]
  · revert h; cases h1 : blankB b <;> cases h2 : (b == 47 || b == 62) <;> cases h3 : (b == 61) <;> simp [within]
  · unfold named at h ⊢
    simp only [e] at h ⊢
    revert h
    cases h1 : (b == 61 && c.nm != []) <;> cases h2 : (b == 47 || b == 62) <;> cases h3 : blankB b <;> cases h4 : (b == 34 || b == 39 || b == 60) <;> simp [within]
  · unfold named at h ⊢
    simp only [e] at h ⊢
    revert h
    cases h1 : (b == 61 && c.nm != []) <;> cases h2 : (b == 47 || b == 62) <;> cases h3 : blankB b <;> cases h4 : (b == 34 || b == 39 || b == 60) <;> simp [within]
  · unfold begunV at h ⊢
    revert h
    cases h1 : blankB b <;> cases h2 : (b == 62) <;> cases h3 : (b == 34 || b == 39) <;> simp
  · revert h; cases h1 : blankB b <;> cases h2 : (b == 47) <;> cases h3 : (b == 62) <;> simp
  · revert h; cases h1 : (b == 62) <;> simp [within]
/-- .. and that is. -/
theorem tag_done (c : Ctx) (b : UInt8) (hT : isT c.st = true) (h : (tag c b).2 = false) :
    ((tag c b).1.st = 6 → blankB b = true ∧ (c.st = 5 ∨ c.st = 6)) ∧ ((tag c b).1.st = 7 → c.st = 7 ∨ ((b == 61) = true ∧ (c.st = 5 ∨ c.st = 6))) ∧ ((tag c b).1.st = 8 → c.st = 7) ∧ (tag c b).1.st ≠ 14 ∧ (tag c b).1.st ≠ 15 := by
  have hg := grown_stC c b
  have ht := tagEnd_st0 c.el
  rcases isT_cases hT with e | e | e | e | e | e | e
  all_goals unfold tag at h ⊢
  all_goals simp only [e] at h hg ht ⊢
  · revert h; cases (!blankB b && b != 47 && b != 62) <;> cases c.en <;> simp [within] <;> rcases hg with hg | hg <;> simp [hg]
  · revert h; cases h1 : blankB b <;> cases h2 : (b == 47 || b == 62) <;> cases h3 : (b == 61) <;> simp [within, badC, e]
  · unfold named at h ⊢
    simp only [e] at h ⊢
    revert h
    cases h1 : (b == 61 && c.nm != []) <;> cases h2 : (b == 47 || b == 62) <;> cases h3 : blankB b <;> cases h4 : (b == 34 || b == 39 || b == 60) <;> simp [within, badC] <;> first | (rcases hg with hg | hg <;> simp [hg]; done) | (simp at h1; simp [h1]; done) | simp
  · unfold named at h ⊢
    simp only [e] at h ⊢
    revert h
    cases h1 : (b == 61 && c.nm != []) <;> cases h2 : (b == 47 || b == 62) <;> cases h3 : blankB b <;> cases h4 : (b == 34 || b == 39 || b == 60) <;> simp [within, badC] <;> first | (rcases hg with hg | hg <;> simp [hg]; done) | (simp at h1; simp [h1]; done) | simp
  · unfold begunV at h ⊢
    revert h
    cases h1 : blankB b <;> cases h2 : (b == 62) <;> cases h3 : (b == 34 || b == 39) <;> simp [badC, e]
  · revert h; cases h1 : blankB b <;> cases h2 : (b == 47) <;> cases h3 : (b == 62) <;> simp [within, badC] <;> rcases ht with ht | ht <;> simp [ht]
  · revert h; cases h1 : (b == 62) <;> simp [within] <;> rcases ht with ht | ht <;> simp [ht]

theorem value_st (c : Ctx) (b : UInt8) (e : c.st = 8) : (value c b).st = 8 ∨ (value c b).st = 20 ∨ (value c b).st = 9 ∨ (value c b).st = 4 ∨ (value c b).st = 17 ∨ (value c b).st = 0 := by
  have ht := tagEnd_st0 c.el
  have hu : (url c b).st = 8 ∨ (url c b).st = 20 := by
    unfold url
    repeat' split
    all_goals simp [badC, e]
  have hc : (code c b (c.at' == 2)).st = 8 ∨ (code c b (c.at' == 2)).st = 20 := by
    rcases code_keep c b (c.at' == 2) with h | h
    · right; rw [h]; rfl
    · left; rw [h.1]; exact e
  unfold value
  repeat' split
  all_goals first
    | (right; left; rfl)
    | (left; exact e)
    | (right; right; left; rfl)
    | (right; right; right; left; rfl)
    | (rcases hu with h | h <;> simp [h]; done)
    | (rcases hc with h | h <;> simp [h]; done)
    | (rcases ht with h | h <;> simp [h]; done)
theorem raw_st (c : Ctx) (b : UInt8) (feed : Bool) (e : c.st = 17 ∨ c.st = 18 ∨ c.st = 19) : (raw c b feed).st = 17 ∨ (raw c b feed).st = 18 ∨ (raw c b feed).st = 19 ∨ (raw c b feed).st = 20 ∨ (raw c b feed).st = 4 ∨ (raw c b feed).st = 10 ∨ (raw c b feed).st = 0 := by
  have hf (c : Ctx) (l : List UInt8) : (fed c l feed).st = 17 ∨ (fed c l feed).st = 20 := by
    rcases fed_st c l feed with h | h
    · exact .inl h
    · right; rw [h]; rfl
  have h2 (c : Ctx) : (raw2 c b feed).st = 17 ∨ (raw2 c b feed).st = 18 ∨ (raw2 c b feed).st = 20 := by
    unfold raw2
    split
    · exact .inr (.inr rfl)
    · split
      · exact .inr (.inl rfl)
      · rcases hf c [b] with h | h
        · exact .inl h
        · exact .inr (.inr h)
  have ht : (tag ⟨9, 0, true, 0, 0, 0, 0, false, 0, []⟩ b).1.st = 4 ∨ (tag ⟨9, 0, true, 0, 0, 0, 0, false, 0, []⟩ b).1.st = 10 ∨ (tag ⟨9, 0, true, 0, 0, 0, 0, false, 0, []⟩ b).1.st = 0 ∨ (tag ⟨9, 0, true, 0, 0, 0, 0, false, 0, []⟩ b).1.st = 20 := by
    unfold tag
    simp only [show ((9 : UInt8) == 3) = false from rfl, show ((9 : UInt8) == 9) = true from rfl, Bool.false_eq_true, if_false, if_true]
    cases blankB b <;> cases (b == 47) <;> cases (b == 62) <;> simp [within, tagEnd, badC, st1]
  unfold raw
  split
  · right; right; left; rfl
  · split
    · right; right; right; left; rfl
    · split
      · split
        · right; right; right; left; rfl
        · rcases ht with h | h | h | h <;> simp [h]
      · split
        · rename_i h
          have : c.st = 19 := by simp only [Bool.and_eq_true, beq_iff_eq] at h; exact h.1
          right; right; left; exact this
        · split
          · rcases h2 (fed c (47 :: c.nm) feed) with h | h | h <;> simp [h]
          · rcases h2 c with h | h | h <;> simp [h]
theorem note_st (c : Ctx) (b : UInt8) (e : c.st = 11 ∨ c.st = 12 ∨ c.st = 13 ∨ c.st = 14 ∨ c.st = 15 ∨ c.st = 16 ∨ c.st = 20) (hd : c.da.toNat ≤ 2) :
    ((note c b).st = 0 ∨ (note c b).st = 12 ∨ (note c b).st = 13 ∨ (note c b).st = 14 ∨ (note c b).st = 15 ∨ (note c b).st = 16 ∨ (note c b).st = 20) ∧ ((note c b).st = 14 → c.st = 13) ∧
    ((note c b).st = 15 → (c.st = 13 ∧ (note c b).da = 0) ∨ (c.st = 14 ∧ (note c b).da.toNat ≤ 2) ∨ (c.st = 15 ∧ (note c b).da.toNat ≤ c.da.toNat + 1 ∧ (note c b).da.toNat ≤ 2)) ∧ ((note c b).st = 0 → c.st = 15 → c.da = 2) ∧ ((note c b).st = 13 → c.st = 12) := by
  rcases e with e | e | e | e | e | e | e
  all_goals unfold note
  all_goals simp only [e]
  · cases (b == 62) <;> cases (b == 45) <;> simp [st1]
  · cases (b == 62) <;> cases (b == 45) <;> simp [st1]
  · cases (b == 62) <;> cases (b == 45) <;> simp [st1, badC]
  · cases (b == 62) <;> cases (b == 45) <;> simp [st1, badC]
  · have : c.da = 0 ∨ c.da = 1 ∨ c.da = 2 := by
      have := all_u8 (p := fun d => !decide (d.toNat ≤ 2) || (d == 0 || d == 1 || d == 2)) (by kernel_rfl) c.da
      simp only [hd, decide_true, Bool.not_true, Bool.false_or, Bool.or_eq_true, beq_iff_eq] at this
      grind
    rcases this with h | h | h <;> cases (b == 62) <;> cases (b == 45) <;> cases (b == 33) <;> simp [st1, badC, h] <;> decide
  · cases (b == 62) <;> simp [st1, e]
  · simp [e]

theorem grown_da (c : Ctx) (b : UInt8) : (grown c b).da = c.da ∨ (grown c b).da = 0 := by unfold grown; split; exact .inr rfl; exact .inl rfl
theorem tagEnd_da (el : UInt8) : (tagEnd el).da = 0 := by unfold tagEnd; split <;> rfl
theorem named_da (c : Ctx) (b : UInt8) : (named c b).1.da = c.da ∨ (named c b).1.da = 0 := by
  have := grown_da c b
  unfold named
  repeat' split
  all_goals first | exact this | exact .inr rfl | exact .inl rfl
theorem begun_da (c : Ctx) (b : UInt8) : (begunV c b).1.da = c.da ∨ (begunV c b).1.da = 0 := by
  unfold begunV
  repeat' split
  all_goals first | exact .inr rfl | exact .inl rfl
theorem tag_da (c : Ctx) (b : UInt8) : (tag c b).1.da = c.da ∨ (tag c b).1.da = 0 := by
  have h1 := grown_da c b
  have h2 := named_da c b
  have h3 := begun_da c b
  have h4 := tagEnd_da c.el
  unfold tag
  repeat' split
  all_goals first | exact h1 | exact h2 | exact h3 | exact .inr h4 | exact .inr rfl | exact .inl rfl
/-- From where a byte leads there. -/
def FromC (c d : Ctx) (b : UInt8) : Prop :=
  (d.st = 6 → blankB b = true ∧ (c.st = 5 ∨ c.st = 6)) ∧ (d.st = 7 → c.st = 7 ∨ ((b == 61) = true ∧ (c.st = 5 ∨ c.st = 6))) ∧ (d.st = 8 → c.st = 7 ∨ c.st = 8) ∧ (d.st = 5 → isT c.st = true) ∧
  (d.st = 14 → c.st = 13) ∧ (d.st = 15 → (c.st = 13 ∧ d.da = 0) ∨ (c.st = 14 ∧ d.da.toNat ≤ 2) ∨ (c.st = 15 ∧ d.da.toNat ≤ c.da.toNat + 1 ∧ d.da.toNat ≤ 2)) ∧ (d.st = 0 → c.st = 15 → c.da = 2)
theorem st_all (s : UInt8) (h : decide (s ≤ 20) = true) : s = 0 ∨ s = 1 ∨ s = 2 ∨ isT s = true ∨ s = 8 ∨ s = 17 ∨ s = 18 ∨ s = 19 ∨ s = 11 ∨ s = 12 ∨ s = 13 ∨ s = 14 ∨ s = 15 ∨ s = 16 ∨ s = 20 := by
  have := all_u8 (p := fun s => !decide (s ≤ 20) || (s == 0 || s == 1 || s == 2 || isT s || s == 8 || s == 17 || s == 18 || s == 19 || s == 11 || s == 12 || s == 13 || s == 14 || s == 15 || s == 16 || s == 20)) (by kernel_rfl) s
  simp only [h, Bool.not_true, Bool.false_or, Bool.or_eq_true, beq_iff_eq] at this
  grind
theorem again_src (b : UInt8) (feed : Bool) : ∀ (n : Nat) (c d : Ctx), decide (c.st ≤ 20) = true → c.da.toNat ≤ 2 → again n c b feed = some d → FromC c d b
  | 0, c, d, _, _, h => by cases h
  | n + 1, c, d, hs, hd, h => by
    unfold again at h
    rcases st_all c.st hs with e | e | e | e | e | e
    · simp only [e, beq_self_eq_true, if_true] at h
      cases hb : (b == 60) <;> rw [hb] at h <;> simp only [Bool.false_eq_true, if_false, if_true, Option.some.injEq] at h <;> subst h <;> simp [FromC, e]
    · simp only [e] at h
      have ho : (opened b).1.st ≠ 6 ∧ (opened b).1.st ≠ 7 ∧ (opened b).1.st ≠ 8 ∧ (opened b).1.st ≠ 5 ∧ (opened b).1.st ≠ 14 ∧ (opened b).1.st ≠ 15 := by
        unfold opened; repeat' split
        all_goals simp [st1]
      split at h
      · simp at *
      · split at h
        · split at h
          · cases h
            simp only [FromC, e]
            refine ⟨fun h => absurd h ho.1, fun h => absurd h ho.2.1, fun h => absurd h ho.2.2.1, fun h => absurd h ho.2.2.2.1, fun h => absurd h ho.2.2.2.2.1, fun h => absurd h ho.2.2.2.2.2, fun _ h => by cases h⟩
          · have := again_src b feed n { c with st := 0 } d rfl hd h
            simp only [FromC] at this ⊢
            simp only [e]
            obtain ⟨a1, a2, a3, a4, a5, a6, a7⟩ := this
            refine ⟨fun h => ?_, fun h => ?_, fun h => ?_, fun h => ?_, fun h => ?_, fun h => ?_, fun _ h => by cases h⟩
            · exact absurd (a1 h).2 (by decide)
            · have := a2 h; revert this; simp
            · exact absurd (a3 h) (by decide)
            · exact absurd (a4 h) (by decide)
            · exact absurd (a5 h) (by decide)
            · have := a6 h; revert this; simp
        · simp at *
    · simp only [e] at h
      have ho : (closed b).st ≠ 6 ∧ (closed b).st ≠ 7 ∧ (closed b).st ≠ 8 ∧ (closed b).st ≠ 5 ∧ (closed b).st ≠ 14 ∧ (closed b).st ≠ 15 := by
        unfold closed; repeat' split
        all_goals simp [st1]
      have h' : closed b = d := by simpa using h
      subst h'
      simp only [FromC, e]
      exact ⟨fun h => absurd h ho.1, fun h => absurd h ho.2.1, fun h => absurd h ho.2.2.1, fun h => absurd h ho.2.2.2.1, fun h => absurd h ho.2.2.2.2.1, fun h => absurd h ho.2.2.2.2.2, fun _ h => by cases h⟩
    · have hn : (c.st == 0) = false ∧ (c.st == 1) = false ∧ (c.st == 2) = false := by rcases isT_cases e with q | q | q | q | q | q | q <;> rw [q] <;> decide
      have h15 : c.st ≠ 15 := by rcases isT_cases e with q | q | q | q | q | q | q <;> rw [q] <;> decide
      rw [hn.1, hn.2.1, hn.2.2, e] at h
      simp only [Bool.false_eq_true, if_false, if_true] at h
      cases ht : (tag c b).2 with
      | false =>
        rw [ht] at h
        simp only [Bool.false_eq_true, if_false, Option.some.injEq] at h
        subst h
        obtain ⟨a1, a2, a3, a4, a5⟩ := tag_done c b e ht
        exact ⟨a1, a2, fun h => .inl (a3 h), fun _ => e, fun h => absurd h a4, fun h => absurd h a5, fun _ h => absurd h h15⟩
      | true =>
        rw [ht] at h
        simp only [if_true] at h
        have hda : (tag c b).1.da.toNat ≤ 2 := by rcases tag_da c b with q | q <;> rw [q]; exact hd; decide
        have hm := tag_more c b e ht
        have hle : decide ((tag c b).1.st ≤ 20) = true := by rcases hm with q | q | q | q <;> first | rw [q]; decide | rw [q.1]; decide
        obtain ⟨a1, a2, a3, a4, a5, a6, a7⟩ := again_src b feed n _ d hle hda h
        refine ⟨fun h => ?_, fun h => ?_, fun h => ?_, fun _ => e, fun h => ?_, fun h => ?_, fun _ h => absurd h h15⟩
        · have h1 := a1 h
          rcases hm with q | q | ⟨q, q2, q3⟩ | ⟨q, q2⟩ <;> rw [q] at h1
          · exact absurd h1.2 (by decide)
          · exact absurd h1.2 (by decide)
          · rw [q2] at h1; exact absurd h1.1 (by decide)
          · exact absurd h1.2 (by decide)
        · have h1 := a2 h
          rcases hm with q | q | ⟨q, q2, q3⟩ | ⟨q, q2⟩ <;> rw [q] at h1
          · simp at h1
          · simp at h1
          · rw [q3] at h1; simp at h1
          · simp at h1
        · have h1 := a3 h
          rcases hm with q | q | ⟨q, q2, q3⟩ | ⟨q, q2⟩
          · rw [q] at h1; exact absurd h1 (by decide)
          · rw [q] at h1; exact absurd h1 (by decide)
          · rw [q] at h1; exact absurd h1 (by decide)
          · exact .inl q2
        · have h1 := a5 h
          rcases hm with q | q | ⟨q, q2, q3⟩ | ⟨q, q2⟩ <;> rw [q] at h1 <;> exact absurd h1 (by decide)
        · have h1 := a6 h
          rcases hm with q | q | ⟨q, q2, q3⟩ | ⟨q, q2⟩ <;> rw [q] at h1 <;> simp at h1
    · have h' : value c b = d := by
        simp only [e] at h
        simpa [isT] using h
      subst h'
      have := value_st c b e
      simp only [FromC, e]
      rcases this with q | q | q | q | q | q <;> simp [q]
    · have key : ∀ (hr : c.st = 17 ∨ c.st = 18 ∨ c.st = 19), FromC c d b := by
        intro hr
        have h' : raw c b feed = d := by
          rcases hr with q | q | q <;> simp only [q] at h <;> simpa [isT] using h
        subst h'
        have := raw_st c b feed hr
        have h15 : c.st ≠ 15 := by rcases hr with q | q | q <;> rw [q] <;> decide
        simp only [FromC]
        rcases this with q | q | q | q | q | q | q <;> simp [q, h15]
      have keyN : ∀ (hr : c.st = 11 ∨ c.st = 12 ∨ c.st = 13 ∨ c.st = 14 ∨ c.st = 15 ∨ c.st = 16 ∨ c.st = 20), FromC c d b := by
        intro hr
        have h' : note c b = d := by
          rcases hr with q | q | q | q | q | q | q <;> simp only [q] at h <;> simpa [isT] using h
        subst h'
        obtain ⟨q1, q2, q3, q4, q5⟩ := note_st c b hr hd
        refine ⟨fun h => ?_, fun h => ?_, fun h => ?_, fun h => ?_, q2, q3, q4⟩
        all_goals (rw [h] at q1; exact absurd q1 (by decide))
      rcases e with e | e | e | e
      · exact key (.inl e)
      · exact key (.inr (.inl e))
      · exact key (.inr (.inr e))
      · exact keyN e

/-- What the reader always holds, behind so many bytes. -/
structure Good (r : Rd) (n : Nat) : Prop where
  fm : form r.c = true
  st : r.c.st ≠ 20
  hat : r.c.st = 5 ∨ r.c.st = 6 ∨ r.c.st = 7 ∨ r.c.st = 8 → r.attrs ≠ []
  d14 : r.c.st = 14 → 1 ≤ r.data.length
  d15 : r.c.st = 15 → r.c.da.toNat ≤ r.data.length
  tx : r.text.length + r.pend.length ≤ n
  ot : r.out.length ≤ 2 * n
  dt : r.data.length ≤ n
  al : r.attrs.length ≤ n
  av : ∀ p ∈ r.attrs, p.2.length ≤ n

theorem form_le (c : Ctx) (h : form c = true) : decide (c.st ≤ 20) = true ∧ c.da.toNat ≤ 2 := by
  unfold form at h
  obtain ⟨h, _⟩ := of_ite h
  simp only [Bool.or_eq_true, decide_eq_true_eq, not_or, UInt8.not_lt] at h
  exact ⟨by simp [h.1.1.1.1.1], UInt8.le_iff_toNat_le.1 h.2⟩
theorem plain_src (c : Ctx) (b : UInt8) (h : form c = true) : FromC c (plainB c b) b := by
  have h1 := mv_some (flat c) b false (flat_form c h)
  have h2 := form_le c h
  have h3 := again_src b false 4 (flat c) _ h2.1 h2.2 h1
  unfold plainB
  rw [if_pos h]
  exact h3
theorem onLast_len (g : List UInt8 × List UInt8 → List UInt8 × List UInt8) (l : List (List UInt8 × List UInt8)) : (onLast g l).length = l.length := by simp [onLast]
theorem onLast_ne (g : List UInt8 × List UInt8 → List UInt8 × List UInt8) {l : List (List UInt8 × List UInt8)} (h : l ≠ []) : onLast g l ≠ [] := by
  intro e
  have := congrArg List.length e
  rw [onLast_len] at this
  exact h (List.eq_nil_of_length_eq_zero this)
theorem onLast_all (g : List UInt8 × List UInt8 → List UInt8 × List UInt8) {l : List (List UInt8 × List UInt8)} (hl : l ≠ []) {P : List UInt8 × List UInt8 → Prop} (h : ∀ p ∈ l, P p) (hg : ∀ p ∈ l, P (g p)) : ∀ p ∈ onLast g l, P p := by
  intro p hp
  unfold onLast at hp
  rcases List.mem_or_eq_of_mem_set hp with q | q
  · exact h p q
  · subst q
    refine hg _ ?_
    have : 0 < l.length := List.length_pos_iff.2 hl
    rw [List.getD_eq_getElem?_getD, List.getElem?_eq_getElem (by omega)]
    exact List.getElem_mem _

theorem flush_ot (r : Rd) : r.flush.out.length ≤ r.out.length + 1 := by unfold Rd.flush; dsimp only; split <;> simp
theorem fin_ot (r : Rd) : r.fin.out.length ≤ r.out.length + 1 := by unfold Rd.fin; dsimp only; split <;> simp
theorem begin_ot (r : Rd) (k : UInt8) (nm d : List UInt8) : (r.begin' k nm d).out.length ≤ r.out.length + 1 := flush_ot r

/-- The sizes alone. -/
structure Sz (r : Rd) (n m : Nat) : Prop where
  tx : r.text.length + r.pend.length ≤ n
  ot : r.out.length ≤ m
  dt : r.data.length ≤ n
  al : r.attrs.length ≤ n
  av : ∀ p ∈ r.attrs, p.2.length ≤ n
theorem Sz.mono {r : Rd} {n m n' m' : Nat} (h : Sz r n m) (hn : n ≤ n') (hm : m ≤ m') : Sz r n' m' :=
  ⟨Nat.le_trans h.tx hn, Nat.le_trans h.ot hm, Nat.le_trans h.dt hn, Nat.le_trans h.al hn, fun p hp => Nat.le_trans (h.av p hp) hn⟩
theorem Sz.settle {r : Rd} {n m : Nat} (h : Sz r n m) (l : List UInt8) (hl : l.length ≤ 1) : Sz (r.settle l) (n + 1) m :=
  ⟨by have := h.tx; simp [Rd.settle]; omega, h.ot, Nat.le_succ_of_le h.dt, Nat.le_succ_of_le h.al, fun p hp => Nat.le_succ_of_le (h.av p hp)⟩
theorem Sz.begin' {r : Rd} {n m : Nat} (h : Sz r n m) (k : UInt8) (nm d : List UInt8) (hd : d.length ≤ 1) : Sz (r.begin' k nm d) (n + 1) (m + 1) :=
  ⟨by simp [Rd.begin', Rd.flush], Nat.le_trans (begin_ot r k nm d) (Nat.succ_le_succ h.ot), by show d.length ≤ _; omega, by simp [Rd.begin'], by simp [Rd.begin']⟩
theorem Sz.fin {r : Rd} {n m : Nat} (h : Sz r n m) : Sz r.fin n (m + 1) :=
  ⟨h.tx, Nat.le_trans (fin_ot r) (Nat.succ_le_succ h.ot), by simp [Rd.fin], by simp [Rd.fin], by simp [Rd.fin]⟩

theorem take1_sz {r : Rd} {n : Nat} (h : Sz r n (2 * n)) (f : Ctx) (b : UInt8) (h5 : r.c.st = 5 → f.st = 5 → r.attrs ≠ []) (h8 : r.c.st = 8 → r.attrs ≠ []) : Sz (r.take1 f b) (n + 1) (2 * (n + 1)) := by
  have base : Sz r (n + 1) (2 * (n + 1)) := h.mono (by omega) (by omega)
  have pb : Sz { r with pend := r.pend ++ [b] } (n + 1) (2 * (n + 1)) := ⟨by have := h.tx; simp; omega, base.ot, base.dt, base.al, base.av⟩
  have hset (l : List UInt8) (hl : l.length ≤ 1) : Sz (r.settle l) (n + 1) (2 * (n + 1)) := (h.settle l hl).mono (by omega) (by omega)
  have hset2 : Sz { r.settle [] with pend := [b] } (n + 1) (2 * (n + 1)) := ⟨by have := h.tx; simp [Rd.settle]; omega, base.ot, base.dt, base.al, base.av⟩
  have hbeg (k : UInt8) (nm d : List UInt8) (hd : d.length ≤ 1) : Sz (r.begin' k nm d) (n + 1) (2 * (n + 1)) := (h.begin' k nm d hd).mono (by omega) (by omega)
  have hfin : Sz r.fin (n + 1) (2 * (n + 1)) := h.fin.mono (by omega) (by omega)
  unfold Rd.take1
  split
  · unfold Rd.dataR
    repeat' split
    all_goals first
      | exact hset2
      | exact ⟨by have := h.tx; simp; omega, base.ot, base.dt, base.al, base.av⟩
      | exact pb
      | exact hbeg _ _ _ (by simp)
      | exact hset _ (by simp)
      | exact base
  · split
    · have he : Sz (r.rawE f) (n + 1) (2 * (n + 1)) := by
        unfold Rd.rawE
        split
        · exact (h.begin' 2 f.nm [] (by simp)).fin.mono (by omega) (by omega)
        · exact hbeg _ _ _ (by simp)
      unfold Rd.rawR
      repeat' split
      all_goals first | exact hset _ (by simp) | exact hset2 | exact pb | exact he | exact base
    · split
      · unfold Rd.noteR
        repeat' split
        · exact ⟨base.tx, base.ot, by simp, by simp, by simp⟩
        · exact ⟨base.tx, base.ot, by have := h.dt; simp; omega, base.al, base.av⟩
        · refine Sz.mono (Sz.fin (n := n) (m := 2 * n) ⟨h.tx, h.ot, ?_, h.al, h.av⟩) (by omega) (by omega)
          have := h.dt; simp; omega
        · exact hfin
      · unfold Rd.tagR
        split
        · exact ⟨base.tx, base.ot, base.dt, base.al, base.av⟩
        · split
          · rename_i e5
            have e5 : r.c.st = 5 := by simpa using e5
            refine ⟨base.tx, base.ot, base.dt, ?_, ?_⟩
            · dsimp only
              rw [onLast_len]
              split
              · have := h.al; simp; omega
              · exact base.al
            · dsimp only
              split
              · refine onLast_all _ (by simp) (fun p hp => ?_) (fun p hp => ?_) <;> rcases List.mem_append.1 hp with q | q <;> first | exact base.av p q | (simp at q; subst q; simp)
              · rename_i hf
                exact onLast_all _ (h5 e5 (by simpa using hf)) base.av base.av
          · split
            · rename_i e8
              have e8 : r.c.st = 8 := by simpa using e8
              split
              · refine ⟨base.tx, base.ot, base.dt, ?_, ?_⟩
                · dsimp only
                  rw [onLast_len]; exact base.al
                · dsimp only
                  exact onLast_all _ (h8 e8) base.av (fun p hp => by have := h.av p hp; simp; omega)
              · exact base
            · repeat' split
              all_goals first | exact hfin | exact base

theorem take1_c (r : Rd) (f : Ctx) (b : UInt8) : (r.take1 f b).c = r.c := by
  unfold Rd.take1 Rd.dataR Rd.rawR Rd.rawE Rd.noteR Rd.tagR
  repeat' split
  all_goals rfl
theorem take_c (r : Rd) (b : UInt8) : (r.take b).c = plainB r.c b := take1_c _ _ _

theorem good_take {r : Rd} {n : Nat} (h : Good r n) (b : UInt8) (h20 : (r.take b).c.st ≠ 20) : Good (r.take b) (n + 1) := by
  have hs := plain_src r.c b h.fm
  obtain ⟨a6, a7, a8, a5, a14, a15, a0⟩ := hs
  have hc := take_c r b
  have hsz : Sz ({ r with c := plainB r.c b } : Rd) n (2 * n) := ⟨h.tx, h.ot, h.dt, h.al, h.av⟩
  have k5 : (plainB r.c b).st = 5 → r.c.st = 5 → r.attrs ≠ [] := fun _ e => h.hat (.inl e)
  have k8 : (plainB r.c b).st = 8 → r.attrs ≠ [] := fun e => by
    rcases a8 e with q | q
    · exact h.hat (.inr (.inr (.inl q)))
    · exact h.hat (.inr (.inr (.inr q)))
  have sz := take1_sz hsz r.c b k5 k8
  have tagN (hT : isT r.c.st = true ∨ r.c.st = 8) : r.take b = ({ r with c := plainB r.c b } : Rd).tagR r.c b := by
    unfold Rd.take Rd.take1
    have : (r.c.st == 0 || r.c.st == 1 || r.c.st == 2) = false ∧ (r.c.st == 17 || r.c.st == 18 || r.c.st == 19) = false ∧ (r.c.st == 11 || r.c.st == 12 || r.c.st == 13 || r.c.st == 14 || r.c.st == 15 || r.c.st == 16) = false := by
      rcases hT with hT | hT
      · rcases isT_cases hT with q | q | q | q | q | q | q <;> rw [q] <;> decide
      · rw [hT]; decide
    rw [this.1, this.2.1, this.2.2]
    rfl
  have noteN (hN : r.c.st = 13 ∨ r.c.st = 14 ∨ r.c.st = 15) : r.take b = ({ r with c := plainB r.c b } : Rd).noteR r.c b := by
    unfold Rd.take Rd.take1
    rcases hN with q | q | q <;> rw [q] <;> rfl
  refine ⟨by rw [hc]; exact plain_form r.c b, h20, fun e => ?_, fun e => ?_, fun e => ?_, sz.tx, sz.ot, sz.dt, sz.al, sz.av⟩
  · rw [hc] at e
    rcases e with e | e | e | e
    · rw [tagN (.inl (a5 e))]
      unfold Rd.tagR
      simp only [e, show ((5 : UInt8) == 3) = false from rfl, show ((5 : UInt8) == 5) = true from rfl, Bool.false_eq_true, if_false, if_true]
      refine onLast_ne _ ?_
      split
      · simp
      · rename_i hf; exact h.hat (.inl (by simpa using hf))
    · have q := (a6 e).2
      rw [tagN (.inl (by rcases q with q | q <;> rw [q] <;> rfl))]
      unfold Rd.tagR
      simp only [e, show ((6 : UInt8) == 3) = false from rfl, show ((6 : UInt8) == 5) = false from rfl, show ((6 : UInt8) == 8) = false from rfl, show ((6 : UInt8) == 0) = false from rfl, show ((6 : UInt8) == 17) = false from rfl, Bool.false_eq_true, if_false]
      exact h.hat (by rcases q with q | q; exact .inl q; exact .inr (.inl q))
    · have q : r.c.st = 7 ∨ r.c.st = 5 ∨ r.c.st = 6 := by rcases a7 e with q | q; exact .inl q; exact .inr q.2
      rw [tagN (.inl (by rcases q with q | q | q <;> rw [q] <;> rfl))]
      unfold Rd.tagR
      simp only [e, show ((7 : UInt8) == 3) = false from rfl, show ((7 : UInt8) == 5) = false from rfl, show ((7 : UInt8) == 8) = false from rfl, show ((7 : UInt8) == 0) = false from rfl, show ((7 : UInt8) == 17) = false from rfl, Bool.false_eq_true, if_false]
      exact h.hat (by rcases q with q | q | q; exact .inr (.inr (.inl q)); exact .inl q; exact .inr (.inl q))
    · have q := a8 e
      rw [tagN (by rcases q with q | q; exact .inl (by rw [q]; rfl); exact .inr q)]
      unfold Rd.tagR
      simp only [e, show ((8 : UInt8) == 3) = false from rfl, show ((8 : UInt8) == 5) = false from rfl, show ((8 : UInt8) == 8) = true from rfl, Bool.false_eq_true, if_false, if_true]
      split
      · dsimp only; exact onLast_ne _ (k8 e)
      · exact k8 e
  · rw [hc] at e
    rw [noteN (.inl (a14 e))]
    unfold Rd.noteR
    simp only [e, show ((14 : UInt8) == 13) = false from rfl, show ((14 : UInt8) != 0) = true from rfl, Bool.false_eq_true, if_false, if_true]
    simp
  · rw [hc] at e ⊢
    have q := a15 e
    rw [noteN (by rcases q with q | q | q; exact .inl q.1; exact .inr (.inl q.1); exact .inr (.inr q.1))]
    unfold Rd.noteR
    simp only [e, show ((15 : UInt8) == 13) = false from rfl, show ((15 : UInt8) != 0) = true from rfl, Bool.false_eq_true, if_false, if_true]
    simp only [List.length_append, List.length_cons, List.length_nil]
    rcases q with ⟨q1, q2⟩ | ⟨q1, q2⟩ | ⟨q1, q2, q3⟩
    · rw [q2]; exact Nat.zero_le _
    · have := h.d14 q1; omega
    · have := h.d15 q1; omega
/-- .. so the reader never looks where nothing is. -/
theorem good_room {r : Rd} {n : Nat} (h : Good r n) (b : UInt8) : ((plainB r.c b).st = 0 → r.c.st = 15 → 2 ≤ r.data.length) ∧ ((plainB r.c b).st = 5 → r.c.st = 5 → r.attrs ≠ []) ∧ ((plainB r.c b).st = 8 → r.attrs ≠ []) := by
  obtain ⟨a6, a7, a8, a5, a14, a15, a0⟩ := plain_src r.c b h.fm
  refine ⟨fun e e15 => ?_, fun _ e => h.hat (.inl e), fun e => ?_⟩
  · have := h.d15 e15
    rw [a0 e e15] at this
    exact this
  · rcases a8 e with q | q
    · exact h.hat (.inr (.inr (.inl q)))
    · exact h.hat (.inr (.inr (.inr q)))
theorem good_new : Good Rd.new 0 := ⟨rfl, by decide, by decide, by decide, by decide, by decide, by decide, by decide, by decide, by simp [Rd.new]⟩
end Sx

/-
  SxPTok3: tokens of texts, of comments, of the texts of elements of their own.
-/
namespace Sx
open Go

/-- All bytes, one behind the other. -/
def Rd.go : Rd → List UInt8 → Rd
  | r, [] => r
  | r, b :: l => (r.take b).go l
/-- Is all of it taken? -/
def Rd.ok : Rd → List UInt8 → Bool
  | _, [] => true
  | r, b :: l => !((r.take b).c.st == 20) && (r.take b).ok l
theorem go_app : ∀ (l m : List UInt8) (r : Rd), r.go (l ++ m) = (r.go l).go m
  | [], m, r => rfl
  | b :: l, m, r => go_app l m (r.take b)
theorem ok_app : ∀ (l m : List UInt8) (r : Rd), r.ok (l ++ m) = (r.ok l && (r.go l).ok m)
  | [], m, r => rfl
  | b :: l, m, r => by
    show (_ && (r.take b).ok (l ++ m)) = ((_ && (r.take b).ok l) && ((r.take b).go l).ok m)
    rw [ok_app l m (r.take b), Bool.and_assoc]
theorem run_ok : ∀ (l : List UInt8) (r : Rd) (i : Int), r.ok l = true → r.run l i = ({ r.go l with pend := [] }.flush, -1)
  | [], r, i, _ => rfl
  | b :: l, r, i, h => by
    simp only [Rd.ok, Bool.and_eq_true, Bool.not_eq_true'] at h
    unfold Rd.run
    rw [if_neg (by simp [h.1]), run_ok l _ _ h.2]
    rfl
theorem tokAll_ok (l : List UInt8) (h : Rd.new.ok l = true) : tokAll l = ((({ Rd.new.go l with pend := [] } : Rd).flush).out, (Rd.new.go l).c, -1) := by
  unfold tokAll
  rw [run_ok l _ _ h]
  rfl

theorem nameOf_le8 (el : UInt8) : (nameOf el).length ≤ 8 := by
  unfold nameOf
  repeat' split
  all_goals decide
theorem of_cxeqb {a b : Ctx} (h : cxeq a b = true) : a = b := of_cxeq h
/-- Plain text. -/
theorem plain0 (b : UInt8) (h : (b == 60) = false) : plainB (st1 0) b = st1 0 := by
  have := all_u8 (p := fun b => b == 60 || cxeq (plainB (st1 0) b) (st1 0)) (by kernel_rfl) b
  rw [h, Bool.false_or] at this
  exact of_cxeq this
theorem take_text (r : Rd) (b : UInt8) (hc : r.c = st1 0) (h : (b == 60) = false) : r.take b = r.settle [b] := by
  have e := plain0 b h
  unfold Rd.take
  rw [hc, e]
  cases r
  simp only at hc
  subst hc
  rfl
theorem go_text : ∀ (l : List UInt8) (r : Rd), r.c = st1 0 → r.pend = [] → l.all (fun b => !(b == 60)) = true → r.go l = { r with text := r.text ++ l } ∧ r.ok l = true
  | [], r, hc, hp, _ => ⟨by simp [Rd.go], rfl⟩
  | b :: l, r, hc, hp, h => by
    simp only [List.all_cons, Bool.and_eq_true, Bool.not_eq_true'] at h
    have e := take_text r b hc h.1
    obtain ⟨g1, g2⟩ := go_text l (r.settle [b]) hc rfl (by simpa using h.2)
    refine ⟨?_, ?_⟩
    · show (r.take b).go l = _
      rw [e, g1]
      simp [Rd.settle, hp]
    · show (!((r.take b).c.st == 20) && (r.take b).ok l) = true
      rw [e, g2, show (r.settle [b]).c = st1 0 from hc]
      rfl
/-- A text without a < is one text. -/
theorem tok_text (l : List UInt8) (h : l.all (fun b => !(b == 60)) = true) : tokAll l = (if l.isEmpty then [] else [⟨0, [], [], l, true⟩], st1 0, -1) := by
  obtain ⟨g1, g2⟩ := go_text l Rd.new rfl rfl h
  rw [tokAll_ok l g2, g1]
  simp [Rd.new, Rd.flush]

/-- A comment's bytes. -/
theorem plainC (b : UInt8) (h : (b == 45 || b == 62 || b == 33) = false) : plainB (st1 13) b = st1 15 ∧ plainB (st1 15) b = st1 15 ∧ plainB (st1 11) b = st1 16 ∧ plainB (st1 16) b = st1 16 := by
  have := all_u8 (p := fun b => (b == 45 || b == 62 || b == 33) || (cxeq (plainB (st1 13) b) (st1 15) && cxeq (plainB (st1 15) b) (st1 15) && cxeq (plainB (st1 11) b) (st1 16) && cxeq (plainB (st1 16) b) (st1 16))) (by kernel_rfl) b
  rw [h, Bool.false_or] at this
  simp only [Bool.and_eq_true] at this
  exact ⟨of_cxeq this.1.1.1, of_cxeq this.1.1.2, of_cxeq this.1.2, of_cxeq this.2⟩
def noteRd (c : Ctx) (k : UInt8) (d : List UInt8) : Rd := ⟨c, [], [], true, k, [], [], d, []⟩
theorem take_note (s s' : UInt8) (k : UInt8) (d : List UInt8) (b : UInt8) (e : plainB (st1 s) b = st1 s') (hs : (s == 11 || s == 13 || s == 15 || s == 16) = true) (hs' : (s' == 15 || s' == 16) = true) : (noteRd (st1 s) k d).take b = noteRd (st1 s') k (d ++ [b]) := by
  unfold Rd.take noteRd
  rw [e]
  simp only [Bool.or_eq_true, beq_iff_eq] at hs hs'
  rcases hs with ((h | h) | h) | h <;> rcases hs' with h' | h' <;> subst h <;> subst h' <;> rfl
theorem go_note (s s' : UInt8) (k : UInt8) (hs : (s == 11 || s == 13 || s == 15 || s == 16) = true) (hs' : (s' == 15 || s' == 16) = true) (he : ∀ b, (b == 45 || b == 62 || b == 33) = false → plainB (st1 s) b = st1 s' ∧ plainB (st1 s') b = st1 s') :
    ∀ (l : List UInt8) (d : List UInt8), l.all (fun b => !(b == 45 || b == 62 || b == 33)) = true → (noteRd (st1 s) k d).go l = noteRd (st1 (if l.isEmpty then s else s')) k (d ++ l) ∧ (noteRd (st1 s) k d).ok l = true := by
  have h20 : ((st1 s').st == 20) = false := by
    simp only [Bool.or_eq_true, beq_iff_eq] at hs'
    rcases hs' with h | h <;> subst h <;> rfl
  have rest : ∀ (l : List UInt8) (d : List UInt8), l.all (fun b => !(b == 45 || b == 62 || b == 33)) = true → (noteRd (st1 s') k d).go l = noteRd (st1 s') k (d ++ l) ∧ (noteRd (st1 s') k d).ok l = true := by
    intro l
    induction l with
    | nil => intro d _; exact ⟨by simp [Rd.go], rfl⟩
    | cons b l ih =>
      intro d h
      simp only [List.all_cons, Bool.and_eq_true, Bool.not_eq_true'] at h
      have e := take_note s' s' k d b (he b h.1).2 (by simp only [Bool.or_eq_true, beq_iff_eq] at hs' ⊢; rcases hs' with h | h <;> simp [h]) hs'
      obtain ⟨g1, g2⟩ := ih (d ++ [b]) (by simpa using h.2)
      refine ⟨?_, ?_⟩
      · show ((noteRd (st1 s') k d).take b).go l = _
        rw [e, g1]; simp
      · show (!(((noteRd (st1 s') k d).take b).c.st == 20) && ((noteRd (st1 s') k d).take b).ok l) = true
        rw [e, g2, show (noteRd (st1 s') k (d ++ [b])).c = st1 s' from rfl, h20]; rfl
  intro l d h
  cases l with
  | nil => exact ⟨by simp [Rd.go], rfl⟩
  | cons b l =>
    simp only [List.all_cons, Bool.and_eq_true, Bool.not_eq_true'] at h
    have e := take_note s s' k d b (he b h.1).1 hs hs'
    obtain ⟨g1, g2⟩ := rest l (d ++ [b]) (by simpa using h.2)
    refine ⟨?_, ?_⟩
    · show ((noteRd (st1 s) k d).take b).go l = _
      rw [e, g1]; simp
    · show (!(((noteRd (st1 s) k d).take b).c.st == 20) && ((noteRd (st1 s) k d).take b).ok l) = true
      rw [e, g2, show (noteRd (st1 s') k (d ++ [b])).c = st1 s' from rfl, h20]; rfl
theorem take2 (d : List UInt8) (x y : UInt8) : (d ++ [x] ++ [y]).take ((d ++ [x] ++ [y]).length - 2) = d := by simp
/-- The end of a comment. -/
theorem end_comment (s : UInt8) (hs : s = 13 ∨ s = 15) (d : List UInt8) : (noteRd (st1 s) 3 d).go [45, 45, 62] = ⟨st1 0, [], [], false, 0, [], [], [], [⟨3, [], [], d, false⟩]⟩ ∧ (noteRd (st1 s) 3 d).ok [45, 45, 62] = true := by
  have e : (noteRd (st1 s) 3 d).go [45, 45, 62] = ⟨st1 0, [], [], false, 0, [], [], [], [⟨3, [], [], (d ++ [45] ++ [45]).take ((d ++ [45] ++ [45]).length - 2), false⟩]⟩ := by
    rcases hs with rfl | rfl <;> kernel_rfl
  refine ⟨by rw [e, take2], ?_⟩
  rcases hs with rfl | rfl <;> kernel_rfl
theorem tok_comment (t : List UInt8) (h : t.all (fun b => !(b == 45 || b == 62 || b == 33)) = true) : tokAll ([60, 33, 45, 45] ++ t ++ [45, 45, 62]) = ([⟨3, [], [], t, false⟩], st1 0, -1) := by
  have a1 : Rd.new.go [60, 33, 45, 45] = noteRd (st1 13) 3 [] := by rfl
  have a2 : Rd.new.ok [60, 33, 45, 45] = true := by rfl
  obtain ⟨b1, b2⟩ := go_note 13 15 3 rfl rfl (fun b hb => ⟨(plainC b hb).1, (plainC b hb).2.1⟩) t [] h
  obtain ⟨c1, c2⟩ := end_comment (if t.isEmpty then 13 else 15) (by split; exact .inl rfl; exact .inr rfl) ([] ++ t)
  have g : Rd.new.go ([60, 33, 45, 45] ++ t ++ [45, 45, 62]) = ⟨st1 0, [], [], false, 0, [], [], [], [⟨3, [], [], [] ++ t, false⟩]⟩ := by rw [go_app, go_app, a1, b1, c1]
  have o : Rd.new.ok ([60, 33, 45, 45] ++ t ++ [45, 45, 62]) = true := by rw [ok_app, ok_app, go_app, a1, a2, b1, b2, c2]; rfl
  rw [tokAll_ok _ o, g]
  rfl
theorem tok_bogus (t : List UInt8) (h : t.all (fun b => !(b == 45 || b == 62 || b == 33)) = true) : tokAll ([60, 33] ++ t ++ [62]) = ([⟨4, [], [], t, false⟩], st1 0, -1) := by
  have a1 : Rd.new.go [60, 33] = noteRd (st1 11) 4 [] := by rfl
  have a2 : Rd.new.ok [60, 33] = true := by rfl
  obtain ⟨b1, b2⟩ := go_note 11 16 4 rfl rfl (fun b hb => ⟨(plainC b hb).2.2.1, (plainC b hb).2.2.2⟩) t [] h
  have c1 (s : UInt8) (hs : s = 11 ∨ s = 16) (d : List UInt8) : (noteRd (st1 s) 4 d).go [62] = ⟨st1 0, [], [], false, 0, [], [], [], [⟨4, [], [], d, false⟩]⟩ ∧ (noteRd (st1 s) 4 d).ok [62] = true := by
    rcases hs with rfl | rfl <;> exact ⟨rfl, rfl⟩
  obtain ⟨c1, c2⟩ := c1 (if t.isEmpty then 11 else 16) (by split; exact .inl rfl; exact .inr rfl) ([] ++ t)
  have g : Rd.new.go ([60, 33] ++ t ++ [62]) = ⟨st1 0, [], [], false, 0, [], [], [], [⟨4, [], [], [] ++ t, false⟩]⟩ := by rw [go_app, go_app, a1, b1, c1]
  have o : Rd.new.ok ([60, 33] ++ t ++ [62]) = true := by rw [ok_app, ok_app, go_app, a1, a2, b1, b2, c2]; rfl
  rw [tokAll_ok _ o, g]
  rfl
theorem tok_quest (t : List UInt8) (h : t.all (fun b => !(b == 45 || b == 62 || b == 33)) = true) : tokAll ([60, 63] ++ t ++ [62]) = ([⟨4, [], [], 63 :: t, false⟩], st1 0, -1) := by
  have a1 : Rd.new.go [60, 63] = noteRd (st1 16) 4 [63] := by rfl
  have a2 : Rd.new.ok [60, 63] = true := by rfl
  obtain ⟨b1, b2⟩ := go_note 16 16 4 rfl rfl (fun b hb => ⟨(plainC b hb).2.2.2, (plainC b hb).2.2.2⟩) t [63] h
  have c1 (d : List UInt8) : (noteRd (st1 16) 4 d).go [62] = ⟨st1 0, [], [], false, 0, [], [], [], [⟨4, [], [], d, false⟩]⟩ ∧ (noteRd (st1 16) 4 d).ok [62] = true := ⟨rfl, rfl⟩
  obtain ⟨c1, c2⟩ := c1 ([63] ++ t)
  have e16 : (if t.isEmpty = true then (16 : UInt8) else 16) = 16 := by split <;> rfl
  rw [e16] at b1
  have g : Rd.new.go ([60, 63] ++ t ++ [62]) = ⟨st1 0, [], [], false, 0, [], [], [], [⟨4, [], [], [63] ++ t, false⟩]⟩ := by rw [go_app, go_app, a1, b1, c1]
  have o : Rd.new.ok ([60, 63] ++ t ++ [62]) = true := by rw [ok_app, ok_app, go_app, a1, a2, b1, b2, c2]; rfl
  rw [tokAll_ok _ o, g]
  rfl

/-- The text of an element of its own. -/
def rawC (s el : UInt8) (nm : List UInt8) : Ctx := ⟨s, el, false, 0, 0, 0, 0, false, 0, nm⟩
def isEl (el : UInt8) : Prop := el = 1 ∨ el = 2 ∨ el = 3 ∨ el = 4
theorem plainR (el : UInt8) (he : isEl el) (b : UInt8) (h : (b == 47 || b == 33) = false) : plainB (rawC 17 el []) b = rawC (if b == 60 then 18 else 17) el [] ∧ plainB (rawC 18 el []) b = rawC (if b == 60 then 18 else 17) el [] := by
  have key : ([1, 2, 3, 4] : List UInt8).all (fun el => (List.range 256).all fun n => (UInt8.ofNat n == 47 || UInt8.ofNat n == 33) || (cxeq (plainB (rawC 17 el []) (UInt8.ofNat n)) (rawC (if UInt8.ofNat n == 60 then 18 else 17) el []) && cxeq (plainB (rawC 18 el []) (UInt8.ofNat n)) (rawC (if UInt8.ofNat n == 60 then 18 else 17) el []))) = true := by kernel_rfl
  have k2 := List.all_eq_true.1 key el (by rcases he with rfl | rfl | rfl | rfl <;> simp)
  have := all_u8 (p := fun b => (b == 47 || b == 33) || (cxeq (plainB (rawC 17 el []) b) (rawC (if b == 60 then 18 else 17) el []) && cxeq (plainB (rawC 18 el []) b) (rawC (if b == 60 then 18 else 17) el []))) k2 b
  rw [h, Bool.false_or, Bool.and_eq_true] at this
  exact ⟨of_cxeq this.1, of_cxeq this.2⟩
def rawRd (s el : UInt8) (t p : List UInt8) (o : List Tok) : Rd := ⟨rawC s el [], t, p, false, 0, [], [], [], o⟩
theorem go_raw (el : UInt8) (he : isEl el) (o : List Tok) : ∀ (l : List UInt8) (s : UInt8) (t p : List UInt8), s = 17 ∨ s = 18 → l.all (fun b => !(b == 47 || b == 33)) = true →
    ∃ s' t' p', (s' = 17 ∨ s' = 18) ∧ (rawRd s el t p o).go l = rawRd s' el t' p' o ∧ (rawRd s el t p o).ok l = true ∧ t' ++ p' = t ++ p ++ l
  | [], s, t, p, hs, _ => ⟨s, t, p, hs, rfl, rfl, by simp⟩
  | b :: l, s, t, p, hs, h => by
    simp only [List.all_cons, Bool.and_eq_true, Bool.not_eq_true'] at h
    obtain ⟨e1, e2⟩ := plainR el he b h.1
    have e : plainB (rawC s el []) b = rawC (if b == 60 then 18 else 17) el [] := by rcases hs with rfl | rfl; exact e1; exact e2
    have step : ∃ s1 t1 p1, (s1 = 17 ∨ s1 = 18) ∧ (rawRd s el t p o).take b = rawRd s1 el t1 p1 o ∧ t1 ++ p1 = t ++ p ++ [b] := by
      unfold Rd.take rawRd
      simp only [e]
      cases hb : (b == 60) with
      | true =>
        refine ⟨18, t ++ p, [b], .inr rfl, ?_, rfl⟩
        rcases hs with rfl | rfl <;> simp [Rd.take1, Rd.rawR, rawC, Rd.settle]
      | false =>
        refine ⟨17, t ++ p ++ [b], [], .inl rfl, ?_, by simp⟩
        rcases hs with rfl | rfl <;> simp [Rd.take1, Rd.rawR, rawC, Rd.settle]
    obtain ⟨s1, t1, p1, hs1, q1, q2⟩ := step
    obtain ⟨s', t', p', a1, a2, a3, a4⟩ := go_raw el he o l s1 t1 p1 hs1 (by simpa using h.2)
    refine ⟨s', t', p', a1, ?_, ?_, ?_⟩
    · show ((rawRd s el t p o).take b).go l = _
      rw [q1, a2]
    · show (!(((rawRd s el t p o).take b).c.st == 20) && ((rawRd s el t p o).take b).ok l) = true
      rw [q1, a3]
      rcases hs1 with rfl | rfl <;> rfl
    · rw [a4, q2]; simp
theorem end_raw (el : UInt8) (he : isEl el) (s : UInt8) (hs : s = 17 ∨ s = 18) (t p : List UInt8) (o : List Tok) :
    (rawRd s el t p o).go (60 :: 47 :: (nameOf el ++ [62, 120])) = ⟨st1 0, [120], [], false, 0, [], [], [], (if (t ++ p ++ []).isEmpty then o else o ++ [⟨0, [], [], t ++ p ++ [], true⟩]) ++ [⟨2, nameOf el, [], [], false⟩]⟩ ∧ (rawRd s el t p o).ok (60 :: 47 :: (nameOf el ++ [62, 120])) = true := by
  rcases hs with rfl | rfl <;> rcases he with rfl | rfl | rfl | rfl <;> exact ⟨by kernel_rfl, by kernel_rfl⟩
theorem tok_raw (el : UInt8) (he : isEl el) (t : List UInt8) (h : t.all (fun b => !(b == 47 || b == 33)) = true) :
    tokAll ((60 :: (nameOf el ++ [62])) ++ t ++ (60 :: 47 :: (nameOf el ++ [62, 120]))) = ((if t.isEmpty then [⟨1, nameOf el, [], [], false⟩] else [⟨1, nameOf el, [], [], false⟩, ⟨0, [], [], t, true⟩]) ++ [⟨2, nameOf el, [], [], false⟩, ⟨0, [], [], [120], true⟩], st1 0, -1) := by
  have a1 : Rd.new.go (60 :: (nameOf el ++ [62])) = rawRd 17 el [] [] [⟨1, nameOf el, [], [], false⟩] := by rcases he with rfl | rfl | rfl | rfl <;> kernel_rfl
  have a2 : Rd.new.ok (60 :: (nameOf el ++ [62])) = true := by rcases he with rfl | rfl | rfl | rfl <;> kernel_rfl
  obtain ⟨s', t', p', b1, b2, b3, b4⟩ := go_raw el he [⟨1, nameOf el, [], [], false⟩] t 17 [] [] (.inl rfl) h
  obtain ⟨c1, c2⟩ := end_raw el he s' b1 t' p' [⟨1, nameOf el, [], [], false⟩]
  have e : t' ++ p' = t := by rw [b4]; simp
  have g1 := go_app (60 :: (nameOf el ++ [62])) t Rd.new
  have g := go_app ((60 :: (nameOf el ++ [62])) ++ t) (60 :: 47 :: (nameOf el ++ [62, 120])) Rd.new
  rw [g1, a1, b2, c1] at g
  have o : Rd.new.ok ((60 :: (nameOf el ++ [62])) ++ t ++ (60 :: 47 :: (nameOf el ++ [62, 120]))) = true := by rw [ok_app, ok_app, g1, a1, a2, b2, b3, c2]; rfl
  rw [tokAll_ok _ o, g]
  simp only [List.append_nil, e]
  cases t <;> simp [Rd.flush]
end Sx
