/-
  What the functions of chapter 4 compute, and the four laws of chapter 4 on plain data.
-/
import Derived.Test.YtbnblklbfighgaaSxD
import Derived.Test.YtbnblklbfighgaaTxtA
set_option linter.unusedVariables false
set_option linter.unusedSimpArgs false
set_option linter.unusedSectionVars false
set_option linter.unnecessarySimpa false
namespace R1
open Go Go.Proofs Sx

theorem s50 (l : List UInt8) (x : UInt8) : semCall C Try.prog 50 [.s l, .u8 x] = some (.int (idxByte l x)) :=
  semCall_ext (fn := Try.f50) (by kernel_rfl) (by kernel_rfl) (by kernel_rfl) (by
    show (bif (Try.f50.name == "internal/bytealg.IndexByteString") then some (AV.int (idxByte l x)) else none) = _
    rw [show (Try.f50.name == "internal/bytealg.IndexByteString") = true by kernel_rfl]
    rfl)
theorem s47 (l : List UInt8) (x : UInt8) : semCall C Try.prog 47 [.s l, .u8 x] = some (.int (idxByte l x)) := by
  apply c47; simp [X47, s50]
theorem s40 (l : List UInt8) (x : UInt8) : semCall C Try.prog 40 [.s l, .u8 x] = some (.int (idxByte l x)) := by
  apply c40; simp [X40, s47]

def plain : List UInt8 := [97, 98, 99, 100, 101, 102, 103, 104, 105, 106, 107, 108, 109, 110, 111, 112, 113, 114, 115, 116, 117, 118, 119, 120, 121, 122, 65, 66, 67, 68, 69, 70, 71, 72, 73, 74, 75, 76, 77, 78, 79, 80, 81, 82, 83, 84, 85, 86, 87, 88, 89, 90, 48, 49, 50, 51, 52, 53, 54, 55, 56, 57, 45, 46, 95, 126]
def marks : List UInt8 := [33, 35, 36, 38, 40, 41, 42, 43, 44, 47, 58, 59, 61, 63, 64, 91, 93, 37]
def hexd : List UInt8 := [48, 49, 50, 51, 52, 53, 54, 55, 56, 57, 65, 66, 67, 68, 69, 70]
def simple (x : UInt8) : Bool := plain.contains x
/-- How a byte is written in a query, and in a path. -/
def qu (x : UInt8) : List UInt8 := if simple x then [x] else [37, hexd.getD (x.toNat / 16) 0, hexd.getD (x.toNat % 16) 0]
def pu (x : UInt8) : List UInt8 := if marks.contains x then [x] else qu x

theorem s38 (x : UInt8) : semCall C Try.prog 38 [.u8 x] = some (.b (simple x)) := by
  apply c38
  simp only [X38, s40, u8_geq, u8_leq, u8_neq, int_geq, Option.bind_some, selW_and, selW_or]
  congr 2
  revert x
  exact all_u8_eq (by kernel_rfl)
theorem s12 (x : UInt8) : semCall C Try.prog 12 [.u8 x] = some (.ro 1 ((qu x).map .u8)) := by
  apply c12
  simp only [X12, s38, Option.bind_some]
  refine of_isBytes ?_
  revert x
  exact all_u8 (by kernel_rfl)
theorem s14 (x : UInt8) : semCall C Try.prog 14 [.u8 x] = some (.ro 1 ((pu x).map .u8)) := by
  apply c14
  simp only [X14, s40, s12, Option.bind_some]
  refine of_isBytes ?_
  revert x
  exact all_u8 (by kernel_rfl)

theorem l39 (b : UInt8) : ∀ (r p : List UInt8), (p ++ r).length < 4611686018427387904 → F39_2 (semRun C Try.prog 39 Try.f39) (.u8 b) (.s (p ++ r)) (.int (p.length : Int)) = some (.b (r.contains b))
  | [], p, h => by
    apply r39_2
    simp only [X39_2, lenS_s, int_lss, nlt_len, Option.bind_some, condM_b, Bool.false_eq_true, if_false, List.contains_nil]
  | c :: r, p, h => by
    apply r39_2
    simp only [X39_2, lenS_s, int_lss, lt_len, idxS_at, inc_len p c r h, u8_eql, Option.bind_some, condM_b, if_true]
    rw [snoc_app, l39 b r (p ++ [c]) (by rw [← snoc_app]; exact h)]
    rw [List.contains_cons]
    cases hc : c == b with
    | true => simp [eq_of_beq hc]
    | false => 
      have : (b == c) = false := by rw [beq_eq_false_iff_ne] at hc ⊢; exact fun e => hc e.symm
      simp [this]
theorem s39 (b : UInt8) (l : List UInt8) (h : l.length < 4611686018427387904) : semCall C Try.prog 39 [.u8 b, .s l] = some (.b (l.contains b)) := by
  apply c39
  exact l39 b l [] h
theorem s13 (x : UInt8) : semCall C Try.prog 13 [.u8 x] = some (.s (qu x)) := by
  apply c13
  simp only [X13]
  rw [s39 _ _ (by decide)]
  simp only [Option.bind_some]
  refine of_isStr ?_
  revert x
  exact all_u8 (by kernel_rfl)
theorem s15 (x : UInt8) : semCall C Try.prog 15 [.u8 x] = some (.s (pu x)) := by
  apply c15
  simp only [X15, s13]
  rw [s39 _ _ (by decide)]
  simp only [Option.bind_some]
  refine of_isStr ?_
  revert x
  exact all_u8 (by kernel_rfl)

def dig (x : UInt8) : Int := if 48 ≤ x ∧ x ≤ 57 then x.toNat - 48 else if 65 ≤ x ∧ x ≤ 70 then x.toNat - 55 else -1
theorem s21 (x : UInt8) : semCall C Try.prog 21 [.u8 x] = some (.int (dig x)) := by
  apply c21
  refine of_isInt ?_
  revert x
  exact all_u8 (by kernel_rfl)
end R1

namespace R1
open Go Go.Proofs Sx
theorem c16' : semCall C Try.prog 16 [] = some (.b true) := semCall_closed (n := 200) (by kernel_rfl)

section loops
variable (l : List UInt8)
theorem qu_le (x : UInt8) : (qu x).length ≤ 3 := of_decide_eq_true (all_u8 (p := fun x => decide ((qu x).length ≤ 3)) (by kernel_rfl) x)
theorem pu_le (x : UInt8) : (pu x).length ≤ 3 := of_decide_eq_true (all_u8 (p := fun x => decide ((pu x).length ≤ 3)) (by kernel_rfl) x)
theorem flat_le {f : UInt8 → List UInt8} (hf : ∀ x, (f x).length ≤ 3) : ∀ l : List UInt8, (l.flatMap f).length ≤ 3 * l.length
  | [] => Nat.le_refl _
  | x :: r => by
    rw [List.flatMap_cons, List.length_append, List.length_cons]
    have := hf x; have := flat_le hf r
    omega

theorem l17 : ∀ (r p : List UInt8), (p ++ r).length ≤ 8388608 → F17_3 (semRun C Try.prog 17 Try.f17) ((p.flatMap qu).map .u8) (.ro 1 ((p ++ r).map .u8)) (.int (((p ++ r).map AV.u8).length : Int)) (.int (p.length : Int)) = some (.ro 1 (((p ++ r).flatMap qu).map .u8))
  | [], p, h => by
    apply r17_3
    simp only [X17_3, int_lss, nlt_map, Option.bind_some, condM_b, Bool.false_eq_true, if_false, List.append_nil]
  | c :: r, p, h => by
    apply r17_3
    have h1 := flat_le qu_le p
    have h2 := qu_le c
    have h3 : p.length + (r.length + 1) ≤ 8388608 := by simpa using h
    have hb : big = 70368744177664 := rfl
    simp only [X17_3, int_lss, lt_len', Option.bind_some, condM_b, if_true, idx_at, cell_u8, s12]
    rw [app_u8 (by omega)]
    simp only [Option.bind_some]
    rw [inc_len p c r (by omega)]
    simp only [Option.bind_some]
    rw [snoc_app, show p.flatMap qu ++ qu c = (p ++ [c]).flatMap qu by simp]
    exact l17 r (p ++ [c]) (by simpa using h)
theorem s17 (h : l.length ≤ 8388608) : semCall C Try.prog 17 [.ro 1 (l.map .u8)] = some (.ro 1 ((l.flatMap qu).map .u8)) := by
  apply c17
  simp only [X17, lenR_ro, Option.bind_some]
  exact l17 l [] h
theorem l19 : ∀ (r p : List UInt8), (p ++ r).length ≤ 8388608 → F19_3 (semRun C Try.prog 19 Try.f19) ((p.flatMap pu).map .u8) (.ro 1 ((p ++ r).map .u8)) (.int (((p ++ r).map AV.u8).length : Int)) (.int (p.length : Int)) = some (.ro 1 (((p ++ r).flatMap pu).map .u8))
  | [], p, h => by
    apply r19_3
    simp only [X19_3, int_lss, nlt_map, Option.bind_some, condM_b, Bool.false_eq_true, if_false, List.append_nil]
  | c :: r, p, h => by
    apply r19_3
    have h1 := flat_le pu_le p
    have h2 := pu_le c
    have h3 : p.length + (r.length + 1) ≤ 8388608 := by simpa using h
    have hb : big = 70368744177664 := rfl
    simp only [X19_3, int_lss, lt_len', Option.bind_some, condM_b, if_true, idx_at, cell_u8, s14]
    rw [app_u8 (by omega)]
    simp only [Option.bind_some]
    rw [inc_len p c r (by omega)]
    simp only [Option.bind_some]
    rw [snoc_app, show p.flatMap pu ++ pu c = (p ++ [c]).flatMap pu by simp]
    exact l19 r (p ++ [c]) (by simpa using h)
theorem s19 (h : l.length ≤ 8388608) : semCall C Try.prog 19 [.ro 1 (l.map .u8)] = some (.ro 1 ((l.flatMap pu).map .u8)) := by
  apply c19
  simp only [X19, lenR_ro, Option.bind_some]
  exact l19 l [] h
theorem l18 : ∀ (r p : List UInt8), (p ++ r).length ≤ 8388608 → F18_3 (semRun C Try.prog 18 Try.f18) (.ro 1 ((p ++ r).map .u8)) ((p.flatMap qu).map .u8) (.int (p.length : Int)) = some (.s ((p ++ r).flatMap qu))
  | [], p, h => by
    apply r18_3
    have h1 := flat_le qu_le p
    have h3 : p.length ≤ 8388608 := by simpa using h
    have hb : big = 70368744177664 := rfl
    simp only [X18_3, lenR_ro, int_lss, nlt_map, Option.bind_some, condM_b, Bool.false_eq_true, if_false, List.append_nil]
    rw [b2s_u8 (by omega)]
    rfl
  | c :: r, p, h => by
    apply r18_3
    have h1 := flat_le qu_le p
    have h2 := qu_le c
    have h3 : p.length + (r.length + 1) ≤ 8388608 := by simpa using h
    have hb : big = 70368744177664 := rfl
    simp only [X18_3, lenR_ro, int_lss, lt_len', Option.bind_some, condM_b, if_true, idx_at, cell_u8, s13]
    rw [app_s (by omega)]
    simp only [Option.bind_some]
    rw [inc_len p c r (by omega)]
    simp only [Option.bind_some]
    rw [snoc_app, show p.flatMap qu ++ qu c = (p ++ [c]).flatMap qu by simp]
    exact l18 r (p ++ [c]) (by simpa using h)
theorem s18 (h : l.length ≤ 8388608) : semCall C Try.prog 18 [.ro 1 (l.map .u8)] = some (.s (l.flatMap qu)) := by
  apply c18
  exact l18 l [] h
theorem l20 : ∀ (r p : List UInt8), (p ++ r).length ≤ 8388608 → F20_3 (semRun C Try.prog 20 Try.f20) (.ro 1 ((p ++ r).map .u8)) ((p.flatMap pu).map .u8) (.int (p.length : Int)) = some (.s ((p ++ r).flatMap pu))
  | [], p, h => by
    apply r20_3
    have h1 := flat_le pu_le p
    have h3 : p.length ≤ 8388608 := by simpa using h
    have hb : big = 70368744177664 := rfl
    simp only [X20_3, lenR_ro, int_lss, nlt_map, Option.bind_some, condM_b, Bool.false_eq_true, if_false, List.append_nil]
    rw [b2s_u8 (by omega)]
    rfl
  | c :: r, p, h => by
    apply r20_3
    have h1 := flat_le pu_le p
    have h2 := pu_le c
    have h3 : p.length + (r.length + 1) ≤ 8388608 := by simpa using h
    have hb : big = 70368744177664 := rfl
    simp only [X20_3, lenR_ro, int_lss, lt_len', Option.bind_some, condM_b, if_true, idx_at, cell_u8, s15]
    rw [app_s (by omega)]
    simp only [Option.bind_some]
    rw [inc_len p c r (by omega)]
    simp only [Option.bind_some]
    rw [snoc_app, show p.flatMap pu ++ pu c = (p ++ [c]).flatMap pu by simp]
    exact l20 r (p ++ [c]) (by simpa using h)
theorem s20 (h : l.length ≤ 8388608) : semCall C Try.prog 20 [.ro 1 (l.map .u8)] = some (.s (l.flatMap pu)) := by
  apply c20
  exact l20 l [] h
end loops

/-- **PercentTexts.** -/
theorem s4 (l : List UInt8) (h : l.length ≤ 2097152) : semCall C Try.prog 4 [.ro 1 (l.map .u8)] = some (.b true) := by
  apply c4
  have h1 := flat_le qu_le l
  have h2 := flat_le pu_le l
  have hb : big = 70368744177664 := rfl
  simp only [X4, c16', s17 l (by omega), s18 l (by omega), s19 l (by omega), s20 l (by omega), Option.bind_some]
  rw [b2s_u8 (by omega), b2s_u8 (by omega)]
  simp
end R1

namespace R1
open Go Go.Proofs Sx

theorem qu_two (x : UInt8) : (simple x = true ∧ qu x = [x] ∧ x ≠ 37) ∨ ∃ a b, qu x = [37, a, b] ∧ dig a = (x.toNat / 16 : Nat) ∧ dig b = (x.toNat % 16 : Nat) := by
  have h := all_u8 (p := fun x => (simple x && x != 37) || (!simple x && (dig (hexd.getD (x.toNat / 16) 0) == ((x.toNat / 16 : Nat) : Int) && dig (hexd.getD (x.toNat % 16) 0) == ((x.toNat % 16 : Nat) : Int)))) (by kernel_rfl) x
  simp only [Bool.or_eq_true, Bool.and_eq_true, Bool.not_eq_true', beq_iff_eq, bne_iff_ne] at h
  rcases h with ⟨h1, h2⟩ | ⟨h1, h2, h3⟩
  · exact .inl ⟨h1, by simp [qu, h1], h2⟩
  · exact .inr ⟨_, _, by simp only [qu, h1, Bool.false_eq_true, if_false], h2, h3⟩

theorem l3 : ∀ d n : Nat, n + d = 256 → F3_2 (semRun C Try.prog 3 Try.f3) (.int (n : Int)) = some (.b true)
  | 0, n, h => by
    apply r3_2
    simp only [X3_2, int_lss, Option.bind_some, condM_b]
    rw [if_neg (by simp; omega), c16']
    rfl
  | d + 1, n, h => by
    apply r3_2
    have hb : big = 70368744177664 := rfl
    have h1 := qu_le (UInt8.ofNat n)
    have h2 := pu_le (UInt8.ofNat n)
    simp only [X3_2, int_lss, Option.bind_some, condM_b]
    rw [if_pos (by simp; omega), conv_u8_int (by omega)]
    simp only [Option.bind_some, s12, s13, s14, s15]
    rw [b2s_u8 (by omega), b2s_u8 (by omega)]
    simp only [Option.bind_some, s_neq, bne_self_eq_false, selW_or, Bool.or_self, condM_b, Bool.false_eq_true, if_false]
    rw [int_add (by omega) (by omega)]
    exact l3 d (n + 1) (by omega)
/-- **PercentUnits.** -/
theorem s3 : semCall C Try.prog 3 [] = some (.b true) := by
  apply c3
  exact l3 256 0 rfl

def bad (x : UInt8) : Bool := decide (x ≤ 32) || decide (126 < x) || x == 34 || x == 39 || x == 60 || x == 62 || x == 92 || x == 96
theorem l5b : ∀ (r p : List UInt8), (p ++ r).length ≤ 8388608 → (∀ y ∈ r, bad y = false) → F5_18 (semRun C Try.prog 5 Try.f5) (.ro 1 ((p ++ r).map .u8)) (.int (p.length : Int)) = some (.b true)
  | [], p, h, hg => by
    apply r5_18
    simp only [X5_18, lenR_ro, int_lss, nlt_map, Option.bind_some, condM_b, Bool.false_eq_true, if_false, List.append_nil]
  | c :: r, p, h, hg => by
    apply r5_18
    have h3 : p.length + (r.length + 1) ≤ 8388608 := by simpa using h
    simp only [X5_18, lenR_ro, int_lss, lt_len', Option.bind_some, condM_b, if_true, idx_at, cell_u8, u8_leq, u8_gtr, u8_eql, selW_or]
    refine (if_neg ?_).trans ?_
    · have := hg c (by simp)
      unfold bad at this
      rw [this]; simp
    rw [inc_len p c r (by omega)]
    simp only [Option.bind_some]
    rw [snoc_app]
    exact l5b r (p ++ [c]) (by simpa using h) (fun y hy => hg y (by simp [hy]))

theorem l5a : ∀ (r p : List UInt8), (p ++ r).length ≤ 2097152 → F5_6 (semRun C Try.prog 5 Try.f5) (.ro 1 ((p ++ r).map .u8)) (.ro 1 (((p ++ r).flatMap qu).map .u8)) (p.map .u8) (.int ((p.flatMap qu).length : Int)) = some (.b true)
  | [], p, h => by
    apply r5_6
    have hb : big = 70368744177664 := rfl
    have h3 : p.length ≤ 2097152 := by simpa using h
    have h1 := flat_le qu_le p
    have h2 := flat_le pu_le p
    simp only [X5_6, lenR_ro, int_lss, nlt_map, Option.bind_some, condM_b, Bool.false_eq_true, if_false, List.append_nil]
    rw [b2s_u8 (by omega)]
    simp only [Option.bind_some, s_neq, bne_self_eq_false, Bool.false_eq_true, if_false, condM_b, s19 p (by omega)]
    refine l5b (p.flatMap pu) [] (by rw [List.nil_append]; omega) (fun y hy => ?_)
    obtain ⟨x, hx, hy⟩ := List.mem_flatMap.1 hy
    have := all_u8 (p := fun x => (pu x).all fun y => !bad y) (by kernel_rfl) x
    simpa using List.all_eq_true.1 this y hy
  | c :: r, p, h => by
    apply r5_6
    have hb : big = 70368744177664 := rfl
    have h3 : p.length + (r.length + 1) ≤ 2097152 := by simpa using h
    have h1 := flat_le qu_le p
    have h2 := flat_le qu_le r
    have ih := l5a r (p ++ [c]) (by simpa using h)
    rw [← snoc_app] at ih
    rcases qu_two c with ⟨hs, hq, hne⟩ | ⟨a, b, hq, ha, hb'⟩
    · have e : (p ++ c :: r).flatMap qu = p.flatMap qu ++ c :: r.flatMap qu := by simp [hq]
      have e' : ((p ++ [c]).flatMap qu).length = (p.flatMap qu).length + 1 := by simp [hq]
      rw [e] at ih ⊢
      simp only [X5_6, lenR_ro, int_lss, lt_len', Option.bind_some, condM_b, if_true, idx_at, cell_u8, u8_neq, one_u8]
      rw [if_pos (by simpa using hne)]
      rw [show AV.ro 1 [AV.u8 c] = .ro 1 ([c].map .u8) from rfl, app_u8 (by simp; omega)]
      simp only [Option.bind_some]
      rw [int_add (by omega) (by omega)]
      rw [e', Int.natCast_add] at ih
      exact ih
    · have e : (p ++ c :: r).flatMap qu = p.flatMap qu ++ 37 :: a :: b :: r.flatMap qu := by simp [hq]
      have e' : ((p ++ [c]).flatMap qu).length = (p.flatMap qu).length + 3 := by simp [hq]
      rw [e] at ih ⊢
      generalize hQ : p.flatMap qu = Q at *
      generalize hR : r.flatMap qu = R at *
      have i1 : idx 1 (.ro 1 ((Q ++ 37 :: a :: b :: R).map .u8)) (.int ((Q.length : Int) + 1)) = some (.u8 a) := by
        have := idx_at (Q ++ [37]) a (b :: R)
        simpa using this
      have i2 : idx 1 (.ro 1 ((Q ++ 37 :: a :: b :: R).map .u8)) (.int ((Q.length : Int) + 2)) = some (.u8 b) := by
        have := idx_at (Q ++ [37, a]) b R
        simpa using this
      have hx := u8_lt c
      simp only [X5_6, lenR_ro, int_lss, lt_len', Option.bind_some, condM_b, if_true, idx_at, cell_u8, u8_neq, one_u8, bne_self_eq_false, Bool.false_eq_true, if_false]
      have hl : (((Q ++ 37 :: a :: b :: R).map AV.u8).length : Int) = (Q.length : Int) + R.length + 3 := by simp; omega
      rw [hl, int_sub (by omega) (by omega), int_add (by omega) (by omega), int_add (by omega) (by omega)]
      simp only [Option.bind_some, int_lss, i1, i2, cell_u8, s21, ha, hb', selW_or]
      rw [int_mul (by omega) (by omega)]
      simp only [Option.bind_some]
      rw [int_add (by omega) (by omega)]
      simp only [Option.bind_some, condM_b]
      rw [if_neg (by simp; omega)]
      rw [show (((c.toNat / 16 : Nat) : Int) * 16 + ((c.toNat % 16 : Nat) : Int)) = (c.toNat : Int) by omega, conv_u8_int hx]
      simp only [Option.bind_some, one_u8, UInt8.ofNat_toNat]
      rw [show AV.ro 1 [AV.u8 c] = .ro 1 ([c].map .u8) from rfl, app_u8 (by simp; omega)]
      simp only [Option.bind_some]
      rw [int_add (by omega) (by omega)]
      rw [e', Int.natCast_add] at ih
      exact ih
/-- **PercentBack.** -/
theorem s5 (l : List UInt8) (h : l.length ≤ 2097152) : semCall C Try.prog 5 [.ro 1 (l.map .u8)] = some (.b true) := by
  apply c5
  simp only [X5, c16', Option.bind_some, unop_not, condM_b, Bool.not_true, Bool.false_eq_true, if_false, s17 l (by omega)]
  exact l5a l [] h

/-- **PercentSettles.** -/
theorem s6 (l : List UInt8) (n : Nat) (hn : n < 65536) (h : l.length ≤ 2097152) : semCall C Try.prog 6 [.ro 1 (l.map .u8), .ik .u16 (n : Int)] = some (.b true) := by
  apply c6
  have hb : big = 70368744177664 := rfl
  have hp : ∀ x, (pu x).flatMap pu = pu x := fun x => by
    have := all_u8 (p := fun x => (pu x).flatMap pu == pu x) (by kernel_rfl) x
    simpa using this
  have hpp : (l.flatMap pu).flatMap pu = l.flatMap pu := by
    rw [List.flatMap_assoc]
    exact congrArg (fun f => l.flatMap f) (funext hp)
  have hm : n % (l.length + 1) ≤ l.length := by have := Nat.mod_lt n (show 0 < l.length + 1 by omega); omega
  generalize hk : n % (l.length + 1) = k at hm
  have h1 := flat_le qu_le l
  have h2 := flat_le pu_le l
  have a1 := flat_le qu_le (l.take k)
  have a2 := flat_le pu_le (l.take k)
  have b1 := flat_le qu_le (l.drop k)
  have b2 := flat_le pu_le (l.drop k)
  have t1 : (l.take k).length ≤ l.length := by simp; omega
  have t2 : (l.drop k).length ≤ l.length := by simp
  simp only [X6, c16', Option.bind_some, unop_not, condM_b, Bool.not_true, Bool.false_eq_true, if_false, lenR_ro, List.length_map]
  rw [conv_int_ik (by omega) (by omega), int_add (by omega) (by omega)]
  simp only [Option.bind_some]
  rw [show ((l.length : Int) + 1) = ((l.length + 1 : Nat) : Int) by simp, int_rem_nat (by omega), hk]
  simp only [Option.bind_some, s19 l (by omega)]
  rw [b2s_u8 (by omega), s19 _ (by omega), hpp]
  simp only [Option.bind_some]
  rw [b2s_u8 (by omega), slR_hi (by simpa using hm), slR_lo (by simpa using hm), ← List.map_take, ← List.map_drop]
  simp only [Option.bind_some, s_eql]
  rw [s19 _ (by omega), s19 _ (by omega), s17 _ (by omega), s17 _ (by omega), s17 _ (by omega)]
  simp only [Option.bind_some]
  rw [b2s_u8 (by omega), b2s_u8 (by omega), b2s_u8 (by omega), b2s_u8 (by omega), b2s_u8 (by omega)]
  simp only [Option.bind_some]
  rw [s_add (by omega), s_add (by omega)]
  simp only [Option.bind_some, s_eql, ← List.flatMap_append, List.take_append_drop, beq_self_eq_true, selW_and, Bool.and_self]
end R1
