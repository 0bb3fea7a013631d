/-
  What functions of this seat compute, and laws on plain data.
-/
import Derived.Test.YtgjfbalafdifgaaDoorPureA
import Derived.Test.YtgjfbalafdifgaaDoorTxtA
import Derived.Lib.IndexMore
set_option linter.unusedVariables false
set_option linter.unusedSimpArgs false
set_option linter.unusedSectionVars false
set_option linter.unnecessarySimpa false
namespace R3
open Go Go.Proofs Sx

variable {mx : Int}
theorem tup2_0 (a b : AV) : tupI (.tu [a, b]) 0 = some a := rfl
theorem tup2_1 (a b : AV) : tupI (.tu [a, b]) 1 = some b := rfl
theorem lenS_l (l : List UInt8) : lenS (.s l) = some (.int (l.length : Int)) := rfl
theorem gt0 (n : Nat) : binI .gtr (.int ((n + 1 : Nat) : Int)) (.int 0) = some (.b true) := by
  rw [int_gtr]; congr 2; rw [decide_eq_true_eq]; omega
/-- Without such bytes in front. -/
def dropF (b : UInt8) (l : List UInt8) : List UInt8 := l.dropWhile (· == b)
/-- Without such bytes behind. -/
def dropE (b : UInt8) (l : List UInt8) : List UInt8 := (l.reverse.dropWhile (· == b)).reverse
theorem l120 (b : UInt8) : ∀ (l : List UInt8), l.length ≤ 1000000000 → F120_1 (semRun (C mx) Tryd.prog 120 Tryd.f120) (.s l) b = some (.s (dropF b l))
  | [], _ => by
    apply r120_1
    rfl
  | x :: r, h => by
    apply r120_1
    have ih := l120 b r (by simp at h; omega)
    have hi : idxS (.s (x :: r)) (.int 0) = some (.u8 x) := idxS_int (i := 0) (l := x :: r) (by simp)
    have hs : slS (.s (x :: r)) (some (.int 1)) none = some (.s r) := slS_lo (l := x :: r) (i := 1) (by simp)
    simp only [X120_1, lenS_l, List.length_cons, gt0, hi, hs, Option.bind_some, u8_eql, selW_and, Bool.true_and, condM_b]
    unfold dropF
    rw [List.dropWhile_cons]
    cases hx : (x == b) with
    | true => simp only [if_true]; exact ih
    | false => simp only [Bool.false_eq_true, if_false]
theorem s120 (b : UInt8) (l : List UInt8) (h : l.length ≤ 1000000000) : semCall (C mx) Tryd.prog 120 [.s l, .u8 b] = some (.s (dropF b l)) := by
  apply c120
  exact l120 b l h
theorem l121 (b : UInt8) : ∀ (n : Nat) (l : List UInt8), l.length = n → n ≤ 1000000000 → F121_1 (semRun (C mx) Tryd.prog 121 Tryd.f121) (.s l) b = some (.s (dropE b l))
  | 0, l, hn, h => by
    obtain rfl := List.eq_nil_of_length_eq_zero hn
    apply r121_1
    rfl
  | n + 1, l, hn, h => by
    apply r121_1
    obtain ⟨p, x, rfl⟩ : ∃ p x, l = p ++ [x] := by
      rcases List.eq_nil_or_concat l with e | ⟨p, x, e⟩
      · rw [e] at hn; cases hn
      · exact ⟨p, x, by simpa using e⟩
    have hp : p.length = n := by simpa using hn
    have ih := l121 b n p hp (by omega)
    have hl : (p ++ [x]).length = p.length + 1 := by simp
    have hsub : binI .sub (.int ((p.length + 1 : Nat) : Int)) (.int 1) = some (.int (p.length : Int)) := by
      show some (AV.int (w64 _)) = _
      rw [w64_eq (by omega) (by omega)]; congr 2; omega
    have hi : idxS (.s (p ++ [x])) (.int (p.length : Int)) = some (.u8 x) := idxS_at p x []
    have hs : slS (.s (p ++ [x])) none (some (.int (p.length : Int))) = some (.s p) := by
      rw [slS_hi (by simp)]; simp
    simp only [X121_1, lenS_l, hl, gt0, hsub, hi, hs, Option.bind_some, u8_eql, selW_and, Bool.true_and, condM_b]
    unfold dropE
    rw [List.reverse_append, List.reverse_singleton, List.singleton_append, List.dropWhile_cons]
    cases hx : (x == b) with
    | true => simp only [if_true]; exact ih
    | false => simp only [Bool.false_eq_true, if_false]; simp
theorem s121 (b : UInt8) (l : List UInt8) (h : l.length ≤ 1000000000) : semCall (C mx) Tryd.prog 121 [.s l, .u8 b] = some (.s (dropE b l)) := by
  apply c121
  exact l121 b l.length l rfl h
/-- Without blanks in front and behind. -/
def trimW (l : List UInt8) : List UInt8 := dropF 32 (dropE 32 l)
theorem dropE_len (b : UInt8) (l : List UInt8) : (dropE b l).length ≤ l.length := by
  unfold dropE
  have := (List.dropWhile_sublist (p := (· == b)) (l := l.reverse)).length_le
  simpa using this
theorem dropF_len (b : UInt8) (l : List UInt8) : (dropF b l).length ≤ l.length := (List.dropWhile_sublist (p := (· == b)) (l := l)).length_le
theorem trimW_len (l : List UInt8) : (trimW l).length ≤ l.length := Nat.le_trans (dropF_len _ _) (dropE_len _ _)
theorem s99 (l : List UInt8) (h : l.length ≤ 1000000000) : semCall (C mx) Tryd.prog 99 [.s l, .s [32]] = some (.s (trimW l)) := by
  apply c99
  have h1 := s121 (mx := mx) 32 l h
  have h2 := s120 (mx := mx) 32 (dropE 32 l) (Nat.le_trans (dropE_len _ _) h)
  simp only [X99, selW_or, Bool.or_false, Option.bind_some, condM_b, h1, h2]
  cases l with
  | nil => rfl
  | cons x r => rfl
theorem s101 (l : List UInt8) (h : l.length ≤ 1000000000) : semCall (C mx) Tryd.prog 101 [.s l, .s [32]] = some (.s (dropF 32 l)) := by
  apply c101
  have h2 := s120 (mx := mx) 32 l h
  simp only [X101, selW_or, Bool.or_false, Option.bind_some, condM_b, h2]
  cases l with
  | nil => rfl
  | cons x r => rfl
end R3

namespace R3
open Go Go.Proofs Sx

variable {mx : Int}
theorem s83 (l p : List UInt8) : semCall (C mx) Tryd.prog 83 [.s l, .s p] = some (.b (pre p l)) := by
  apply c83
  simp only [X83, Option.bind_some, ge_iff_le]
  by_cases h : p.length ≤ l.length
  · rw [slS_hi h]
    simp [pre, h]
  · have : decide ((p.length : Int) ≤ (l.length : Int)) = false := by simp; omega
    rw [this, selW_tf]
    simp [pre, h]
theorem s59 (l p : List UInt8) : semCall (C mx) Tryd.prog 59 [.s l, .s p] = some (.b (pre p l)) := by
  apply c59
  simp only [X59, s83, Option.bind_some]

theorem s127 (l p : List UInt8) (h : p.length ≤ 1000000000) : semCall (C mx) Tryd.prog 127 [.s l, .s p] = some (.tu [.s (if pre p l then l.drop p.length else l), .b (pre p l)]) := by
  apply c127
  have h1 := s83 (mx := mx) l p
  simp only [X127, h1, Option.bind_some, unop_not, condM_b]
  cases hp : pre p l with
  | false => rfl
  | true =>
    have hle : p.length ≤ l.length := by unfold pre at hp; rw [Bool.and_eq_true, decide_eq_true_eq] at hp; exact hp.1
    rw [slS_lo hle]; rfl
theorem s100 (l p : List UInt8) (h : p.length ≤ 1000000000) : semCall (C mx) Tryd.prog 100 [.s l, .s p] = some (.tu [.s (if pre p l then l.drop p.length else l), .b (pre p l)]) := by
  apply c100
  simp only [X100, s127 l p h, Option.bind_some, tup2_0, tup2_1]
def wayR (l : List UInt8) : Bool := if l == [46] then false else if l == [36] then true else if (splitL (if dollar l then l.drop 2 else l)).all nameB && decide ((splitL (if dollar l then l.drop 2 else l)).length ≤ 8) then dollar l else false
def wayN (l : List UInt8) : AV := if l == [46] then .nils else if l == [36] then .nils else if (splitL (if dollar l then l.drop 2 else l)).all nameB && decide ((splitL (if dollar l then l.drop 2 else l)).length ≤ 8) then .ro 1 ((splitL (if dollar l then l.drop 2 else l)).map .s) else .nils
def wayK (l : List UInt8) : Bool := if l == [46] then true else if l == [36] then true else (splitL (if dollar l then l.drop 2 else l)).all nameB && decide ((splitL (if dollar l then l.drop 2 else l)).length ≤ 8)
theorem wayAV_eq (l : List UInt8) : wayAV l = .tu [.ag [.b (wayR l), wayN l], .b (wayK l)] := by
  unfold wayAV wayR wayN wayK failW
  cases l == [46] with
  | true => rfl
  | false =>
    cases l == [36] with
    | true => rfl
    | false =>
      simp only [Bool.false_eq_true, if_false]
      generalize ((splitL (if dollar l then l.drop 2 else l)).all nameB && decide ((splitL (if dollar l then l.drop 2 else l)).length ≤ 8)) = q
      cases q <;> rfl
theorem s27 (l : List UInt8) (h : l.length ≤ 1000000000) : semCall (C mx) Tryd.prog 27 [.s l] = some (.tu [.ag [.b (wayR l), wayN l], .b (wayK l)]) := by
  rw [← wayAV_eq]
  refine semCall_gv (G := G27) rfl rfl ?_
  show (if l.length ≤ 1000000000 then some (wayAV l) else none) = _
  rw [if_pos h]
def els : List UInt8 := [101, 108, 115, 101]
def endS : List UInt8 := [101, 110, 100]
def flushS : List UInt8 := [102, 108, 117, 115, 104]
def ifS : List UInt8 := [105, 102]
def rangeS : List UInt8 := [114, 97, 110, 103, 101]
/-- What an action's inside is: its kind, its way, is it one? -/
structure Act3 where
  kind : UInt8
  root : Bool
  names : AV
  ok : Bool
def wayW (k : UInt8) (l : List UInt8) : Act3 := ⟨k, wayR l, wayN l, wayK l⟩
def plainW (k : UInt8) (ok : Bool) : Act3 := ⟨k, false, .nils, ok⟩
def actT (s : List UInt8) : Act3 :=
  if s == els then plainW 3 true else if s == endS then plainW 5 true else if s == flushS then plainW 6 true
  else if pre (ifS ++ [32]) s then wayW 2 (dropF 32 (s.drop 3)) else if pre (rangeS ++ [32]) s then wayW 4 (dropF 32 (s.drop 6))
  else if s == ifS || s == rangeS then plainW 0 false else wayW 1 s
def actW (l : List UInt8) : Act3 := actT (trimW l)
def Act3.av (a : Act3) : AV := .tu [.ag [.u8 a.kind, .int 0, .s [], .b a.root, a.names], .b a.ok]
theorem l80 (l : List UInt8) (h : l.length ≤ 1000000000) (k : UInt8) : F80_18 (semRun (C mx) Tryd.prog 80 Tryd.f80) (.s l) k 0 0 [] false .nils = some (wayW k l).av := by
  apply r80_18
  have e (x y : AV) : AV.asAg 2 (.ag [x, y]) = some [x, y] := rfl
  simp only [X80_18, s27 l h, Option.bind_some, tup2_0, tup2_1, e, List.getD_cons_zero, List.getD_cons_succ]
  rfl
theorem s80 (l : List UInt8) (h : l.length ≤ 1000000000) : semCall (C mx) Tryd.prog 80 [.s l] = some (actW l).av := by
  apply c80
  have hs := Nat.le_trans (trimW_len l) h
  have h1 := s99 (mx := mx) l h
  unfold actW
  generalize trimW l = s at hs h1
  have c1 := s100 (mx := mx) s [105, 102, 32] (by decide)
  have c2 := s100 (mx := mx) s [114, 97, 110, 103, 101, 32] (by decide)
  simp only [X80, h1, Option.bind_some, s_eql, condM_b, c1, c2, tup2_0, tup2_1, selW_or]
  unfold actT els endS flushS
  cases s == [101, 108, 115, 101] with
  | true => rfl
  | false =>
    cases s == [101, 110, 100] with
    | true => rfl
    | false =>
      cases s == [102, 108, 117, 115, 104] with
      | true => rfl
      | false =>
        simp only [Bool.false_eq_true, if_false]
        rw [show ifS ++ [32] = [105, 102, 32] from rfl, show rangeS ++ [32] = [114, 97, 110, 103, 101, 32] from rfl, show ifS = [105, 102] from rfl, show rangeS = [114, 97, 110, 103, 101] from rfl]
        cases hp : pre [105, 102, 32] s with
        | true =>
          simp only [if_true]
          have hd : (s.drop 3).length ≤ 1000000000 := by rw [List.length_drop]; omega
          rw [show ([105, 102, 32] : List UInt8).length = 3 from rfl, s101 (mx := mx) (s.drop 3) hd]
          exact l80 (mx := mx) _ (Nat.le_trans (dropF_len _ _) hd) 2
        | false =>
          simp only [Bool.false_eq_true, if_false]
          cases hq : pre [114, 97, 110, 103, 101, 32] s with
          | true =>
            simp only [if_true]
            have hd : (s.drop 6).length ≤ 1000000000 := by rw [List.length_drop]; omega
            rw [show ([114, 97, 110, 103, 101, 32] : List UInt8).length = 6 from rfl, s101 (mx := mx) (s.drop 6) hd]
            exact l80 (mx := mx) _ (Nat.le_trans (dropF_len _ _) hd) 4
          | false =>
            simp only [Bool.false_eq_true, if_false]
            cases hr : (s == [105, 102] || s == [114, 97, 110, 103, 101]) with
            | true => rfl
            | false =>
              simp only [Bool.false_eq_true, if_false]
              exact l80 (mx := mx) s hs 1
end R3

namespace R3
open Go Go.Proofs Sx

variable {mx : Int}
/-- A word of a template. -/
structure Wd where
  kind : UInt8
  at' : Nat
  text : List UInt8
  root : Bool
  names : AV
def Wd.av (w : Wd) : AV := .ag [.u8 w.kind, .int (w.at' : Int), .s w.text, .b w.root, w.names]
def litW (at' : Nat) (t : List UInt8) : Wd := ⟨0, at', t, false, .nils⟩
def actWd (at' : Nat) (a : Act3) : Wd := ⟨a.kind, at', [], a.root, a.names⟩
def brO : List UInt8 := [123, 123]
def brC : List UInt8 := [125, 125]
def idxO (r : List UInt8) : Nat := if Lib.index r brO < 0 then r.length else (Lib.index r brO).toNat
/-- A template's words: those that stand ahead of the first fault; its place, or -1. -/
def wordsF : Nat → List UInt8 → Nat → List Wd → List Wd × Int
  | 0, _, _, acc => (acc, -1)
  | n + 1, r, at', acc =>
    if r.isEmpty then (acc, -1)
    else if 0 < idxO r then wordsF n (r.drop (idxO r)) (at' + idxO r) (acc ++ [litW at' (r.take (idxO r))])
    else if Lib.index r brC < 0 then (acc, (at' : Int))
    else if (actW ((r.take (Lib.index r brC).toNat).drop 2)).ok then wordsF n (r.drop ((Lib.index r brC).toNat + 2)) (at' + ((Lib.index r brC).toNat + 2)) (acc ++ [actWd at' (actW ((r.take (Lib.index r brC).toNat).drop 2))])
    else (acc, (at' : Int))
theorem idxO_le (r : List UInt8) : idxO r ≤ r.length := by
  unfold idxO
  split
  · exact Nat.le_refl _
  · rename_i h
    have := Lib.index_room r brO (by omega)
    have e : (brO.length : Int) = 2 := rfl
    omega
/-- Where an action begins, its end isn't. -/
theorem idxC_ge (r : List UInt8) (h0 : idxO r = 0) (hne : 0 < r.length) (j : Nat) (hj : Lib.index r brC = (j : Int)) : 2 ≤ j := by
  unfold idxO at h0
  split at h0
  · omega
  · rename_i hn
    have hz : Lib.index r brO = 0 := by omega
    rcases Lib.index_spec r brO with ⟨h1, _⟩ | ⟨i, h1, h2, h3, _⟩
    · omega
    · obtain rfl : i = 0 := by omega
      rcases Lib.index_spec r brC with ⟨k1, _⟩ | ⟨k, k1, k2, k3, _⟩
      · omega
      · obtain rfl : k = j := by omega
        unfold Lib.occAt brO at h3
        unfold Lib.occAt brC at k3
        match r, h3, k3 with
        | a :: b :: t, h3, k3 =>
          simp [List.isPrefixOf] at h3
          obtain ⟨rfl, rfl⟩ := h3
          match k, k3 with
          | 0, k3 => simp [List.isPrefixOf] at k3
          | 1, k3 => cases t <;> simp [List.isPrefixOf] at k3
          | k + 2, _ => omega
        | [a], h3, _ => simp [List.isPrefixOf] at h3
        | [], h3, _ => simp [List.isPrefixOf] at h3
theorem sl_act (p r : List UInt8) (j : Nat) (h2 : 2 ≤ j) (hj : j ≤ r.length) : slS (.s (p ++ r)) (some (.int ((p.length + 2 : Nat) : Int))) (some (.int ((p.length + j : Nat) : Int))) = some (.s ((r.take j).drop 2)) := by
  show ((lohi (p ++ r).length (some (.int ((p.length + 2 : Nat) : Int))) (some (.int ((p.length + j : Nat) : Int)))).bind fun q => some (AV.s (((p ++ r).take q.2).drop q.1))) = _
  have h1 : upN (p ++ r).length (.int ((p.length + j : Nat) : Int)) = some (p.length + j) := by
    show (if 0 ≤ ((p.length + j : Nat) : Int) ∧ ((p.length + j : Nat) : Int) ≤ ((p ++ r).length : Int) then some ((p.length + j : Nat) : Int).toNat else none) = _
    rw [if_pos ⟨by omega, by simp; omega⟩]; congr 1
  have h3 : upN (p.length + j) (.int ((p.length + 2 : Nat) : Int)) = some (p.length + 2) := by
    show (if 0 ≤ ((p.length + 2 : Nat) : Int) ∧ ((p.length + 2 : Nat) : Int) ≤ ((p.length + j : Nat) : Int) then some ((p.length + 2 : Nat) : Int).toNat else none) = _
    rw [if_pos ⟨by omega, by omega⟩]; congr 1
  simp only [lohi, h1, h3, Option.bind_some]
  have e1 : (p ++ r).take (p.length + j) = p ++ r.take j := by simp only [List.take_append, Nat.add_sub_cancel_left]; rw [List.take_of_length_le (by omega)]
  rw [e1, ← List.drop_drop, List.drop_left]
theorem tu2_0'' (a b : AV) : tupI (.tu [a, b]) 0 = some a := rfl
theorem s79 (l p : List UInt8) (h : l.length ≤ 1000000000) : semCall (C mx) Tryd.prog 79 [.s l, .s p] = some (.int (Lib.index l p)) := by
  refine semCall_gv (G := G79) rfl rfl ?_
  show (if l.length ≤ 1000000000 then some (AV.int (Lib.index l p)) else none) = _
  rw [if_pos h]
theorem s54 (w : Wd) (acc : List Wd) (h : acc.length ≤ 1000000000) : semCall (C mx) Tryd.prog 54 [w.av, .un, .ag [.ro 5 (acc.map Wd.av)]] = some (.tu [.b true, .ag [.ro 5 ((acc ++ [w]).map Wd.av)]]) := by
  unfold Wd.av
  apply c54
  have hb : big = 70368744177664 := rfl
  have ha : app 64 5 (acc.map Wd.av) (.ro 5 [.ag [.u8 w.kind, .int (w.at' : Int), .s w.text, .b w.root, w.names]]) = some ((acc ++ [w]).map Wd.av) := by
    show ((if 5 = 5 then some [AV.ag [.u8 w.kind, .int (w.at' : Int), .s w.text, .b w.root, w.names]] else none).bind fun q => if ((acc.map Wd.av).length + q.length) * 64 ≤ big then some (acc.map Wd.av ++ q) else none) = _
    rw [if_pos rfl]
    simp only [Option.bind_some, List.length_map, List.length_cons, List.length_nil, hb]
    rw [if_pos (by omega), List.map_append]; rfl
  have ha' : app 64 5 (acc.map Wd.av) (.ro 5 ([.ag [.u8 w.kind, .int (w.at' : Int), .s w.text, .b w.root, w.names]] : List AV)) = some ((acc ++ [w]).map Wd.av) := ha
  unfold Wd.av at ha'
  simp only [X54, ha', Option.bind_some]
theorem sl_mid (p r : List UInt8) (i : Nat) (hi : i ≤ r.length) : slS (.s (p ++ r)) (some (.int (p.length : Int))) (some (.int ((p.length + i : Nat) : Int))) = some (.s (r.take i)) := by
  show ((lohi (p ++ r).length (some (.int (p.length : Int))) (some (.int ((p.length + i : Nat) : Int)))).bind fun q => some (AV.s (((p ++ r).take q.2).drop q.1))) = _
  have h1 : upN (p ++ r).length (.int ((p.length + i : Nat) : Int)) = some (p.length + i) := by
    show (if 0 ≤ ((p.length + i : Nat) : Int) ∧ ((p.length + i : Nat) : Int) ≤ ((p ++ r).length : Int) then some ((p.length + i : Nat) : Int).toNat else none) = _
    rw [if_pos ⟨by omega, by simp; omega⟩]; congr 1
  have h2 : upN (p.length + i) (.int (p.length : Int)) = some p.length := by
    show (if 0 ≤ (p.length : Int) ∧ (p.length : Int) ≤ ((p.length + i : Nat) : Int) then some (p.length : Int).toNat else none) = _
    rw [if_pos ⟨by omega, by omega⟩]; simp
  simp only [lohi, h1, h2, Option.bind_some]
  simp [List.take_append]
theorem sl_rest (p r : List UInt8) : slS (.s (p ++ r)) (some (.int (p.length : Int))) none = some (.s r) := by
  rw [slS_lo (by simp)]; simp
theorem asAg5 (a b c d e : AV) : AV.asAg 5 (.ag [a, b, c, d, e]) = some [a, b, c, d, e] := rfl
theorem asAg1' (a : AV) : AV.asAg 1 (.ag [a]) = some [a] := rfl
theorem l53 : ∀ (n : Nat) (r p : List UInt8) (acc : List Wd), r.length ≤ n → (p ++ r).length ≤ 1000000000 → acc.length ≤ p.length →
    F53_2 (semRun (C mx) Tryd.prog 53 Tryd.f53) (p ++ r) (.int (p.length : Int)) (acc.map Wd.av) = some (.tu [.int (wordsF (n + 1) r p.length acc).2, .ag [.ro 5 ((wordsF (n + 1) r p.length acc).1.map Wd.av)]]) := by
  intro n
  induction n with
  | zero =>
    intro r p acc hr hp ha
    obtain rfl := List.eq_nil_of_length_eq_zero (Nat.le_zero.1 hr)
    apply r53_2
    have : decide ((p.length : Int) < ((p ++ []).length : Int)) = false := by simp
    simp only [X53_2, int_lss, this, Option.bind_some, condM_b, Bool.false_eq_true, if_false]
    rfl
  | succ n ih =>
    intro r p acc hr hp ha
    cases r with
    | nil =>
      apply r53_2
      have : decide ((p.length : Int) < ((p ++ []).length : Int)) = false := by simp
      simp only [X53_2, int_lss, this, Option.bind_some, condM_b, Bool.false_eq_true, if_false]
      rfl
    | cons x r' =>
      obtain ⟨r, hreq⟩ : ∃ r, r = x :: r' := ⟨_, rfl⟩
      rw [← hreq] at hr hp ⊢
      have hne : r.isEmpty = false := by rw [hreq]; rfl
      have hpos : 0 < r.length := by rw [hreq]; simp
      have hrl : r.length ≤ 1000000000 := by simp at hp; omega
      have hpl : p.length + r.length ≤ 1000000000 := by simpa using hp
      have hio := idxO_le r
      have key : F53_6 (semRun (C mx) Tryd.prog 53 Tryd.f53) (p ++ r) (.int (p.length : Int)) (.int (idxO r : Int)) (acc.map Wd.av) = some (.tu [.int (wordsF (n + 1 + 1) r p.length acc).2, .ag [.ro 5 ((wordsF (n + 1 + 1) r p.length acc).1.map Wd.av)]]) := by
        apply r53_6
        rw [wordsF, if_neg (by rw [hne]; decide)]
        by_cases hi : 0 < idxO r
        · have hgt : decide ((0 : Int) < (idxO r : Int)) = true := by rw [decide_eq_true_eq]; omega
          have hadd : binI .add (.int (p.length : Int)) (.int (idxO r : Int)) = some (.int ((p.length + idxO r : Nat) : Int)) := by rw [int_add (by omega) (by omega)]; congr 2
          have hc := s54 (mx := mx) (litW p.length (r.take (idxO r))) acc (by omega)
          have hw : (litW p.length (r.take (idxO r))).av = .ag [.u8 0, .int (p.length : Int), .s (r.take (idxO r)), .b false, .nils] := rfl
          rw [hw] at hc
          have := ih (r.drop (idxO r)) (p ++ r.take (idxO r)) (acc ++ [litW p.length (r.take (idxO r))]) (by rw [List.length_drop]; omega) (by rw [List.append_assoc, List.take_append_drop]; exact hp) (by simp; omega)
          have hlen : (p ++ r.take (idxO r)).length = p.length + idxO r := by simp; omega
          rw [List.append_assoc, List.take_append_drop, hlen] at this
          simp only [X53_6, int_gtr, hgt, hadd, sl_mid p r _ hio, one_int, one_s, hc, tup2_0, tup2_1, asAg1', unop_not, Bool.not_true, Option.bind_some, condM_b, Bool.false_eq_true, if_false, if_true, List.getD_cons_zero, AV.elems]
          rw [if_pos hi]
          exact this
        · have hgt : decide ((0 : Int) < (idxO r : Int)) = false := by rw [decide_eq_false_iff_not]; omega
          rw [if_neg hi]
          have hix := s79 (mx := mx) r [125, 125] hrl
          simp only [X53_6, int_gtr, hgt, sl_rest, hix, int_lss, Option.bind_some, condM_b, Bool.false_eq_true, if_false]
          rw [show ([125, 125] : List UInt8) = brC from rfl]
          by_cases hj : Lib.index r brC < 0
          · rw [if_pos hj, if_pos (by rw [decide_eq_true_eq]; exact hj)]
          · rw [if_neg hj, if_neg (by rw [decide_eq_true_eq]; exact hj)]
            obtain ⟨j, hj'⟩ := Int.eq_ofNat_of_zero_le (show 0 ≤ Lib.index r brC by omega)
            have hroom := Lib.index_room r brC (by omega)
            have e2 : (brC.length : Int) = 2 := rfl
            have hjr : j + 2 ≤ r.length := by omega
            have h2j := idxC_ge r (by omega) hpos j hj'
            rw [hj']
            rw [show ((j : Nat) : Int).toNat = j from rfl]
            have a1 : binI .add (.int (p.length : Int)) (.int 2) = some (.int ((p.length + 2 : Nat) : Int)) := by rw [int_add (by omega) (by omega)]; congr 2
            have a2 : binI .add (.int (p.length : Int)) (.int ((j : Nat) : Int)) = some (.int ((p.length + j : Nat) : Int)) := by rw [int_add (by omega) (by omega)]; congr 2
            have a3 : binI .add (.int ((j : Nat) : Int)) (.int 2) = some (.int ((j + 2 : Nat) : Int)) := by rw [int_add (by omega) (by omega)]; congr 2
            have a4 : binI .add (.int (p.length : Int)) (.int ((j + 2 : Nat) : Int)) = some (.int ((p.length + (j + 2) : Nat) : Int)) := by rw [int_add (by omega) (by omega)]; congr 2
            have hact := s80 (mx := mx) ((r.take j).drop 2) (by simp; omega)
            have hsl := sl_act p r j h2j (by omega)
            have hw : (actW ((r.take j).drop 2)).av = .tu [.ag [.u8 (actW ((r.take j).drop 2)).kind, .int 0, .s [], .b (actW ((r.take j).drop 2)).root, (actW ((r.take j).drop 2)).names], .b (actW ((r.take j).drop 2)).ok] := rfl
            rw [hw] at hact
            have hc := s54 (mx := mx) (actWd p.length (actW ((r.take j).drop 2))) acc (by omega)
            have hw2 : (actWd p.length (actW ((r.take j).drop 2))).av = .ag [.u8 (actW ((r.take j).drop 2)).kind, .int (p.length : Int), .s [], .b (actW ((r.take j).drop 2)).root, (actW ((r.take j).drop 2)).names] := rfl
            rw [hw2] at hc
            have hih := ih (r.drop (j + 2)) (p ++ r.take (j + 2)) (acc ++ [actWd p.length (actW ((r.take j).drop 2))]) (by rw [List.length_drop]; omega) (by rw [List.append_assoc, List.take_append_drop]; exact hp) (by simp; omega)
            have hlen : (p ++ r.take (j + 2)).length = p.length + (j + 2) := by simp; omega
            rw [List.append_assoc, List.take_append_drop, hlen] at hih
            generalize actW ((r.take j).drop 2) = A at *
            simp only [a1, a2, a3, a4, hsl, hact, tup2_0, tup2_1, asAg5, unop_not, Option.bind_some, condM_b, one_int, List.getD_cons_zero, List.getD_cons_succ, hc, asAg1', AV.elems]
            cases hA : A.ok with
            | false => rfl
            | true =>
              simp only [Bool.not_true, Bool.false_eq_true, if_false, if_true]
              exact hih
      apply r53_2
      have hlt : decide ((p.length : Int) < ((p ++ r).length : Int)) = true := by rw [decide_eq_true_eq]; simp; omega
      have hix := s79 (mx := mx) r [123, 123] hrl
      have hsub : binI .sub (.int ((p ++ r).length : Int)) (.int (p.length : Int)) = some (.int (r.length : Int)) := by rw [int_sub (by simp; omega) (by simp; omega)]; congr 2; simp; omega
      simp only [X53_2, int_lss, hlt, sl_rest, hix, hsub, Option.bind_some, condM_b, if_true]
      rw [show ([123, 123] : List UInt8) = brO from rfl]
      unfold idxO at key
      by_cases hi : Lib.index r brO < 0
      · rw [if_pos hi] at key
        rw [if_pos (by rw [decide_eq_true_eq]; exact hi)]
        exact key
      · rw [if_neg hi] at key
        rw [if_neg (by rw [decide_eq_true_eq]; exact hi)]
        rw [Int.toNat_of_nonneg (by omega)] at key
        exact key

/-- The words, and the place of the fault, or -1. -/
def wordsW (l : List UInt8) : List Wd × Int := wordsF (l.length + 1) l 0 []
theorem s53 (l : List UInt8) (h : l.length ≤ 1000000000) : semCall (C mx) Tryd.prog 53 [.s l, .un, .ag [.ro 5 []]] = some (.tu [.int (wordsW l).2, .ag [.ro 5 ((wordsW l).1.map Wd.av)]]) := by
  apply c53
  have := l53 (mx := mx) l.length l [] [] (Nat.le_refl _) (by simpa using h) (by simp)
  exact this
/-- What lex.All answers. -/
def allAV (l : List UInt8) : AV := if l.length > 65536 then .tu [.nils, .int 0, .int 2] else if 0 ≤ (wordsW l).2 then .tu [.nils, .int (wordsW l).2, .int 4] else .tu [.ro 5 ((wordsW l).1.map Wd.av), .int 0, .int 0]
theorem s23 (l : List UInt8) : semCall (C mx) Tryd.prog 23 [.s l] = some (allAV l) := by
  apply c23
  unfold allAV
  by_cases h1 : l.length > 65536
  · rw [if_pos h1]
    have : decide ((l.length : Int) > 65536) = true := by rw [decide_eq_true_eq]; omega
    simp only [X23, this, condM_b, if_true]
  · rw [if_neg h1]
    have hw := s53 (mx := mx) l (by omega)
    have : decide ((l.length : Int) > 65536) = false := by rw [decide_eq_false_iff_not]; omega
    simp only [X23, this, hw, Option.bind_some, condM_b, tup2_0, tup2_1, asAg1', int_geq, List.getD_cons_zero, AV.elems, decide_eq_true_eq, Bool.false_eq_true, if_false]
    split <;> rfl
theorem awakeW : wordsW [123, 123, 120, 125, 125] = ([⟨1, 0, [], false, .ro 1 [.s [120]]⟩], -1) := by kernel_rfl
theorem s22 : semCall (C mx) Tryd.prog 22 [] = some (.b true) := by
  apply c22
  have h := s23 (mx := mx) [123, 123, 120, 125, 125]
  have e : allAV [123, 123, 120, 125, 125] = .tu [.ro 5 [(⟨1, 0, [], false, .ro 1 [.s [120]]⟩ : Wd).av], .int 0, .int 0] := by
    unfold allAV
    rw [awakeW]; rfl
  rw [e] at h
  simp only [X22, h, Option.bind_some]
  rfl
end R3

namespace R3
open Go Go.Proofs Sx

variable {mx : Int}
/-- The words cover the template from here on. -/
def Cov (l : List UInt8) : Nat → Bool → List Wd → Prop
  | a, _, [] => a = l.length
  | a, pv, w :: ws => w.at' = a ∧ ∃ m, 0 < m ∧ a + m ≤ l.length ∧ (w.kind = 0 → w.text = (l.drop a).take m ∧ pv = false) ∧ (w.kind ≠ 0 → w.text = [] ∧ 5 ≤ m ∧ ((l.drop a).take m).take 2 = brO ∧ ((l.drop a).take m).drop (m - 2) = brC) ∧ Cov l (a + m) (w.kind == 0) ws
theorem act_kind (l : List UInt8) (h : (actW l).ok = true) : (actW l).kind ≠ 0 := by
  unfold actW actT at *
  repeat' split at h
  all_goals first
    | (simp_all [plainW, wayW]; done)
    | (cases h)
  all_goals simp_all [plainW, wayW]
theorem act_nil : (actW []).ok = false := by kernel_rfl
theorem idxO_pre (r : List UInt8) (h0 : idxO r = 0) (hne : 0 < r.length) : r.take 2 = brO := by
  unfold idxO at h0
  split at h0
  · omega
  · rename_i hn
    rcases Lib.index_spec r brO with ⟨h1, _⟩ | ⟨i, h1, h2, h3, _⟩
    · omega
    · obtain rfl : i = 0 := by omega
      have := (Lib.occAt_iff_take r brO 0 (by have := Lib.index_room r brO (by omega); have e : (brO.length : Int) = 2 := rfl; have e' : brO.length = 2 := rfl; omega)).symm.trans h3
      simpa [brO] using eq_of_beq this
theorem idxO_next (r : List UInt8) : r.drop (idxO r) = [] ∨ idxO (r.drop (idxO r)) = 0 := by
  unfold idxO
  split
  · left; simp
  · rename_i hn
    rcases Lib.index_spec r brO with ⟨h1, _⟩ | ⟨i, h1, h2, h3, _⟩
    · omega
    · right
      rw [h1, show ((i : Nat) : Int).toNat = i from rfl]
      have : Lib.index (r.drop i) brO = 0 := by
        have := Lib.index_first (s := r.drop i) (sub := brO) (i := 0) (by omega) (by simpa [Lib.occAt] using h3) (fun j hj => by omega)
        exact this
      rw [this]; rfl
theorem words_cov : ∀ (n : Nat) (r p : List UInt8) (acc : List Wd) (pv : Bool), r.length < n → (pv = true → r = [] ∨ idxO r = 0) → (wordsF n r p.length acc).2 < 0 → ∃ ws, (wordsF n r p.length acc).1 = acc ++ ws ∧ Cov (p ++ r) p.length pv ws := by
  intro n
  induction n with
  | zero => intro r p acc pv hr; omega
  | succ n ih =>
    intro r p acc pv hr hpv h
    unfold wordsF at h ⊢
    by_cases he : r.isEmpty = true
    · have he' : r = [] := by simpa using he
      subst he'
      exact ⟨[], by simp, by simp [Cov]⟩
    · rw [if_neg he] at h ⊢
      have hne : r ≠ [] := by simpa using he
      have hpos : 0 < r.length := List.length_pos_iff.2 hne
      have hio := idxO_le r
      have hdrop : (p ++ r).drop p.length = r := List.drop_left
      by_cases hi : 0 < idxO r
      · rw [if_pos hi] at h ⊢
        have hlen : (p ++ r.take (idxO r)).length = p.length + idxO r := by simp; omega
        have key := ih (r.drop (idxO r)) (p ++ r.take (idxO r)) (acc ++ [litW p.length (r.take (idxO r))]) true (by rw [List.length_drop]; omega) (fun _ => idxO_next r) (by rw [hlen]; exact h)
        rw [hlen, List.append_assoc, List.take_append_drop] at key
        obtain ⟨ws, k1, k2⟩ := key
        rw [List.append_assoc] at k1
        have hpf : pv = false := by
          cases pv with
          | false => rfl
          | true => rcases hpv rfl with e | e
                    · exact absurd e hne
                    · omega
        refine ⟨litW p.length (r.take (idxO r)) :: ws, by rw [k1]; rfl, rfl, idxO r, hi, by simp; omega, fun _ => ⟨by rw [hdrop]; rfl, hpf⟩, fun e => absurd rfl e, k2⟩
      · rw [if_neg hi] at h ⊢
        by_cases hj : Lib.index r brC < 0
        · rw [if_pos hj] at h; exfalso; simp only at h; omega
        · rw [if_neg hj] at h ⊢
          by_cases hok : (actW ((r.take (Lib.index r brC).toNat).drop 2)).ok = true
          · rw [if_pos hok] at h ⊢
            obtain ⟨j, hj'⟩ := Int.eq_ofNat_of_zero_le (show 0 ≤ Lib.index r brC by omega)
            have hroom := Lib.index_room r brC (by omega)
            have e2 : (brC.length : Int) = 2 := rfl
            have h2j := idxC_ge r (by omega) hpos j hj'
            rw [hj', show ((j : Nat) : Int).toNat = j from rfl] at h hok ⊢
            have hlen : (p ++ r.take (j + 2)).length = p.length + (j + 2) := by simp; omega
            have key := ih (r.drop (j + 2)) (p ++ r.take (j + 2)) (acc ++ [actWd p.length (actW ((r.take j).drop 2))]) false (by rw [List.length_drop]; omega) (fun e => by cases e) (by rw [hlen]; exact h)
            rw [hlen, List.append_assoc, List.take_append_drop] at key
            obtain ⟨ws, k1, k2⟩ := key
            rw [List.append_assoc] at k1
            have hk := act_kind _ hok
            have h3 : 3 ≤ j := by
              rcases Nat.lt_or_ge 2 j with q | q
              · exact q
              · obtain rfl : j = 2 := by omega
                have : (r.take 2).drop 2 = [] := by simp
                rw [this, act_nil] at hok; cases hok
            have hk0 : ((actWd p.length (actW ((r.take j).drop 2))).kind == 0) = false := by rw [beq_eq_false_iff_ne]; exact hk
            refine ⟨actWd p.length (actW ((r.take j).drop 2)) :: ws, by rw [k1]; rfl, rfl, j + 2, by omega, by simp; omega, fun e => absurd e hk, fun _ => ⟨rfl, by omega, ?_, ?_⟩, by rw [hk0]; exact k2⟩
            · rw [hdrop, List.take_take, show min 2 (j + 2) = 2 by omega]
              exact idxO_pre r (by omega) hpos
            · rw [hdrop, show j + 2 - 2 = j by omega]
              rcases Lib.index_spec r brC with ⟨q1, _⟩ | ⟨i, q1, q2, q3, _⟩
              · omega
              · obtain rfl : i = j := by omega
                have := (Lib.occAt_iff_take r brC i (by have e' : brC.length = 2 := rfl; omega)).symm.trans q3
                have := eq_of_beq this
                rw [show brC.length = 2 from rfl] at this
                rw [List.drop_take, show i + 2 - i = 2 by omega]
                exact this
          · rw [if_neg hok] at h; exfalso; simp only at h; omega
theorem wordsW_cov (l : List UInt8) (h : (wordsW l).2 < 0) : Cov l 0 false (wordsW l).1 := by
  obtain ⟨ws, k1, k2⟩ := words_cov (l.length + 1) l [] [] false (by omega) (fun e => by cases e) h
  have e : (wordsW l).1 = ws := k1
  rw [e]; exact k2
end R3

namespace R3
open Go Go.Proofs Sx

variable {mx : Int}
theorem wd_cell0 (w : Wd) : AV.cell w.av 0 = .u8 w.kind := rfl
theorem wd_cell1 (w : Wd) : AV.cell w.av 1 = .int (w.at' : Int) := rfl
theorem wd_cell2 (w : Wd) : AV.cell w.av 2 = .s w.text := rfl
theorem idx5 (p : List AV) (x : AV) (r : List AV) : idx 5 (.ro 5 (p ++ x :: r)) (.int (p.length : Int)) = some x := by
  show (if 5 = 5 then (inN (p ++ x :: r).length (.int (p.length : Int))).bind fun n => some ((p ++ x :: r).getD n .un) else none) = _
  rw [if_pos rfl, inN_int (by simp)]
  simp
theorem idxW (p : List Wd) (x : Wd) (r : List Wd) : idx 5 (.ro 5 ((p ++ x :: r).map Wd.av)) (.int (p.length : Int)) = some x.av := by
  have := idx5 (p.map Wd.av) x.av (r.map Wd.av)
  simpa using this
theorem Cov.len {l : List UInt8} : ∀ (ws : List Wd) (a : Nat) (pv : Bool), Cov l a pv ws → a + ws.length ≤ l.length
  | [], a, pv, h => by have h : a = l.length := h; simp [h]
  | w :: ws, a, pv, h => by
    obtain ⟨_, m, h1, h2, _, _, h5⟩ := h
    have := Cov.len ws _ _ h5
    simp only [List.length_cons]
    omega
theorem s_ne_self (x : List UInt8) : binS .neq (.s x) (.s x) = some (.b false) := by simp [binS, strOp]
theorem sl_piece (l : List UInt8) (a m : Nat) (h : a + m ≤ l.length) : slS (.s l) (some (.int (a : Int))) (some (.int ((a + m : Nat) : Int))) = some (.s ((l.drop a).take m)) := by
  have e : l = l.take a ++ l.drop a := (List.take_append_drop a l).symm
  have := sl_mid (l.take a) (l.drop a) m (by rw [List.length_drop]; omega)
  rw [← e] at this
  have hl : (l.take a).length = a := by simp; omega
  rw [hl] at this
  exact this
theorem l4 (l : List UInt8) (hl : l.length ≤ 1000000000) : ∀ (ws pre : List Wd) (a : Nat) (pv : Bool), Cov l a pv ws → (pre = [] → a = 0) → (∀ q w0, pre = q ++ [w0] → pv = (w0.kind == 0)) → pre.length ≤ a →
    F4_7 (semRun (C mx) Tryd.prog 4 Tryd.f4) l (.ro 5 ((pre ++ ws).map Wd.av)) (pre.length : Int) = some (.b true)
  | [], pre, a, pv, h, h0, hp, hpa => by
    apply r4_7
    have h : a = l.length := h
    have e : decide ((pre.length : Int) < (((pre ++ []).map Wd.av).length : Int)) = false := by simp
    simp only [X4_7, lenR_ro, int_lss, e, Option.bind_some, condM_b, Bool.false_eq_true, if_false, int_gtr, selW_or]
    cases pre with
    | nil =>
      have : l = [] := List.eq_nil_of_length_eq_zero (by rw [← h]; exact h0 rfl)
      rw [this]; rfl
    | cons w q =>
      have : decide ((0 : Int) < (((w :: q ++ []).map Wd.av).length : Int)) = true := by rw [decide_eq_true_eq]; simp <;> omega
      rw [this]; rfl
  | w :: ws, pre, a, pv, h, h0, hp, hpa => by
    have hcl := Cov.len _ _ _ h
    obtain ⟨ha, m, h1, h2, h3, h4, h5⟩ := h
    have hcl' : a + (ws.length + 1) ≤ l.length := by simpa using hcl
    have ih := l4 l hl ws (pre ++ [w]) (a + m) (w.kind == 0) h5 (fun e => by simp at e) (fun q w0 e => by have := List.append_inj_right' e rfl; simp at this; rw [this]) (by simp <;> omega)
    have hw' : w64 ((pre.length : Int) + 1) = ((pre ++ [w]).length : Int) := by rw [w64_eq (by omega) (by omega)]; simp
    have e1 : pre ++ w :: ws = (pre ++ [w]) ++ ws := by simp
    have hix := idxW pre w ws
    have hlt : decide ((pre.length : Int) < (((pre ++ w :: ws).map Wd.av).length : Int)) = true := by rw [decide_eq_true_eq]; simp; omega
    have key : F4_13 (semRun (C mx) Tryd.prog 4 Tryd.f4) l (.ro 5 ((pre ++ w :: ws).map Wd.av)) (pre.length : Int) (.int (w.at' : Int)) (.int ((a + m : Nat) : Int)) = some (.b true) := by
      apply r4_13
      have k8 : F4_8 (semRun (C mx) Tryd.prog 4 Tryd.f4) l (.ro 5 ((pre ++ w :: ws).map Wd.av)) (pre.length : Int) = some (.b true) := by
        apply r4_8
        simp only [X4_8, hw']
        rw [e1]; exact ih
      rw [ha]
      have c0 : (((pre.length : Int) == 0) && ((a : Int) != 0)) = false := by
        cases pre with
        | nil => rw [h0 rfl]; rfl
        | cons x q =>
          have : (((x :: q).length : Int) == 0) = false := by rw [beq_eq_false_iff_ne]; simp; omega
          rw [this]; rfl
      have c1 : decide ((a : Int) < 0) = false := by rw [decide_eq_false_iff_not]; omega
      have c2 : decide (((a + m : Nat) : Int) ≤ (a : Int)) = false := by rw [decide_eq_false_iff_not]; omega
      have c3 : decide ((l.length : Int) < ((a + m : Nat) : Int)) = false := by rw [decide_eq_false_iff_not]; omega
      have hpl : ((l.drop a).take m).length = m := by simp; omega
      simp only [X4_13, int_neq, int_lss, int_geq, int_gtr, c1, c2, c3, c0, Option.bind_some, selW_and, selW_or, Bool.or_self, condM_b, Bool.false_eq_true, if_false, sl_piece l a m h2, hix, wd_cell0, wd_cell2, u8_eql]
      by_cases hk : w.kind = 0
      · obtain ⟨t1, t2⟩ := h3 hk
        have hk' : (w.kind == 0) = true := by simpa using hk
        simp only [hk', if_true, t1, s_ne_self, Option.bind_some]
        rcases List.eq_nil_or_concat pre with q | ⟨q, w0, e⟩
        · subst q
          simp only [List.length_nil, show decide (((0 : Nat) : Int) > 0) = false from rfl, selW_tf, Option.bind_some, selW_or, Bool.or_self, condM_b, Bool.false_eq_true, if_false]
          exact k8
        · have e : pre = q ++ [w0] := by simpa using e
          have hpos : decide ((pre.length : Int) > 0) = true := by rw [e]; simp
          have hpv := hp q w0 e
          rw [t2] at hpv
          have hi0 : idx 5 (.ro 5 ((pre ++ w :: ws).map Wd.av)) (.int (w64 ((pre.length : Int) - 1))) = some w0.av := by
            rw [w64_eq (by omega) (by omega), show ((pre.length : Int) - 1) = (q.length : Int) by rw [e]; simp]
            have := idxW q w0 (w :: ws)
            rw [e]
            simpa using this
          simp only [hpos, hi0, wd_cell0, u8_eql, ← hpv, Option.bind_some, selW_and, Bool.and_false, selW_or, Bool.or_self, condM_b, Bool.false_eq_true, if_false]
          exact k8
      · obtain ⟨t1, t2, t3, t4⟩ := h4 hk
        have hk' : (w.kind == 0) = false := by simpa using hk
        have d1 : decide (((((l.drop a).take m).length : Nat) : Int) < 5) = false := by rw [hpl, decide_eq_false_iff_not]; omega
        have d2 : slS (.s ((l.drop a).take m)) none (some (.int 2)) = some (.s brO) := by
          have := slS_hi (l := (l.drop a).take m) (i := 2) (by rw [hpl]; omega)
          rw [t3] at this; exact this
        have d3 : binI .sub (.int ((((l.drop a).take m).length : Nat) : Int)) (.int 2) = some (.int ((m - 2 : Nat) : Int)) := by rw [hpl, int_sub (by omega) (by omega)]; congr 2; omega
        have d4 : slS (.s ((l.drop a).take m)) (some (.int ((m - 2 : Nat) : Int))) none = some (.s brC) := by
          have := slS_lo (l := (l.drop a).take m) (i := m - 2) (by rw [hpl]; omega)
          rw [t4] at this; exact this
        simp only [hk', Bool.false_eq_true, if_false, lenS_l, int_lss, d1, d2, d3, d4, t1, Option.bind_some]
        rw [show ([123, 123] : List UInt8) = brO from rfl, show ([125, 125] : List UInt8) = brC from rfl]
        simp only [s_ne_self, Option.bind_some, selW_or, Bool.or_self, condM_b, Bool.false_eq_true, if_false]
        exact k8
    apply r4_7
    simp only [X4_7, lenR_ro, int_lss, hlt, hix, Option.bind_some, condM_b, if_true, wd_cell1]
    cases ws with
    | nil =>
      have hn : decide (w64 ((pre.length : Int) + 1) < (((pre ++ [w]).map Wd.av).length : Int)) = false := by rw [hw', decide_eq_false_iff_not]; simp
      have h5 : a + m = l.length := h5
      simp only [hn, Bool.false_eq_true, if_false]
      rw [h5] at key
      exact key
    | cons w2 ws2 =>
      have hn : decide (w64 ((pre.length : Int) + 1) < (((pre ++ w :: w2 :: ws2).map Wd.av).length : Int)) = true := by rw [hw', decide_eq_true_eq]; simp; omega
      have hi2 : idx 5 (.ro 5 ((pre ++ w :: w2 :: ws2).map Wd.av)) (.int (w64 ((pre.length : Int) + 1))) = some w2.av := by
        rw [hw']
        have := idxW (pre ++ [w]) w2 ws2
        simpa using this
      have h6 : w2.at' = a + m := h5.1
      simp only [hn, if_true, hi2, Option.bind_some, wd_cell1]
      rw [h6]
      exact key
theorem law4 (l : List UInt8) : semCall (C mx) Tryd.prog 4 [.s l] = some (.b true) := by
  apply c4
  have hA := s23 (mx := mx) l
  have t30 (a b c : AV) : tupI (.tu [a, b, c]) 0 = some a := rfl
  have t31 (a b c : AV) : tupI (.tu [a, b, c]) 1 = some b := rfl
  have t32 (a b c : AV) : tupI (.tu [a, b, c]) 2 = some c := rfl
  unfold allAV at hA
  by_cases h1 : l.length > 65536
  · rw [if_pos h1] at hA
    simp only [X4, s22 (mx := mx), Option.bind_some, unop_not, Bool.not_true, condM_b, Bool.false_eq_true, if_false, hA, t30, t31, t32]
    rfl
  · rw [if_neg h1] at hA
    by_cases h2 : 0 ≤ (wordsW l).2
    · rw [if_pos h2] at hA
      simp only [X4, s22 (mx := mx), Option.bind_some, unop_not, Bool.not_true, condM_b, Bool.false_eq_true, if_false, hA, t30, t31, t32]
      rfl
    · rw [if_neg h2] at hA
      simp only [X4, s22 (mx := mx), Option.bind_some, unop_not, Bool.not_true, condM_b, Bool.false_eq_true, if_false, hA, t30, t31, t32, int_neq, bne_self_eq_false]
      exact l4 (mx := mx) l (by omega) (wordsW l).1 [] 0 false (wordsW_cov l (by omega)) (fun _ => rfl) (fun q w0 e => by simp at e) (Nat.le_refl _)
end R3

namespace R3
open Go Go.Proofs Sx

variable {mx : Int}
/-- The names of a way: none, or a list of strings. -/
def NmOk (v : AV) : Prop := v = .nils ∨ ∃ l : List (List UInt8), v = .ro 1 (l.map .s) ∧ l.length ≤ 1000000000
theorem idxN (p : List (List UInt8)) (x : List UInt8) (r : List (List UInt8)) : idx 1 (.ro 1 ((p ++ x :: r).map .s)) (.int (p.length : Int)) = some (.s x) := by
  show (if 1 = 1 then (inN ((p ++ x :: r).map AV.s).length (.int (p.length : Int))).bind fun n => some (((p ++ x :: r).map AV.s).getD n .un) else none) = _
  rw [if_pos rfl, inN_int (by simp)]
  simp
theorem l31 (b : Bool) : ∀ (r p : List (List UInt8)), (p ++ r).length ≤ 1000000000 → F31_4 (semRun (C mx) Tryd.prog 31 Tryd.f31) (p.length : Int) b (.ro 1 ((p ++ r).map .s)) b (.ro 1 ((p ++ r).map .s)) = some (.b true)
  | [], p, h => by
    apply r31_4
    have e : decide ((p.length : Int) < (((p ++ []).map AV.s).length : Int)) = false := by simp
    simp only [X31_4, lenR_ro, int_lss, e, Option.bind_some, condM_b, Bool.false_eq_true, if_false]
  | x :: r, p, h => by
    apply r31_4
    have hl : p.length + (r.length + 1) ≤ 1000000000 := by simpa using h
    have ih := l31 b r (p ++ [x]) (by simp; omega)
    have hw : w64 ((p.length : Int) + 1) = ((p ++ [x]).length : Int) := by rw [w64_eq (by omega) (by omega)]; simp
    have e1 : p ++ x :: r = (p ++ [x]) ++ r := by simp
    have hlt : decide ((p.length : Int) < (((p ++ x :: r).map AV.s).length : Int)) = true := by rw [decide_eq_true_eq]; simp; omega
    have hc : AV.cell (.s x) 0 = .s x := rfl
    simp only [X31_4, lenR_ro, int_lss, hlt, idxN, hc, s_ne_self, Option.bind_some, condM_b, Bool.false_eq_true, if_false, if_true, hw]
    rw [e1]
    exact ih
theorem s31 (b : Bool) (v : AV) (h : NmOk v) : semCall (C mx) Tryd.prog 31 [.ag [.b b, v], .ag [.b b, v]] = some (.b true) := by
  apply c31
  have hb : (b != b) = false := by simp
  rcases h with rfl | ⟨l, rfl, hl⟩
  · have e0 : lenR .nils = some (.int 0) := rfl
    simp only [X31, hb, e0, int_neq, bne_self_eq_false, Option.bind_some, selW_or, Bool.or_false, condM_b, Bool.false_eq_true, if_false]
    apply r31_4
    simp only [X31_4, e0, int_lss, Option.bind_some]
    rfl
  · simp only [X31, hb, lenR_ro, int_neq, bne_self_eq_false, Option.bind_some, selW_or, Bool.or_false, condM_b, Bool.false_eq_true, if_false]
    exact l31 (mx := mx) b l [] (by simpa using hl)
theorem s57 (w : Wd) (h : NmOk w.names) : semCall (C mx) Tryd.prog 57 [w.av, w.av] = some (.b true) := by
  unfold Wd.av
  apply c57
  have h1 := s31 (mx := mx) w.root w.names h
  have e1 : ueq w.kind w.kind = true := by simp [ueq]
  have e2 : ((w.at' : Int) == (w.at' : Int)) = true := by simp
  have e3 : (w.text == w.text) = true := by simp
  simp only [X57, e1, e2, e3, h1, selW_and, Bool.and_true, Option.bind_some]
theorem wd_cells (w : Wd) : AV.ag [AV.cell w.av 0, AV.cell w.av 1, AV.cell w.av 2, AV.cell w.av 3, AV.cell w.av 4] = w.av := rfl
theorem l25 : ∀ (r p : List Wd), (p ++ r).length ≤ 1000000000 → (∀ w ∈ r, NmOk w.names) → F25_4 (semRun (C mx) Tryd.prog 25 Tryd.f25) (.ro 5 ((p ++ r).map Wd.av)) (.ro 5 ((p ++ r).map Wd.av)) (p.length : Int) = some (.b true)
  | [], p, h, hn => by
    apply r25_4
    have e : decide ((p.length : Int) < (((p ++ []).map Wd.av).length : Int)) = false := by simp
    simp only [X25_4, lenR_ro, int_lss, e, Option.bind_some, condM_b, Bool.false_eq_true, if_false]
  | x :: r, p, h, hn => by
    apply r25_4
    have hl : p.length + (r.length + 1) ≤ 1000000000 := by simpa using h
    have ih := l25 r (p ++ [x]) (by simp; omega) (fun w hw => hn w (List.mem_cons_of_mem _ hw))
    have hw : w64 ((p.length : Int) + 1) = ((p ++ [x]).length : Int) := by rw [w64_eq (by omega) (by omega)]; simp
    have e1 : p ++ x :: r = (p ++ [x]) ++ r := by simp
    have hlt : decide ((p.length : Int) < (((p ++ x :: r).map Wd.av).length : Int)) = true := by rw [decide_eq_true_eq]; simp; omega
    have hc := s57 (mx := mx) x (hn x (List.mem_cons_self ..))
    simp only [X25_4, lenR_ro, int_lss, hlt, idxW, wd_cells, hc, unop_not, Bool.not_true, Option.bind_some, condM_b, Bool.false_eq_true, if_false, if_true, hw]
    rw [e1]
    exact ih
theorem s25 (l : List Wd) (hl : l.length ≤ 1000000000) (h : ∀ w ∈ l, NmOk w.names) : semCall (C mx) Tryd.prog 25 [.ro 5 (l.map Wd.av), .ro 5 (l.map Wd.av)] = some (.b true) := by
  apply c25
  simp only [X25, lenR_ro, int_neq, bne_self_eq_false, Option.bind_some, condM_b, Bool.false_eq_true, if_false]
  exact l25 (mx := mx) l [] (by simpa using hl) h
theorem s25n : semCall (C mx) Tryd.prog 25 [.nils, .nils] = some (.b true) := by
  apply c25
  have e0 : lenR .nils = some (.int 0) := rfl
  simp only [X25, e0, int_neq, bne_self_eq_false, Option.bind_some, condM_b, Bool.false_eq_true, if_false]
  apply r25_4
  simp only [X25_4, e0, int_lss, Option.bind_some]
  rfl
theorem wayN_ok (l : List UInt8) : NmOk (wayN l) := by
  unfold wayN
  split
  · exact Or.inl rfl
  · split
    · exact Or.inl rfl
    · generalize (if dollar l then l.drop 2 else l) = q
      split
      · rename_i h
        refine Or.inr ⟨_, rfl, ?_⟩
        simp only [Bool.and_eq_true, decide_eq_true_eq] at h
        omega
      · exact Or.inl rfl
theorem actW_nm (l : List UInt8) : NmOk (actW l).names := by
  unfold actW actT
  repeat' split
  all_goals first
    | exact Or.inl rfl
    | exact wayN_ok _
/-- Blanks don't tell. -/
theorem dropF_rep (b : UInt8) (n : Nat) (l : List UInt8) : dropF b (List.replicate n b ++ l) = dropF b l := by
  unfold dropF
  induction n with
  | zero => rfl
  | succ n ih => rw [List.replicate_succ, List.cons_append, List.dropWhile_cons]; simpa using ih
theorem dropE_rep (b : UInt8) (n : Nat) (l : List UInt8) : dropE b (l ++ List.replicate n b) = dropE b l := by
  unfold dropE
  rw [List.reverse_append, List.reverse_replicate]
  have := dropF_rep b n l.reverse
  unfold dropF at this
  rw [this]
theorem dropF_all (b : UInt8) (n : Nat) : dropF b (List.replicate n b) = [] := by
  have := dropF_rep b n []
  simpa [dropF] using this
theorem dropE_app (b : UInt8) (p l : List UInt8) : dropE b (p ++ l) = if dropE b l = [] then dropE b p else p ++ dropE b l := by
  unfold dropE
  rw [List.reverse_append, List.dropWhile_append]
  cases h : List.dropWhile (· == b) l.reverse with
  | nil => simp
  | cons x r => simp
theorem trimW_rep (n m : Nat) (l : List UInt8) : trimW (List.replicate n 32 ++ l ++ List.replicate m 32) = trimW l := by
  unfold trimW
  rw [dropE_rep, dropE_app]
  split
  · rename_i h
    rw [h]
    have e : dropE 32 (List.replicate n (32 : UInt8)) = [] := by
      have := dropE_rep 32 n []
      simpa [dropE] using this
    rw [e]
  · exact dropF_rep _ _ _
theorem index_at0 (s sub : List UInt8) (h : Lib.occAt s sub 0 = true) : Lib.index s sub = 0 := by
  rcases Lib.index_spec s sub with ⟨_, h2⟩ | ⟨i, h1, _, _, h4⟩
  · have := h2 0 (Nat.zero_le _)
    rw [h] at this; cases this
  · cases i with
    | zero => exact h1
    | succ i =>
      have := h4 0 (by omega)
      rw [h] at this; cases this
theorem index_end (u : List UInt8) (h : ∀ x ∈ u, x ≠ 125) : Lib.index (u ++ brC) brC = (u.length : Int) := by
  have hat : Lib.occAt (u ++ brC) brC u.length = true := by
    unfold Lib.occAt
    rw [List.drop_left]; rfl
  rcases Lib.index_spec (u ++ brC) brC with ⟨_, h2⟩ | ⟨i, h1, h2, h3, h4⟩
  · have := h2 u.length (by simp)
    rw [hat] at this; cases this
  · have hle : ¬ u.length < i := fun hlt => by
      have := h4 u.length hlt
      rw [hat] at this; cases this
    have hge : ¬ i < u.length := fun hlt => by
      unfold Lib.occAt at h3
      rw [List.drop_append_of_le_length (by omega), List.drop_eq_getElem_cons hlt] at h3
      unfold brC at h3
      simp only [List.cons_append, List.isPrefixOf, Bool.and_eq_true, beq_iff_eq] at h3
      exact h _ (List.getElem_mem hlt) h3.1.symm
    rw [h1]; congr 1; omega
/-- An action alone. -/
theorem words_wrap (t : List UInt8) (h : ∀ x ∈ t, x ≠ 125) : wordsW (brO ++ t ++ brC) = if (actW t).ok then ([actWd 0 (actW t)], -1) else ([], 0) := by
  have h0 : Lib.index (brO ++ t ++ brC) brO = 0 := index_at0 _ _ (by
    unfold Lib.occAt
    simp [brO, List.isPrefixOf])
  have h1 : Lib.index (brO ++ t ++ brC) brC = ((brO ++ t).length : Int) := index_end _ (by
    intro x hx
    rcases List.mem_append.1 hx with hx | hx
    · simp [brO] at hx; subst hx; decide
    · exact h x hx)
  have ho : idxO (brO ++ t ++ brC) = 0 := by unfold idxO; rw [h0]; rfl
  have hlen : (brO ++ t).length = t.length + 2 := by simp [brO]
  have hln : (brO ++ t ++ brC).length = t.length + 4 := by rw [List.length_append, hlen]; rfl
  have hne : (brO ++ t ++ brC).isEmpty = false := rfl
  have hd : ((brO ++ t ++ brC).take (brO ++ t).length).drop 2 = t := by rw [List.take_left]; rfl
  have hr : (brO ++ t ++ brC).drop ((brO ++ t).length + 2) = [] := List.drop_eq_nil_of_le (by rw [hlen, hln]; omega)
  unfold wordsW
  rw [hln, wordsF, hne, if_neg (by decide), ho, if_neg (by decide), h1, if_neg (by omega), Int.toNat_natCast, hd, hr]
  split
  · rw [wordsF]; rfl
  · rfl
theorem rep_succ (n : Nat) : List.replicate n (32 : UInt8) ++ [32] = List.replicate (n + 1) 32 := by rw [List.replicate_succ']
theorem tmod9 (b : UInt8) : Int.tmod (w64 (b.toNat : Int)) 9 = ((b.toNat % 9 : Nat) : Int) := by
  have := b.toNat_lt
  rw [w64_eq (by omega) (by omega)]; rfl
theorem all3 (l : List UInt8) : ∃ a b c, allAV l = .tu [a, b, c] := by
  unfold allAV
  split
  · exact ⟨_, _, _, rfl⟩
  · split
    · exact ⟨_, _, _, rfl⟩
    · exact ⟨_, _, _, rfl⟩
theorem all_wrap (t : List UInt8) (h : ∀ x ∈ t, x ≠ 125) : allAV (brO ++ t ++ brC) = if (brO ++ t ++ brC).length > 65536 then .tu [.nils, .int 0, .int 2] else if (actW t).ok then .tu [.ro 5 ([actWd 0 (actW t)].map Wd.av), .int 0, .int 0] else .tu [.nils, .int 0, .int 4] := by
  unfold allAV
  rw [words_wrap t h]
  split
  · rfl
  · cases (actW t).ok <;> rfl
theorem int_gtr0 (x y : Int) : binI .gtr (.int x) (.int y) = some (.b (decide (x > y))) := rfl
theorem l5_end (l : List UInt8) (n : Nat) (b2 : UInt8) (hl : l.length ≤ 1000000000) (hn : n ≤ 8) (h : ∀ x ∈ l, x ≠ 125) :
    F5_15 (semRun (C mx) Tryd.prog 5 Tryd.f5) l b2 (.s (brO ++ List.replicate n 32 ++ l ++ List.replicate (b2.toNat % 9) 32)) ((b2.toNat % 9 : Nat) : Int) = some (.b true) := by
  apply r5_15
  have hbig : big = 70368744177664 := rfl
  have hb : brO.length = 2 := rfl
  have hm : b2.toNat % 9 ≤ 8 := by omega
  have hge : decide (((b2.toNat % 9 : Nat) : Int) < ((b2.toNat % 9 : Nat) : Int)) = false := by simp
  have a1 : binS .add (.s (brO ++ List.replicate n 32 ++ l ++ List.replicate (b2.toNat % 9) 32)) (.s [125, 125]) = some (.s (brO ++ List.replicate n 32 ++ l ++ List.replicate (b2.toNat % 9) 32 ++ brC)) :=
    s_add (by simp only [List.length_append, List.length_replicate, hb, List.length_cons, List.length_nil, hbig]; omega)
  have a2 : binS .add (.s [123, 123]) (.s l) = some (.s (brO ++ l)) := s_add (by simp only [List.length_cons, List.length_nil, hbig]; omega)
  have a3 : binS .add (.s (brO ++ l)) (.s [125, 125]) = some (.s (brO ++ l ++ brC)) := s_add (by simp only [List.length_append, hb, List.length_cons, List.length_nil, hbig]; omega)
  simp only [X5_15, tmod9, hge, a1, a2, a3, Option.bind_some, condM_b, Bool.false_eq_true, if_false, lenS_l, int_gtr0]
  have e1 := s23 (mx := mx) (brO ++ l ++ brC)
  have eT : brO ++ List.replicate n 32 ++ l ++ List.replicate (b2.toNat % 9) 32 ++ brC = brO ++ (List.replicate n 32 ++ l ++ List.replicate (b2.toNat % 9) 32) ++ brC := by simp only [List.append_assoc]
  rw [eT]
  have hlen : (brO ++ l ++ brC).length ≤ (brO ++ (List.replicate n 32 ++ l ++ List.replicate (b2.toNat % 9) 32) ++ brC).length := by simp only [List.length_append]; omega
  have ht : ∀ x ∈ List.replicate n 32 ++ l ++ List.replicate (b2.toNat % 9) 32, x ≠ 125 := by
    intro x hx
    rcases List.mem_append.1 hx with hx | hx
    · rcases List.mem_append.1 hx with hx | hx
      · rw [List.eq_of_mem_replicate hx]; decide
      · exact h x hx
    · rw [List.eq_of_mem_replicate hx]; decide
  have e2 := s23 (mx := mx) (brO ++ (List.replicate n 32 ++ l ++ List.replicate (b2.toNat % 9) 32) ++ brC)
  have w2 := all_wrap _ ht
  have w1 := all_wrap _ h
  have hact : actW (List.replicate n 32 ++ l ++ List.replicate (b2.toNat % 9) 32) = actW l := by unfold actW; rw [trimW_rep]
  rw [hact] at w2
  generalize brO ++ (List.replicate n 32 ++ l ++ List.replicate (b2.toNat % 9) 32) ++ brC = P at *
  have t30 (a b c : AV) : tupI (.tu [a, b, c]) 0 = some a := rfl
  have t31 (a b c : AV) : tupI (.tu [a, b, c]) 1 = some b := rfl
  have t32 (a b c : AV) : tupI (.tu [a, b, c]) 2 = some c := rfl
  by_cases hP : P.length > 65536
  · rw [if_pos hP] at w2
    obtain ⟨a, b, c, e3⟩ := all3 (brO ++ l ++ brC)
    rw [e3] at e1
    rw [w2] at e2
    have hd : decide ((P.length : Int) > 65536) = true := by rw [decide_eq_true_eq]; omega
    simp only [e1, e2, t30, t31, t32, Option.bind_some, hd, condM_b, if_true]
    rfl
  · rw [if_neg hP] at w2
    rw [if_neg (by omega)] at w1
    rw [w1] at e1
    rw [w2] at e2
    have hd : decide ((P.length : Int) > 65536) = false := by rw [decide_eq_false_iff_not]; omega
    have n0 : ∀ w ∈ [actWd 0 (actW l)], NmOk w.names := by
      intro w hw
      obtain rfl : w = actWd 0 (actW l) := by simpa using hw
      exact actW_nm l
    have n1 := s25 (mx := mx) [actWd 0 (actW l)] (by simp) n0
    have n2 := s25n (mx := mx)
    cases hk : (actW l).ok with
    | true =>
      rw [hk] at e1 e2
      simp only [if_true] at e1 e2
      simp only [e1, e2, t30, t31, t32, Option.bind_some, hd, condM_b, Bool.false_eq_true, if_false, int_eql, n1]
      rfl
    | false =>
      rw [hk] at e1 e2
      simp only [Bool.false_eq_true, if_false] at e1 e2
      simp only [e1, e2, t30, t31, t32, Option.bind_some, hd, condM_b, Bool.false_eq_true, if_false, int_eql, n2]
      rfl
theorem l5_15 (l : List UInt8) (n : Nat) (b2 : UInt8) (hl : l.length ≤ 1000000000) (hn : n ≤ 8) (h : ∀ x ∈ l, x ≠ 125) : ∀ (d k : Nat), k + d = b2.toNat % 9 →
    F5_15 (semRun (C mx) Tryd.prog 5 Tryd.f5) l b2 (.s (brO ++ List.replicate n 32 ++ l ++ List.replicate k 32)) (k : Int) = some (.b true)
  | 0, k, e => by
    obtain rfl : k = b2.toNat % 9 := by omega
    exact l5_end l n b2 hl hn h
  | d + 1, k, e => by
    apply r5_15
    have ih := l5_15 l n b2 hl hn h d (k + 1) (by omega)
    have hbig : big = 70368744177664 := rfl
    have hlt : decide ((k : Int) < ((b2.toNat % 9 : Nat) : Int)) = true := by rw [decide_eq_true_eq]; omega
    have hb : brO.length = 2 := rfl
    have hadd : binS .add (.s (brO ++ List.replicate n 32 ++ l ++ List.replicate k 32)) (.s [32]) = some (.s (brO ++ List.replicate n 32 ++ l ++ List.replicate (k + 1) 32)) := by
      rw [s_add (by simp only [List.length_append, List.length_replicate, hb, List.length_cons, List.length_nil, hbig]; omega), List.append_assoc _ _ [32], rep_succ]
    have hw : w64 ((k : Int) + 1) = ((k + 1 : Nat) : Int) := by rw [w64_eq (by omega) (by omega)]; rfl
    simp only [X5_15, tmod9, hlt, hadd, hw, Option.bind_some, condM_b, if_true]
    exact ih
theorem l5_10 (l : List UInt8) (b1 b2 : UInt8) (hl : l.length ≤ 1000000000) (h : ∀ x ∈ l, x ≠ 125) : ∀ (d k : Nat), k + d = b1.toNat % 9 →
    F5_10 (semRun (C mx) Tryd.prog 5 Tryd.f5) l b1 b2 (.s (brO ++ List.replicate k 32)) (k : Int) = some (.b true)
  | 0, k, e => by
    obtain rfl : k = b1.toNat % 9 := by omega
    apply r5_10
    have hbig : big = 70368744177664 := rfl
    have hb : brO.length = 2 := rfl
    have hm : b1.toNat % 9 ≤ 8 := by omega
    have hge : decide (((b1.toNat % 9 : Nat) : Int) < ((b1.toNat % 9 : Nat) : Int)) = false := by simp
    have ih := l5_15 (mx := mx) l (b1.toNat % 9) b2 hl hm h (b2.toNat % 9) 0 (by omega)
    have hadd : binS .add (.s (brO ++ List.replicate (b1.toNat % 9) 32)) (.s l) = some (.s (brO ++ List.replicate (b1.toNat % 9) 32 ++ l)) :=
      s_add (by simp only [List.length_append, List.length_replicate, hb, hbig]; omega)
    simp only [X5_10, tmod9, hge, hadd, Option.bind_some, condM_b, Bool.false_eq_true, if_false]
    simpa using ih
  | d + 1, k, e => by
    apply r5_10
    have ih := l5_10 l b1 b2 hl h d (k + 1) (by omega)
    have hbig : big = 70368744177664 := rfl
    have hlt : decide ((k : Int) < ((b1.toNat % 9 : Nat) : Int)) = true := by rw [decide_eq_true_eq]; omega
    have hb : brO.length = 2 := rfl
    have hadd : binS .add (.s (brO ++ List.replicate k 32)) (.s [32]) = some (.s (brO ++ List.replicate (k + 1) 32)) := by
      rw [s_add (by simp only [List.length_append, List.length_replicate, hb, List.length_cons, List.length_nil, hbig]; omega), List.append_assoc _ _ [32], rep_succ]
    have hw : w64 ((k : Int) + 1) = ((k + 1 : Nat) : Int) := by rw [w64_eq (by omega) (by omega)]; rfl
    simp only [X5_10, tmod9, hlt, hadd, hw, Option.bind_some, condM_b, if_true]
    exact ih
theorem l5_4 (b1 b2 : UInt8) : ∀ (r p : List UInt8), (p ++ r).length ≤ 1000000000 → (∀ x ∈ p, x ≠ 125) → F5_4 (semRun (C mx) Tryd.prog 5 Tryd.f5) (p ++ r) b1 b2 (p.length : Int) = some (.b true)
  | [], p, hl, h => by
    apply r5_4
    have e : decide ((p.length : Int) < ((p ++ []).length : Int)) = false := by simp
    have ih := l5_10 (mx := mx) (p ++ []) b1 b2 hl (by simpa using h) (b1.toNat % 9) 0 (by omega)
    simp only [X5_4, e, condM_b, Bool.false_eq_true, if_false]
    exact ih
  | x :: r, p, hl, h => by
    apply r5_4
    have hl' : p.length + (r.length + 1) ≤ 1000000000 := by simpa using hl
    have e : decide ((p.length : Int) < ((p ++ x :: r).length : Int)) = true := by rw [decide_eq_true_eq]; simp; omega
    have hw : w64 ((p.length : Int) + 1) = ((p ++ [x]).length : Int) := by rw [w64_eq (by omega) (by omega)]; simp
    have e1 : p ++ x :: r = (p ++ [x]) ++ r := by simp
    simp only [X5_4, e, idxS_at, u8_eql, selW_or, hw, Option.bind_some, condM_b, if_true]
    cases hx : (x == 123) || (x == 125) with
    | true => simp only [if_true]
    | false =>
      simp only [Bool.false_eq_true, if_false]
      have ih := l5_4 b1 b2 r (p ++ [x]) (by simp; omega) (by
        intro y hy
        rcases List.mem_append.1 hy with hy | hy
        · exact h y hy
        · have hy : y = x := by simpa using hy
          subst hy
          intro he
          subst he
          simp at hx)
      rw [e1]
      exact ih
theorem law5 (l : List UInt8) (b1 b2 : UInt8) (hl : l.length ≤ 1000000000) : semCall (C mx) Tryd.prog 5 [.s l, .u8 b1, .u8 b2] = some (.b true) := by
  apply c5
  simp only [X5, s22 (mx := mx), Option.bind_some, unop_not, Bool.not_true, condM_b, Bool.false_eq_true, if_false]
  exact l5_4 (mx := mx) b1 b2 l [] hl (fun x hx => by cases hx)
end R3

namespace R3
open Go Go.Proofs Sx

variable {mx : Int}
theorem dropF_form (b : UInt8) : ∀ (l : List UInt8), ∃ n, l = List.replicate n b ++ dropF b l ∧ (dropF b l = [] ∨ ∃ x r, dropF b l = x :: r ∧ (x == b) = false)
  | [] => ⟨0, rfl, Or.inl rfl⟩
  | x :: r => by
    obtain ⟨n, h1, h2⟩ := dropF_form b r
    cases hx : (x == b) with
    | true =>
      have e : dropF b (x :: r) = dropF b r := by unfold dropF; rw [List.dropWhile_cons, if_pos hx]
      rw [e]
      have hx' : x = b := by simpa using hx
      subst hx'
      exact ⟨n + 1, by rw [List.replicate_succ, List.cons_append, ← h1], h2⟩
    | false =>
      have e : dropF b (x :: r) = x :: r := by unfold dropF; rw [List.dropWhile_cons, if_neg (by rw [hx]; decide)]
      rw [e]
      exact ⟨0, rfl, Or.inr ⟨x, r, rfl, hx⟩⟩
theorem dropE_pre (b : UInt8) (l : List UInt8) : ∃ t, l = dropE b l ++ t := by
  refine ⟨(l.reverse.takeWhile (· == b)).reverse, ?_⟩
  unfold dropE
  rw [← List.reverse_append, List.takeWhile_append_dropWhile, List.reverse_reverse]
theorem dropE_repl (b : UInt8) (n : Nat) : dropE b (List.replicate n b) = [] := by
  have := dropE_rep b n []
  simpa [dropE] using this
/-- In front first, or behind first: the same. -/
theorem drop_swap (b : UInt8) (l : List UInt8) : dropE b (dropF b l) = dropF b (dropE b l) := by
  obtain ⟨n, h1, h2⟩ := dropF_form b l
  generalize hm : dropF b l = m at h1 h2
  rw [h1, dropE_app]
  split
  · rename_i h
    rw [h, dropE_repl]; rfl
  · rename_i h
    rw [dropF_rep]
    rcases h2 with rfl | ⟨x, r, rfl, hx⟩
    · exact absurd rfl h
    · obtain ⟨t, ht⟩ := dropE_pre b (x :: r)
      cases hd : dropE b (x :: r) with
      | nil => exact absurd hd h
      | cons y q =>
        rw [hd] at ht
        have : x = y := (List.cons.inj ht).1
        subst this
        unfold dropF
        rw [List.dropWhile_cons, if_neg (by rw [hx]; decide)]
theorem l81_3 : ∀ (n : Nat) (l : List UInt8), l.length = n → n ≤ 1000000000 → F81_3 (semRun (C mx) Tryd.prog 81 Tryd.f81) (.s l) = some (.s (dropE 32 l))
  | 0, l, hn, h => by
    obtain rfl := List.eq_nil_of_length_eq_zero hn
    apply r81_3
    rfl
  | n + 1, l, hn, h => by
    apply r81_3
    obtain ⟨p, x, rfl⟩ : ∃ p x, l = p ++ [x] := by
      rcases List.eq_nil_or_concat l with e | ⟨p, x, e⟩
      · rw [e] at hn; cases hn
      · exact ⟨p, x, by simpa using e⟩
    have hp : p.length = n := by simpa using hn
    have ih := l81_3 n p hp (by omega)
    have hl : (p ++ [x]).length = p.length + 1 := by simp
    have hsub : binI .sub (.int ((p.length + 1 : Nat) : Int)) (.int 1) = some (.int (p.length : Int)) := by
      show some (AV.int (w64 _)) = _
      rw [w64_eq (by omega) (by omega)]; congr 2; omega
    have hi : idxS (.s (p ++ [x])) (.int (p.length : Int)) = some (.u8 x) := idxS_at p x []
    have hs : slS (.s (p ++ [x])) none (some (.int (p.length : Int))) = some (.s p) := by
      rw [slS_hi (by simp)]; simp
    simp only [X81_3, lenS_l, hl, gt0, hsub, hi, hs, Option.bind_some, u8_eql, selW_and, Bool.true_and, condM_b]
    unfold dropE
    rw [List.reverse_append, List.reverse_singleton, List.singleton_append, List.dropWhile_cons]
    cases hx : (x == (32 : UInt8)) with
    | true => simp only [if_true]; exact ih
    | false => simp only [Bool.false_eq_true, if_false]; simp
theorem l81_1 : ∀ (l : List UInt8), l.length ≤ 1000000000 → F81_1 (semRun (C mx) Tryd.prog 81 Tryd.f81) (.s l) = some (.s (dropE 32 (dropF 32 l)))
  | [], _ => by
    apply r81_1
    have := l81_3 (mx := mx) 0 [] rfl (by omega)
    exact this
  | x :: r, h => by
    apply r81_1
    have ih := l81_1 r (by simp at h; omega)
    have hi : idxS (.s (x :: r)) (.int 0) = some (.u8 x) := idxS_int (i := 0) (l := x :: r) (by simp)
    have hs : slS (.s (x :: r)) (some (.int 1)) none = some (.s r) := slS_lo (l := x :: r) (i := 1) (by simp)
    simp only [X81_1, lenS_l, List.length_cons, gt0, hi, hs, Option.bind_some, u8_eql, selW_and, Bool.true_and, condM_b]
    unfold dropF
    rw [List.dropWhile_cons]
    cases hx : (x == (32 : UInt8)) with
    | true => simp only [if_true]; exact ih
    | false => simp only [Bool.false_eq_true, if_false]; exact l81_3 (mx := mx) _ (x :: r) rfl h
theorem s81 (l : List UInt8) (h : l.length ≤ 1000000000) : semCall (C mx) Tryd.prog 81 [.s l] = some (.s (trimW l)) := by
  apply c81
  have := l81_1 (mx := mx) l h
  rw [drop_swap] at this
  exact this
theorem pre_iff (p l : List UInt8) : pre p l = p.isPrefixOf l := by
  rw [Bool.eq_iff_iff, List.isPrefixOf_iff_prefix]
  unfold pre
  simp only [Bool.and_eq_true, decide_eq_true_eq, beq_iff_eq]
  constructor
  · rintro ⟨_, h⟩
    exact ⟨l.drop p.length, by conv => lhs; lhs; rw [← h]
                               exact List.take_append_drop _ _⟩
  · rintro ⟨t, rfl⟩
    exact ⟨by simp, by simp⟩
/-- begins: the word and a blank in front. -/
theorem s82 (l p : List UInt8) (hl : l.length ≤ 1000000000) : semCall (C mx) Tryd.prog 82 [.s l, .s p] = some (.b (pre (p ++ [32]) l)) := by
  apply c82
  by_cases h : p.length < l.length
  · have hd : decide ((l.length : Int) > (p.length : Int)) = true := by rw [decide_eq_true_eq]; omega
    have hs : slS (.s l) none (some (.int (p.length : Int))) = some (.s (l.take p.length)) := slS_hi (by omega)
    have hi : idxS (.s l) (.int (p.length : Int)) = some (.u8 l[p.length]) := idxS_int h
    simp only [X82, hd, hs, hi, s_eql, u8_eql, selW_and, Option.bind_some, Bool.true_and]
    congr 2
    unfold pre
    have h1 : decide ((p ++ [32]).length ≤ l.length) = true := by rw [decide_eq_true_eq]; simp; omega
    have h2 : l.take (p ++ [32]).length = l.take p.length ++ [l[p.length]] := by
      rw [List.length_append, List.length_singleton, List.take_succ_eq_append_getElem h]
    rw [h1, h2, Bool.true_and, Bool.eq_iff_iff, Bool.and_eq_true, beq_iff_eq, beq_iff_eq, beq_iff_eq]
    constructor
    · rintro ⟨h3, h4⟩; rw [h3, h4]
    · intro h3
      have h5 := List.append_inj' h3 rfl
      exact ⟨h5.1, by simpa using h5.2⟩
  · have hd : decide ((l.length : Int) > (p.length : Int)) = false := by rw [decide_eq_false_iff_not]; omega
    have hp : pre (p ++ [32]) l = false := by
      unfold pre
      have : decide ((p ++ [32]).length ≤ l.length) = false := by rw [decide_eq_false_iff_not]; simp; omega
      rw [this, Bool.false_and]
    rw [hp]
    simp only [X82, hd]
    rfl
/-- at: the bytes there. -/
theorem s55 (l p : List UInt8) (k : Nat) (hl : l.length ≤ 1000000000) (hk : k ≤ l.length) (hp : p.length ≤ 1000000000) : semCall (C mx) Tryd.prog 55 [.s l, .int (k : Int), .s p] = some (.b (Lib.occAt l p k)) := by
  apply c55
  have h0 : decide ((k : Int) ≥ 0) = true := by rw [decide_eq_true_eq]; omega
  have hw : w64 ((l.length : Int) - (k : Int)) = ((l.length - k : Nat) : Int) := by rw [w64_eq (by omega) (by omega)]; omega
  have ho : Lib.occAt l p k = pre p (l.drop k) := by rw [pre_iff]; rfl
  rw [ho]
  unfold pre
  rw [List.length_drop]
  by_cases h : p.length ≤ l.length - k
  · have hd : decide (((l.length - k : Nat) : Int) ≥ (p.length : Int)) = true := by rw [decide_eq_true_eq]; omega
    have hd' : decide (p.length ≤ l.length - k) = true := by rw [decide_eq_true_eq]; exact h
    have hw2 : w64 ((k : Int) + (p.length : Int)) = ((k + p.length : Nat) : Int) := by rw [w64_eq (by omega) (by omega)]; omega
    have hs := sl_piece l k p.length (by omega)
    simp only [X55, h0, hw, hd, hd', hw2, hs, s_eql, selW_and, Option.bind_some, Bool.true_and]
  · have hd : decide (((l.length - k : Nat) : Int) ≥ (p.length : Int)) = false := by rw [decide_eq_false_iff_not]; omega
    have hd' : decide (p.length ≤ l.length - k) = false := by rw [decide_eq_false_iff_not]; exact h
    simp only [X55, h0, hw, hd, hd', selW_and, Option.bind_some, Bool.true_and, Bool.false_and]
    rfl
theorem l30 (l : List UInt8) (hl : l.length ≤ 32) : ∀ (r p : List UInt8), l = p ++ r → F30_4 (semRun (C mx) Tryd.prog 30 Tryd.f30) l (p.length : Int) = some (.b (r.all (okN 1)))
  | [], p, e => by
    apply r30_4
    have hd : decide ((p.length : Int) < (l.length : Int)) = false := by rw [e]; simp
    simp only [X30_4, hd, condM_b, Bool.false_eq_true, if_false]
    rfl
  | c :: r, p, e => by
    apply r30_4
    have ih := l30 l hl r (p ++ [c]) (by rw [e]; simp)
    have hle : p.length + (r.length + 1) ≤ 32 := by rw [e] at hl; simpa using hl
    have hd : decide ((p.length : Int) < (l.length : Int)) = true := by rw [decide_eq_true_eq, e]; simp; omega
    have hi : idxS (.s l) (.int (p.length : Int)) = some (.u8 c) := by rw [e]; exact idxS_at p c r
    have hw : w64 ((p.length : Int) + 1) = ((p ++ [c]).length : Int) := by rw [w64_eq (by omega) (by omega)]; simp
    simp only [X30_4, hd, hi, hw, u8_geq, u8_leq, u8_eql, selW_and, selW_or, unop_not, Option.bind_some, condM_b, if_true]
    rw [List.all_cons]
    have eo : okN 1 c = (((decide (97 ≤ c) && decide (c ≤ 122)) || (decide (48 ≤ c) && decide (c ≤ 57))) || c == 95) := by
      unfold okN
      rw [show ((1 : Nat) == 0) = false from rfl, Bool.not_false, Bool.true_and, Bool.or_assoc]
    rw [← eo]
    cases ho : okN 1 c with
    | true => simp only [Bool.not_true, Bool.false_eq_true, if_false, Bool.true_and]; exact ih
    | false => simp only [Bool.not_false, if_true, Bool.false_and]
theorem okAll_succ : ∀ (l : List UInt8) (i : Nat), okAll (i + 1) l = l.all (okN 1)
  | [], i => rfl
  | b :: r, i => by
    rw [okAll, okAll_succ r (i + 1), List.all_cons]
    congr 1
theorem okN0 (b : UInt8) : okN 0 b = (decide (97 ≤ b) && decide (b ≤ 122)) := by
  unfold okN
  simp
/-- Name: a letter, then letters, digits, lines below; at most 32. -/
theorem s30 (l : List UInt8) (hl : l.length ≤ 1000000000) : semCall (C mx) Tryd.prog 30 [.s l] = some (.b (nameB l)) := by
  apply c30
  cases l with
  | nil => rfl
  | cons b r =>
    have hi : idxS (.s (b :: r)) (.int 0) = some (.u8 b) := idxS_int (i := 0) (l := b :: r) (by simp)
    have h0 : (((b :: r).length : Int) == 0) = false := by rw [beq_eq_false_iff_ne]; simp; omega
    unfold nameB
    have e1 : decide (1 ≤ (b :: r).length) = true := by rw [decide_eq_true_eq]; simp
    rw [okAll, okAll_succ, okN0, e1, Bool.true_and]
    simp only [X30, hi, h0, u8_lss, u8_gtr, selW_or, Option.bind_some, condM_b, Bool.false_or]
    have hlt : decide (b < 97) = !decide (97 ≤ b) := by
      rw [Bool.eq_iff_iff]; simp
    have hgt : decide (122 < b) = !decide (b ≤ 122) := by
      rw [Bool.eq_iff_iff]; simp
    have hln : decide (((b :: r).length : Int) > 32) = !decide ((b :: r).length ≤ 32) := by
      rw [Bool.eq_iff_iff]; simp <;> omega
    rw [hlt, hgt, hln]
    by_cases h32 : (b :: r).length ≤ 32
    · have ih := l30 (mx := mx) (b :: r) h32 (b :: r) [] rfl
      rw [List.all_cons] at ih
      have ih : F30_4 (semRun (C mx) Tryd.prog 30 Tryd.f30) (b :: r) 0 = some (.b (okN 1 b && r.all (okN 1))) := ih
      rw [ih]
      have : decide ((b :: r).length ≤ 32) = true := by rw [decide_eq_true_eq]; exact h32
      rw [this]
      have ho : okN 1 b = ((decide (97 ≤ b) && decide (b ≤ 122)) || (!((1 : Nat) == 0) && ((decide (48 ≤ b) && decide (b ≤ 57)) || b == 95))) := rfl
      rw [ho]
      cases decide (97 ≤ b) <;> cases decide (b ≤ 122) <;> simp
    · have : decide ((b :: r).length ≤ 32) = false := by rw [decide_eq_false_iff_not]; exact h32
      rw [this]
      simp
end R3

namespace R3
open Go Go.Proofs Sx

variable {mx : Int}
def wayFail : AV := .tu [.ag [.b false, .nils], .b false]
/-- What the loop answers where these names come behind those. -/
def wayL (b : Bool) (acc segs : List (List UInt8)) : AV :=
  if segs.all nameB && decide (acc.length + segs.length ≤ 8) then .tu [.ag [.b b, .ro 1 ((acc ++ segs).map .s)], .b true] else wayFail
theorem wayL_cons (b : Bool) (acc : List (List UInt8)) (x : List UInt8) (t : List (List UInt8)) : wayL b acc (x :: t) = if !nameB x || decide ((acc.length : Int) ≥ 8) then wayFail else wayL b (acc ++ [x]) t := by
  unfold wayL
  rw [List.all_cons]
  cases hx : nameB x with
  | false => simp
  | true =>
    by_cases h8 : 8 ≤ acc.length
    · have h1 : decide ((acc.length : Int) ≥ 8) = true := by rw [decide_eq_true_eq]; omega
      have h2 : decide (acc.length + (x :: t).length ≤ 8) = false := by rw [decide_eq_false_iff_not]; simp; omega
      rw [h1, h2]; simp
    · have h1 : decide ((acc.length : Int) ≥ 8) = false := by rw [decide_eq_false_iff_not]; omega
      have h2 : (acc ++ [x]).length + t.length = acc.length + (x :: t).length := by simp; omega
      rw [h1, h2]; simp
theorem app16 (acc : List (List UInt8)) (x : List UInt8) (h : acc.length ≤ 100) : app 16 1 (acc.map .s) (.ro 1 ([.s x] : List AV)) = some ((acc ++ [x]).map .s) := by
  have hb : big = 70368744177664 := rfl
  show ((if 1 = 1 then some [AV.s x] else none).bind fun q => if ((acc.map AV.s).length + q.length) * 16 ≤ big then some (acc.map AV.s ++ q) else none) = _
  rw [if_pos rfl]
  simp only [Option.bind_some, List.length_map, List.length_cons, List.length_nil, hb]
  rw [if_pos (by omega), List.map_append]; rfl
theorem l28_end (l : List UInt8) (hl : l.length ≤ 1000000000) (b : Bool) (acc : List (List UInt8)) (i j : Int) (hj : (l.length : Int) < j) (h8 : acc.length ≤ 8) :
    F28_11 (semRun (C mx) Tryd.prog 28 Tryd.f28) (.s l) i j false .nils b (acc.map .s) = some (wayL b acc []) := by
  apply r28_11
  have hd : decide (j ≤ (l.length : Int)) = false := by rw [decide_eq_false_iff_not]; omega
  simp only [X28_11, lenS_l, int_leq, hd, Option.bind_some, condM_b, Bool.false_eq_true, if_false]
  unfold wayL
  have : decide (acc.length + ([] : List (List UInt8)).length ≤ 8) = true := by rw [decide_eq_true_eq]; simpa using h8
  rw [this, List.append_nil]
  rfl
theorem l28 (l : List UInt8) (hl : l.length ≤ 1000000000) (b : Bool) : ∀ (r p cur : List UInt8) (acc : List (List UInt8)) (h : List UInt8) (t : List (List UInt8)), l = p ++ (cur ++ r) → splitL r = h :: t → acc.length ≤ 8 →
    F28_11 (semRun (C mx) Tryd.prog 28 Tryd.f28) (.s l) (p.length : Int) ((p.length + cur.length : Nat) : Int) false .nils b (acc.map .s) = some (wayL b acc ((cur ++ h) :: t))
  | [], p, cur, acc, h, t, e, hs, h8 => by
    cases hs
    apply r28_11
    have el : l.length = p.length + cur.length := by rw [e]; simp
    have hd : decide (((p.length + cur.length : Nat) : Int) ≤ (l.length : Int)) = true := by rw [decide_eq_true_eq]; omega
    have hd2 : decide (((p.length + cur.length : Nat) : Int) < (l.length : Int)) = false := by rw [decide_eq_false_iff_not]; omega
    have hsl := sl_piece l p.length cur.length (by omega)
    have ecur : (l.drop p.length).take cur.length = cur := by rw [e, List.drop_left, List.append_nil, List.take_length]
    rw [ecur] at hsl
    have hn := s30 (mx := mx) cur (by omega)
    simp only [X28_11, lenS_l, int_leq, int_lss, hd, hd2, hsl, hn, one_s, unop_not, Option.bind_some, condM_b, if_true, selW_tf, Bool.false_eq_true, if_false, selW_or, List.length_map]
    rw [List.append_nil, wayL_cons]
    cases hc : (!nameB cur || decide ((acc.length : Int) ≥ 8)) with
    | true => simp only [if_true]; rfl
    | false =>
      simp only [Bool.false_eq_true, if_false]
      have h7 : acc.length < 8 := by
        simp only [Bool.or_eq_false_iff, decide_eq_false_iff_not] at hc
        omega
      simp only [app16 acc cur (by omega), Option.bind_some]
      apply r28_12
      have hw : w64 (((p.length + cur.length : Nat) : Int) + 1) = ((p.length + cur.length + 1 : Nat) : Int) := by rw [w64_eq (by omega) (by omega)]; omega
      simp only [X28_12, hw]
      exact l28_end l hl b (acc ++ [cur]) _ _ (by omega) (by simp; omega)
  | c :: r, p, cur, acc, h, t, e, hs, h8 => by
    apply r28_11
    have el : l.length = p.length + (cur.length + (r.length + 1)) := by rw [e]; simp
    have hd : decide (((p.length + cur.length : Nat) : Int) ≤ (l.length : Int)) = true := by rw [decide_eq_true_eq]; omega
    have hd2 : decide (((p.length + cur.length : Nat) : Int) < (l.length : Int)) = true := by rw [decide_eq_true_eq]; omega
    have hi : idxS (.s l) (.int ((p.length + cur.length : Nat) : Int)) = some (.u8 c) := by
      have := idxS_at (p ++ cur) c r
      rw [List.length_append, List.append_assoc, ← e] at this
      exact this
    have hw : w64 (((p.length + cur.length : Nat) : Int) + 1) = ((p.length + cur.length + 1 : Nat) : Int) := by rw [w64_eq (by omega) (by omega)]; omega
    obtain ⟨h', t', hs'⟩ := splitL_cons r
    rw [splitL_eq] at hs
    cases hc : (c == 46) with
    | true =>
      rw [hc, if_pos rfl] at hs
      cases hs
      have hne : (c != 46) = false := by rw [bne, hc]; rfl
      have hsl := sl_piece l p.length cur.length (by omega)
      have ecur : (l.drop p.length).take cur.length = cur := by rw [e, List.drop_left, List.take_left]
      rw [ecur] at hsl
      have hn := s30 (mx := mx) cur (by omega)
      simp only [X28_11, lenS_l, int_leq, int_lss, hd, hd2, hi, u8_neq, hne, hsl, hn, one_s, unop_not, Option.bind_some, condM_b, if_true, selW_and, Bool.true_and, Bool.false_eq_true, if_false, selW_or, List.length_map]
      rw [List.append_nil, wayL_cons]
      cases hc : (!nameB cur || decide ((acc.length : Int) ≥ 8)) with
      | true => simp only [if_true]; rfl
      | false =>
        simp only [Bool.false_eq_true, if_false]
        have h7 : acc.length < 8 := by
          simp only [Bool.or_eq_false_iff, decide_eq_false_iff_not] at hc
          omega
        simp only [app16 acc cur (by omega), Option.bind_some]
        apply r28_12
        simp only [X28_12, hw]
        have hc46 : c = 46 := by simpa using ‹(c == 46) = true›
        have ih := l28 l hl b r (p ++ (cur ++ [c])) [] (acc ++ [cur]) h' t' (by rw [e]; simp) hs' (by simp; omega)
        have e1 : (p ++ (cur ++ [c])).length = p.length + cur.length + 1 := by simp; omega
        rw [e1, List.nil_append] at ih
        rw [hs']
        exact ih
    | false =>
      rw [hc, if_neg (by decide), hs'] at hs
      cases hs
      have hne : (c != 46) = true := by rw [bne, hc]; rfl
      simp only [X28_11, lenS_l, int_leq, int_lss, hd, hd2, hi, u8_neq, hne, Option.bind_some, condM_b, if_true, selW_and, Bool.true_and]
      apply r28_12
      simp only [X28_12, hw]
      have ih := l28 l hl b r p (cur ++ [c]) acc h' t (by rw [e]; simp) hs' h8
      have e1 : p.length + (cur ++ [c]).length = p.length + cur.length + 1 := by simp; omega
      rw [e1, List.append_assoc] at ih
      exact ih
theorem wayL_nil (b : Bool) (segs : List (List UInt8)) : wayL b [] segs = if segs.all nameB && decide (segs.length ≤ 8) then .tu [.ag [.b b, .ro 1 (segs.map .s)], .b true] else wayFail := by
  unfold wayL
  simp
theorem l28_all (l : List UInt8) (hl : l.length ≤ 1000000000) (b : Bool) : F28_9 (semRun (C mx) Tryd.prog 28 Tryd.f28) (.s l) false .nils b [] = some (wayL b [] (splitL l)) := by
  apply r28_9
  obtain ⟨h, t, hs⟩ := splitL_cons l
  have := l28 (mx := mx) l hl b l [] [] [] h t rfl hs (by simp)
  rw [hs]
  exact this
/-- The document's Way is the program's. -/
theorem s28 (l : List UInt8) (hl : l.length ≤ 1000000000) : semCall (C mx) Tryd.prog 28 [.s l] = some (wayAV l) := by
  apply c28
  unfold wayAV
  cases h1 : (l == [46]) with
  | true => simp only [X28, h1, condM_b, if_true]
  | false =>
    cases h2 : (l == [36]) with
    | true => simp only [X28, h1, h2, condM_b, if_true, Bool.false_eq_true, if_false]
    | false =>
      have hdol : ((selW (.b (decide ((l.length : Int) ≥ 2))) true ((idxS (.s l) (.int 0)).bind fun v1 => (binI .eql (v1) (.u8 36)).bind fun v2 => some (v2)) (.b false)).bind fun v3 => (selW (v3) true ((idxS (.s l) (.int 1)).bind fun v4 => (binI .eql (v4) (.u8 46)).bind fun v5 => some (v5)) (.b false))) = some (.b (dollar l)) := by
        match l with
        | [] => rfl
        | [a] => rfl
        | a :: b :: r =>
          have hd : decide ((((a :: b :: r).length : Nat) : Int) ≥ 2) = true := by rw [decide_eq_true_eq]; simp; omega
          have i0 : idxS (.s (a :: b :: r)) (.int 0) = some (.u8 a) := idxS_int (i := 0) (l := a :: b :: r) (by simp)
          have i1 : idxS (.s (a :: b :: r)) (.int 1) = some (.u8 b) := idxS_int (i := 1) (l := a :: b :: r) (by simp)
          have hdd : dollar (a :: b :: r) = (a == 36 && b == 46) := by
            unfold dollar
            have : decide (2 ≤ (a :: b :: r).length) = true := by rw [decide_eq_true_eq]; simp
            rw [this, Bool.true_and, Bool.eq_iff_iff]
            simp
          rw [hdd]
          simp only [hd, i0, i1, u8_eql, selW_and, Option.bind_some, Bool.true_and]
      simp only [X28, h1, h2, condM_b, Bool.false_eq_true, if_false]
      rw [← Option.bind_assoc, hdol]
      simp only [Option.bind_some, condM_b]
      cases hd : dollar l with
      | true =>
        have hlen : 2 ≤ l.length := by
          unfold dollar at hd
          simp only [Bool.and_eq_true, decide_eq_true_eq] at hd
          exact hd.1
        have hs : slS (.s l) (some (.int 2)) none = some (.s (l.drop 2)) := slS_lo (i := 2) hlen
        simp only [hs, Option.bind_some, if_true]
        rw [l28_all _ (by simp; omega), wayL_nil]
        rfl
      | false =>
        simp only [Bool.false_eq_true, if_false]
        rw [l28_all l hl, wayL_nil]
        rfl
end R3

namespace R3
open Go Go.Proofs Sx

variable {mx : Int}
theorem dropF_idem (b : UInt8) (l : List UInt8) : dropF b (dropF b l) = dropF b l := by
  obtain ⟨n, _, h | ⟨x, r, h, hx⟩⟩ := dropF_form b l
  · rw [h]; rfl
  · rw [h]; unfold dropF; rw [List.dropWhile_cons, if_neg (by rw [hx]; decide)]
theorem dropE_idem (b : UInt8) (l : List UInt8) : dropE b (dropE b l) = dropE b l := by
  have := dropF_idem b l.reverse
  unfold dropF at this
  unfold dropE
  rw [List.reverse_reverse, this]
theorem trimW_end (l : List UInt8) : dropE 32 (trimW l) = trimW l := by
  unfold trimW
  rw [drop_swap, dropE_idem]
theorem trim_behind (s : List UInt8) (n : Nat) (h : dropE 32 s = s) (hn : n < s.length) (h32 : s[n]? = some 32) : trimW (s.drop n) = dropF 32 (s.drop (n + 1)) := by
  have e : s.take n ++ s.drop n = s := List.take_append_drop n s
  have h1 := dropE_app 32 (s.take n) (s.drop n)
  rw [e, h] at h1
  have h2 : dropE 32 (s.drop n) = s.drop n := by
    split at h1
    · have h3 := dropE_len 32 (s.take n)
      rw [← h1, List.length_take] at h3
      omega
    · rw [e.symm] at h1
      have h4 : s.take n ++ s.drop n = s.take n ++ dropE 32 (s.drop n) := by
        rw [e] at h1 ⊢
        exact h1
      exact (List.append_cancel_left h4).symm
  unfold trimW
  rw [h2]
  have h5 : s.drop n = 32 :: s.drop (n + 1) := by
    rw [List.drop_eq_getElem_cons hn]
    rw [List.getElem?_eq_getElem hn] at h32
    rw [Option.some.inj h32]
  rw [h5]
  unfold dropF
  rw [List.dropWhile_cons]; rfl
theorem l56_19 (x : List UInt8) (hx : x.length ≤ 1000000000) (k : Int) (kb : UInt8) (hc : conv .u8 (.int k) = some (.u8 kb)) : F56_19 (semRun (C mx) Tryd.prog 56 Tryd.f56) (.s x) k 0 0 [] false .nils = some (wayW kb x).av := by
  apply r56_19
  have hw := s28 (mx := mx) x hx
  rw [wayAV_eq] at hw
  have e (x y : AV) : AV.asAg 2 (.ag [x, y]) = some [x, y] := rfl
  have h1 : AV.one (.u8 kb) = some (.u8 kb) := rfl
  simp only [X56_19, hw, tup2_0, tup2_1, e, hc, h1, Option.bind_some, List.getD_cons_zero, List.getD_cons_succ]
  rfl
theorem pre_at {p s : List UInt8} (h : pre (p ++ [32]) s = true) : p.length < s.length ∧ s[p.length]? = some 32 := by
  unfold pre at h
  simp only [Bool.and_eq_true, decide_eq_true_eq, beq_iff_eq] at h
  have h1 : p.length < s.length := by have := h.1; simp at this; omega
  refine ⟨h1, ?_⟩
  have h2 : (s.take (p ++ [32]).length)[p.length]? = s[p.length]? := by rw [List.getElem?_take]; simp
  rw [← h2, h.2]
  simp
theorem l56_12 (s : List UInt8) (hs : s.length ≤ 1000000000) (ht : dropE 32 s = s) : F56_12 (semRun (C mx) Tryd.prog 56 Tryd.f56) (.s s) 0 0 [] false .nils = some (if pre (ifS ++ [32]) s then wayW 2 (dropF 32 (s.drop 3)) else if pre (rangeS ++ [32]) s then wayW 4 (dropF 32 (s.drop 6)) else wayW 1 s).av := by
  apply r56_12
  have c1 := s82 (mx := mx) s [105, 102] hs
  have c2 := s82 (mx := mx) s [114, 97, 110, 103, 101] hs
  rw [show ([105, 102] : List UInt8) ++ [32] = ifS ++ [32] from rfl] at c1
  rw [show ([114, 97, 110, 103, 101] : List UInt8) ++ [32] = rangeS ++ [32] from rfl] at c2
  simp only [X56_12, c1, Option.bind_some, condM_b]
  cases h1 : pre (ifS ++ [32]) s with
  | true =>
    obtain ⟨hl, h32⟩ := pre_at h1
    have hl : 2 < s.length := hl
    have hsl : slS (.s s) (some (.int 2)) none = some (.s (s.drop 2)) := slS_lo (i := 2) (by omega)
    have h81 := s81 (mx := mx) (s.drop 2) (by simp; omega)
    rw [trim_behind s 2 ht hl h32] at h81
    simp only [hsl, h81, Option.bind_some, if_true]
    exact l56_19 _ (Nat.le_trans (dropF_len _ _) (by simp; omega)) 2 2 rfl
  | false =>
    simp only [c2, Option.bind_some, condM_b, Bool.false_eq_true, if_false]
    cases h2 : pre (rangeS ++ [32]) s with
    | true =>
      obtain ⟨hl, h32⟩ := pre_at h2
      have hl : 5 < s.length := hl
      have hsl : slS (.s s) (some (.int 5)) none = some (.s (s.drop 5)) := slS_lo (i := 5) (by omega)
      have h81 := s81 (mx := mx) (s.drop 5) (by simp; omega)
      rw [trim_behind s 5 ht hl h32] at h81
      simp only [hsl, h81, Option.bind_some, if_true]
      exact l56_19 _ (Nat.le_trans (dropF_len _ _) (by simp; omega)) 4 4 rfl
    | false =>
      simp only [Bool.false_eq_true, if_false]
      exact l56_19 _ hs 1 1 rfl
/-- The document's Action is the program's. -/
theorem s56 (l : List UInt8) (hl : l.length ≤ 1000000000) : semCall (C mx) Tryd.prog 56 [.s l] = some (actW l).av := by
  apply c56
  have h81 := s81 (mx := mx) l hl
  have hs := Nat.le_trans (trimW_len l) hl
  have ht := trimW_end l
  unfold actW
  generalize trimW l = s at h81 hs ht
  simp only [X56, h81, Option.bind_some, s_eql, condM_b]
  unfold actT
  rw [show ([101, 108, 115, 101] : List UInt8) = els from rfl, show ([101, 110, 100] : List UInt8) = endS from rfl, show ([102, 108, 117, 115, 104] : List UInt8) = flushS from rfl]
  cases h1 : (s == els) with
  | true => simp only [if_true]; rfl
  | false =>
    cases h2 : (s == endS) with
    | true => simp only [if_true, Bool.false_eq_true, if_false]; rfl
    | false =>
      cases h3 : (s == flushS) with
      | true => simp only [if_true, Bool.false_eq_true, if_false]; rfl
      | false =>
        simp only [Bool.false_eq_true, if_false]
        cases h4 : (s == ifS) with
        | true =>
          have h4' : s = [105, 102] := by simpa [ifS] using h4
          subst h4'
          rw [if_pos (by rfl)]
          apply r56_11
          rfl
        | false =>
          rw [if_neg (by rw [show ([105, 102] : List UInt8) = ifS from rfl, h4]; decide)]
          cases h5 : (s == rangeS) with
          | true =>
            have h5' : s = [114, 97, 110, 103, 101] := by simpa [rangeS] using h5
            subst h5'
            rw [if_pos (by rfl)]
            apply r56_11
            rfl
          | false =>
            rw [if_neg (by rw [show ([114, 97, 110, 103, 101] : List UInt8) = rangeS from rfl, h5]; decide)]
            rw [l56_12 s hs ht]
            simp only [Bool.or_false, Bool.false_eq_true, if_false]
end R3

namespace R3
open Go Go.Proofs Sx

variable {mx : Int}
theorem occ_app (p r sub : List UInt8) (k : Nat) : Lib.occAt (p ++ r) sub (p.length + k) = Lib.occAt r sub k := by
  unfold Lib.occAt
  rw [← List.drop_drop, List.drop_left]
theorem app64 (w : Wd) (acc : List Wd) (h : acc.length ≤ 1000000000) : app 64 5 (acc.map Wd.av) (.ro 5 ([w.av] : List AV)) = some ((acc ++ [w]).map Wd.av) := by
  have hb : big = 70368744177664 := rfl
  show ((if 5 = 5 then some [w.av] else none).bind fun q => if ((acc.map Wd.av).length + q.length) * 64 ≤ big then some (acc.map Wd.av ++ q) else none) = _
  rw [if_pos rfl]
  simp only [Option.bind_some, List.length_map, List.length_cons, List.length_nil, hb]
  rw [if_pos (by omega), List.map_append]; rfl
theorem idxO_no (r : List UInt8) (k : Nat) (h : k < idxO r) : Lib.occAt r brO k = false := by
  unfold idxO at h
  rcases Lib.index_spec r brO with ⟨h1, h2⟩ | ⟨i, h1, h2, h3, h4⟩
  · rw [if_pos (by omega)] at h
    exact h2 k (by omega)
  · rw [if_neg (by omega), h1] at h
    exact h4 k h
theorem idxO_end (r : List UInt8) : idxO r = r.length ∨ (idxO r < r.length ∧ Lib.occAt r brO (idxO r) = true) := by
  unfold idxO
  rcases Lib.index_spec r brO with ⟨h1, h2⟩ | ⟨i, h1, h2, h3, h4⟩
  · rw [if_pos (by omega)]; exact Or.inl rfl
  · rw [if_neg (by omega), h1]
    have := Lib.index_room r brO (by omega)
    have e : (brO.length : Int) = 2 := rfl
    exact Or.inr ⟨by omega, h3⟩
theorem l24_5 (p r : List UInt8) (hl : (p ++ r).length ≤ 1000000000) (acc : List AV) (R : Option AV)
    (hR : (condM (.b (decide (((p.length + idxO r : Nat) : Int) > (p.length : Int))))
  ((slS (.s (p ++ r)) (some (.int (p.length : Int))) (some (.int ((p.length + idxO r : Nat) : Int)))).bind fun v4 => (AV.one (v4)).bind fun v5 => (app 64 5 acc (.ro 5 (([.ag [.u8 0, .int (p.length : Int), v5, .b false, .nils]] : List AV)))).bind fun v6 => F24_3 (semRun (C mx) Tryd.prog 24 Tryd.f24) (p ++ r) v6 ((p.length + idxO r : Nat) : Int))
  (F24_11 (semRun (C mx) Tryd.prog 24 Tryd.f24) (p ++ r) acc (p.length : Int) (w64 ((p.length : Int) + 2)))) = R) (hs : ∃ x, R = some x) : ∀ (d k : Nat), k + d = idxO r →
    F24_5 (semRun (C mx) Tryd.prog 24 Tryd.f24) (p ++ r) acc (p.length : Int) ((p.length + k : Nat) : Int) = R
  | 0, k, e => by
    obtain rfl : k = idxO r := by omega
    obtain ⟨x, rfl⟩ := hs
    apply r24_5
    have hle := idxO_le r
    have hpl : p.length + r.length ≤ 1000000000 := by simpa using hl
    have h55 := s55 (mx := mx) (p ++ r) [123, 123] (p.length + idxO r) hl (by simp; omega) (by decide)
    rw [occ_app] at h55
    rcases idxO_end r with h | ⟨h, ho⟩
    · have hd : decide (((p.length + idxO r : Nat) : Int) < ((p ++ r).length : Int)) = false := by rw [decide_eq_false_iff_not, List.length_append]; omega
      simp only [X24_5, hd, h55, Option.bind_some, unop_not, selW_and, Bool.false_and, condM_b, Bool.false_eq_true, if_false]
      simpa only [condM_b] using hR
    · have hd : decide (((p.length + idxO r : Nat) : Int) < ((p ++ r).length : Int)) = true := by rw [decide_eq_true_eq, List.length_append]; omega
      have ho' : Lib.occAt r [123, 123] (idxO r) = true := ho
      rw [ho'] at h55
      simp only [X24_5, hd, h55, Option.bind_some, unop_not, selW_and, Bool.not_true, Bool.and_false, condM_b, Bool.false_eq_true, if_false]
      simpa only [condM_b] using hR
  | d + 1, k, e => by
    have ih := l24_5 p r hl acc R hR hs d (k + 1) (by omega)
    obtain ⟨x, rfl⟩ := hs
    apply r24_5
    have hle := idxO_le r
    have hpl : p.length + r.length ≤ 1000000000 := by simpa using hl
    have h55 := s55 (mx := mx) (p ++ r) [123, 123] (p.length + k) hl (by simp; omega) (by decide)
    rw [occ_app, show Lib.occAt r [123, 123] k = false from idxO_no r k (by omega)] at h55
    have hd : decide (((p.length + k : Nat) : Int) < ((p ++ r).length : Int)) = true := by rw [decide_eq_true_eq, List.length_append]; omega
    have hw : w64 (((p.length + k : Nat) : Int) + 1) = ((p.length + (k + 1) : Nat) : Int) := by rw [w64_eq (by omega) (by omega)]; omega
    simp only [X24_5, hd, h55, hw, Option.bind_some, unop_not, selW_and, Bool.not_false, Bool.and_true, condM_b, if_true]
    exact ih
def idxC (r : List UInt8) : Nat := if Lib.index r brC < 0 then r.length else (Lib.index r brC).toNat
theorem idxC_no (r : List UInt8) (k : Nat) (h : k < idxC r) : Lib.occAt r brC k = false := by
  unfold idxC at h
  rcases Lib.index_spec r brC with ⟨h1, h2⟩ | ⟨i, h1, h2, h3, h4⟩
  · rw [if_pos (by omega)] at h
    exact h2 k (by omega)
  · rw [if_neg (by omega), h1] at h
    exact h4 k h
theorem idxC_end (r : List UInt8) : (Lib.index r brC < 0 ∧ idxC r = r.length) ∨ (Lib.index r brC = (idxC r : Int) ∧ idxC r + 2 ≤ r.length ∧ Lib.occAt r brC (idxC r) = true) := by
  unfold idxC
  rcases Lib.index_spec r brC with ⟨h1, h2⟩ | ⟨i, h1, h2, h3, h4⟩
  · rw [if_pos (by omega)]; exact Or.inl ⟨by omega, rfl⟩
  · rw [if_neg (by omega), h1]
    have := Lib.index_room r brC (by omega)
    have e : (brC.length : Int) = 2 := rfl
    exact Or.inr ⟨rfl, by omega, h3⟩
theorem l24_11 (p r : List UInt8) (hl : (p ++ r).length ≤ 1000000000) (acc : List AV) (R : Option AV)
    (hR : (condM (.b (decide (((p.length + idxC r : Nat) : Int) ≥ ((p ++ r).length : Int))))
  (some (.tu [.ro 5 acc, .int (p.length : Int)]))
  ((slS (.s (p ++ r)) (some (.int (w64 ((p.length : Int) + 2)))) (some (.int ((p.length + idxC r : Nat) : Int)))).bind fun v4 => (semCall (C mx) Tryd.prog 56 [v4]).bind fun v5 => (tupI (v5) 0).bind fun v6 => (tupI (v5) 1).bind fun v7 => (AV.asAg 5 (v6)).bind fun v8 => (unop .not (v7)).bind fun v9 => condM (v9)
  (some (.tu [.ro 5 acc, .int (p.length : Int)]))
  ((app 64 5 acc (.ro 5 (([.ag [v8.getD 0 .un, .int (p.length : Int), v8.getD 2 .un, v8.getD 3 .un, v8.getD 4 .un]] : List AV)))).bind fun v10 => F24_3 (semRun (C mx) Tryd.prog 24 Tryd.f24) (p ++ r) v10 (w64 (((p.length + idxC r : Nat) : Int) + 2))))) = R) (hs : ∃ x, R = some x) : ∀ (d k : Nat), k + d = idxC r →
    F24_11 (semRun (C mx) Tryd.prog 24 Tryd.f24) (p ++ r) acc (p.length : Int) ((p.length + k : Nat) : Int) = R
  | 0, k, e => by
    obtain rfl : k = idxC r := by omega
    obtain ⟨x, rfl⟩ := hs
    apply r24_11
    have hle : idxC r ≤ r.length := by rcases idxC_end r with h | h <;> omega
    have hpl : p.length + r.length ≤ 1000000000 := by simpa using hl
    have h55 := s55 (mx := mx) (p ++ r) [125, 125] (p.length + idxC r) hl (by simp; omega) (by decide)
    rw [occ_app] at h55
    rcases idxC_end r with ⟨_, h⟩ | ⟨_, h, ho⟩
    · have hd : decide (((p.length + idxC r : Nat) : Int) < ((p ++ r).length : Int)) = false := by rw [decide_eq_false_iff_not, List.length_append]; omega
      simp only [X24_11, hd, h55, Option.bind_some, unop_not, selW_and, Bool.false_and, condM_b, Bool.false_eq_true, if_false]
      simpa only [condM_b] using hR
    · have hd : decide (((p.length + idxC r : Nat) : Int) < ((p ++ r).length : Int)) = true := by rw [decide_eq_true_eq, List.length_append]; omega
      have ho' : Lib.occAt r [125, 125] (idxC r) = true := ho
      rw [ho'] at h55
      simp only [X24_11, hd, h55, Option.bind_some, unop_not, selW_and, Bool.not_true, Bool.and_false, condM_b, Bool.false_eq_true, if_false]
      simpa only [condM_b] using hR
  | d + 1, k, e => by
    have ih := l24_11 p r hl acc R hR hs d (k + 1) (by omega)
    obtain ⟨x, rfl⟩ := hs
    apply r24_11
    have hle : idxC r ≤ r.length := by rcases idxC_end r with h | h <;> omega
    have hpl : p.length + r.length ≤ 1000000000 := by simpa using hl
    have h55 := s55 (mx := mx) (p ++ r) [125, 125] (p.length + k) hl (by simp; omega) (by decide)
    rw [occ_app, show Lib.occAt r [125, 125] k = false from idxC_no r k (by omega)] at h55
    have hd : decide (((p.length + k : Nat) : Int) < ((p ++ r).length : Int)) = true := by rw [decide_eq_true_eq, List.length_append]; omega
    have hw : w64 (((p.length + k : Nat) : Int) + 1) = ((p.length + (k + 1) : Nat) : Int) := by rw [w64_eq (by omega) (by omega)]; omega
    simp only [X24_11, hd, h55, hw, Option.bind_some, unop_not, selW_and, Bool.not_false, Bool.and_true, condM_b, if_true]
    exact ih
/-- What All of the document answers. -/
def refAV (q : List Wd × Int) : AV := .tu [.ro 5 (q.1.map Wd.av), .int q.2]
theorem l24 : ∀ (n : Nat) (r p : List UInt8) (acc : List Wd), r.length ≤ n → (p ++ r).length ≤ 1000000000 → acc.length ≤ p.length →
    F24_3 (semRun (C mx) Tryd.prog 24 Tryd.f24) (p ++ r) (acc.map Wd.av) (p.length : Int) = some (refAV (wordsF (n + 1) r p.length acc)) := by
  intro n
  induction n with
  | zero =>
    intro r p acc hr hp ha
    obtain rfl := List.eq_nil_of_length_eq_zero (Nat.le_zero.1 hr)
    apply r24_3
    have : decide ((p.length : Int) < ((p ++ []).length : Int)) = false := by simp
    simp only [X24_3, this, condM_b, Bool.false_eq_true, if_false]
    rfl
  | succ n ih =>
    intro r p acc hr hp ha
    cases r with
    | nil =>
      apply r24_3
      have : decide ((p.length : Int) < ((p ++ []).length : Int)) = false := by simp
      simp only [X24_3, this, condM_b, Bool.false_eq_true, if_false]
      rfl
    | cons x r' =>
      obtain ⟨r, hreq⟩ : ∃ r, r = x :: r' := ⟨_, rfl⟩
      rw [← hreq] at hr hp ⊢
      have hne : r.isEmpty = false := by rw [hreq]; rfl
      have hpos : 0 < r.length := by rw [hreq]; simp
      have hpl : p.length + r.length ≤ 1000000000 := by simpa using hp
      have hio := idxO_le r
      apply r24_3
      have hlt : decide ((p.length : Int) < ((p ++ r).length : Int)) = true := by rw [decide_eq_true_eq]; simp; omega
      simp only [X24_3, hlt, condM_b, if_true]
      rw [wordsF, if_neg (by rw [hne]; decide)]
      refine l24_5 p r hp (acc.map Wd.av) _ ?_ ⟨_, rfl⟩ (idxO r) 0 (by omega)
      by_cases hi : 0 < idxO r
      · have hgt : decide (((p.length + idxO r : Nat) : Int) > (p.length : Int)) = true := by rw [decide_eq_true_eq]; omega
        have hc := app64 (litW p.length (r.take (idxO r))) acc (by omega)
        have hw : (litW p.length (r.take (idxO r))).av = .ag [.u8 0, .int (p.length : Int), .s (r.take (idxO r)), .b false, .nils] := rfl
        rw [hw] at hc
        have := ih (r.drop (idxO r)) (p ++ r.take (idxO r)) (acc ++ [litW p.length (r.take (idxO r))]) (by rw [List.length_drop]; omega) (by rw [List.append_assoc, List.take_append_drop]; exact hp) (by simp; omega)
        have hlen : (p ++ r.take (idxO r)).length = p.length + idxO r := by simp; omega
        rw [List.append_assoc, List.take_append_drop, hlen] at this
        simp only [hgt, sl_mid p r _ hio, one_s, hc, Option.bind_some, condM_b, if_true]
        rw [if_pos hi]
        exact this
      · have hgt : decide (((p.length + idxO r : Nat) : Int) > (p.length : Int)) = false := by rw [decide_eq_false_iff_not]; omega
        rw [if_neg hi]
        simp only [hgt, condM_b, Bool.false_eq_true, if_false]
        have hr2 : 2 ≤ r.length := by
          have := congrArg List.length (idxO_pre r (by omega) hpos)
          rw [List.length_take] at this
          have e : brO.length = 2 := rfl
          omega
        have hw2 : w64 ((p.length : Int) + 2) = ((p.length + 2 : Nat) : Int) := by rw [w64_eq (by omega) (by omega)]; omega
        rw [hw2]
        have hC2 : 2 ≤ idxC r := by
          rcases idxC_end r with ⟨_, h⟩ | ⟨h, _⟩
          · omega
          · exact idxC_ge r (by omega) hpos _ h
        refine l24_11 p r hp (acc.map Wd.av) _ ?_ ⟨_, rfl⟩ (idxC r - 2) 2 (by omega)
        rcases idxC_end r with ⟨h, h'⟩ | ⟨h, h', _⟩
        · have hge : decide (((p.length + idxC r : Nat) : Int) ≥ ((p ++ r).length : Int)) = true := by rw [decide_eq_true_eq, List.length_append]; omega
          rw [if_pos h]
          simp only [hge, condM_b, if_true]
          rfl
        · have hge : decide (((p.length + idxC r : Nat) : Int) ≥ ((p ++ r).length : Int)) = false := by rw [decide_eq_false_iff_not, List.length_append]; omega
          rw [if_neg (by omega), h, Int.toNat_natCast]
          generalize idxC r = j at *
          have a4 : w64 (((p.length + j : Nat) : Int) + 2) = ((p.length + (j + 2) : Nat) : Int) := by rw [w64_eq (by omega) (by omega)]; omega
          have hsl := sl_act p r j hC2 (by omega)
          have hact := s56 (mx := mx) ((r.take j).drop 2) (by simp; omega)
          have hw : (actW ((r.take j).drop 2)).av = .tu [.ag [.u8 (actW ((r.take j).drop 2)).kind, .int 0, .s [], .b (actW ((r.take j).drop 2)).root, (actW ((r.take j).drop 2)).names], .b (actW ((r.take j).drop 2)).ok] := rfl
          rw [hw] at hact
          have hc := app64 (actWd p.length (actW ((r.take j).drop 2))) acc (by omega)
          have hw2 : (actWd p.length (actW ((r.take j).drop 2))).av = .ag [.u8 (actW ((r.take j).drop 2)).kind, .int (p.length : Int), .s [], .b (actW ((r.take j).drop 2)).root, (actW ((r.take j).drop 2)).names] := rfl
          rw [hw2] at hc
          have hih := ih (r.drop (j + 2)) (p ++ r.take (j + 2)) (acc ++ [actWd p.length (actW ((r.take j).drop 2))]) (by rw [List.length_drop]; omega) (by rw [List.append_assoc, List.take_append_drop]; exact hp) (by simp; omega)
          have hlen : (p ++ r.take (j + 2)).length = p.length + (j + 2) := by simp; omega
          rw [List.append_assoc, List.take_append_drop, hlen] at hih
          generalize actW ((r.take j).drop 2) = A at *
          simp only [hge, a4, ‹w64 ((p.length : Int) + 2) = ((p.length + 2 : Nat) : Int)›, hsl, hact, tup2_0, tup2_1, asAg5, unop_not, Option.bind_some, condM_b, List.getD_cons_zero, List.getD_cons_succ, hc, Bool.false_eq_true, if_false]
          cases hA : A.ok with
          | false => rfl
          | true =>
            simp only [Bool.not_true, Bool.false_eq_true, if_false, if_true]
            exact hih
theorem s24 (l : List UInt8) (h : l.length ≤ 1000000000) : semCall (C mx) Tryd.prog 24 [.s l] = some (refAV (wordsW l)) := by
  apply c24
  have := l24 (mx := mx) l.length l [] [] (Nat.le_refl _) (by simpa using h) (by simp)
  exact this
theorem wordsF_nm : ∀ (n : Nat) (r : List UInt8) (a : Nat) (acc : List Wd), (∀ w ∈ acc, NmOk w.names) → ∀ w ∈ (wordsF n r a acc).1, NmOk w.names
  | 0, r, a, acc, h => h
  | n + 1, r, a, acc, h => by
    rw [wordsF]
    split
    · exact h
    · split
      · refine wordsF_nm n _ _ _ fun w hw => ?_
        rcases List.mem_append.1 hw with hw | hw
        · exact h w hw
        · obtain rfl := List.mem_singleton.1 hw; exact Or.inl rfl
      · split
        · exact h
        · split
          · refine wordsF_nm n _ _ _ fun w hw => ?_
            rcases List.mem_append.1 hw with hw | hw
            · exact h w hw
            · obtain rfl := List.mem_singleton.1 hw; exact actW_nm _
          · exact h
theorem law3 (l : List UInt8) : semCall (C mx) Tryd.prog 3 [.s l] = some (.b true) := by
  apply c3
  have hA := s23 (mx := mx) l
  have t30 (a b c : AV) : tupI (.tu [a, b, c]) 0 = some a := rfl
  have t31 (a b c : AV) : tupI (.tu [a, b, c]) 1 = some b := rfl
  have t32 (a b c : AV) : tupI (.tu [a, b, c]) 2 = some c := rfl
  unfold allAV at hA
  by_cases h1 : l.length > 65536
  · rw [if_pos h1] at hA
    have hd : decide ((l.length : Int) > 65536) = true := by rw [decide_eq_true_eq]; omega
    simp only [X3, s22 (mx := mx), Option.bind_some, unop_not, Bool.not_true, selW_and, Bool.false_and, condM_b, Bool.false_eq_true, if_false, hA, t30, t31, t32, hd, if_true]
    rfl
  · rw [if_neg h1] at hA
    have hd : decide ((l.length : Int) > 65536) = false := by rw [decide_eq_false_iff_not]; omega
    have h24 := s24 (mx := mx) l (by omega)
    unfold refAV at h24
    by_cases h2 : 0 ≤ (wordsW l).2
    · rw [if_pos h2] at hA
      have hg : decide (0 ≤ (wordsW l).2) = true := by rw [decide_eq_true_eq]; exact h2
      simp only [X3, s22 (mx := mx), Option.bind_some, unop_not, Bool.not_true, selW_and, Bool.false_and, condM_b, Bool.false_eq_true, if_false, hA, t30, t31, t32, hd, h24, tup2_0, tup2_1, int_geq, hg, if_true, int_eql, beq_self_eq_true]
      rfl
    · rw [if_neg h2] at hA
      have hg : decide (0 ≤ (wordsW l).2) = false := by rw [decide_eq_false_iff_not]; exact h2
      have hcov := wordsW_cov l (by omega)
      have hlen := Cov.len _ _ _ hcov
      have h25 := s25 (mx := mx) (wordsW l).1 (by omega) (wordsF_nm _ _ _ _ (fun w hw => by cases hw))
      simp only [X3, s22 (mx := mx), Option.bind_some, unop_not, Bool.not_true, selW_and, Bool.false_and, condM_b, Bool.false_eq_true, if_false, hA, t30, t31, t32, hd, h24, tup2_0, tup2_1, int_geq, hg, if_true, int_eql, beq_self_eq_true, h25]
      rfl
end R3

namespace R3
open Go Go.Proofs Sx

variable {mx : Int}
theorem okN_not (i : Nat) (c : UInt8) : (!(decide (97 ≤ c) && decide (c ≤ 122)) && (((i : Int) == 0) || (!(decide (48 ≤ c) && decide (c ≤ 57)) && (c != 95)))) = !okN i c := by
  unfold okN
  have e : ((i : Int) == 0) = (i == 0) := by
    rw [Bool.eq_iff_iff, beq_iff_eq, beq_iff_eq]; omega
  rw [e, bne]
  cases (decide (97 ≤ c) && decide (c ≤ 122)) <;> cases (i == 0) <;> cases (decide (48 ≤ c) && decide (c ≤ 57)) <;> cases (c == 95) <;> rfl
theorem l29 (l : List UInt8) (hl : l.length ≤ 1000000000) : ∀ (r p : List UInt8), l = p ++ r → F29_2 (semRun (C mx) Tryd.prog 29 Tryd.f29) l (l.length : Int) (p.length : Int) = some (.b (okAll p.length r && (decide (1 ≤ l.length) && decide (l.length ≤ 32))))
  | [], p, e => by
    apply r29_2
    have hd : decide ((p.length : Int) < (l.length : Int)) = false := by rw [e]; simp
    have h1 : decide ((l.length : Int) ≥ 1) = decide (1 ≤ l.length) := by rw [Bool.eq_iff_iff, decide_eq_true_eq, decide_eq_true_eq]; omega
    have h2 : decide ((l.length : Int) ≤ 32) = decide (l.length ≤ 32) := by rw [Bool.eq_iff_iff, decide_eq_true_eq, decide_eq_true_eq]; omega
    simp only [X29_2, hd, h1, h2, condM_b, Bool.false_eq_true, if_false, selW_and, Option.bind_some]
    rfl
  | c :: r, p, e => by
    apply r29_2
    have ih := l29 l hl r (p ++ [c]) (by rw [e]; simp)
    have hle : p.length + (r.length + 1) ≤ 1000000000 := by rw [e] at hl; simpa using hl
    have hd : decide ((p.length : Int) < (l.length : Int)) = true := by rw [decide_eq_true_eq, e]; simp; omega
    have hi : idxS (.s l) (.int (p.length : Int)) = some (.u8 c) := by rw [e]; exact idxS_at p c r
    have hw : w64 ((p.length : Int) + 1) = ((p ++ [c]).length : Int) := by rw [w64_eq (by omega) (by omega)]; simp
    have e1 : (p ++ [c]).length = p.length + 1 := by simp
    simp only [X29_2, hd, hi, hw, u8_geq, u8_leq, u8_neq, selW_and, selW_or, unop_not, Option.bind_some, condM_b, if_true, okN_not]
    rw [okAll, ← e1]
    cases ho : okN p.length c with
    | true => simp only [Bool.not_true, Bool.false_eq_true, if_false, Bool.true_and]; exact ih
    | false => simp only [Bool.not_false, if_true, Bool.false_and]
theorem s29 (l : List UInt8) (hl : l.length ≤ 1000000000) : semCall (C mx) Tryd.prog 29 [.s l] = some (.b (nameB l)) := by
  apply c29
  exact l29 (mx := mx) l hl l [] rfl
/-- Names with dots between. -/
def joinD : List (List UInt8) → List UInt8
  | [] => []
  | x :: r => x ++ (r.map fun y => 46 :: y).flatten
def textW (root : Bool) (t : List UInt8) : List UInt8 := if root && t == [] then [36] else if root then [36, 46] ++ t else if t == [] then [46] else t
theorem joinD_snoc (p : List (List UInt8)) (x : List UInt8) : joinD (p ++ [x]) = if p = [] then x else joinD p ++ (46 :: x) := by
  cases p with
  | nil => simp [joinD]
  | cons y q => simp [joinD]
theorem l33 (b : Bool) (l : List (List UInt8)) (hl : (joinD l).length ≤ 1000000000) (hn : l.length ≤ 1000000000) : ∀ (r p : List (List UInt8)), l = p ++ r → F33_3 (semRun (C mx) Tryd.prog 33 Tryd.f33) (.s (joinD p)) (p.length : Int) b (.ro 1 (l.map .s)) = some (.s (textW b (joinD l)))
  | [], p, e => by
    rw [List.append_nil] at e
    subst e
    apply r33_3
    have hd : decide ((l.length : Int) < ((l.map AV.s).length : Int)) = false := by simp
    have hbig : big = 70368744177664 := rfl
    have ha : binS .add (.s [36, 46]) (.s (joinD l)) = some (.s ([36, 46] ++ joinD l)) := s_add (by simp only [List.length_cons, List.length_nil, hbig]; omega)
    simp only [X33_3, lenR_ro, int_lss, hd, s_eql, ha, Option.bind_some, condM_b, Bool.false_eq_true, if_false]
    unfold textW
    cases b <;> cases (joinD l == []) <;> rfl
  | x :: r, p, e => by
    have hlen : l.length = p.length + (r.length + 1) := by rw [e]; simp
    have ih := l33 b l hl hn r (p ++ [x]) (by rw [e]; simp)
    have hbig : big = 70368744177664 := rfl
    have hpl : (joinD p).length + x.length + 1 ≤ 1000000002 := by
      have h1 : (joinD l).length = (joinD (p ++ [x])).length + ((r.map fun y => 46 :: y).flatten).length := by
        rw [e]
        cases p with
        | nil => simp [joinD]
        | cons y q => simp [joinD]; omega
      rw [joinD_snoc] at h1
      split at h1
      · rename_i h; subst h
        have : (joinD ([] : List (List UInt8))).length = 0 := rfl
        omega
      · simp only [List.length_append, List.length_cons] at h1
        omega
    have hd : decide ((p.length : Int) < ((l.map AV.s).length : Int)) = true := by rw [decide_eq_true_eq, List.length_map]; omega
    have hw : w64 ((p.length : Int) + 1) = ((p ++ [x]).length : Int) := by rw [w64_eq (by omega) (by omega)]; simp
    have hix : idx 1 (.ro 1 (l.map .s)) (.int (p.length : Int)) = some (.s x) := by rw [e]; exact idxN p x r
    have hc : AV.cell (.s x) 0 = .s x := rfl
    apply r33_3
    simp only [X33_3, lenR_ro, int_lss, hd, Option.bind_some, condM_b, if_true]
    rw [joinD_snoc] at ih
    cases p with
    | nil =>
      have h0 : decide (((([] : List (List UInt8)).length : Nat) : Int) > 0) = false := rfl
      simp only [h0, Bool.false_eq_true, if_false]
      apply r33_7
      have ha : binS .add (.s (joinD [])) (.s x) = some (.s x) := s_add (by simp only [joinD, List.length_nil, hbig]; omega)
      simp only [X33_7, hix, hc, ha, hw, Option.bind_some]
      exact ih
    | cons y q =>
      have h0 : decide ((((y :: q).length : Nat) : Int) > 0) = true := by rw [decide_eq_true_eq]; simp
      have a1 : binS .add (.s (joinD (y :: q))) (.s [46]) = some (.s (joinD (y :: q) ++ [46])) := s_add (by simp only [List.length_cons, List.length_nil, hbig]; omega)
      have a2 : binS .add (.s (joinD (y :: q) ++ [46])) (.s x) = some (.s (joinD (y :: q) ++ [46] ++ x)) := s_add (by simp only [List.length_append, List.length_cons, List.length_nil, hbig]; omega)
      simp only [h0, a1, Option.bind_some, if_true]
      apply r33_7
      simp only [X33_7, hix, hc, a2, hw, Option.bind_some]
      rw [if_neg (by simp)] at ih
      rw [List.append_assoc]
      exact ih
theorem s33 (b : Bool) (l : List (List UInt8)) (hl : (joinD l).length ≤ 1000000000) (hn : l.length ≤ 1000000000) : semCall (C mx) Tryd.prog 33 [.ag [.b b, .ro 1 (l.map .s)]] = some (.s (textW b (joinD l))) := by
  apply c33
  exact l33 (mx := mx) b l hl hn l [] rfl
theorem s33n (b : Bool) : semCall (C mx) Tryd.prog 33 [.ag [.b b, .nils]] = some (.s (textW b [])) := by
  apply c33
  show F33_3 _ _ _ _ _ = _
  apply r33_3
  cases b <;> rfl
end R3

namespace R3
open Go Go.Proofs Sx

variable {mx : Int}
theorem strsA_map : ∀ (l : List (List UInt8)), strsA (l.map .s) = some l
  | [] => rfl
  | x :: r => by rw [List.map_cons, strsA, strsA_map r]; rfl
theorem join_eq : ∀ (l : List (List UInt8)), Lib.join l [46] = joinD l := by
  intro l
  cases l with
  | nil => rfl
  | cons x r =>
    rw [Lib.join_cons]; rfl
theorem s61 (l : List (List UInt8)) (h1 : l.length ≤ 1000000000) (h2 : (joinD l).length ≤ 1000000000) : semCall (C mx) Tryd.prog 61 [.ro 1 (l.map .s), .s [46]] = some (.s (joinD l)) := by
  refine semCall_gv (G := G61) rfl rfl ?_
  rw [← join_eq] at h2 ⊢
  unfold G61
  simp only [if_true, strsA_map, Option.bind_some]
  rw [if_pos ⟨h1, h2⟩]
theorem s61n : semCall (C mx) Tryd.prog 61 [.nils, .s [46]] = some (.s []) := semCall_gv (G := G61) rfl rfl rfl
theorem x32 (b : Bool) (v : AV) (t : List UInt8) (h : semCall (C mx) Tryd.prog 61 [v, .s [46]] = some (.s t)) (ht : t.length ≤ 1000000000) : semCall (C mx) Tryd.prog 32 [.ag [.b b, v]] = some (.s (textW b t)) := by
  apply c32
  have hbig : big = 70368744177664 := rfl
  have ha : binS .add (.s [36, 46]) (.s t) = some (.s ([36, 46] ++ t)) := s_add (by simp only [List.length_cons, List.length_nil, hbig]; omega)
  simp only [X32, h, s_eql, ha, selW_and, Option.bind_some, condM_b]
  unfold textW
  cases b <;> cases (t == []) <;> rfl
theorem joinD_len : ∀ (l : List (List UInt8)), l.all nameB = true → (joinD l).length ≤ 33 * l.length := by
  have nm (x : List UInt8) (h : nameB x = true) : x.length ≤ 32 := by
    unfold nameB at h
    simp only [Bool.and_eq_true, decide_eq_true_eq] at h
    exact h.2.2
  have tail : ∀ (r : List (List UInt8)), r.all nameB = true → (r.map fun y => 46 :: y).flatten.length ≤ 33 * r.length := by
    intro r
    induction r with
    | nil => intro _; simp
    | cons x r ih =>
      intro h
      rw [List.all_cons, Bool.and_eq_true] at h
      have h1 := nm x h.1
      have h2 := ih h.2
      simp only [List.map_cons, List.flatten_cons, List.length_append, List.length_cons]
      omega
  intro l h
  cases l with
  | nil => simp [joinD]
  | cons x r =>
    rw [List.all_cons, Bool.and_eq_true] at h
    have h1 := nm x h.1
    have h2 := tail r h.2
    simp only [joinD, List.length_append, List.length_cons]
    omega
theorem way_names (l : List UInt8) : wayN l = .nils ∨ ∃ q : List (List UInt8), wayN l = .ro 1 (q.map .s) ∧ q.length ≤ 8 ∧ q.all nameB = true := by
  unfold wayN
  split
  · exact Or.inl rfl
  · split
    · exact Or.inl rfl
    · generalize (if dollar l then l.drop 2 else l) = q
      split
      · rename_i h
        simp only [Bool.and_eq_true, decide_eq_true_eq] at h
        exact Or.inr ⟨_, rfl, h.2, h.1⟩
      · exact Or.inl rfl
theorem law8 (l : List UInt8) (hl : l.length ≤ 1000000000) : semCall (C mx) Tryd.prog 8 [.s l] = some (.b true) := by
  apply c8
  have h27 := s27 (mx := mx) l hl
  have h28 := s28 (mx := mx) l hl
  rw [wayAV_eq] at h28
  have h29 := s29 (mx := mx) l hl
  have h30 := s30 (mx := mx) l hl
  have h31 := s31 (mx := mx) (wayR l) (wayN l) (wayN_ok l)
  obtain ⟨t, h32, h33⟩ : ∃ t, semCall (C mx) Tryd.prog 32 [.ag [.b (wayR l), wayN l]] = some (.s t) ∧ semCall (C mx) Tryd.prog 33 [.ag [.b (wayR l), wayN l]] = some (.s t) := by
    rcases way_names l with h | ⟨q, h, h8, hn⟩
    · rw [h]
      exact ⟨_, x32 _ _ [] s61n (by simp), s33n _⟩
    · rw [h]
      have hj := joinD_len q hn
      exact ⟨_, x32 _ _ _ (s61 q (by omega) (by omega)) (by omega), s33 _ q (by omega) (by omega)⟩
  have e (x y : AV) : AV.asAg 2 (.ag [x, y]) = some [x, y] := rfl
  have eb (x y : Bool) : binB .eql (.b x) (.b y) = some (.b (x == y)) := rfl
  simp only [X8, s22 (mx := mx), Option.bind_some, unop_not, Bool.not_true, selW_and, Bool.false_and, condM_b, Bool.false_eq_true, if_false, h27, h28, h29, h30, tup2_0, tup2_1, e, eb, List.getD_cons_zero, List.getD_cons_succ, h31, h32, h33, s_eql, beq_self_eq_true, Bool.and_true]
end R3
