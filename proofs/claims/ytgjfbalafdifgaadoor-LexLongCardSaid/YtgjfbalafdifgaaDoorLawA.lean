/-
  What functions of this seat compute, and laws on plain data.
-/
import Derived.Test.YtgjfbalafdifgaaDoorPureA
import Derived.Test.YtgjfbalafdifgaaDoorTxtA
import Derived.Lib.IndexMore
import Derived.Test.YtgjfbalafdifgaaDoorTab
import Derived.RangeFuncNested
import Derived.RangeFuncBound
import Derived.RangeFuncCalls
import Derived.RangeFuncLeaves
import Derived.Shelf.RegionOpen
import Derived.WalkKit
import Derived.OwnWalkIn
import Derived.TacticsInMore
import Derived.LoopNIn
import Derived.LoopIn
import Derived.Test.YtgjfbalafdifgaaDoorWayA
import Derived.Maps.OwnIn
import Derived.Maps.AppendAt
import Derived.StillTailTactics
import Derived.Laws.OwnMore
import Derived.Laws.BytesString
set_option linter.unusedVariables false
set_option linter.unusedSimpArgs false
set_option linter.unusedSectionVars false
set_option linter.unnecessarySimpa false
namespace R3
open Go Go.Proofs Sx

variable {mx : Int}
theorem tup2_0 (a b : AV) : tupI (.tu [a, b]) 0 = some a := rfl
theorem tup2_1 (a b : AV) : tupI (.tu [a, b]) 1 = some b := rfl
theorem lenS_l (l : List UInt8) : lenS (.s l) = some (.int (l.length : Int)) := rfl
theorem gt0 (n : Nat) : binI .gtr (.int ((n + 1 : Nat) : Int)) (.int 0) = some (.b true) := by
  rw [int_gtr]; congr 2; rw [decide_eq_true_eq]; omega
/-- Without such bytes in front. -/
def dropF (b : UInt8) (l : List UInt8) : List UInt8 := l.dropWhile (· == b)
/-- Without such bytes behind. -/
def dropE (b : UInt8) (l : List UInt8) : List UInt8 := (l.reverse.dropWhile (· == b)).reverse
theorem l120 (b : UInt8) : ∀ (l : List UInt8), l.length ≤ 1000000000 → F120_1 (semRun (C mx) Tryd.prog 120 Tryd.f120) (.s l) b = some (.s (dropF b l))
  | [], _ => by
    apply r120_1
    rfl
  | x :: r, h => by
    apply r120_1
    have ih := l120 b r (by simp at h; omega)
    have hi : idxS (.s (x :: r)) (.int 0) = some (.u8 x) := idxS_int (i := 0) (l := x :: r) (by simp)
    have hs : slS (.s (x :: r)) (some (.int 1)) none = some (.s r) := slS_lo (l := x :: r) (i := 1) (by simp)
    simp only [X120_1, lenS_l, List.length_cons, gt0, hi, hs, Option.bind_some, u8_eql, selW_and, Bool.true_and, condM_b]
    unfold dropF
    rw [List.dropWhile_cons]
    cases hx : (x == b) with
    | true => simp only [if_true]; exact ih
    | false => simp only [Bool.false_eq_true, if_false]
theorem s120 (b : UInt8) (l : List UInt8) (h : l.length ≤ 1000000000) : semCall (C mx) Tryd.prog 120 [.s l, .u8 b] = some (.s (dropF b l)) := by
  apply c120
  exact l120 b l h
theorem l121 (b : UInt8) : ∀ (n : Nat) (l : List UInt8), l.length = n → n ≤ 1000000000 → F121_1 (semRun (C mx) Tryd.prog 121 Tryd.f121) (.s l) b = some (.s (dropE b l))
  | 0, l, hn, h => by
    obtain rfl := List.eq_nil_of_length_eq_zero hn
    apply r121_1
    rfl
  | n + 1, l, hn, h => by
    apply r121_1
    obtain ⟨p, x, rfl⟩ : ∃ p x, l = p ++ [x] := by
      rcases List.eq_nil_or_concat l with e | ⟨p, x, e⟩
      · rw [e] at hn; cases hn
      · exact ⟨p, x, by simpa using e⟩
    have hp : p.length = n := by simpa using hn
    have ih := l121 b n p hp (by omega)
    have hl : (p ++ [x]).length = p.length + 1 := by simp
    have hsub : binI .sub (.int ((p.length + 1 : Nat) : Int)) (.int 1) = some (.int (p.length : Int)) := by
      show some (AV.int (w64 _)) = _
      rw [w64_eq (by omega) (by omega)]; congr 2; omega
    have hi : idxS (.s (p ++ [x])) (.int (p.length : Int)) = some (.u8 x) := idxS_at p x []
    have hs : slS (.s (p ++ [x])) none (some (.int (p.length : Int))) = some (.s p) := by
      rw [slS_hi (by simp)]; simp
    simp only [X121_1, lenS_l, hl, gt0, hsub, hi, hs, Option.bind_some, u8_eql, selW_and, Bool.true_and, condM_b]
    unfold dropE
    rw [List.reverse_append, List.reverse_singleton, List.singleton_append, List.dropWhile_cons]
    cases hx : (x == b) with
    | true => simp only [if_true]; exact ih
    | false => simp only [Bool.false_eq_true, if_false]; simp
theorem s121 (b : UInt8) (l : List UInt8) (h : l.length ≤ 1000000000) : semCall (C mx) Tryd.prog 121 [.s l, .u8 b] = some (.s (dropE b l)) := by
  apply c121
  exact l121 b l.length l rfl h
/-- Without blanks in front and behind. -/
def trimW (l : List UInt8) : List UInt8 := dropF 32 (dropE 32 l)
theorem dropE_len (b : UInt8) (l : List UInt8) : (dropE b l).length ≤ l.length := by
  unfold dropE
  have := (List.dropWhile_sublist (p := (· == b)) (l := l.reverse)).length_le
  simpa using this
theorem dropF_len (b : UInt8) (l : List UInt8) : (dropF b l).length ≤ l.length := (List.dropWhile_sublist (p := (· == b)) (l := l)).length_le
theorem trimW_len (l : List UInt8) : (trimW l).length ≤ l.length := Nat.le_trans (dropF_len _ _) (dropE_len _ _)
theorem s99 (l : List UInt8) (h : l.length ≤ 1000000000) : semCall (C mx) Tryd.prog 99 [.s l, .s [32]] = some (.s (trimW l)) := by
  apply c99
  have h1 := s121 (mx := mx) 32 l h
  have h2 := s120 (mx := mx) 32 (dropE 32 l) (Nat.le_trans (dropE_len _ _) h)
  simp only [X99, selW_or, Bool.or_false, Option.bind_some, condM_b, h1, h2]
  cases l with
  | nil => rfl
  | cons x r => rfl
theorem s101 (l : List UInt8) (h : l.length ≤ 1000000000) : semCall (C mx) Tryd.prog 101 [.s l, .s [32]] = some (.s (dropF 32 l)) := by
  apply c101
  have h2 := s120 (mx := mx) 32 l h
  simp only [X101, selW_or, Bool.or_false, Option.bind_some, condM_b, h2]
  cases l with
  | nil => rfl
  | cons x r => rfl
end R3

namespace R3
open Go Go.Proofs Sx

variable {mx : Int}
theorem s83 (l p : List UInt8) : semCall (C mx) Tryd.prog 83 [.s l, .s p] = some (.b (pre p l)) := by
  apply c83
  simp only [X83, Option.bind_some, ge_iff_le]
  by_cases h : p.length ≤ l.length
  · rw [slS_hi h]
    simp [pre, h]
  · have : decide ((p.length : Int) ≤ (l.length : Int)) = false := by simp; omega
    rw [this, selW_tf]
    simp [pre, h]
theorem s59 (l p : List UInt8) : semCall (C mx) Tryd.prog 59 [.s l, .s p] = some (.b (pre p l)) := by
  apply c59
  simp only [X59, s83, Option.bind_some]

theorem s127 (l p : List UInt8) (h : p.length ≤ 1000000000) : semCall (C mx) Tryd.prog 127 [.s l, .s p] = some (.tu [.s (if pre p l then l.drop p.length else l), .b (pre p l)]) := by
  apply c127
  have h1 := s83 (mx := mx) l p
  simp only [X127, h1, Option.bind_some, unop_not, condM_b]
  cases hp : pre p l with
  | false => rfl
  | true =>
    have hle : p.length ≤ l.length := by unfold pre at hp; rw [Bool.and_eq_true, decide_eq_true_eq] at hp; exact hp.1
    rw [slS_lo hle]; rfl
theorem s100 (l p : List UInt8) (h : p.length ≤ 1000000000) : semCall (C mx) Tryd.prog 100 [.s l, .s p] = some (.tu [.s (if pre p l then l.drop p.length else l), .b (pre p l)]) := by
  apply c100
  simp only [X100, s127 l p h, Option.bind_some, tup2_0, tup2_1]
def wayR (l : List UInt8) : Bool := if l == [46] then false else if l == [36] then true else if (splitL (if dollar l then l.drop 2 else l)).all nameB && decide ((splitL (if dollar l then l.drop 2 else l)).length ≤ 8) then dollar l else false
def wayN (l : List UInt8) : AV := if l == [46] then .nils else if l == [36] then .nils else if (splitL (if dollar l then l.drop 2 else l)).all nameB && decide ((splitL (if dollar l then l.drop 2 else l)).length ≤ 8) then .ro 1 ((splitL (if dollar l then l.drop 2 else l)).map .s) else .nils
def wayK (l : List UInt8) : Bool := if l == [46] then true else if l == [36] then true else (splitL (if dollar l then l.drop 2 else l)).all nameB && decide ((splitL (if dollar l then l.drop 2 else l)).length ≤ 8)
theorem wayAV_eq (l : List UInt8) : wayAV l = .tu [.ag [.b (wayR l), wayN l], .b (wayK l)] := by
  unfold wayAV wayR wayN wayK failW
  cases l == [46] with
  | true => rfl
  | false =>
    cases l == [36] with
    | true => rfl
    | false =>
      simp only [Bool.false_eq_true, if_false]
      generalize ((splitL (if dollar l then l.drop 2 else l)).all nameB && decide ((splitL (if dollar l then l.drop 2 else l)).length ≤ 8)) = q
      cases q <;> rfl
theorem s27 (l : List UInt8) (h : l.length ≤ 1000000000) : semCall (C mx) Tryd.prog 27 [.s l] = some (.tu [.ag [.b (wayR l), wayN l], .b (wayK l)]) := by
  rw [← wayAV_eq]
  refine semCall_gv (G := G27) rfl rfl ?_
  show (if l.length ≤ 1000000000 then some (wayAV l) else none) = _
  rw [if_pos h]
def els : List UInt8 := [101, 108, 115, 101]
def endS : List UInt8 := [101, 110, 100]
def flushS : List UInt8 := [102, 108, 117, 115, 104]
def ifS : List UInt8 := [105, 102]
def rangeS : List UInt8 := [114, 97, 110, 103, 101]
/-- What an action's inside is: its kind, its way, is it one? -/
structure Act3 where
  kind : UInt8
  root : Bool
  names : AV
  ok : Bool
def wayW (k : UInt8) (l : List UInt8) : Act3 := ⟨k, wayR l, wayN l, wayK l⟩
def plainW (k : UInt8) (ok : Bool) : Act3 := ⟨k, false, .nils, ok⟩
def actT (s : List UInt8) : Act3 :=
  if s == els then plainW 3 true else if s == endS then plainW 5 true else if s == flushS then plainW 6 true
  else if pre (ifS ++ [32]) s then wayW 2 (dropF 32 (s.drop 3)) else if pre (rangeS ++ [32]) s then wayW 4 (dropF 32 (s.drop 6))
  else if s == ifS || s == rangeS then plainW 0 false else wayW 1 s
def actW (l : List UInt8) : Act3 := actT (trimW l)
def Act3.av (a : Act3) : AV := .tu [.ag [.u8 a.kind, .int 0, .s [], .b a.root, a.names], .b a.ok]
theorem l80 (l : List UInt8) (h : l.length ≤ 1000000000) (k : UInt8) : F80_18 (semRun (C mx) Tryd.prog 80 Tryd.f80) (.s l) k 0 0 [] false .nils = some (wayW k l).av := by
  apply r80_18
  have e (x y : AV) : AV.asAg 2 (.ag [x, y]) = some [x, y] := rfl
  simp only [X80_18, s27 l h, Option.bind_some, tup2_0, tup2_1, e, List.getD_cons_zero, List.getD_cons_succ]
  rfl
theorem s80 (l : List UInt8) (h : l.length ≤ 1000000000) : semCall (C mx) Tryd.prog 80 [.s l] = some (actW l).av := by
  apply c80
  have hs := Nat.le_trans (trimW_len l) h
  have h1 := s99 (mx := mx) l h
  unfold actW
  generalize trimW l = s at hs h1
  have c1 := s100 (mx := mx) s [105, 102, 32] (by decide)
  have c2 := s100 (mx := mx) s [114, 97, 110, 103, 101, 32] (by decide)
  simp only [X80, h1, Option.bind_some, s_eql, condM_b, c1, c2, tup2_0, tup2_1, selW_or]
  unfold actT els endS flushS
  cases s == [101, 108, 115, 101] with
  | true => rfl
  | false =>
    cases s == [101, 110, 100] with
    | true => rfl
    | false =>
      cases s == [102, 108, 117, 115, 104] with
      | true => rfl
      | false =>
        simp only [Bool.false_eq_true, if_false]
        rw [show ifS ++ [32] = [105, 102, 32] from rfl, show rangeS ++ [32] = [114, 97, 110, 103, 101, 32] from rfl, show ifS = [105, 102] from rfl, show rangeS = [114, 97, 110, 103, 101] from rfl]
        cases hp : pre [105, 102, 32] s with
        | true =>
          simp only [if_true]
          have hd : (s.drop 3).length ≤ 1000000000 := by rw [List.length_drop]; omega
          rw [show ([105, 102, 32] : List UInt8).length = 3 from rfl, s101 (mx := mx) (s.drop 3) hd]
          exact l80 (mx := mx) _ (Nat.le_trans (dropF_len _ _) hd) 2
        | false =>
          simp only [Bool.false_eq_true, if_false]
          cases hq : pre [114, 97, 110, 103, 101, 32] s with
          | true =>
            simp only [if_true]
            have hd : (s.drop 6).length ≤ 1000000000 := by rw [List.length_drop]; omega
            rw [show ([114, 97, 110, 103, 101, 32] : List UInt8).length = 6 from rfl, s101 (mx := mx) (s.drop 6) hd]
            exact l80 (mx := mx) _ (Nat.le_trans (dropF_len _ _) hd) 4
          | false =>
            simp only [Bool.false_eq_true, if_false]
            cases hr : (s == [105, 102] || s == [114, 97, 110, 103, 101]) with
            | true => rfl
            | false =>
              simp only [Bool.false_eq_true, if_false]
              exact l80 (mx := mx) s hs 1
end R3

namespace R3
open Go Go.Proofs Sx

variable {mx : Int}
/-- A word of a template. -/
structure Wd where
  kind : UInt8
  at' : Nat
  text : List UInt8
  root : Bool
  names : AV
def Wd.av (w : Wd) : AV := .ag [.u8 w.kind, .int (w.at' : Int), .s w.text, .b w.root, w.names]
def litW (at' : Nat) (t : List UInt8) : Wd := ⟨0, at', t, false, .nils⟩
def actWd (at' : Nat) (a : Act3) : Wd := ⟨a.kind, at', [], a.root, a.names⟩
def brO : List UInt8 := [123, 123]
def brC : List UInt8 := [125, 125]
def idxO (r : List UInt8) : Nat := if Lib.index r brO < 0 then r.length else (Lib.index r brO).toNat
/-- A template's words: those that stand ahead of the first fault; its place, or -1. -/
def wordsF : Nat → List UInt8 → Nat → List Wd → List Wd × Int
  | 0, _, _, acc => (acc, -1)
  | n + 1, r, at', acc =>
    if r.isEmpty then (acc, -1)
    else if 0 < idxO r then wordsF n (r.drop (idxO r)) (at' + idxO r) (acc ++ [litW at' (r.take (idxO r))])
    else if Lib.index r brC < 0 then (acc, (at' : Int))
    else if (actW ((r.take (Lib.index r brC).toNat).drop 2)).ok then wordsF n (r.drop ((Lib.index r brC).toNat + 2)) (at' + ((Lib.index r brC).toNat + 2)) (acc ++ [actWd at' (actW ((r.take (Lib.index r brC).toNat).drop 2))])
    else (acc, (at' : Int))
theorem idxO_le (r : List UInt8) : idxO r ≤ r.length := by
  unfold idxO
  split
  · exact Nat.le_refl _
  · rename_i h
    have := Lib.index_room r brO (by omega)
    have e : (brO.length : Int) = 2 := rfl
    omega
/-- Where an action begins, its end isn't. -/
theorem idxC_ge (r : List UInt8) (h0 : idxO r = 0) (hne : 0 < r.length) (j : Nat) (hj : Lib.index r brC = (j : Int)) : 2 ≤ j := by
  unfold idxO at h0
  split at h0
  · omega
  · rename_i hn
    have hz : Lib.index r brO = 0 := by omega
    rcases Lib.index_spec r brO with ⟨h1, _⟩ | ⟨i, h1, h2, h3, _⟩
    · omega
    · obtain rfl : i = 0 := by omega
      rcases Lib.index_spec r brC with ⟨k1, _⟩ | ⟨k, k1, k2, k3, _⟩
      · omega
      · obtain rfl : k = j := by omega
        unfold Lib.occAt brO at h3
        unfold Lib.occAt brC at k3
        match r, h3, k3 with
        | a :: b :: t, h3, k3 =>
          simp [List.isPrefixOf] at h3
          obtain ⟨rfl, rfl⟩ := h3
          match k, k3 with
          | 0, k3 => simp [List.isPrefixOf] at k3
          | 1, k3 => cases t <;> simp [List.isPrefixOf] at k3
          | k + 2, _ => omega
        | [a], h3, _ => simp [List.isPrefixOf] at h3
        | [], h3, _ => simp [List.isPrefixOf] at h3
theorem sl_act (p r : List UInt8) (j : Nat) (h2 : 2 ≤ j) (hj : j ≤ r.length) : slS (.s (p ++ r)) (some (.int ((p.length + 2 : Nat) : Int))) (some (.int ((p.length + j : Nat) : Int))) = some (.s ((r.take j).drop 2)) := by
  show ((lohi (p ++ r).length (some (.int ((p.length + 2 : Nat) : Int))) (some (.int ((p.length + j : Nat) : Int)))).bind fun q => some (AV.s (((p ++ r).take q.2).drop q.1))) = _
  have h1 : upN (p ++ r).length (.int ((p.length + j : Nat) : Int)) = some (p.length + j) := by
    show (if 0 ≤ ((p.length + j : Nat) : Int) ∧ ((p.length + j : Nat) : Int) ≤ ((p ++ r).length : Int) then some ((p.length + j : Nat) : Int).toNat else none) = _
    rw [if_pos ⟨by omega, by simp; omega⟩]; congr 1
  have h3 : upN (p.length + j) (.int ((p.length + 2 : Nat) : Int)) = some (p.length + 2) := by
    show (if 0 ≤ ((p.length + 2 : Nat) : Int) ∧ ((p.length + 2 : Nat) : Int) ≤ ((p.length + j : Nat) : Int) then some ((p.length + 2 : Nat) : Int).toNat else none) = _
    rw [if_pos ⟨by omega, by omega⟩]; congr 1
  simp only [lohi, h1, h3, Option.bind_some]
  have e1 : (p ++ r).take (p.length + j) = p ++ r.take j := by simp only [List.take_append, Nat.add_sub_cancel_left]; rw [List.take_of_length_le (by omega)]
  rw [e1, ← List.drop_drop, List.drop_left]
theorem tu2_0'' (a b : AV) : tupI (.tu [a, b]) 0 = some a := rfl
theorem s79 (l p : List UInt8) (h : l.length ≤ 1000000000) : semCall (C mx) Tryd.prog 79 [.s l, .s p] = some (.int (Lib.index l p)) := by
  refine semCall_gv (G := G79) rfl rfl ?_
  show (if l.length ≤ 1000000000 then some (AV.int (Lib.index l p)) else none) = _
  rw [if_pos h]
theorem s54 (w : Wd) (acc : List Wd) (h : acc.length ≤ 1000000000) : semCall (C mx) Tryd.prog 54 [w.av, .un, .ag [.ro 5 (acc.map Wd.av)]] = some (.tu [.b true, .ag [.ro 5 ((acc ++ [w]).map Wd.av)]]) := by
  unfold Wd.av
  apply c54
  have hb : big = 70368744177664 := rfl
  have ha : app 64 5 (acc.map Wd.av) (.ro 5 [.ag [.u8 w.kind, .int (w.at' : Int), .s w.text, .b w.root, w.names]]) = some ((acc ++ [w]).map Wd.av) := by
    show ((if 5 = 5 then some [AV.ag [.u8 w.kind, .int (w.at' : Int), .s w.text, .b w.root, w.names]] else none).bind fun q => if ((acc.map Wd.av).length + q.length) * 64 ≤ big then some (acc.map Wd.av ++ q) else none) = _
    rw [if_pos rfl]
    simp only [Option.bind_some, List.length_map, List.length_cons, List.length_nil, hb]
    rw [if_pos (by omega), List.map_append]; rfl
  have ha' : app 64 5 (acc.map Wd.av) (.ro 5 ([.ag [.u8 w.kind, .int (w.at' : Int), .s w.text, .b w.root, w.names]] : List AV)) = some ((acc ++ [w]).map Wd.av) := ha
  unfold Wd.av at ha'
  simp only [X54, ha', Option.bind_some]
theorem sl_mid (p r : List UInt8) (i : Nat) (hi : i ≤ r.length) : slS (.s (p ++ r)) (some (.int (p.length : Int))) (some (.int ((p.length + i : Nat) : Int))) = some (.s (r.take i)) := by
  show ((lohi (p ++ r).length (some (.int (p.length : Int))) (some (.int ((p.length + i : Nat) : Int)))).bind fun q => some (AV.s (((p ++ r).take q.2).drop q.1))) = _
  have h1 : upN (p ++ r).length (.int ((p.length + i : Nat) : Int)) = some (p.length + i) := by
    show (if 0 ≤ ((p.length + i : Nat) : Int) ∧ ((p.length + i : Nat) : Int) ≤ ((p ++ r).length : Int) then some ((p.length + i : Nat) : Int).toNat else none) = _
    rw [if_pos ⟨by omega, by simp; omega⟩]; congr 1
  have h2 : upN (p.length + i) (.int (p.length : Int)) = some p.length := by
    show (if 0 ≤ (p.length : Int) ∧ (p.length : Int) ≤ ((p.length + i : Nat) : Int) then some (p.length : Int).toNat else none) = _
    rw [if_pos ⟨by omega, by omega⟩]; simp
  simp only [lohi, h1, h2, Option.bind_some]
  simp [List.take_append]
theorem sl_rest (p r : List UInt8) : slS (.s (p ++ r)) (some (.int (p.length : Int))) none = some (.s r) := by
  rw [slS_lo (by simp)]; simp
theorem asAg5 (a b c d e : AV) : AV.asAg 5 (.ag [a, b, c, d, e]) = some [a, b, c, d, e] := rfl
theorem asAg1' (a : AV) : AV.asAg 1 (.ag [a]) = some [a] := rfl
theorem l53 : ∀ (n : Nat) (r p : List UInt8) (acc : List Wd), r.length ≤ n → (p ++ r).length ≤ 1000000000 → acc.length ≤ p.length →
    F53_2 (semRun (C mx) Tryd.prog 53 Tryd.f53) (p ++ r) (.int (p.length : Int)) (acc.map Wd.av) = some (.tu [.int (wordsF (n + 1) r p.length acc).2, .ag [.ro 5 ((wordsF (n + 1) r p.length acc).1.map Wd.av)]]) := by
  intro n
  induction n with
  | zero =>
    intro r p acc hr hp ha
    obtain rfl := List.eq_nil_of_length_eq_zero (Nat.le_zero.1 hr)
    apply r53_2
    have : decide ((p.length : Int) < ((p ++ []).length : Int)) = false := by simp
    simp only [X53_2, int_lss, this, Option.bind_some, condM_b, Bool.false_eq_true, if_false]
    rfl
  | succ n ih =>
    intro r p acc hr hp ha
    cases r with
    | nil =>
      apply r53_2
      have : decide ((p.length : Int) < ((p ++ []).length : Int)) = false := by simp
      simp only [X53_2, int_lss, this, Option.bind_some, condM_b, Bool.false_eq_true, if_false]
      rfl
    | cons x r' =>
      obtain ⟨r, hreq⟩ : ∃ r, r = x :: r' := ⟨_, rfl⟩
      rw [← hreq] at hr hp ⊢
      have hne : r.isEmpty = false := by rw [hreq]; rfl
      have hpos : 0 < r.length := by rw [hreq]; simp
      have hrl : r.length ≤ 1000000000 := by simp at hp; omega
      have hpl : p.length + r.length ≤ 1000000000 := by simpa using hp
      have hio := idxO_le r
      have key : F53_6 (semRun (C mx) Tryd.prog 53 Tryd.f53) (p ++ r) (.int (p.length : Int)) (.int (idxO r : Int)) (acc.map Wd.av) = some (.tu [.int (wordsF (n + 1 + 1) r p.length acc).2, .ag [.ro 5 ((wordsF (n + 1 + 1) r p.length acc).1.map Wd.av)]]) := by
        apply r53_6
        rw [wordsF, if_neg (by rw [hne]; decide)]
        by_cases hi : 0 < idxO r
        · have hgt : decide ((0 : Int) < (idxO r : Int)) = true := by rw [decide_eq_true_eq]; omega
          have hadd : binI .add (.int (p.length : Int)) (.int (idxO r : Int)) = some (.int ((p.length + idxO r : Nat) : Int)) := by rw [int_add (by omega) (by omega)]; congr 2
          have hc := s54 (mx := mx) (litW p.length (r.take (idxO r))) acc (by omega)
          have hw : (litW p.length (r.take (idxO r))).av = .ag [.u8 0, .int (p.length : Int), .s (r.take (idxO r)), .b false, .nils] := rfl
          rw [hw] at hc
          have := ih (r.drop (idxO r)) (p ++ r.take (idxO r)) (acc ++ [litW p.length (r.take (idxO r))]) (by rw [List.length_drop]; omega) (by rw [List.append_assoc, List.take_append_drop]; exact hp) (by simp; omega)
          have hlen : (p ++ r.take (idxO r)).length = p.length + idxO r := by simp; omega
          rw [List.append_assoc, List.take_append_drop, hlen] at this
          simp only [X53_6, int_gtr, hgt, hadd, sl_mid p r _ hio, one_int, one_s, hc, tup2_0, tup2_1, asAg1', unop_not, Bool.not_true, Option.bind_some, condM_b, Bool.false_eq_true, if_false, if_true, List.getD_cons_zero, AV.elems]
          rw [if_pos hi]
          exact this
        · have hgt : decide ((0 : Int) < (idxO r : Int)) = false := by rw [decide_eq_false_iff_not]; omega
          rw [if_neg hi]
          have hix := s79 (mx := mx) r [125, 125] hrl
          simp only [X53_6, int_gtr, hgt, sl_rest, hix, int_lss, Option.bind_some, condM_b, Bool.false_eq_true, if_false]
          rw [show ([125, 125] : List UInt8) = brC from rfl]
          by_cases hj : Lib.index r brC < 0
          · rw [if_pos hj, if_pos (by rw [decide_eq_true_eq]; exact hj)]
          · rw [if_neg hj, if_neg (by rw [decide_eq_true_eq]; exact hj)]
            obtain ⟨j, hj'⟩ := Int.eq_ofNat_of_zero_le (show 0 ≤ Lib.index r brC by omega)
            have hroom := Lib.index_room r brC (by omega)
            have e2 : (brC.length : Int) = 2 := rfl
            have hjr : j + 2 ≤ r.length := by omega
            have h2j := idxC_ge r (by omega) hpos j hj'
            rw [hj']
            rw [show ((j : Nat) : Int).toNat = j from rfl]
            have a1 : binI .add (.int (p.length : Int)) (.int 2) = some (.int ((p.length + 2 : Nat) : Int)) := by rw [int_add (by omega) (by omega)]; congr 2
            have a2 : binI .add (.int (p.length : Int)) (.int ((j : Nat) : Int)) = some (.int ((p.length + j : Nat) : Int)) := by rw [int_add (by omega) (by omega)]; congr 2
            have a3 : binI .add (.int ((j : Nat) : Int)) (.int 2) = some (.int ((j + 2 : Nat) : Int)) := by rw [int_add (by omega) (by omega)]; congr 2
            have a4 : binI .add (.int (p.length : Int)) (.int ((j + 2 : Nat) : Int)) = some (.int ((p.length + (j + 2) : Nat) : Int)) := by rw [int_add (by omega) (by omega)]; congr 2
            have hact := s80 (mx := mx) ((r.take j).drop 2) (by simp; omega)
            have hsl := sl_act p r j h2j (by omega)
            have hw : (actW ((r.take j).drop 2)).av = .tu [.ag [.u8 (actW ((r.take j).drop 2)).kind, .int 0, .s [], .b (actW ((r.take j).drop 2)).root, (actW ((r.take j).drop 2)).names], .b (actW ((r.take j).drop 2)).ok] := rfl
            rw [hw] at hact
            have hc := s54 (mx := mx) (actWd p.length (actW ((r.take j).drop 2))) acc (by omega)
            have hw2 : (actWd p.length (actW ((r.take j).drop 2))).av = .ag [.u8 (actW ((r.take j).drop 2)).kind, .int (p.length : Int), .s [], .b (actW ((r.take j).drop 2)).root, (actW ((r.take j).drop 2)).names] := rfl
            rw [hw2] at hc
            have hih := ih (r.drop (j + 2)) (p ++ r.take (j + 2)) (acc ++ [actWd p.length (actW ((r.take j).drop 2))]) (by rw [List.length_drop]; omega) (by rw [List.append_assoc, List.take_append_drop]; exact hp) (by simp; omega)
            have hlen : (p ++ r.take (j + 2)).length = p.length + (j + 2) := by simp; omega
            rw [List.append_assoc, List.take_append_drop, hlen] at hih
            generalize actW ((r.take j).drop 2) = A at *
            simp only [a1, a2, a3, a4, hsl, hact, tup2_0, tup2_1, asAg5, unop_not, Option.bind_some, condM_b, one_int, List.getD_cons_zero, List.getD_cons_succ, hc, asAg1', AV.elems]
            cases hA : A.ok with
            | false => rfl
            | true =>
              simp only [Bool.not_true, Bool.false_eq_true, if_false, if_true]
              exact hih
      apply r53_2
      have hlt : decide ((p.length : Int) < ((p ++ r).length : Int)) = true := by rw [decide_eq_true_eq]; simp; omega
      have hix := s79 (mx := mx) r [123, 123] hrl
      have hsub : binI .sub (.int ((p ++ r).length : Int)) (.int (p.length : Int)) = some (.int (r.length : Int)) := by rw [int_sub (by simp; omega) (by simp; omega)]; congr 2; simp; omega
      simp only [X53_2, int_lss, hlt, sl_rest, hix, hsub, Option.bind_some, condM_b, if_true]
      rw [show ([123, 123] : List UInt8) = brO from rfl]
      unfold idxO at key
      by_cases hi : Lib.index r brO < 0
      · rw [if_pos hi] at key
        rw [if_pos (by rw [decide_eq_true_eq]; exact hi)]
        exact key
      · rw [if_neg hi] at key
        rw [if_neg (by rw [decide_eq_true_eq]; exact hi)]
        rw [Int.toNat_of_nonneg (by omega)] at key
        exact key

/-- The words, and the place of the fault, or -1. -/
def wordsW (l : List UInt8) : List Wd × Int := wordsF (l.length + 1) l 0 []
theorem s53 (l : List UInt8) (h : l.length ≤ 1000000000) : semCall (C mx) Tryd.prog 53 [.s l, .un, .ag [.ro 5 []]] = some (.tu [.int (wordsW l).2, .ag [.ro 5 ((wordsW l).1.map Wd.av)]]) := by
  apply c53
  have := l53 (mx := mx) l.length l [] [] (Nat.le_refl _) (by simpa using h) (by simp)
  exact this
/-- What lex.All answers. -/
def allAV (l : List UInt8) : AV := if l.length > 65536 then .tu [.nils, .int 0, .int 2] else if 0 ≤ (wordsW l).2 then .tu [.nils, .int (wordsW l).2, .int 4] else .tu [.ro 5 ((wordsW l).1.map Wd.av), .int 0, .int 0]
theorem s23 (l : List UInt8) : semCall (C mx) Tryd.prog 23 [.s l] = some (allAV l) := by
  apply c23
  unfold allAV
  by_cases h1 : l.length > 65536
  · rw [if_pos h1]
    have : decide ((l.length : Int) > 65536) = true := by rw [decide_eq_true_eq]; omega
    simp only [X23, this, condM_b, if_true]
  · rw [if_neg h1]
    have hw := s53 (mx := mx) l (by omega)
    have : decide ((l.length : Int) > 65536) = false := by rw [decide_eq_false_iff_not]; omega
    simp only [X23, this, hw, Option.bind_some, condM_b, tup2_0, tup2_1, asAg1', int_geq, List.getD_cons_zero, AV.elems, decide_eq_true_eq, Bool.false_eq_true, if_false]
    split <;> rfl
theorem awakeW : wordsW [123, 123, 120, 125, 125] = ([⟨1, 0, [], false, .ro 1 [.s [120]]⟩], -1) := by kernel_rfl
theorem s22 : semCall (C mx) Tryd.prog 22 [] = some (.b true) := by
  apply c22
  have h := s23 (mx := mx) [123, 123, 120, 125, 125]
  have e : allAV [123, 123, 120, 125, 125] = .tu [.ro 5 [(⟨1, 0, [], false, .ro 1 [.s [120]]⟩ : Wd).av], .int 0, .int 0] := by
    unfold allAV
    rw [awakeW]; rfl
  rw [e] at h
  simp only [X22, h, Option.bind_some]
  rfl
end R3

namespace R3
open Go Go.Proofs Sx

variable {mx : Int}
/-- The words cover the template from here on. -/
def Cov (l : List UInt8) : Nat → Bool → List Wd → Prop
  | a, _, [] => a = l.length
  | a, pv, w :: ws => w.at' = a ∧ ∃ m, 0 < m ∧ a + m ≤ l.length ∧ (w.kind = 0 → w.text = (l.drop a).take m ∧ pv = false) ∧ (w.kind ≠ 0 → w.text = [] ∧ 5 ≤ m ∧ ((l.drop a).take m).take 2 = brO ∧ ((l.drop a).take m).drop (m - 2) = brC) ∧ Cov l (a + m) (w.kind == 0) ws
theorem act_kind (l : List UInt8) (h : (actW l).ok = true) : (actW l).kind ≠ 0 := by
  unfold actW actT at *
  repeat' split at h
  all_goals first
    | (simp_all [plainW, wayW]; done)
    | (cases h)
  all_goals simp_all [plainW, wayW]
theorem act_nil : (actW []).ok = false := by kernel_rfl
theorem idxO_pre (r : List UInt8) (h0 : idxO r = 0) (hne : 0 < r.length) : r.take 2 = brO := by
  unfold idxO at h0
  split at h0
  · omega
  · rename_i hn
    rcases Lib.index_spec r brO with ⟨h1, _⟩ | ⟨i, h1, h2, h3, _⟩
    · omega
    · obtain rfl : i = 0 := by omega
      have := (Lib.occAt_iff_take r brO 0 (by have := Lib.index_room r brO (by omega); have e : (brO.length : Int) = 2 := rfl; have e' : brO.length = 2 := rfl; omega)).symm.trans h3
      simpa [brO] using eq_of_beq this
theorem idxO_next (r : List UInt8) : r.drop (idxO r) = [] ∨ idxO (r.drop (idxO r)) = 0 := by
  unfold idxO
  split
  · left; simp
  · rename_i hn
    rcases Lib.index_spec r brO with ⟨h1, _⟩ | ⟨i, h1, h2, h3, _⟩
    · omega
    · right
      rw [h1, show ((i : Nat) : Int).toNat = i from rfl]
      have : Lib.index (r.drop i) brO = 0 := by
        have := Lib.index_first (s := r.drop i) (sub := brO) (i := 0) (by omega) (by simpa [Lib.occAt] using h3) (fun j hj => by omega)
        exact this
      rw [this]; rfl
theorem words_cov : ∀ (n : Nat) (r p : List UInt8) (acc : List Wd) (pv : Bool), r.length < n → (pv = true → r = [] ∨ idxO r = 0) → (wordsF n r p.length acc).2 < 0 → ∃ ws, (wordsF n r p.length acc).1 = acc ++ ws ∧ Cov (p ++ r) p.length pv ws := by
  intro n
  induction n with
  | zero => intro r p acc pv hr; omega
  | succ n ih =>
    intro r p acc pv hr hpv h
    unfold wordsF at h ⊢
    by_cases he : r.isEmpty = true
    · have he' : r = [] := by simpa using he
      subst he'
      exact ⟨[], by simp, by simp [Cov]⟩
    · rw [if_neg he] at h ⊢
      have hne : r ≠ [] := by simpa using he
      have hpos : 0 < r.length := List.length_pos_iff.2 hne
      have hio := idxO_le r
      have hdrop : (p ++ r).drop p.length = r := List.drop_left
      by_cases hi : 0 < idxO r
      · rw [if_pos hi] at h ⊢
        have hlen : (p ++ r.take (idxO r)).length = p.length + idxO r := by simp; omega
        have key := ih (r.drop (idxO r)) (p ++ r.take (idxO r)) (acc ++ [litW p.length (r.take (idxO r))]) true (by rw [List.length_drop]; omega) (fun _ => idxO_next r) (by rw [hlen]; exact h)
        rw [hlen, List.append_assoc, List.take_append_drop] at key
        obtain ⟨ws, k1, k2⟩ := key
        rw [List.append_assoc] at k1
        have hpf : pv = false := by
          cases pv with
          | false => rfl
          | true => rcases hpv rfl with e | e
                    · exact absurd e hne
                    · omega
        refine ⟨litW p.length (r.take (idxO r)) :: ws, by rw [k1]; rfl, rfl, idxO r, hi, by simp; omega, fun _ => ⟨by rw [hdrop]; rfl, hpf⟩, fun e => absurd rfl e, k2⟩
      · rw [if_neg hi] at h ⊢
        by_cases hj : Lib.index r brC < 0
        · rw [if_pos hj] at h; exfalso; simp only at h; omega
        · rw [if_neg hj] at h ⊢
          by_cases hok : (actW ((r.take (Lib.index r brC).toNat).drop 2)).ok = true
          · rw [if_pos hok] at h ⊢
            obtain ⟨j, hj'⟩ := Int.eq_ofNat_of_zero_le (show 0 ≤ Lib.index r brC by omega)
            have hroom := Lib.index_room r brC (by omega)
            have e2 : (brC.length : Int) = 2 := rfl
            have h2j := idxC_ge r (by omega) hpos j hj'
            rw [hj', show ((j : Nat) : Int).toNat = j from rfl] at h hok ⊢
            have hlen : (p ++ r.take (j + 2)).length = p.length + (j + 2) := by simp; omega
            have key := ih (r.drop (j + 2)) (p ++ r.take (j + 2)) (acc ++ [actWd p.length (actW ((r.take j).drop 2))]) false (by rw [List.length_drop]; omega) (fun e => by cases e) (by rw [hlen]; exact h)
            rw [hlen, List.append_assoc, List.take_append_drop] at key
            obtain ⟨ws, k1, k2⟩ := key
            rw [List.append_assoc] at k1
            have hk := act_kind _ hok
            have h3 : 3 ≤ j := by
              rcases Nat.lt_or_ge 2 j with q | q
              · exact q
              · obtain rfl : j = 2 := by omega
                have : (r.take 2).drop 2 = [] := by simp
                rw [this, act_nil] at hok; cases hok
            have hk0 : ((actWd p.length (actW ((r.take j).drop 2))).kind == 0) = false := by rw [beq_eq_false_iff_ne]; exact hk
            refine ⟨actWd p.length (actW ((r.take j).drop 2)) :: ws, by rw [k1]; rfl, rfl, j + 2, by omega, by simp; omega, fun e => absurd e hk, fun _ => ⟨rfl, by omega, ?_, ?_⟩, by rw [hk0]; exact k2⟩
            · rw [hdrop, List.take_take, show min 2 (j + 2) = 2 by omega]
              exact idxO_pre r (by omega) hpos
            · rw [hdrop, show j + 2 - 2 = j by omega]
              rcases Lib.index_spec r brC with ⟨q1, _⟩ | ⟨i, q1, q2, q3, _⟩
              · omega
              · obtain rfl : i = j := by omega
                have := (Lib.occAt_iff_take r brC i (by have e' : brC.length = 2 := rfl; omega)).symm.trans q3
                have := eq_of_beq this
                rw [show brC.length = 2 from rfl] at this
                rw [List.drop_take, show i + 2 - i = 2 by omega]
                exact this
          · rw [if_neg hok] at h; exfalso; simp only at h; omega
theorem wordsW_cov (l : List UInt8) (h : (wordsW l).2 < 0) : Cov l 0 false (wordsW l).1 := by
  obtain ⟨ws, k1, k2⟩ := words_cov (l.length + 1) l [] [] false (by omega) (fun e => by cases e) h
  have e : (wordsW l).1 = ws := k1
  rw [e]; exact k2
end R3

namespace R3
open Go Go.Proofs Sx

variable {mx : Int}
theorem wd_cell0 (w : Wd) : AV.cell w.av 0 = .u8 w.kind := rfl
theorem wd_cell1 (w : Wd) : AV.cell w.av 1 = .int (w.at' : Int) := rfl
theorem wd_cell2 (w : Wd) : AV.cell w.av 2 = .s w.text := rfl
theorem idx5 (p : List AV) (x : AV) (r : List AV) : idx 5 (.ro 5 (p ++ x :: r)) (.int (p.length : Int)) = some x := by
  show (if 5 = 5 then (inN (p ++ x :: r).length (.int (p.length : Int))).bind fun n => some ((p ++ x :: r).getD n .un) else none) = _
  rw [if_pos rfl, inN_int (by simp)]
  simp
theorem idxW (p : List Wd) (x : Wd) (r : List Wd) : idx 5 (.ro 5 ((p ++ x :: r).map Wd.av)) (.int (p.length : Int)) = some x.av := by
  have := idx5 (p.map Wd.av) x.av (r.map Wd.av)
  simpa using this
theorem Cov.len {l : List UInt8} : ∀ (ws : List Wd) (a : Nat) (pv : Bool), Cov l a pv ws → a + ws.length ≤ l.length
  | [], a, pv, h => by have h : a = l.length := h; simp [h]
  | w :: ws, a, pv, h => by
    obtain ⟨_, m, h1, h2, _, _, h5⟩ := h
    have := Cov.len ws _ _ h5
    simp only [List.length_cons]
    omega
theorem s_ne_self (x : List UInt8) : binS .neq (.s x) (.s x) = some (.b false) := by simp [binS, strOp]
theorem sl_piece (l : List UInt8) (a m : Nat) (h : a + m ≤ l.length) : slS (.s l) (some (.int (a : Int))) (some (.int ((a + m : Nat) : Int))) = some (.s ((l.drop a).take m)) := by
  have e : l = l.take a ++ l.drop a := (List.take_append_drop a l).symm
  have := sl_mid (l.take a) (l.drop a) m (by rw [List.length_drop]; omega)
  rw [← e] at this
  have hl : (l.take a).length = a := by simp; omega
  rw [hl] at this
  exact this
theorem l4 (l : List UInt8) (hl : l.length ≤ 1000000000) : ∀ (ws pre : List Wd) (a : Nat) (pv : Bool), Cov l a pv ws → (pre = [] → a = 0) → (∀ q w0, pre = q ++ [w0] → pv = (w0.kind == 0)) → pre.length ≤ a →
    F4_7 (semRun (C mx) Tryd.prog 4 Tryd.f4) l (.ro 5 ((pre ++ ws).map Wd.av)) (pre.length : Int) = some (.b true)
  | [], pre, a, pv, h, h0, hp, hpa => by
    apply r4_7
    have h : a = l.length := h
    have e : decide ((pre.length : Int) < (((pre ++ []).map Wd.av).length : Int)) = false := by simp
    simp only [X4_7, lenR_ro, int_lss, e, Option.bind_some, condM_b, Bool.false_eq_true, if_false, int_gtr, selW_or]
    cases pre with
    | nil =>
      have : l = [] := List.eq_nil_of_length_eq_zero (by rw [← h]; exact h0 rfl)
      rw [this]; rfl
    | cons w q =>
      have : decide ((0 : Int) < (((w :: q ++ []).map Wd.av).length : Int)) = true := by rw [decide_eq_true_eq]; simp <;> omega
      rw [this]; rfl
  | w :: ws, pre, a, pv, h, h0, hp, hpa => by
    have hcl := Cov.len _ _ _ h
    obtain ⟨ha, m, h1, h2, h3, h4, h5⟩ := h
    have hcl' : a + (ws.length + 1) ≤ l.length := by simpa using hcl
    have ih := l4 l hl ws (pre ++ [w]) (a + m) (w.kind == 0) h5 (fun e => by simp at e) (fun q w0 e => by have := List.append_inj_right' e rfl; simp at this; rw [this]) (by simp <;> omega)
    have hw' : w64 ((pre.length : Int) + 1) = ((pre ++ [w]).length : Int) := by rw [w64_eq (by omega) (by omega)]; simp
    have e1 : pre ++ w :: ws = (pre ++ [w]) ++ ws := by simp
    have hix := idxW pre w ws
    have hlt : decide ((pre.length : Int) < (((pre ++ w :: ws).map Wd.av).length : Int)) = true := by rw [decide_eq_true_eq]; simp; omega
    have key : F4_13 (semRun (C mx) Tryd.prog 4 Tryd.f4) l (.ro 5 ((pre ++ w :: ws).map Wd.av)) (pre.length : Int) (.int (w.at' : Int)) (.int ((a + m : Nat) : Int)) = some (.b true) := by
      apply r4_13
      have k8 : F4_8 (semRun (C mx) Tryd.prog 4 Tryd.f4) l (.ro 5 ((pre ++ w :: ws).map Wd.av)) (pre.length : Int) = some (.b true) := by
        apply r4_8
        simp only [X4_8, hw']
        rw [e1]; exact ih
      rw [ha]
      have c0 : (((pre.length : Int) == 0) && ((a : Int) != 0)) = false := by
        cases pre with
        | nil => rw [h0 rfl]; rfl
        | cons x q =>
          have : (((x :: q).length : Int) == 0) = false := by rw [beq_eq_false_iff_ne]; simp; omega
          rw [this]; rfl
      have c1 : decide ((a : Int) < 0) = false := by rw [decide_eq_false_iff_not]; omega
      have c2 : decide (((a + m : Nat) : Int) ≤ (a : Int)) = false := by rw [decide_eq_false_iff_not]; omega
      have c3 : decide ((l.length : Int) < ((a + m : Nat) : Int)) = false := by rw [decide_eq_false_iff_not]; omega
      have hpl : ((l.drop a).take m).length = m := by simp; omega
      simp only [X4_13, int_neq, int_lss, int_geq, int_gtr, c1, c2, c3, c0, Option.bind_some, selW_and, selW_or, Bool.or_self, condM_b, Bool.false_eq_true, if_false, sl_piece l a m h2, hix, wd_cell0, wd_cell2, u8_eql]
      by_cases hk : w.kind = 0
      · obtain ⟨t1, t2⟩ := h3 hk
        have hk' : (w.kind == 0) = true := by simpa using hk
        simp only [hk', if_true, t1, s_ne_self, Option.bind_some]
        rcases List.eq_nil_or_concat pre with q | ⟨q, w0, e⟩
        · subst q
          simp only [List.length_nil, show decide (((0 : Nat) : Int) > 0) = false from rfl, selW_tf, Option.bind_some, selW_or, Bool.or_self, condM_b, Bool.false_eq_true, if_false]
          exact k8
        · have e : pre = q ++ [w0] := by simpa using e
          have hpos : decide ((pre.length : Int) > 0) = true := by rw [e]; simp
          have hpv := hp q w0 e
          rw [t2] at hpv
          have hi0 : idx 5 (.ro 5 ((pre ++ w :: ws).map Wd.av)) (.int (w64 ((pre.length : Int) - 1))) = some w0.av := by
            rw [w64_eq (by omega) (by omega), show ((pre.length : Int) - 1) = (q.length : Int) by rw [e]; simp]
            have := idxW q w0 (w :: ws)
            rw [e]
            simpa using this
          simp only [hpos, hi0, wd_cell0, u8_eql, ← hpv, Option.bind_some, selW_and, Bool.and_false, selW_or, Bool.or_self, condM_b, Bool.false_eq_true, if_false]
          exact k8
      · obtain ⟨t1, t2, t3, t4⟩ := h4 hk
        have hk' : (w.kind == 0) = false := by simpa using hk
        have d1 : decide (((((l.drop a).take m).length : Nat) : Int) < 5) = false := by rw [hpl, decide_eq_false_iff_not]; omega
        have d2 : slS (.s ((l.drop a).take m)) none (some (.int 2)) = some (.s brO) := by
          have := slS_hi (l := (l.drop a).take m) (i := 2) (by rw [hpl]; omega)
          rw [t3] at this; exact this
        have d3 : binI .sub (.int ((((l.drop a).take m).length : Nat) : Int)) (.int 2) = some (.int ((m - 2 : Nat) : Int)) := by rw [hpl, int_sub (by omega) (by omega)]; congr 2; omega
        have d4 : slS (.s ((l.drop a).take m)) (some (.int ((m - 2 : Nat) : Int))) none = some (.s brC) := by
          have := slS_lo (l := (l.drop a).take m) (i := m - 2) (by rw [hpl]; omega)
          rw [t4] at this; exact this
        simp only [hk', Bool.false_eq_true, if_false, lenS_l, int_lss, d1, d2, d3, d4, t1, Option.bind_some]
        rw [show ([123, 123] : List UInt8) = brO from rfl, show ([125, 125] : List UInt8) = brC from rfl]
        simp only [s_ne_self, Option.bind_some, selW_or, Bool.or_self, condM_b, Bool.false_eq_true, if_false]
        exact k8
    apply r4_7
    simp only [X4_7, lenR_ro, int_lss, hlt, hix, Option.bind_some, condM_b, if_true, wd_cell1]
    cases ws with
    | nil =>
      have hn : decide (w64 ((pre.length : Int) + 1) < (((pre ++ [w]).map Wd.av).length : Int)) = false := by rw [hw', decide_eq_false_iff_not]; simp
      have h5 : a + m = l.length := h5
      simp only [hn, Bool.false_eq_true, if_false]
      rw [h5] at key
      exact key
    | cons w2 ws2 =>
      have hn : decide (w64 ((pre.length : Int) + 1) < (((pre ++ w :: w2 :: ws2).map Wd.av).length : Int)) = true := by rw [hw', decide_eq_true_eq]; simp; omega
      have hi2 : idx 5 (.ro 5 ((pre ++ w :: w2 :: ws2).map Wd.av)) (.int (w64 ((pre.length : Int) + 1))) = some w2.av := by
        rw [hw']
        have := idxW (pre ++ [w]) w2 ws2
        simpa using this
      have h6 : w2.at' = a + m := h5.1
      simp only [hn, if_true, hi2, Option.bind_some, wd_cell1]
      rw [h6]
      exact key
theorem law4 (l : List UInt8) : semCall (C mx) Tryd.prog 4 [.s l] = some (.b true) := by
  apply c4
  have hA := s23 (mx := mx) l
  have t30 (a b c : AV) : tupI (.tu [a, b, c]) 0 = some a := rfl
  have t31 (a b c : AV) : tupI (.tu [a, b, c]) 1 = some b := rfl
  have t32 (a b c : AV) : tupI (.tu [a, b, c]) 2 = some c := rfl
  unfold allAV at hA
  by_cases h1 : l.length > 65536
  · rw [if_pos h1] at hA
    simp only [X4, s22 (mx := mx), Option.bind_some, unop_not, Bool.not_true, condM_b, Bool.false_eq_true, if_false, hA, t30, t31, t32]
    rfl
  · rw [if_neg h1] at hA
    by_cases h2 : 0 ≤ (wordsW l).2
    · rw [if_pos h2] at hA
      simp only [X4, s22 (mx := mx), Option.bind_some, unop_not, Bool.not_true, condM_b, Bool.false_eq_true, if_false, hA, t30, t31, t32]
      rfl
    · rw [if_neg h2] at hA
      simp only [X4, s22 (mx := mx), Option.bind_some, unop_not, Bool.not_true, condM_b, Bool.false_eq_true, if_false, hA, t30, t31, t32, int_neq, bne_self_eq_false]
      exact l4 (mx := mx) l (by omega) (wordsW l).1 [] 0 false (wordsW_cov l (by omega)) (fun _ => rfl) (fun q w0 e => by simp at e) (Nat.le_refl _)
end R3

namespace R3
open Go Go.Proofs Sx

variable {mx : Int}
/-- The names of a way: none, or a list of strings. -/
def NmOk (v : AV) : Prop := v = .nils ∨ ∃ l : List (List UInt8), v = .ro 1 (l.map .s) ∧ l.length ≤ 1000000000
theorem idxN (p : List (List UInt8)) (x : List UInt8) (r : List (List UInt8)) : idx 1 (.ro 1 ((p ++ x :: r).map .s)) (.int (p.length : Int)) = some (.s x) := by
  show (if 1 = 1 then (inN ((p ++ x :: r).map AV.s).length (.int (p.length : Int))).bind fun n => some (((p ++ x :: r).map AV.s).getD n .un) else none) = _
  rw [if_pos rfl, inN_int (by simp)]
  simp
theorem l31 (b : Bool) : ∀ (r p : List (List UInt8)), (p ++ r).length ≤ 1000000000 → F31_4 (semRun (C mx) Tryd.prog 31 Tryd.f31) (p.length : Int) b (.ro 1 ((p ++ r).map .s)) b (.ro 1 ((p ++ r).map .s)) = some (.b true)
  | [], p, h => by
    apply r31_4
    have e : decide ((p.length : Int) < (((p ++ []).map AV.s).length : Int)) = false := by simp
    simp only [X31_4, lenR_ro, int_lss, e, Option.bind_some, condM_b, Bool.false_eq_true, if_false]
  | x :: r, p, h => by
    apply r31_4
    have hl : p.length + (r.length + 1) ≤ 1000000000 := by simpa using h
    have ih := l31 b r (p ++ [x]) (by simp; omega)
    have hw : w64 ((p.length : Int) + 1) = ((p ++ [x]).length : Int) := by rw [w64_eq (by omega) (by omega)]; simp
    have e1 : p ++ x :: r = (p ++ [x]) ++ r := by simp
    have hlt : decide ((p.length : Int) < (((p ++ x :: r).map AV.s).length : Int)) = true := by rw [decide_eq_true_eq]; simp; omega
    have hc : AV.cell (.s x) 0 = .s x := rfl
    simp only [X31_4, lenR_ro, int_lss, hlt, idxN, hc, s_ne_self, Option.bind_some, condM_b, Bool.false_eq_true, if_false, if_true, hw]
    rw [e1]
    exact ih
theorem s31 (b : Bool) (v : AV) (h : NmOk v) : semCall (C mx) Tryd.prog 31 [.ag [.b b, v], .ag [.b b, v]] = some (.b true) := by
  apply c31
  have hb : (b != b) = false := by simp
  rcases h with rfl | ⟨l, rfl, hl⟩
  · have e0 : lenR .nils = some (.int 0) := rfl
    simp only [X31, hb, e0, int_neq, bne_self_eq_false, Option.bind_some, selW_or, Bool.or_false, condM_b, Bool.false_eq_true, if_false]
    apply r31_4
    simp only [X31_4, e0, int_lss, Option.bind_some]
    rfl
  · simp only [X31, hb, lenR_ro, int_neq, bne_self_eq_false, Option.bind_some, selW_or, Bool.or_false, condM_b, Bool.false_eq_true, if_false]
    exact l31 (mx := mx) b l [] (by simpa using hl)
theorem s57 (w : Wd) (h : NmOk w.names) : semCall (C mx) Tryd.prog 57 [w.av, w.av] = some (.b true) := by
  unfold Wd.av
  apply c57
  have h1 := s31 (mx := mx) w.root w.names h
  have e1 : ueq w.kind w.kind = true := by simp [ueq]
  have e2 : ((w.at' : Int) == (w.at' : Int)) = true := by simp
  have e3 : (w.text == w.text) = true := by simp
  simp only [X57, e1, e2, e3, h1, selW_and, Bool.and_true, Option.bind_some]
theorem wd_cells (w : Wd) : AV.ag [AV.cell w.av 0, AV.cell w.av 1, AV.cell w.av 2, AV.cell w.av 3, AV.cell w.av 4] = w.av := rfl
theorem l25 : ∀ (r p : List Wd), (p ++ r).length ≤ 1000000000 → (∀ w ∈ r, NmOk w.names) → F25_4 (semRun (C mx) Tryd.prog 25 Tryd.f25) (.ro 5 ((p ++ r).map Wd.av)) (.ro 5 ((p ++ r).map Wd.av)) (p.length : Int) = some (.b true)
  | [], p, h, hn => by
    apply r25_4
    have e : decide ((p.length : Int) < (((p ++ []).map Wd.av).length : Int)) = false := by simp
    simp only [X25_4, lenR_ro, int_lss, e, Option.bind_some, condM_b, Bool.false_eq_true, if_false]
  | x :: r, p, h, hn => by
    apply r25_4
    have hl : p.length + (r.length + 1) ≤ 1000000000 := by simpa using h
    have ih := l25 r (p ++ [x]) (by simp; omega) (fun w hw => hn w (List.mem_cons_of_mem _ hw))
    have hw : w64 ((p.length : Int) + 1) = ((p ++ [x]).length : Int) := by rw [w64_eq (by omega) (by omega)]; simp
    have e1 : p ++ x :: r = (p ++ [x]) ++ r := by simp
    have hlt : decide ((p.length : Int) < (((p ++ x :: r).map Wd.av).length : Int)) = true := by rw [decide_eq_true_eq]; simp; omega
    have hc := s57 (mx := mx) x (hn x (List.mem_cons_self ..))
    simp only [X25_4, lenR_ro, int_lss, hlt, idxW, wd_cells, hc, unop_not, Bool.not_true, Option.bind_some, condM_b, Bool.false_eq_true, if_false, if_true, hw]
    rw [e1]
    exact ih
theorem s25 (l : List Wd) (hl : l.length ≤ 1000000000) (h : ∀ w ∈ l, NmOk w.names) : semCall (C mx) Tryd.prog 25 [.ro 5 (l.map Wd.av), .ro 5 (l.map Wd.av)] = some (.b true) := by
  apply c25
  simp only [X25, lenR_ro, int_neq, bne_self_eq_false, Option.bind_some, condM_b, Bool.false_eq_true, if_false]
  exact l25 (mx := mx) l [] (by simpa using hl) h
theorem s25n : semCall (C mx) Tryd.prog 25 [.nils, .nils] = some (.b true) := by
  apply c25
  have e0 : lenR .nils = some (.int 0) := rfl
  simp only [X25, e0, int_neq, bne_self_eq_false, Option.bind_some, condM_b, Bool.false_eq_true, if_false]
  apply r25_4
  simp only [X25_4, e0, int_lss, Option.bind_some]
  rfl
theorem wayN_ok (l : List UInt8) : NmOk (wayN l) := by
  unfold wayN
  split
  · exact Or.inl rfl
  · split
    · exact Or.inl rfl
    · generalize (if dollar l then l.drop 2 else l) = q
      split
      · rename_i h
        refine Or.inr ⟨_, rfl, ?_⟩
        simp only [Bool.and_eq_true, decide_eq_true_eq] at h
        omega
      · exact Or.inl rfl
theorem actW_nm (l : List UInt8) : NmOk (actW l).names := by
  unfold actW actT
  repeat' split
  all_goals first
    | exact Or.inl rfl
    | exact wayN_ok _
/-- Blanks don't tell. -/
theorem dropF_rep (b : UInt8) (n : Nat) (l : List UInt8) : dropF b (List.replicate n b ++ l) = dropF b l := by
  unfold dropF
  induction n with
  | zero => rfl
  | succ n ih => rw [List.replicate_succ, List.cons_append, List.dropWhile_cons]; simpa using ih
theorem dropE_rep (b : UInt8) (n : Nat) (l : List UInt8) : dropE b (l ++ List.replicate n b) = dropE b l := by
  unfold dropE
  rw [List.reverse_append, List.reverse_replicate]
  have := dropF_rep b n l.reverse
  unfold dropF at this
  rw [this]
theorem dropF_all (b : UInt8) (n : Nat) : dropF b (List.replicate n b) = [] := by
  have := dropF_rep b n []
  simpa [dropF] using this
theorem dropE_app (b : UInt8) (p l : List UInt8) : dropE b (p ++ l) = if dropE b l = [] then dropE b p else p ++ dropE b l := by
  unfold dropE
  rw [List.reverse_append, List.dropWhile_append]
  cases h : List.dropWhile (· == b) l.reverse with
  | nil => simp
  | cons x r => simp
theorem trimW_rep (n m : Nat) (l : List UInt8) : trimW (List.replicate n 32 ++ l ++ List.replicate m 32) = trimW l := by
  unfold trimW
  rw [dropE_rep, dropE_app]
  split
  · rename_i h
    rw [h]
    have e : dropE 32 (List.replicate n (32 : UInt8)) = [] := by
      have := dropE_rep 32 n []
      simpa [dropE] using this
    rw [e]
  · exact dropF_rep _ _ _
theorem index_at0 (s sub : List UInt8) (h : Lib.occAt s sub 0 = true) : Lib.index s sub = 0 := by
  rcases Lib.index_spec s sub with ⟨_, h2⟩ | ⟨i, h1, _, _, h4⟩
  · have := h2 0 (Nat.zero_le _)
    rw [h] at this; cases this
  · cases i with
    | zero => exact h1
    | succ i =>
      have := h4 0 (by omega)
      rw [h] at this; cases this
theorem index_end (u : List UInt8) (h : ∀ x ∈ u, x ≠ 125) : Lib.index (u ++ brC) brC = (u.length : Int) := by
  have hat : Lib.occAt (u ++ brC) brC u.length = true := by
    unfold Lib.occAt
    rw [List.drop_left]; rfl
  rcases Lib.index_spec (u ++ brC) brC with ⟨_, h2⟩ | ⟨i, h1, h2, h3, h4⟩
  · have := h2 u.length (by simp)
    rw [hat] at this; cases this
  · have hle : ¬ u.length < i := fun hlt => by
      have := h4 u.length hlt
      rw [hat] at this; cases this
    have hge : ¬ i < u.length := fun hlt => by
      unfold Lib.occAt at h3
      rw [List.drop_append_of_le_length (by omega), List.drop_eq_getElem_cons hlt] at h3
      unfold brC at h3
      simp only [List.cons_append, List.isPrefixOf, Bool.and_eq_true, beq_iff_eq] at h3
      exact h _ (List.getElem_mem hlt) h3.1.symm
    rw [h1]; congr 1; omega
/-- An action alone. -/
theorem words_wrap (t : List UInt8) (h : ∀ x ∈ t, x ≠ 125) : wordsW (brO ++ t ++ brC) = if (actW t).ok then ([actWd 0 (actW t)], -1) else ([], 0) := by
  have h0 : Lib.index (brO ++ t ++ brC) brO = 0 := index_at0 _ _ (by
    unfold Lib.occAt
    simp [brO, List.isPrefixOf])
  have h1 : Lib.index (brO ++ t ++ brC) brC = ((brO ++ t).length : Int) := index_end _ (by
    intro x hx
    rcases List.mem_append.1 hx with hx | hx
    · simp [brO] at hx; subst hx; decide
    · exact h x hx)
  have ho : idxO (brO ++ t ++ brC) = 0 := by unfold idxO; rw [h0]; rfl
  have hlen : (brO ++ t).length = t.length + 2 := by simp [brO]
  have hln : (brO ++ t ++ brC).length = t.length + 4 := by rw [List.length_append, hlen]; rfl
  have hne : (brO ++ t ++ brC).isEmpty = false := rfl
  have hd : ((brO ++ t ++ brC).take (brO ++ t).length).drop 2 = t := by rw [List.take_left]; rfl
  have hr : (brO ++ t ++ brC).drop ((brO ++ t).length + 2) = [] := List.drop_eq_nil_of_le (by rw [hlen, hln]; omega)
  unfold wordsW
  rw [hln, wordsF, hne, if_neg (by decide), ho, if_neg (by decide), h1, if_neg (by omega), Int.toNat_natCast, hd, hr]
  split
  · rw [wordsF]; rfl
  · rfl
theorem rep_succ (n : Nat) : List.replicate n (32 : UInt8) ++ [32] = List.replicate (n + 1) 32 := by rw [List.replicate_succ']
theorem tmod9 (b : UInt8) : Int.tmod (w64 (b.toNat : Int)) 9 = ((b.toNat % 9 : Nat) : Int) := by
  have := b.toNat_lt
  rw [w64_eq (by omega) (by omega)]; rfl
theorem all3 (l : List UInt8) : ∃ a b c, allAV l = .tu [a, b, c] := by
  unfold allAV
  split
  · exact ⟨_, _, _, rfl⟩
  · split
    · exact ⟨_, _, _, rfl⟩
    · exact ⟨_, _, _, rfl⟩
theorem all_wrap (t : List UInt8) (h : ∀ x ∈ t, x ≠ 125) : allAV (brO ++ t ++ brC) = if (brO ++ t ++ brC).length > 65536 then .tu [.nils, .int 0, .int 2] else if (actW t).ok then .tu [.ro 5 ([actWd 0 (actW t)].map Wd.av), .int 0, .int 0] else .tu [.nils, .int 0, .int 4] := by
  unfold allAV
  rw [words_wrap t h]
  split
  · rfl
  · cases (actW t).ok <;> rfl
theorem int_gtr0 (x y : Int) : binI .gtr (.int x) (.int y) = some (.b (decide (x > y))) := rfl
theorem l5_end (l : List UInt8) (n : Nat) (b2 : UInt8) (hl : l.length ≤ 1000000000) (hn : n ≤ 8) (h : ∀ x ∈ l, x ≠ 125) :
    F5_15 (semRun (C mx) Tryd.prog 5 Tryd.f5) l b2 (.s (brO ++ List.replicate n 32 ++ l ++ List.replicate (b2.toNat % 9) 32)) ((b2.toNat % 9 : Nat) : Int) = some (.b true) := by
  apply r5_15
  have hbig : big = 70368744177664 := rfl
  have hb : brO.length = 2 := rfl
  have hm : b2.toNat % 9 ≤ 8 := by omega
  have hge : decide (((b2.toNat % 9 : Nat) : Int) < ((b2.toNat % 9 : Nat) : Int)) = false := by simp
  have a1 : binS .add (.s (brO ++ List.replicate n 32 ++ l ++ List.replicate (b2.toNat % 9) 32)) (.s [125, 125]) = some (.s (brO ++ List.replicate n 32 ++ l ++ List.replicate (b2.toNat % 9) 32 ++ brC)) :=
    s_add (by simp only [List.length_append, List.length_replicate, hb, List.length_cons, List.length_nil, hbig]; omega)
  have a2 : binS .add (.s [123, 123]) (.s l) = some (.s (brO ++ l)) := s_add (by simp only [List.length_cons, List.length_nil, hbig]; omega)
  have a3 : binS .add (.s (brO ++ l)) (.s [125, 125]) = some (.s (brO ++ l ++ brC)) := s_add (by simp only [List.length_append, hb, List.length_cons, List.length_nil, hbig]; omega)
  simp only [X5_15, tmod9, hge, a1, a2, a3, Option.bind_some, condM_b, Bool.false_eq_true, if_false, lenS_l, int_gtr0]
  have e1 := s23 (mx := mx) (brO ++ l ++ brC)
  have eT : brO ++ List.replicate n 32 ++ l ++ List.replicate (b2.toNat % 9) 32 ++ brC = brO ++ (List.replicate n 32 ++ l ++ List.replicate (b2.toNat % 9) 32) ++ brC := by simp only [List.append_assoc]
  rw [eT]
  have hlen : (brO ++ l ++ brC).length ≤ (brO ++ (List.replicate n 32 ++ l ++ List.replicate (b2.toNat % 9) 32) ++ brC).length := by simp only [List.length_append]; omega
  have ht : ∀ x ∈ List.replicate n 32 ++ l ++ List.replicate (b2.toNat % 9) 32, x ≠ 125 := by
    intro x hx
    rcases List.mem_append.1 hx with hx | hx
    · rcases List.mem_append.1 hx with hx | hx
      · rw [List.eq_of_mem_replicate hx]; decide
      · exact h x hx
    · rw [List.eq_of_mem_replicate hx]; decide
  have e2 := s23 (mx := mx) (brO ++ (List.replicate n 32 ++ l ++ List.replicate (b2.toNat % 9) 32) ++ brC)
  have w2 := all_wrap _ ht
  have w1 := all_wrap _ h
  have hact : actW (List.replicate n 32 ++ l ++ List.replicate (b2.toNat % 9) 32) = actW l := by unfold actW; rw [trimW_rep]
  rw [hact] at w2
  generalize brO ++ (List.replicate n 32 ++ l ++ List.replicate (b2.toNat % 9) 32) ++ brC = P at *
  have t30 (a b c : AV) : tupI (.tu [a, b, c]) 0 = some a := rfl
  have t31 (a b c : AV) : tupI (.tu [a, b, c]) 1 = some b := rfl
  have t32 (a b c : AV) : tupI (.tu [a, b, c]) 2 = some c := rfl
  by_cases hP : P.length > 65536
  · rw [if_pos hP] at w2
    obtain ⟨a, b, c, e3⟩ := all3 (brO ++ l ++ brC)
    rw [e3] at e1
    rw [w2] at e2
    have hd : decide ((P.length : Int) > 65536) = true := by rw [decide_eq_true_eq]; omega
    simp only [e1, e2, t30, t31, t32, Option.bind_some, hd, condM_b, if_true]
    rfl
  · rw [if_neg hP] at w2
    rw [if_neg (by omega)] at w1
    rw [w1] at e1
    rw [w2] at e2
    have hd : decide ((P.length : Int) > 65536) = false := by rw [decide_eq_false_iff_not]; omega
    have n0 : ∀ w ∈ [actWd 0 (actW l)], NmOk w.names := by
      intro w hw
      obtain rfl : w = actWd 0 (actW l) := by simpa using hw
      exact actW_nm l
    have n1 := s25 (mx := mx) [actWd 0 (actW l)] (by simp) n0
    have n2 := s25n (mx := mx)
    cases hk : (actW l).ok with
    | true =>
      rw [hk] at e1 e2
      simp only [if_true] at e1 e2
      simp only [e1, e2, t30, t31, t32, Option.bind_some, hd, condM_b, Bool.false_eq_true, if_false, int_eql, n1]
      rfl
    | false =>
      rw [hk] at e1 e2
      simp only [Bool.false_eq_true, if_false] at e1 e2
      simp only [e1, e2, t30, t31, t32, Option.bind_some, hd, condM_b, Bool.false_eq_true, if_false, int_eql, n2]
      rfl
theorem l5_15 (l : List UInt8) (n : Nat) (b2 : UInt8) (hl : l.length ≤ 1000000000) (hn : n ≤ 8) (h : ∀ x ∈ l, x ≠ 125) : ∀ (d k : Nat), k + d = b2.toNat % 9 →
    F5_15 (semRun (C mx) Tryd.prog 5 Tryd.f5) l b2 (.s (brO ++ List.replicate n 32 ++ l ++ List.replicate k 32)) (k : Int) = some (.b true)
  | 0, k, e => by
    obtain rfl : k = b2.toNat % 9 := by omega
    exact l5_end l n b2 hl hn h
  | d + 1, k, e => by
    apply r5_15
    have ih := l5_15 l n b2 hl hn h d (k + 1) (by omega)
    have hbig : big = 70368744177664 := rfl
    have hlt : decide ((k : Int) < ((b2.toNat % 9 : Nat) : Int)) = true := by rw [decide_eq_true_eq]; omega
    have hb : brO.length = 2 := rfl
    have hadd : binS .add (.s (brO ++ List.replicate n 32 ++ l ++ List.replicate k 32)) (.s [32]) = some (.s (brO ++ List.replicate n 32 ++ l ++ List.replicate (k + 1) 32)) := by
      rw [s_add (by simp only [List.length_append, List.length_replicate, hb, List.length_cons, List.length_nil, hbig]; omega), List.append_assoc _ _ [32], rep_succ]
    have hw : w64 ((k : Int) + 1) = ((k + 1 : Nat) : Int) := by rw [w64_eq (by omega) (by omega)]; rfl
    simp only [X5_15, tmod9, hlt, hadd, hw, Option.bind_some, condM_b, if_true]
    exact ih
theorem l5_10 (l : List UInt8) (b1 b2 : UInt8) (hl : l.length ≤ 1000000000) (h : ∀ x ∈ l, x ≠ 125) : ∀ (d k : Nat), k + d = b1.toNat % 9 →
    F5_10 (semRun (C mx) Tryd.prog 5 Tryd.f5) l b1 b2 (.s (brO ++ List.replicate k 32)) (k : Int) = some (.b true)
  | 0, k, e => by
    obtain rfl : k = b1.toNat % 9 := by omega
    apply r5_10
    have hbig : big = 70368744177664 := rfl
    have hb : brO.length = 2 := rfl
    have hm : b1.toNat % 9 ≤ 8 := by omega
    have hge : decide (((b1.toNat % 9 : Nat) : Int) < ((b1.toNat % 9 : Nat) : Int)) = false := by simp
    have ih := l5_15 (mx := mx) l (b1.toNat % 9) b2 hl hm h (b2.toNat % 9) 0 (by omega)
    have hadd : binS .add (.s (brO ++ List.replicate (b1.toNat % 9) 32)) (.s l) = some (.s (brO ++ List.replicate (b1.toNat % 9) 32 ++ l)) :=
      s_add (by simp only [List.length_append, List.length_replicate, hb, hbig]; omega)
    simp only [X5_10, tmod9, hge, hadd, Option.bind_some, condM_b, Bool.false_eq_true, if_false]
    simpa using ih
  | d + 1, k, e => by
    apply r5_10
    have ih := l5_10 l b1 b2 hl h d (k + 1) (by omega)
    have hbig : big = 70368744177664 := rfl
    have hlt : decide ((k : Int) < ((b1.toNat % 9 : Nat) : Int)) = true := by rw [decide_eq_true_eq]; omega
    have hb : brO.length = 2 := rfl
    have hadd : binS .add (.s (brO ++ List.replicate k 32)) (.s [32]) = some (.s (brO ++ List.replicate (k + 1) 32)) := by
      rw [s_add (by simp only [List.length_append, List.length_replicate, hb, List.length_cons, List.length_nil, hbig]; omega), List.append_assoc _ _ [32], rep_succ]
    have hw : w64 ((k : Int) + 1) = ((k + 1 : Nat) : Int) := by rw [w64_eq (by omega) (by omega)]; rfl
    simp only [X5_10, tmod9, hlt, hadd, hw, Option.bind_some, condM_b, if_true]
    exact ih
theorem l5_4 (b1 b2 : UInt8) : ∀ (r p : List UInt8), (p ++ r).length ≤ 1000000000 → (∀ x ∈ p, x ≠ 125) → F5_4 (semRun (C mx) Tryd.prog 5 Tryd.f5) (p ++ r) b1 b2 (p.length : Int) = some (.b true)
  | [], p, hl, h => by
    apply r5_4
    have e : decide ((p.length : Int) < ((p ++ []).length : Int)) = false := by simp
    have ih := l5_10 (mx := mx) (p ++ []) b1 b2 hl (by simpa using h) (b1.toNat % 9) 0 (by omega)
    simp only [X5_4, e, condM_b, Bool.false_eq_true, if_false]
    exact ih
  | x :: r, p, hl, h => by
    apply r5_4
    have hl' : p.length + (r.length + 1) ≤ 1000000000 := by simpa using hl
    have e : decide ((p.length : Int) < ((p ++ x :: r).length : Int)) = true := by rw [decide_eq_true_eq]; simp; omega
    have hw : w64 ((p.length : Int) + 1) = ((p ++ [x]).length : Int) := by rw [w64_eq (by omega) (by omega)]; simp
    have e1 : p ++ x :: r = (p ++ [x]) ++ r := by simp
    simp only [X5_4, e, idxS_at, u8_eql, selW_or, hw, Option.bind_some, condM_b, if_true]
    cases hx : (x == 123) || (x == 125) with
    | true => simp only [if_true]
    | false =>
      simp only [Bool.false_eq_true, if_false]
      have ih := l5_4 b1 b2 r (p ++ [x]) (by simp; omega) (by
        intro y hy
        rcases List.mem_append.1 hy with hy | hy
        · exact h y hy
        · have hy : y = x := by simpa using hy
          subst hy
          intro he
          subst he
          simp at hx)
      rw [e1]
      exact ih
theorem law5 (l : List UInt8) (b1 b2 : UInt8) (hl : l.length ≤ 1000000000) : semCall (C mx) Tryd.prog 5 [.s l, .u8 b1, .u8 b2] = some (.b true) := by
  apply c5
  simp only [X5, s22 (mx := mx), Option.bind_some, unop_not, Bool.not_true, condM_b, Bool.false_eq_true, if_false]
  exact l5_4 (mx := mx) b1 b2 l [] hl (fun x hx => by cases hx)
end R3

namespace R3
open Go Go.Proofs Sx

variable {mx : Int}
theorem dropF_form (b : UInt8) : ∀ (l : List UInt8), ∃ n, l = List.replicate n b ++ dropF b l ∧ (dropF b l = [] ∨ ∃ x r, dropF b l = x :: r ∧ (x == b) = false)
  | [] => ⟨0, rfl, Or.inl rfl⟩
  | x :: r => by
    obtain ⟨n, h1, h2⟩ := dropF_form b r
    cases hx : (x == b) with
    | true =>
      have e : dropF b (x :: r) = dropF b r := by unfold dropF; rw [List.dropWhile_cons, if_pos hx]
      rw [e]
      have hx' : x = b := by simpa using hx
      subst hx'
      exact ⟨n + 1, by rw [List.replicate_succ, List.cons_append, ← h1], h2⟩
    | false =>
      have e : dropF b (x :: r) = x :: r := by unfold dropF; rw [List.dropWhile_cons, if_neg (by rw [hx]; decide)]
      rw [e]
      exact ⟨0, rfl, Or.inr ⟨x, r, rfl, hx⟩⟩
theorem dropE_pre (b : UInt8) (l : List UInt8) : ∃ t, l = dropE b l ++ t := by
  refine ⟨(l.reverse.takeWhile (· == b)).reverse, ?_⟩
  unfold dropE
  rw [← List.reverse_append, List.takeWhile_append_dropWhile, List.reverse_reverse]
theorem dropE_repl (b : UInt8) (n : Nat) : dropE b (List.replicate n b) = [] := by
  have := dropE_rep b n []
  simpa [dropE] using this
/-- In front first, or behind first: the same. -/
theorem drop_swap (b : UInt8) (l : List UInt8) : dropE b (dropF b l) = dropF b (dropE b l) := by
  obtain ⟨n, h1, h2⟩ := dropF_form b l
  generalize hm : dropF b l = m at h1 h2
  rw [h1, dropE_app]
  split
  · rename_i h
    rw [h, dropE_repl]; rfl
  · rename_i h
    rw [dropF_rep]
    rcases h2 with rfl | ⟨x, r, rfl, hx⟩
    · exact absurd rfl h
    · obtain ⟨t, ht⟩ := dropE_pre b (x :: r)
      cases hd : dropE b (x :: r) with
      | nil => exact absurd hd h
      | cons y q =>
        rw [hd] at ht
        have : x = y := (List.cons.inj ht).1
        subst this
        unfold dropF
        rw [List.dropWhile_cons, if_neg (by rw [hx]; decide)]
theorem l81_3 : ∀ (n : Nat) (l : List UInt8), l.length = n → n ≤ 1000000000 → F81_3 (semRun (C mx) Tryd.prog 81 Tryd.f81) (.s l) = some (.s (dropE 32 l))
  | 0, l, hn, h => by
    obtain rfl := List.eq_nil_of_length_eq_zero hn
    apply r81_3
    rfl
  | n + 1, l, hn, h => by
    apply r81_3
    obtain ⟨p, x, rfl⟩ : ∃ p x, l = p ++ [x] := by
      rcases List.eq_nil_or_concat l with e | ⟨p, x, e⟩
      · rw [e] at hn; cases hn
      · exact ⟨p, x, by simpa using e⟩
    have hp : p.length = n := by simpa using hn
    have ih := l81_3 n p hp (by omega)
    have hl : (p ++ [x]).length = p.length + 1 := by simp
    have hsub : binI .sub (.int ((p.length + 1 : Nat) : Int)) (.int 1) = some (.int (p.length : Int)) := by
      show some (AV.int (w64 _)) = _
      rw [w64_eq (by omega) (by omega)]; congr 2; omega
    have hi : idxS (.s (p ++ [x])) (.int (p.length : Int)) = some (.u8 x) := idxS_at p x []
    have hs : slS (.s (p ++ [x])) none (some (.int (p.length : Int))) = some (.s p) := by
      rw [slS_hi (by simp)]; simp
    simp only [X81_3, lenS_l, hl, gt0, hsub, hi, hs, Option.bind_some, u8_eql, selW_and, Bool.true_and, condM_b]
    unfold dropE
    rw [List.reverse_append, List.reverse_singleton, List.singleton_append, List.dropWhile_cons]
    cases hx : (x == (32 : UInt8)) with
    | true => simp only [if_true]; exact ih
    | false => simp only [Bool.false_eq_true, if_false]; simp
theorem l81_1 : ∀ (l : List UInt8), l.length ≤ 1000000000 → F81_1 (semRun (C mx) Tryd.prog 81 Tryd.f81) (.s l) = some (.s (dropE 32 (dropF 32 l)))
  | [], _ => by
    apply r81_1
    have := l81_3 (mx := mx) 0 [] rfl (by omega)
    exact this
  | x :: r, h => by
    apply r81_1
    have ih := l81_1 r (by simp at h; omega)
    have hi : idxS (.s (x :: r)) (.int 0) = some (.u8 x) := idxS_int (i := 0) (l := x :: r) (by simp)
    have hs : slS (.s (x :: r)) (some (.int 1)) none = some (.s r) := slS_lo (l := x :: r) (i := 1) (by simp)
    simp only [X81_1, lenS_l, List.length_cons, gt0, hi, hs, Option.bind_some, u8_eql, selW_and, Bool.true_and, condM_b]
    unfold dropF
    rw [List.dropWhile_cons]
    cases hx : (x == (32 : UInt8)) with
    | true => simp only [if_true]; exact ih
    | false => simp only [Bool.false_eq_true, if_false]; exact l81_3 (mx := mx) _ (x :: r) rfl h
theorem s81 (l : List UInt8) (h : l.length ≤ 1000000000) : semCall (C mx) Tryd.prog 81 [.s l] = some (.s (trimW l)) := by
  apply c81
  have := l81_1 (mx := mx) l h
  rw [drop_swap] at this
  exact this
theorem pre_iff (p l : List UInt8) : pre p l = p.isPrefixOf l := by
  rw [Bool.eq_iff_iff, List.isPrefixOf_iff_prefix]
  unfold pre
  simp only [Bool.and_eq_true, decide_eq_true_eq, beq_iff_eq]
  constructor
  · rintro ⟨_, h⟩
    exact ⟨l.drop p.length, by conv => lhs; lhs; rw [← h]
                               exact List.take_append_drop _ _⟩
  · rintro ⟨t, rfl⟩
    exact ⟨by simp, by simp⟩
/-- begins: the word and a blank in front. -/
theorem s82 (l p : List UInt8) (hl : l.length ≤ 1000000000) : semCall (C mx) Tryd.prog 82 [.s l, .s p] = some (.b (pre (p ++ [32]) l)) := by
  apply c82
  by_cases h : p.length < l.length
  · have hd : decide ((l.length : Int) > (p.length : Int)) = true := by rw [decide_eq_true_eq]; omega
    have hs : slS (.s l) none (some (.int (p.length : Int))) = some (.s (l.take p.length)) := slS_hi (by omega)
    have hi : idxS (.s l) (.int (p.length : Int)) = some (.u8 l[p.length]) := idxS_int h
    simp only [X82, hd, hs, hi, s_eql, u8_eql, selW_and, Option.bind_some, Bool.true_and]
    congr 2
    unfold pre
    have h1 : decide ((p ++ [32]).length ≤ l.length) = true := by rw [decide_eq_true_eq]; simp; omega
    have h2 : l.take (p ++ [32]).length = l.take p.length ++ [l[p.length]] := by
      rw [List.length_append, List.length_singleton, List.take_succ_eq_append_getElem h]
    rw [h1, h2, Bool.true_and, Bool.eq_iff_iff, Bool.and_eq_true, beq_iff_eq, beq_iff_eq, beq_iff_eq]
    constructor
    · rintro ⟨h3, h4⟩; rw [h3, h4]
    · intro h3
      have h5 := List.append_inj' h3 rfl
      exact ⟨h5.1, by simpa using h5.2⟩
  · have hd : decide ((l.length : Int) > (p.length : Int)) = false := by rw [decide_eq_false_iff_not]; omega
    have hp : pre (p ++ [32]) l = false := by
      unfold pre
      have : decide ((p ++ [32]).length ≤ l.length) = false := by rw [decide_eq_false_iff_not]; simp; omega
      rw [this, Bool.false_and]
    rw [hp]
    simp only [X82, hd]
    rfl
/-- at: the bytes there. -/
theorem s55 (l p : List UInt8) (k : Nat) (hl : l.length ≤ 1000000000) (hk : k ≤ l.length) (hp : p.length ≤ 1000000000) : semCall (C mx) Tryd.prog 55 [.s l, .int (k : Int), .s p] = some (.b (Lib.occAt l p k)) := by
  apply c55
  have h0 : decide ((k : Int) ≥ 0) = true := by rw [decide_eq_true_eq]; omega
  have hw : w64 ((l.length : Int) - (k : Int)) = ((l.length - k : Nat) : Int) := by rw [w64_eq (by omega) (by omega)]; omega
  have ho : Lib.occAt l p k = pre p (l.drop k) := by rw [pre_iff]; rfl
  rw [ho]
  unfold pre
  rw [List.length_drop]
  by_cases h : p.length ≤ l.length - k
  · have hd : decide (((l.length - k : Nat) : Int) ≥ (p.length : Int)) = true := by rw [decide_eq_true_eq]; omega
    have hd' : decide (p.length ≤ l.length - k) = true := by rw [decide_eq_true_eq]; exact h
    have hw2 : w64 ((k : Int) + (p.length : Int)) = ((k + p.length : Nat) : Int) := by rw [w64_eq (by omega) (by omega)]; omega
    have hs := sl_piece l k p.length (by omega)
    simp only [X55, h0, hw, hd, hd', hw2, hs, s_eql, selW_and, Option.bind_some, Bool.true_and]
  · have hd : decide (((l.length - k : Nat) : Int) ≥ (p.length : Int)) = false := by rw [decide_eq_false_iff_not]; omega
    have hd' : decide (p.length ≤ l.length - k) = false := by rw [decide_eq_false_iff_not]; exact h
    simp only [X55, h0, hw, hd, hd', selW_and, Option.bind_some, Bool.true_and, Bool.false_and]
    rfl
theorem l30 (l : List UInt8) (hl : l.length ≤ 32) : ∀ (r p : List UInt8), l = p ++ r → F30_4 (semRun (C mx) Tryd.prog 30 Tryd.f30) l (p.length : Int) = some (.b (r.all (okN 1)))
  | [], p, e => by
    apply r30_4
    have hd : decide ((p.length : Int) < (l.length : Int)) = false := by rw [e]; simp
    simp only [X30_4, hd, condM_b, Bool.false_eq_true, if_false]
    rfl
  | c :: r, p, e => by
    apply r30_4
    have ih := l30 l hl r (p ++ [c]) (by rw [e]; simp)
    have hle : p.length + (r.length + 1) ≤ 32 := by rw [e] at hl; simpa using hl
    have hd : decide ((p.length : Int) < (l.length : Int)) = true := by rw [decide_eq_true_eq, e]; simp; omega
    have hi : idxS (.s l) (.int (p.length : Int)) = some (.u8 c) := by rw [e]; exact idxS_at p c r
    have hw : w64 ((p.length : Int) + 1) = ((p ++ [c]).length : Int) := by rw [w64_eq (by omega) (by omega)]; simp
    simp only [X30_4, hd, hi, hw, u8_geq, u8_leq, u8_eql, selW_and, selW_or, unop_not, Option.bind_some, condM_b, if_true]
    rw [List.all_cons]
    have eo : okN 1 c = (((decide (97 ≤ c) && decide (c ≤ 122)) || (decide (48 ≤ c) && decide (c ≤ 57))) || c == 95) := by
      unfold okN
      rw [show ((1 : Nat) == 0) = false from rfl, Bool.not_false, Bool.true_and, Bool.or_assoc]
    rw [← eo]
    cases ho : okN 1 c with
    | true => simp only [Bool.not_true, Bool.false_eq_true, if_false, Bool.true_and]; exact ih
    | false => simp only [Bool.not_false, if_true, Bool.false_and]
theorem okAll_succ : ∀ (l : List UInt8) (i : Nat), okAll (i + 1) l = l.all (okN 1)
  | [], i => rfl
  | b :: r, i => by
    rw [okAll, okAll_succ r (i + 1), List.all_cons]
    congr 1
theorem okN0 (b : UInt8) : okN 0 b = (decide (97 ≤ b) && decide (b ≤ 122)) := by
  unfold okN
  simp
/-- Name: a letter, then letters, digits, lines below; at most 32. -/
theorem s30 (l : List UInt8) (hl : l.length ≤ 1000000000) : semCall (C mx) Tryd.prog 30 [.s l] = some (.b (nameB l)) := by
  apply c30
  cases l with
  | nil => rfl
  | cons b r =>
    have hi : idxS (.s (b :: r)) (.int 0) = some (.u8 b) := idxS_int (i := 0) (l := b :: r) (by simp)
    have h0 : (((b :: r).length : Int) == 0) = false := by rw [beq_eq_false_iff_ne]; simp; omega
    unfold nameB
    have e1 : decide (1 ≤ (b :: r).length) = true := by rw [decide_eq_true_eq]; simp
    rw [okAll, okAll_succ, okN0, e1, Bool.true_and]
    simp only [X30, hi, h0, u8_lss, u8_gtr, selW_or, Option.bind_some, condM_b, Bool.false_or]
    have hlt : decide (b < 97) = !decide (97 ≤ b) := by
      rw [Bool.eq_iff_iff]; simp
    have hgt : decide (122 < b) = !decide (b ≤ 122) := by
      rw [Bool.eq_iff_iff]; simp
    have hln : decide (((b :: r).length : Int) > 32) = !decide ((b :: r).length ≤ 32) := by
      rw [Bool.eq_iff_iff]; simp <;> omega
    rw [hlt, hgt, hln]
    by_cases h32 : (b :: r).length ≤ 32
    · have ih := l30 (mx := mx) (b :: r) h32 (b :: r) [] rfl
      rw [List.all_cons] at ih
      have ih : F30_4 (semRun (C mx) Tryd.prog 30 Tryd.f30) (b :: r) 0 = some (.b (okN 1 b && r.all (okN 1))) := ih
      rw [ih]
      have : decide ((b :: r).length ≤ 32) = true := by rw [decide_eq_true_eq]; exact h32
      rw [this]
      have ho : okN 1 b = ((decide (97 ≤ b) && decide (b ≤ 122)) || (!((1 : Nat) == 0) && ((decide (48 ≤ b) && decide (b ≤ 57)) || b == 95))) := rfl
      rw [ho]
      cases decide (97 ≤ b) <;> cases decide (b ≤ 122) <;> simp
    · have : decide ((b :: r).length ≤ 32) = false := by rw [decide_eq_false_iff_not]; exact h32
      rw [this]
      simp
end R3

namespace R3
open Go Go.Proofs Sx

variable {mx : Int}
def wayFail : AV := .tu [.ag [.b false, .nils], .b false]
/-- What the loop answers where these names come behind those. -/
def wayL (b : Bool) (acc segs : List (List UInt8)) : AV :=
  if segs.all nameB && decide (acc.length + segs.length ≤ 8) then .tu [.ag [.b b, .ro 1 ((acc ++ segs).map .s)], .b true] else wayFail
theorem wayL_cons (b : Bool) (acc : List (List UInt8)) (x : List UInt8) (t : List (List UInt8)) : wayL b acc (x :: t) = if !nameB x || decide ((acc.length : Int) ≥ 8) then wayFail else wayL b (acc ++ [x]) t := by
  unfold wayL
  rw [List.all_cons]
  cases hx : nameB x with
  | false => simp
  | true =>
    by_cases h8 : 8 ≤ acc.length
    · have h1 : decide ((acc.length : Int) ≥ 8) = true := by rw [decide_eq_true_eq]; omega
      have h2 : decide (acc.length + (x :: t).length ≤ 8) = false := by rw [decide_eq_false_iff_not]; simp; omega
      rw [h1, h2]; simp
    · have h1 : decide ((acc.length : Int) ≥ 8) = false := by rw [decide_eq_false_iff_not]; omega
      have h2 : (acc ++ [x]).length + t.length = acc.length + (x :: t).length := by simp; omega
      rw [h1, h2]; simp
theorem app16 (acc : List (List UInt8)) (x : List UInt8) (h : acc.length ≤ 100) : app 16 1 (acc.map .s) (.ro 1 ([.s x] : List AV)) = some ((acc ++ [x]).map .s) := by
  have hb : big = 70368744177664 := rfl
  show ((if 1 = 1 then some [AV.s x] else none).bind fun q => if ((acc.map AV.s).length + q.length) * 16 ≤ big then some (acc.map AV.s ++ q) else none) = _
  rw [if_pos rfl]
  simp only [Option.bind_some, List.length_map, List.length_cons, List.length_nil, hb]
  rw [if_pos (by omega), List.map_append]; rfl
theorem l28_end (l : List UInt8) (hl : l.length ≤ 1000000000) (b : Bool) (acc : List (List UInt8)) (i j : Int) (hj : (l.length : Int) < j) (h8 : acc.length ≤ 8) :
    F28_11 (semRun (C mx) Tryd.prog 28 Tryd.f28) (.s l) i j false .nils b (acc.map .s) = some (wayL b acc []) := by
  apply r28_11
  have hd : decide (j ≤ (l.length : Int)) = false := by rw [decide_eq_false_iff_not]; omega
  simp only [X28_11, lenS_l, int_leq, hd, Option.bind_some, condM_b, Bool.false_eq_true, if_false]
  unfold wayL
  have : decide (acc.length + ([] : List (List UInt8)).length ≤ 8) = true := by rw [decide_eq_true_eq]; simpa using h8
  rw [this, List.append_nil]
  rfl
theorem l28 (l : List UInt8) (hl : l.length ≤ 1000000000) (b : Bool) : ∀ (r p cur : List UInt8) (acc : List (List UInt8)) (h : List UInt8) (t : List (List UInt8)), l = p ++ (cur ++ r) → splitL r = h :: t → acc.length ≤ 8 →
    F28_11 (semRun (C mx) Tryd.prog 28 Tryd.f28) (.s l) (p.length : Int) ((p.length + cur.length : Nat) : Int) false .nils b (acc.map .s) = some (wayL b acc ((cur ++ h) :: t))
  | [], p, cur, acc, h, t, e, hs, h8 => by
    cases hs
    apply r28_11
    have el : l.length = p.length + cur.length := by rw [e]; simp
    have hd : decide (((p.length + cur.length : Nat) : Int) ≤ (l.length : Int)) = true := by rw [decide_eq_true_eq]; omega
    have hd2 : decide (((p.length + cur.length : Nat) : Int) < (l.length : Int)) = false := by rw [decide_eq_false_iff_not]; omega
    have hsl := sl_piece l p.length cur.length (by omega)
    have ecur : (l.drop p.length).take cur.length = cur := by rw [e, List.drop_left, List.append_nil, List.take_length]
    rw [ecur] at hsl
    have hn := s30 (mx := mx) cur (by omega)
    simp only [X28_11, lenS_l, int_leq, int_lss, hd, hd2, hsl, hn, one_s, unop_not, Option.bind_some, condM_b, if_true, selW_tf, Bool.false_eq_true, if_false, selW_or, List.length_map]
    rw [List.append_nil, wayL_cons]
    cases hc : (!nameB cur || decide ((acc.length : Int) ≥ 8)) with
    | true => simp only [if_true]; rfl
    | false =>
      simp only [Bool.false_eq_true, if_false]
      have h7 : acc.length < 8 := by
        simp only [Bool.or_eq_false_iff, decide_eq_false_iff_not] at hc
        omega
      simp only [app16 acc cur (by omega), Option.bind_some]
      apply r28_12
      have hw : w64 (((p.length + cur.length : Nat) : Int) + 1) = ((p.length + cur.length + 1 : Nat) : Int) := by rw [w64_eq (by omega) (by omega)]; omega
      simp only [X28_12, hw]
      exact l28_end l hl b (acc ++ [cur]) _ _ (by omega) (by simp; omega)
  | c :: r, p, cur, acc, h, t, e, hs, h8 => by
    apply r28_11
    have el : l.length = p.length + (cur.length + (r.length + 1)) := by rw [e]; simp
    have hd : decide (((p.length + cur.length : Nat) : Int) ≤ (l.length : Int)) = true := by rw [decide_eq_true_eq]; omega
    have hd2 : decide (((p.length + cur.length : Nat) : Int) < (l.length : Int)) = true := by rw [decide_eq_true_eq]; omega
    have hi : idxS (.s l) (.int ((p.length + cur.length : Nat) : Int)) = some (.u8 c) := by
      have := idxS_at (p ++ cur) c r
      rw [List.length_append, List.append_assoc, ← e] at this
      exact this
    have hw : w64 (((p.length + cur.length : Nat) : Int) + 1) = ((p.length + cur.length + 1 : Nat) : Int) := by rw [w64_eq (by omega) (by omega)]; omega
    obtain ⟨h', t', hs'⟩ := splitL_cons r
    rw [splitL_eq] at hs
    cases hc : (c == 46) with
    | true =>
      rw [hc, if_pos rfl] at hs
      cases hs
      have hne : (c != 46) = false := by rw [bne, hc]; rfl
      have hsl := sl_piece l p.length cur.length (by omega)
      have ecur : (l.drop p.length).take cur.length = cur := by rw [e, List.drop_left, List.take_left]
      rw [ecur] at hsl
      have hn := s30 (mx := mx) cur (by omega)
      simp only [X28_11, lenS_l, int_leq, int_lss, hd, hd2, hi, u8_neq, hne, hsl, hn, one_s, unop_not, Option.bind_some, condM_b, if_true, selW_and, Bool.true_and, Bool.false_eq_true, if_false, selW_or, List.length_map]
      rw [List.append_nil, wayL_cons]
      cases hc : (!nameB cur || decide ((acc.length : Int) ≥ 8)) with
      | true => simp only [if_true]; rfl
      | false =>
        simp only [Bool.false_eq_true, if_false]
        have h7 : acc.length < 8 := by
          simp only [Bool.or_eq_false_iff, decide_eq_false_iff_not] at hc
          omega
        simp only [app16 acc cur (by omega), Option.bind_some]
        apply r28_12
        simp only [X28_12, hw]
        have hc46 : c = 46 := by simpa using ‹(c == 46) = true›
        have ih := l28 l hl b r (p ++ (cur ++ [c])) [] (acc ++ [cur]) h' t' (by rw [e]; simp) hs' (by simp; omega)
        have e1 : (p ++ (cur ++ [c])).length = p.length + cur.length + 1 := by simp; omega
        rw [e1, List.nil_append] at ih
        rw [hs']
        exact ih
    | false =>
      rw [hc, if_neg (by decide), hs'] at hs
      cases hs
      have hne : (c != 46) = true := by rw [bne, hc]; rfl
      simp only [X28_11, lenS_l, int_leq, int_lss, hd, hd2, hi, u8_neq, hne, Option.bind_some, condM_b, if_true, selW_and, Bool.true_and]
      apply r28_12
      simp only [X28_12, hw]
      have ih := l28 l hl b r p (cur ++ [c]) acc h' t (by rw [e]; simp) hs' h8
      have e1 : p.length + (cur ++ [c]).length = p.length + cur.length + 1 := by simp; omega
      rw [e1, List.append_assoc] at ih
      exact ih
theorem wayL_nil (b : Bool) (segs : List (List UInt8)) : wayL b [] segs = if segs.all nameB && decide (segs.length ≤ 8) then .tu [.ag [.b b, .ro 1 (segs.map .s)], .b true] else wayFail := by
  unfold wayL
  simp
theorem l28_all (l : List UInt8) (hl : l.length ≤ 1000000000) (b : Bool) : F28_9 (semRun (C mx) Tryd.prog 28 Tryd.f28) (.s l) false .nils b [] = some (wayL b [] (splitL l)) := by
  apply r28_9
  obtain ⟨h, t, hs⟩ := splitL_cons l
  have := l28 (mx := mx) l hl b l [] [] [] h t rfl hs (by simp)
  rw [hs]
  exact this
/-- The document's Way is the program's. -/
theorem s28 (l : List UInt8) (hl : l.length ≤ 1000000000) : semCall (C mx) Tryd.prog 28 [.s l] = some (wayAV l) := by
  apply c28
  unfold wayAV
  cases h1 : (l == [46]) with
  | true => simp only [X28, h1, condM_b, if_true]
  | false =>
    cases h2 : (l == [36]) with
    | true => simp only [X28, h1, h2, condM_b, if_true, Bool.false_eq_true, if_false]
    | false =>
      have hdol : ((selW (.b (decide ((l.length : Int) ≥ 2))) true ((idxS (.s l) (.int 0)).bind fun v1 => (binI .eql (v1) (.u8 36)).bind fun v2 => some (v2)) (.b false)).bind fun v3 => (selW (v3) true ((idxS (.s l) (.int 1)).bind fun v4 => (binI .eql (v4) (.u8 46)).bind fun v5 => some (v5)) (.b false))) = some (.b (dollar l)) := by
        match l with
        | [] => rfl
        | [a] => rfl
        | a :: b :: r =>
          have hd : decide ((((a :: b :: r).length : Nat) : Int) ≥ 2) = true := by rw [decide_eq_true_eq]; simp; omega
          have i0 : idxS (.s (a :: b :: r)) (.int 0) = some (.u8 a) := idxS_int (i := 0) (l := a :: b :: r) (by simp)
          have i1 : idxS (.s (a :: b :: r)) (.int 1) = some (.u8 b) := idxS_int (i := 1) (l := a :: b :: r) (by simp)
          have hdd : dollar (a :: b :: r) = (a == 36 && b == 46) := by
            unfold dollar
            have : decide (2 ≤ (a :: b :: r).length) = true := by rw [decide_eq_true_eq]; simp
            rw [this, Bool.true_and, Bool.eq_iff_iff]
            simp
          rw [hdd]
          simp only [hd, i0, i1, u8_eql, selW_and, Option.bind_some, Bool.true_and]
      simp only [X28, h1, h2, condM_b, Bool.false_eq_true, if_false]
      rw [← Option.bind_assoc, hdol]
      simp only [Option.bind_some, condM_b]
      cases hd : dollar l with
      | true =>
        have hlen : 2 ≤ l.length := by
          unfold dollar at hd
          simp only [Bool.and_eq_true, decide_eq_true_eq] at hd
          exact hd.1
        have hs : slS (.s l) (some (.int 2)) none = some (.s (l.drop 2)) := slS_lo (i := 2) hlen
        simp only [hs, Option.bind_some, if_true]
        rw [l28_all _ (by simp; omega), wayL_nil]
        rfl
      | false =>
        simp only [Bool.false_eq_true, if_false]
        rw [l28_all l hl, wayL_nil]
        rfl
end R3

namespace R3
open Go Go.Proofs Sx

variable {mx : Int}
theorem dropF_idem (b : UInt8) (l : List UInt8) : dropF b (dropF b l) = dropF b l := by
  obtain ⟨n, _, h | ⟨x, r, h, hx⟩⟩ := dropF_form b l
  · rw [h]; rfl
  · rw [h]; unfold dropF; rw [List.dropWhile_cons, if_neg (by rw [hx]; decide)]
theorem dropE_idem (b : UInt8) (l : List UInt8) : dropE b (dropE b l) = dropE b l := by
  have := dropF_idem b l.reverse
  unfold dropF at this
  unfold dropE
  rw [List.reverse_reverse, this]
theorem trimW_end (l : List UInt8) : dropE 32 (trimW l) = trimW l := by
  unfold trimW
  rw [drop_swap, dropE_idem]
theorem trim_behind (s : List UInt8) (n : Nat) (h : dropE 32 s = s) (hn : n < s.length) (h32 : s[n]? = some 32) : trimW (s.drop n) = dropF 32 (s.drop (n + 1)) := by
  have e : s.take n ++ s.drop n = s := List.take_append_drop n s
  have h1 := dropE_app 32 (s.take n) (s.drop n)
  rw [e, h] at h1
  have h2 : dropE 32 (s.drop n) = s.drop n := by
    split at h1
    · have h3 := dropE_len 32 (s.take n)
      rw [← h1, List.length_take] at h3
      omega
    · rw [e.symm] at h1
      have h4 : s.take n ++ s.drop n = s.take n ++ dropE 32 (s.drop n) := by
        rw [e] at h1 ⊢
        exact h1
      exact (List.append_cancel_left h4).symm
  unfold trimW
  rw [h2]
  have h5 : s.drop n = 32 :: s.drop (n + 1) := by
    rw [List.drop_eq_getElem_cons hn]
    rw [List.getElem?_eq_getElem hn] at h32
    rw [Option.some.inj h32]
  rw [h5]
  unfold dropF
  rw [List.dropWhile_cons]; rfl
theorem l56_19 (x : List UInt8) (hx : x.length ≤ 1000000000) (k : Int) (kb : UInt8) (hc : conv .u8 (.int k) = some (.u8 kb)) : F56_19 (semRun (C mx) Tryd.prog 56 Tryd.f56) (.s x) k 0 0 [] false .nils = some (wayW kb x).av := by
  apply r56_19
  have hw := s28 (mx := mx) x hx
  rw [wayAV_eq] at hw
  have e (x y : AV) : AV.asAg 2 (.ag [x, y]) = some [x, y] := rfl
  have h1 : AV.one (.u8 kb) = some (.u8 kb) := rfl
  simp only [X56_19, hw, tup2_0, tup2_1, e, hc, h1, Option.bind_some, List.getD_cons_zero, List.getD_cons_succ]
  rfl
theorem pre_at {p s : List UInt8} (h : pre (p ++ [32]) s = true) : p.length < s.length ∧ s[p.length]? = some 32 := by
  unfold pre at h
  simp only [Bool.and_eq_true, decide_eq_true_eq, beq_iff_eq] at h
  have h1 : p.length < s.length := by have := h.1; simp at this; omega
  refine ⟨h1, ?_⟩
  have h2 : (s.take (p ++ [32]).length)[p.length]? = s[p.length]? := by rw [List.getElem?_take]; simp
  rw [← h2, h.2]
  simp
theorem l56_12 (s : List UInt8) (hs : s.length ≤ 1000000000) (ht : dropE 32 s = s) : F56_12 (semRun (C mx) Tryd.prog 56 Tryd.f56) (.s s) 0 0 [] false .nils = some (if pre (ifS ++ [32]) s then wayW 2 (dropF 32 (s.drop 3)) else if pre (rangeS ++ [32]) s then wayW 4 (dropF 32 (s.drop 6)) else wayW 1 s).av := by
  apply r56_12
  have c1 := s82 (mx := mx) s [105, 102] hs
  have c2 := s82 (mx := mx) s [114, 97, 110, 103, 101] hs
  rw [show ([105, 102] : List UInt8) ++ [32] = ifS ++ [32] from rfl] at c1
  rw [show ([114, 97, 110, 103, 101] : List UInt8) ++ [32] = rangeS ++ [32] from rfl] at c2
  simp only [X56_12, c1, Option.bind_some, condM_b]
  cases h1 : pre (ifS ++ [32]) s with
  | true =>
    obtain ⟨hl, h32⟩ := pre_at h1
    have hl : 2 < s.length := hl
    have hsl : slS (.s s) (some (.int 2)) none = some (.s (s.drop 2)) := slS_lo (i := 2) (by omega)
    have h81 := s81 (mx := mx) (s.drop 2) (by simp; omega)
    rw [trim_behind s 2 ht hl h32] at h81
    simp only [hsl, h81, Option.bind_some, if_true]
    exact l56_19 _ (Nat.le_trans (dropF_len _ _) (by simp; omega)) 2 2 rfl
  | false =>
    simp only [c2, Option.bind_some, condM_b, Bool.false_eq_true, if_false]
    cases h2 : pre (rangeS ++ [32]) s with
    | true =>
      obtain ⟨hl, h32⟩ := pre_at h2
      have hl : 5 < s.length := hl
      have hsl : slS (.s s) (some (.int 5)) none = some (.s (s.drop 5)) := slS_lo (i := 5) (by omega)
      have h81 := s81 (mx := mx) (s.drop 5) (by simp; omega)
      rw [trim_behind s 5 ht hl h32] at h81
      simp only [hsl, h81, Option.bind_some, if_true]
      exact l56_19 _ (Nat.le_trans (dropF_len _ _) (by simp; omega)) 4 4 rfl
    | false =>
      simp only [Bool.false_eq_true, if_false]
      exact l56_19 _ hs 1 1 rfl
/-- The document's Action is the program's. -/
theorem s56 (l : List UInt8) (hl : l.length ≤ 1000000000) : semCall (C mx) Tryd.prog 56 [.s l] = some (actW l).av := by
  apply c56
  have h81 := s81 (mx := mx) l hl
  have hs := Nat.le_trans (trimW_len l) hl
  have ht := trimW_end l
  unfold actW
  generalize trimW l = s at h81 hs ht
  simp only [X56, h81, Option.bind_some, s_eql, condM_b]
  unfold actT
  rw [show ([101, 108, 115, 101] : List UInt8) = els from rfl, show ([101, 110, 100] : List UInt8) = endS from rfl, show ([102, 108, 117, 115, 104] : List UInt8) = flushS from rfl]
  cases h1 : (s == els) with
  | true => simp only [if_true]; rfl
  | false =>
    cases h2 : (s == endS) with
    | true => simp only [if_true, Bool.false_eq_true, if_false]; rfl
    | false =>
      cases h3 : (s == flushS) with
      | true => simp only [if_true, Bool.false_eq_true, if_false]; rfl
      | false =>
        simp only [Bool.false_eq_true, if_false]
        cases h4 : (s == ifS) with
        | true =>
          have h4' : s = [105, 102] := by simpa [ifS] using h4
          subst h4'
          rw [if_pos (by rfl)]
          apply r56_11
          rfl
        | false =>
          rw [if_neg (by rw [show ([105, 102] : List UInt8) = ifS from rfl, h4]; decide)]
          cases h5 : (s == rangeS) with
          | true =>
            have h5' : s = [114, 97, 110, 103, 101] := by simpa [rangeS] using h5
            subst h5'
            rw [if_pos (by rfl)]
            apply r56_11
            rfl
          | false =>
            rw [if_neg (by rw [show ([114, 97, 110, 103, 101] : List UInt8) = rangeS from rfl, h5]; decide)]
            rw [l56_12 s hs ht]
            simp only [Bool.or_false, Bool.false_eq_true, if_false]
end R3

namespace R3
open Go Go.Proofs Sx

variable {mx : Int}
theorem occ_app (p r sub : List UInt8) (k : Nat) : Lib.occAt (p ++ r) sub (p.length + k) = Lib.occAt r sub k := by
  unfold Lib.occAt
  rw [← List.drop_drop, List.drop_left]
theorem app64 (w : Wd) (acc : List Wd) (h : acc.length ≤ 1000000000) : app 64 5 (acc.map Wd.av) (.ro 5 ([w.av] : List AV)) = some ((acc ++ [w]).map Wd.av) := by
  have hb : big = 70368744177664 := rfl
  show ((if 5 = 5 then some [w.av] else none).bind fun q => if ((acc.map Wd.av).length + q.length) * 64 ≤ big then some (acc.map Wd.av ++ q) else none) = _
  rw [if_pos rfl]
  simp only [Option.bind_some, List.length_map, List.length_cons, List.length_nil, hb]
  rw [if_pos (by omega), List.map_append]; rfl
theorem idxO_no (r : List UInt8) (k : Nat) (h : k < idxO r) : Lib.occAt r brO k = false := by
  unfold idxO at h
  rcases Lib.index_spec r brO with ⟨h1, h2⟩ | ⟨i, h1, h2, h3, h4⟩
  · rw [if_pos (by omega)] at h
    exact h2 k (by omega)
  · rw [if_neg (by omega), h1] at h
    exact h4 k h
theorem idxO_end (r : List UInt8) : idxO r = r.length ∨ (idxO r < r.length ∧ Lib.occAt r brO (idxO r) = true) := by
  unfold idxO
  rcases Lib.index_spec r brO with ⟨h1, h2⟩ | ⟨i, h1, h2, h3, h4⟩
  · rw [if_pos (by omega)]; exact Or.inl rfl
  · rw [if_neg (by omega), h1]
    have := Lib.index_room r brO (by omega)
    have e : (brO.length : Int) = 2 := rfl
    exact Or.inr ⟨by omega, h3⟩
theorem l24_5 (p r : List UInt8) (hl : (p ++ r).length ≤ 1000000000) (acc : List AV) (R : Option AV)
    (hR : (condM (.b (decide (((p.length + idxO r : Nat) : Int) > (p.length : Int))))
  ((slS (.s (p ++ r)) (some (.int (p.length : Int))) (some (.int ((p.length + idxO r : Nat) : Int)))).bind fun v4 => (AV.one (v4)).bind fun v5 => (app 64 5 acc (.ro 5 (([.ag [.u8 0, .int (p.length : Int), v5, .b false, .nils]] : List AV)))).bind fun v6 => F24_3 (semRun (C mx) Tryd.prog 24 Tryd.f24) (p ++ r) v6 ((p.length + idxO r : Nat) : Int))
  (F24_11 (semRun (C mx) Tryd.prog 24 Tryd.f24) (p ++ r) acc (p.length : Int) (w64 ((p.length : Int) + 2)))) = R) (hs : ∃ x, R = some x) : ∀ (d k : Nat), k + d = idxO r →
    F24_5 (semRun (C mx) Tryd.prog 24 Tryd.f24) (p ++ r) acc (p.length : Int) ((p.length + k : Nat) : Int) = R
  | 0, k, e => by
    obtain rfl : k = idxO r := by omega
    obtain ⟨x, rfl⟩ := hs
    apply r24_5
    have hle := idxO_le r
    have hpl : p.length + r.length ≤ 1000000000 := by simpa using hl
    have h55 := s55 (mx := mx) (p ++ r) [123, 123] (p.length + idxO r) hl (by simp; omega) (by decide)
    rw [occ_app] at h55
    rcases idxO_end r with h | ⟨h, ho⟩
    · have hd : decide (((p.length + idxO r : Nat) : Int) < ((p ++ r).length : Int)) = false := by rw [decide_eq_false_iff_not, List.length_append]; omega
      simp only [X24_5, hd, h55, Option.bind_some, unop_not, selW_and, Bool.false_and, condM_b, Bool.false_eq_true, if_false]
      simpa only [condM_b] using hR
    · have hd : decide (((p.length + idxO r : Nat) : Int) < ((p ++ r).length : Int)) = true := by rw [decide_eq_true_eq, List.length_append]; omega
      have ho' : Lib.occAt r [123, 123] (idxO r) = true := ho
      rw [ho'] at h55
      simp only [X24_5, hd, h55, Option.bind_some, unop_not, selW_and, Bool.not_true, Bool.and_false, condM_b, Bool.false_eq_true, if_false]
      simpa only [condM_b] using hR
  | d + 1, k, e => by
    have ih := l24_5 p r hl acc R hR hs d (k + 1) (by omega)
    obtain ⟨x, rfl⟩ := hs
    apply r24_5
    have hle := idxO_le r
    have hpl : p.length + r.length ≤ 1000000000 := by simpa using hl
    have h55 := s55 (mx := mx) (p ++ r) [123, 123] (p.length + k) hl (by simp; omega) (by decide)
    rw [occ_app, show Lib.occAt r [123, 123] k = false from idxO_no r k (by omega)] at h55
    have hd : decide (((p.length + k : Nat) : Int) < ((p ++ r).length : Int)) = true := by rw [decide_eq_true_eq, List.length_append]; omega
    have hw : w64 (((p.length + k : Nat) : Int) + 1) = ((p.length + (k + 1) : Nat) : Int) := by rw [w64_eq (by omega) (by omega)]; omega
    simp only [X24_5, hd, h55, hw, Option.bind_some, unop_not, selW_and, Bool.not_false, Bool.and_true, condM_b, if_true]
    exact ih
def idxC (r : List UInt8) : Nat := if Lib.index r brC < 0 then r.length else (Lib.index r brC).toNat
theorem idxC_no (r : List UInt8) (k : Nat) (h : k < idxC r) : Lib.occAt r brC k = false := by
  unfold idxC at h
  rcases Lib.index_spec r brC with ⟨h1, h2⟩ | ⟨i, h1, h2, h3, h4⟩
  · rw [if_pos (by omega)] at h
    exact h2 k (by omega)
  · rw [if_neg (by omega), h1] at h
    exact h4 k h
theorem idxC_end (r : List UInt8) : (Lib.index r brC < 0 ∧ idxC r = r.length) ∨ (Lib.index r brC = (idxC r : Int) ∧ idxC r + 2 ≤ r.length ∧ Lib.occAt r brC (idxC r) = true) := by
  unfold idxC
  rcases Lib.index_spec r brC with ⟨h1, h2⟩ | ⟨i, h1, h2, h3, h4⟩
  · rw [if_pos (by omega)]; exact Or.inl ⟨by omega, rfl⟩
  · rw [if_neg (by omega), h1]
    have := Lib.index_room r brC (by omega)
    have e : (brC.length : Int) = 2 := rfl
    exact Or.inr ⟨rfl, by omega, h3⟩
theorem l24_11 (p r : List UInt8) (hl : (p ++ r).length ≤ 1000000000) (acc : List AV) (R : Option AV)
    (hR : (condM (.b (decide (((p.length + idxC r : Nat) : Int) ≥ ((p ++ r).length : Int))))
  (some (.tu [.ro 5 acc, .int (p.length : Int)]))
  ((slS (.s (p ++ r)) (some (.int (w64 ((p.length : Int) + 2)))) (some (.int ((p.length + idxC r : Nat) : Int)))).bind fun v4 => (semCall (C mx) Tryd.prog 56 [v4]).bind fun v5 => (tupI (v5) 0).bind fun v6 => (tupI (v5) 1).bind fun v7 => (AV.asAg 5 (v6)).bind fun v8 => (unop .not (v7)).bind fun v9 => condM (v9)
  (some (.tu [.ro 5 acc, .int (p.length : Int)]))
  ((app 64 5 acc (.ro 5 (([.ag [v8.getD 0 .un, .int (p.length : Int), v8.getD 2 .un, v8.getD 3 .un, v8.getD 4 .un]] : List AV)))).bind fun v10 => F24_3 (semRun (C mx) Tryd.prog 24 Tryd.f24) (p ++ r) v10 (w64 (((p.length + idxC r : Nat) : Int) + 2))))) = R) (hs : ∃ x, R = some x) : ∀ (d k : Nat), k + d = idxC r →
    F24_11 (semRun (C mx) Tryd.prog 24 Tryd.f24) (p ++ r) acc (p.length : Int) ((p.length + k : Nat) : Int) = R
  | 0, k, e => by
    obtain rfl : k = idxC r := by omega
    obtain ⟨x, rfl⟩ := hs
    apply r24_11
    have hle : idxC r ≤ r.length := by rcases idxC_end r with h | h <;> omega
    have hpl : p.length + r.length ≤ 1000000000 := by simpa using hl
    have h55 := s55 (mx := mx) (p ++ r) [125, 125] (p.length + idxC r) hl (by simp; omega) (by decide)
    rw [occ_app] at h55
    rcases idxC_end r with ⟨_, h⟩ | ⟨_, h, ho⟩
    · have hd : decide (((p.length + idxC r : Nat) : Int) < ((p ++ r).length : Int)) = false := by rw [decide_eq_false_iff_not, List.length_append]; omega
      simp only [X24_11, hd, h55, Option.bind_some, unop_not, selW_and, Bool.false_and, condM_b, Bool.false_eq_true, if_false]
      simpa only [condM_b] using hR
    · have hd : decide (((p.length + idxC r : Nat) : Int) < ((p ++ r).length : Int)) = true := by rw [decide_eq_true_eq, List.length_append]; omega
      have ho' : Lib.occAt r [125, 125] (idxC r) = true := ho
      rw [ho'] at h55
      simp only [X24_11, hd, h55, Option.bind_some, unop_not, selW_and, Bool.not_true, Bool.and_false, condM_b, Bool.false_eq_true, if_false]
      simpa only [condM_b] using hR
  | d + 1, k, e => by
    have ih := l24_11 p r hl acc R hR hs d (k + 1) (by omega)
    obtain ⟨x, rfl⟩ := hs
    apply r24_11
    have hle : idxC r ≤ r.length := by rcases idxC_end r with h | h <;> omega
    have hpl : p.length + r.length ≤ 1000000000 := by simpa using hl
    have h55 := s55 (mx := mx) (p ++ r) [125, 125] (p.length + k) hl (by simp; omega) (by decide)
    rw [occ_app, show Lib.occAt r [125, 125] k = false from idxC_no r k (by omega)] at h55
    have hd : decide (((p.length + k : Nat) : Int) < ((p ++ r).length : Int)) = true := by rw [decide_eq_true_eq, List.length_append]; omega
    have hw : w64 (((p.length + k : Nat) : Int) + 1) = ((p.length + (k + 1) : Nat) : Int) := by rw [w64_eq (by omega) (by omega)]; omega
    simp only [X24_11, hd, h55, hw, Option.bind_some, unop_not, selW_and, Bool.not_false, Bool.and_true, condM_b, if_true]
    exact ih
/-- What All of the document answers. -/
def refAV (q : List Wd × Int) : AV := .tu [.ro 5 (q.1.map Wd.av), .int q.2]
theorem l24 : ∀ (n : Nat) (r p : List UInt8) (acc : List Wd), r.length ≤ n → (p ++ r).length ≤ 1000000000 → acc.length ≤ p.length →
    F24_3 (semRun (C mx) Tryd.prog 24 Tryd.f24) (p ++ r) (acc.map Wd.av) (p.length : Int) = some (refAV (wordsF (n + 1) r p.length acc)) := by
  intro n
  induction n with
  | zero =>
    intro r p acc hr hp ha
    obtain rfl := List.eq_nil_of_length_eq_zero (Nat.le_zero.1 hr)
    apply r24_3
    have : decide ((p.length : Int) < ((p ++ []).length : Int)) = false := by simp
    simp only [X24_3, this, condM_b, Bool.false_eq_true, if_false]
    rfl
  | succ n ih =>
    intro r p acc hr hp ha
    cases r with
    | nil =>
      apply r24_3
      have : decide ((p.length : Int) < ((p ++ []).length : Int)) = false := by simp
      simp only [X24_3, this, condM_b, Bool.false_eq_true, if_false]
      rfl
    | cons x r' =>
      obtain ⟨r, hreq⟩ : ∃ r, r = x :: r' := ⟨_, rfl⟩
      rw [← hreq] at hr hp ⊢
      have hne : r.isEmpty = false := by rw [hreq]; rfl
      have hpos : 0 < r.length := by rw [hreq]; simp
      have hpl : p.length + r.length ≤ 1000000000 := by simpa using hp
      have hio := idxO_le r
      apply r24_3
      have hlt : decide ((p.length : Int) < ((p ++ r).length : Int)) = true := by rw [decide_eq_true_eq]; simp; omega
      simp only [X24_3, hlt, condM_b, if_true]
      rw [wordsF, if_neg (by rw [hne]; decide)]
      refine l24_5 p r hp (acc.map Wd.av) _ ?_ ⟨_, rfl⟩ (idxO r) 0 (by omega)
      by_cases hi : 0 < idxO r
      · have hgt : decide (((p.length + idxO r : Nat) : Int) > (p.length : Int)) = true := by rw [decide_eq_true_eq]; omega
        have hc := app64 (litW p.length (r.take (idxO r))) acc (by omega)
        have hw : (litW p.length (r.take (idxO r))).av = .ag [.u8 0, .int (p.length : Int), .s (r.take (idxO r)), .b false, .nils] := rfl
        rw [hw] at hc
        have := ih (r.drop (idxO r)) (p ++ r.take (idxO r)) (acc ++ [litW p.length (r.take (idxO r))]) (by rw [List.length_drop]; omega) (by rw [List.append_assoc, List.take_append_drop]; exact hp) (by simp; omega)
        have hlen : (p ++ r.take (idxO r)).length = p.length + idxO r := by simp; omega
        rw [List.append_assoc, List.take_append_drop, hlen] at this
        simp only [hgt, sl_mid p r _ hio, one_s, hc, Option.bind_some, condM_b, if_true]
        rw [if_pos hi]
        exact this
      · have hgt : decide (((p.length + idxO r : Nat) : Int) > (p.length : Int)) = false := by rw [decide_eq_false_iff_not]; omega
        rw [if_neg hi]
        simp only [hgt, condM_b, Bool.false_eq_true, if_false]
        have hr2 : 2 ≤ r.length := by
          have := congrArg List.length (idxO_pre r (by omega) hpos)
          rw [List.length_take] at this
          have e : brO.length = 2 := rfl
          omega
        have hw2 : w64 ((p.length : Int) + 2) = ((p.length + 2 : Nat) : Int) := by rw [w64_eq (by omega) (by omega)]; omega
        rw [hw2]
        have hC2 : 2 ≤ idxC r := by
          rcases idxC_end r with ⟨_, h⟩ | ⟨h, _⟩
          · omega
          · exact idxC_ge r (by omega) hpos _ h
        refine l24_11 p r hp (acc.map Wd.av) _ ?_ ⟨_, rfl⟩ (idxC r - 2) 2 (by omega)
        rcases idxC_end r with ⟨h, h'⟩ | ⟨h, h', _⟩
        · have hge : decide (((p.length + idxC r : Nat) : Int) ≥ ((p ++ r).length : Int)) = true := by rw [decide_eq_true_eq, List.length_append]; omega
          rw [if_pos h]
          simp only [hge, condM_b, if_true]
          rfl
        · have hge : decide (((p.length + idxC r : Nat) : Int) ≥ ((p ++ r).length : Int)) = false := by rw [decide_eq_false_iff_not, List.length_append]; omega
          rw [if_neg (by omega), h, Int.toNat_natCast]
          generalize idxC r = j at *
          have a4 : w64 (((p.length + j : Nat) : Int) + 2) = ((p.length + (j + 2) : Nat) : Int) := by rw [w64_eq (by omega) (by omega)]; omega
          have hsl := sl_act p r j hC2 (by omega)
          have hact := s56 (mx := mx) ((r.take j).drop 2) (by simp; omega)
          have hw : (actW ((r.take j).drop 2)).av = .tu [.ag [.u8 (actW ((r.take j).drop 2)).kind, .int 0, .s [], .b (actW ((r.take j).drop 2)).root, (actW ((r.take j).drop 2)).names], .b (actW ((r.take j).drop 2)).ok] := rfl
          rw [hw] at hact
          have hc := app64 (actWd p.length (actW ((r.take j).drop 2))) acc (by omega)
          have hw2 : (actWd p.length (actW ((r.take j).drop 2))).av = .ag [.u8 (actW ((r.take j).drop 2)).kind, .int (p.length : Int), .s [], .b (actW ((r.take j).drop 2)).root, (actW ((r.take j).drop 2)).names] := rfl
          rw [hw2] at hc
          have hih := ih (r.drop (j + 2)) (p ++ r.take (j + 2)) (acc ++ [actWd p.length (actW ((r.take j).drop 2))]) (by rw [List.length_drop]; omega) (by rw [List.append_assoc, List.take_append_drop]; exact hp) (by simp; omega)
          have hlen : (p ++ r.take (j + 2)).length = p.length + (j + 2) := by simp; omega
          rw [List.append_assoc, List.take_append_drop, hlen] at hih
          generalize actW ((r.take j).drop 2) = A at *
          simp only [hge, a4, ‹w64 ((p.length : Int) + 2) = ((p.length + 2 : Nat) : Int)›, hsl, hact, tup2_0, tup2_1, asAg5, unop_not, Option.bind_some, condM_b, List.getD_cons_zero, List.getD_cons_succ, hc, Bool.false_eq_true, if_false]
          cases hA : A.ok with
          | false => rfl
          | true =>
            simp only [Bool.not_true, Bool.false_eq_true, if_false, if_true]
            exact hih
theorem s24 (l : List UInt8) (h : l.length ≤ 1000000000) : semCall (C mx) Tryd.prog 24 [.s l] = some (refAV (wordsW l)) := by
  apply c24
  have := l24 (mx := mx) l.length l [] [] (Nat.le_refl _) (by simpa using h) (by simp)
  exact this
theorem wordsF_nm : ∀ (n : Nat) (r : List UInt8) (a : Nat) (acc : List Wd), (∀ w ∈ acc, NmOk w.names) → ∀ w ∈ (wordsF n r a acc).1, NmOk w.names
  | 0, r, a, acc, h => h
  | n + 1, r, a, acc, h => by
    rw [wordsF]
    split
    · exact h
    · split
      · refine wordsF_nm n _ _ _ fun w hw => ?_
        rcases List.mem_append.1 hw with hw | hw
        · exact h w hw
        · obtain rfl := List.mem_singleton.1 hw; exact Or.inl rfl
      · split
        · exact h
        · split
          · refine wordsF_nm n _ _ _ fun w hw => ?_
            rcases List.mem_append.1 hw with hw | hw
            · exact h w hw
            · obtain rfl := List.mem_singleton.1 hw; exact actW_nm _
          · exact h
theorem law3 (l : List UInt8) : semCall (C mx) Tryd.prog 3 [.s l] = some (.b true) := by
  apply c3
  have hA := s23 (mx := mx) l
  have t30 (a b c : AV) : tupI (.tu [a, b, c]) 0 = some a := rfl
  have t31 (a b c : AV) : tupI (.tu [a, b, c]) 1 = some b := rfl
  have t32 (a b c : AV) : tupI (.tu [a, b, c]) 2 = some c := rfl
  unfold allAV at hA
  by_cases h1 : l.length > 65536
  · rw [if_pos h1] at hA
    have hd : decide ((l.length : Int) > 65536) = true := by rw [decide_eq_true_eq]; omega
    simp only [X3, s22 (mx := mx), Option.bind_some, unop_not, Bool.not_true, selW_and, Bool.false_and, condM_b, Bool.false_eq_true, if_false, hA, t30, t31, t32, hd, if_true]
    rfl
  · rw [if_neg h1] at hA
    have hd : decide ((l.length : Int) > 65536) = false := by rw [decide_eq_false_iff_not]; omega
    have h24 := s24 (mx := mx) l (by omega)
    unfold refAV at h24
    by_cases h2 : 0 ≤ (wordsW l).2
    · rw [if_pos h2] at hA
      have hg : decide (0 ≤ (wordsW l).2) = true := by rw [decide_eq_true_eq]; exact h2
      simp only [X3, s22 (mx := mx), Option.bind_some, unop_not, Bool.not_true, selW_and, Bool.false_and, condM_b, Bool.false_eq_true, if_false, hA, t30, t31, t32, hd, h24, tup2_0, tup2_1, int_geq, hg, if_true, int_eql, beq_self_eq_true]
      rfl
    · rw [if_neg h2] at hA
      have hg : decide (0 ≤ (wordsW l).2) = false := by rw [decide_eq_false_iff_not]; exact h2
      have hcov := wordsW_cov l (by omega)
      have hlen := Cov.len _ _ _ hcov
      have h25 := s25 (mx := mx) (wordsW l).1 (by omega) (wordsF_nm _ _ _ _ (fun w hw => by cases hw))
      simp only [X3, s22 (mx := mx), Option.bind_some, unop_not, Bool.not_true, selW_and, Bool.false_and, condM_b, Bool.false_eq_true, if_false, hA, t30, t31, t32, hd, h24, tup2_0, tup2_1, int_geq, hg, if_true, int_eql, beq_self_eq_true, h25]
      rfl
end R3

namespace R3
open Go Go.Proofs Go.RowKit Go.Shelf Sx
variable {mx : Int}
/-- A call of which is told what it comes to. -/
theorem calls_sem {C : Cfg} {P : Program} (hfit : Fit C P) {g : Nat} {fn : Func} {c : Code} (hfn : P.funcs[g]? = some fn) (hb : fn.body = some c) {args : List AV} {r : AV} (h : semCall C P g args = some r) (hs : C.sig g = none)
    (w : World) (F : Nat → Prop) (vs : Array Value) (hG : GlobOk C w F) (hl : vs.size = args.length) (hv : ∀ (j : Nat) (a : AV) (v : Value), args[j]? = some a → vs[j]? = some v → Rel w F a v) :
    Calls P g vs w (PostOk C g w F r) := by
  have hname := hfit.name g fn c hfn hb
  rcases (semCall_ok hfit).1 g args _ h hs w F vs hG hl hv with ⟨fn', c', _, _, _, hc⟩ | ⟨v, hv', _⟩
  · exact hc
  · exfalso
    have hname' : ¬ fn.name = "runtime.NumGoroutine" := by simpa using hname
    simp [callFunc, hfn, hb, hname'] at hv'
/-- The package's variable is read. -/
theorem globOk1 {W : World} {m : Int} (h : W.cell? ⟨1, 0, none⟩ = some (.int .i64 m)) : GlobOk (C m) W (fun b => b = 1) := by
  intro g k e hg
  have hg : (bif Nat.beq g 1 then some (1, AV.int m) else none) = some (k, e) := hg
  cases h1 : Nat.beq g 1 with
  | false => rw [h1] at hg; cases hg
  | true =>
    rw [h1] at hg; cases hg
    obtain rfl := Nat.eq_of_beq_eq_true h1
    refine ⟨1, 0, rfl, rfl, cell_lt h, fun j hj => ?_⟩
    obtain rfl : j = 0 := by omega
    exact ⟨.int .i64 m, h, rfl, Rel.int m⟩
theorem arg1 {w : World} {F : Nat → Prop} {a : AV} {v : Value} (h : Rel w F a v) : ∀ (j : Nat) (a' : AV) (v' : Value), ([a] : List AV)[j]? = some a' → (#[v] : Array Value)[j]? = some v' → Rel w F a' v' := by
  intro j a' v' h1 h2
  match j, h1, h2 with
  | 0, h1, h2 => cases h1; cases h2; exact h
  | j + 1, h1, h2 => simp at h1
/-- A word as a value. -/
theorem rel_word {w : World} {F : Nat → Prop} {k : UInt8} {a : Int} {t : List UInt8} {r : Bool} {nm : AV} {v : Value} (h : Rel w F (.ag [.u8 k, .int a, .s t, .b r, nm]) v) :
    ∃ (q : ByteArray) (nv : Value), v = .agg #[.int .u8 (k.toNat : Int), .int .i64 a, .string q, .bool r, nv] ∧ q.data.toList = t ∧ nv.oneCell' = true ∧ Rel w F nm nv := by
  cases h with
  | ag _ vs hl h1 hr =>
    match vs, hl, h1, hr with
    | [v0, v1, v2, v3, v4], _, h1, hr =>
      have r0 := hr 0 v0 rfl
      have r1 := hr 1 v1 rfl
      have r2 := hr 2 v2 rfl
      have r3 := hr 3 v3 rfl
      have r4 := hr 4 v4 rfl
      simp only [List.getD_cons_zero, List.getD_cons_succ] at r0 r1 r2 r3 r4
      cases r0; cases r1; cases r3
      cases r2 with
      | s q => exact ⟨q, v4, rfl, rfl, h1 v4 (by simp), r4⟩
theorem word_rel {w : World} {F : Nat → Prop} {k : UInt8} {a : Int} {q : ByteArray} {r : Bool} {nm : AV} {nv : Value} (h1 : nv.oneCell' = true) (h : Rel w F nm nv) :
    Rel w F (.ag [.u8 k, .int a, .s q.data.toList, .b r, nm]) (.agg #[.int .u8 (k.toNat : Int), .int .i64 a, .string q, .bool r, nv]) := by
  refine .ag _ [.int .u8 (k.toNat : Int), .int .i64 a, .string q, .bool r, nv] rfl (fun v hv => ?_) (fun j v hv => ?_)
  · simp only [List.mem_cons, List.not_mem_nil, or_false] at hv
    rcases hv with rfl | rfl | rfl | rfl | rfl
    · rfl
    · rfl
    · rfl
    · rfl
    · exact h1
  · match j, hv with
    | 0, hv => cases hv; exact .u8 k
    | 1, hv => cases hv; exact .int a
    | 2, hv => cases hv; exact .s q
    | 3, hv => cases hv; exact .b r
    | 4, hv => cases hv; exact h
    | j + 5, hv => simp at hv
theorem rel_act {w : World} {F : Nat → Prop} {A : Act3} {v : Value} (h : Rel w F A.av v) :
    ∃ nv : Value, v = .tuple #[.agg #[.int .u8 (A.kind.toNat : Int), .int .i64 0, .string ByteArray.empty, .bool A.root, nv], .bool A.ok] ∧ nv.oneCell' = true ∧ Rel w F A.names nv := by
  cases h with
  | tu _ vs hl hr =>
    match vs, hl, hr with
    | [v0, v1], _, hr =>
      have r0 := hr 0 v0 rfl
      have r1 := hr 1 v1 rfl
      simp only [List.getD_cons_zero, List.getD_cons_succ] at r0 r1
      cases r1
      obtain ⟨q, nv, rfl, hq, h1, h2⟩ := rel_word r0
      have : q = ByteArray.empty := ByteArray.ext (by apply Array.toList_inj.1; rw [hq]; rfl)
      subst this
      exact ⟨nv, rfl, h1, h2⟩
theorem rel_names {w : World} {F : Nat → Prop} {nm : AV} {v : Value} (hn : NmOk nm) (h : Rel w F nm v) : ∃ (ad : Option Addr) (ln c : Nat), v = .slice ad ln c := by
  rcases hn with rfl | ⟨l, rfl, _⟩
  · cases h; exact ⟨_, _, _, rfl⟩
  · generalize hx : AV.ro 1 (l.map .s) = x at h
    cases h with
    | ro0 => exact ⟨_, _, _, rfl⟩
    | ro => cases hx; exact ⟨_, _, _, rfl⟩
    | _ => cases hx
theorem act_calls (q : ByteArray) (hq : q.size ≤ 1000000000) (W : World) (hm : W.cell? ⟨1, 0, none⟩ = some (.int .i64 mx)) :
    Calls Tryd.prog 80 #[.string q] W fun e W' => ∃ (ad : Option Addr) (ln c : Nat), e = .returned (.tuple #[.agg #[.int .u8 ((actW q.data.toList).kind.toNat : Int), .int .i64 0, .string ByteArray.empty, .bool (actW q.data.toList).root, .slice ad ln c], .bool (actW q.data.toList).ok]) ∧
      Ext W W' ∧ Rel W' (fun b => b < W.heap.size → b = 1) (actW q.data.toList).names (.slice ad ln c) := by
  refine Calls.mono (calls_sem (fit mx) (c := Tryd.f80.body.getD .skip) Tryd.func80 (by kernel_rfl) (s80 q.data.toList hq) (by kernel_rfl) W (fun b => b = 1) #[.string q] (globOk1 hm) rfl (arg1 (.s q))) fun e w' he => ?_
  obtain ⟨v, rfl, hx, hr⟩ := he
  unfold ResOk at hr
  rw [if_pos (by kernel_rfl)] at hr
  obtain ⟨nv, rfl, h1, h2⟩ := rel_act hr
  obtain ⟨ad, ln, c, rfl⟩ := rel_names (actW_nm _) h2
  exact ⟨ad, ln, c, rfl, hx, h2⟩
theorem wordsF_acc : ∀ (n : Nat) (r : List UInt8) (a : Nat) (acc : List Wd), acc <+: (wordsF n r a acc).1
  | 0, r, a, acc => List.prefix_refl _
  | n + 1, r, a, acc => by
    unfold wordsF
    split
    · exact List.prefix_refl _
    · split
      · exact (List.prefix_append _ _).trans (wordsF_acc n _ _ _)
      · split
        · exact List.prefix_refl _
        · split
          · exact (List.prefix_append _ _).trans (wordsF_acc n _ _ _)
          · exact List.prefix_refl _
end R3

namespace R3
open Go Go.Proofs Go.RowKit Go.Shelf Sx
variable {mx : Int}
theorem idx_calls (p q : ByteArray) (hp : p.size ≤ 1000000000) (W : World) (hm : W.cell? ⟨1, 0, none⟩ = some (.int .i64 mx)) :
    Calls Tryd.prog 79 #[.string p, .string q] W fun e W' => e = .returned (.int .i64 (Lib.index p.data.toList q.data.toList)) ∧ W' = W :=
  Any.strings_Index lay143 p q mx W (by omega) hm
theorem toL_from (s : ByteArray) (a : Nat) : (s.extract a s.size).data.toList = s.data.toList.drop a := by
  rw [toL_extract, List.take_of_length_le]
  rw [List.length_drop]; exact Nat.le_refl _
theorem slice_ij (s : ByteArray) (i j : Int) (a b : Nat) (hi : i = a) (hj : j = b) (h1 : a ≤ b) (h2 : b ≤ s.size) (W : World) : Sem.run Tryd.prog (Instr.slice 9 (.string s) (some (.int .i64 i)) (some (.int .i64 j)) none) W = .ok (.string (s.extract a b)) W := by
  subst hi hj
  have hj' : 0 ≤ (b : Int) ∧ (b : Int) ≤ (s.size : Int) := by omega
  have hi' : 0 ≤ (a : Int) ∧ (a : Int) ≤ (b : Int) := by omega
  simp [Instr.slice, Instr.sliceBounds, Instr.sliceBound, asIntOf, run_underlying Tryd.underlying9, go_sem, hj', hi', h1, h2]
theorem lit_rel (w : World) (F : Nat → Prop) (s : ByteArray) (a i b : Nat) (hb : b = a + i) : Rel w F (litW a ((s.data.toList.drop a).take i)).av (.agg #[.int .u8 0, .int .i64 (a : Int), .string (s.extract a b), .bool false, .slice none 0 0]) := by
  have h := word_rel (w := w) (F := F) (k := 0) (a := (a : Int)) (q := s.extract a b) (r := false) (nm := .nils) (nv := .slice none 0 0) rfl .nils
  rw [toL_extract, show b - a = i by omega] at h
  exact h
set_option maxRecDepth 100000 in
set_option maxHeartbeats 4000000 in
/-- **lex.words, told to a loop's rounds.** -/
theorem words_in (n : Nat) (hn : 2 ≤ n) (l : Nat) (J Jx : List Wd → World → Prop) (s : ByteArray) (hs : s.size ≤ 1000000000)
    (hm : ∀ pre W, J pre W → W.cell? ⟨1, 0, none⟩ = some (.int .i64 mx)) (hE : ∀ pre W W', J pre W → Ext W W' → J pre W')
    (hY : ∀ pre x W W' v, J pre W → pre ++ [x] <+: (wordsW s.data.toList).1 → Ext W W' → Rel W' (fun b => W.heap.size ≤ b ∨ b = 1) x.av v →
      YieldAt Fence.wide (n - 1) Tryd.prog l #[v] W' fun e W'' => (e = .returned (.bool true) ∧ J (pre ++ [x]) W'') ∨ (e = .returned (.bool false) ∧ Jx (pre ++ [x]) W''))
    (W : World) (h0 : J [] W) :
    CallsIn Fence.wide n Tryd.prog 53 #[.string s, .func (.yield l) #[] #[]] W fun e W' => (∃ v, e = .returned v) ∧ (J (wordsW s.data.toList).1 W' ∨ ∃ pre, pre <+: (wordsW s.data.toList).1 ∧ Jx pre W') := by
  have h00 : 1 ≤ n := by omega
  have h1 : 1 ≤ n - 1 := by omega
  refine callsIn_of_wp Tryd.func53 rfl trivial ?_ rfl
  simp only [Tryd.ntmps53, List.size_toArray, List.length_cons, List.length_nil, Nat.reduceAdd, Nat.reduceSub, Array.replicate_succ, Array.replicate_zero, List.push_toArray, List.append_toArray, List.nil_append, List.cons_append]
  gi_wp2
  gi_loopw [5] (fun va wr => ∃ (a k : Nat) (acc : List Wd), va = .int .i64 (a : Int) ∧ a ≤ s.size ∧ wordsF k (s.data.toList.drop a) a acc = wordsW s.data.toList ∧ s.size - a < k ∧ J acc wr) (fun va wr => s.size - (match va with | .int _ a => a.toNat | _ => 0))
  case atStart => exact ⟨0, s.data.toList.length + 1, [], rfl, Nat.zero_le _, rfl, by show s.size - 0 < s.size + 1; omega, h0⟩
  case round =>
    obtain ⟨a, k, acc, rfl, ha, hw, hk, hJ⟩ := hrel
    have hmr := hm _ _ hJ
    obtain ⟨k, rfl⟩ : ∃ k', k = k' + 1 := ⟨k - 1, by omega⟩
    have hlen : (s.data.toList.drop a).length = s.size - a := by rw [List.length_drop]; rfl
    by_cases hlt : a < s.size
    · have hrl : (s.data.toList.drop a).length ≤ 1000000000 := by omega
      have hne : (s.data.toList.drop a).isEmpty = false := by
        cases hd : s.data.toList.drop a with
        | nil => rw [hd] at hlen; simp at hlen; omega
        | cons x t => rfl
      have lit : ∀ i : Nat, 0 < i → idxO (s.data.toList.drop a) = i → wordsF k (s.data.toList.drop (a + i)) (a + i) (acc ++ [litW a ((s.data.toList.drop a).take i)]) = wordsW s.data.toList := fun i hi he => by
        rw [← hw, ← List.drop_drop]
        conv => rhs; unfold wordsF
        rw [if_neg (by rw [hne]; decide), if_pos (by omega), he]
      rcases Lib.index_spec (s.data.toList.drop a) brO with ⟨hi, _⟩ | ⟨i, hi, hi2, _, _⟩
      · have hiO : Lib.index (s.extract a s.size).data.toList (⟨#[123, 123]⟩ : ByteArray).data.toList = -1 := by rw [toL_from]; exact hi
        have hid : idxO (s.data.toList.drop a) = s.size - a := by unfold idxO; rw [if_pos (by omega), hlen]
        have hwl := lit _ (by omega) hid
        have hsl : ∀ W, Sem.run Tryd.prog (Instr.slice 9 (.string s) (some (.int .i64 (a : Int))) (some (.int .i64 ((a : Int) + ((s.size : Int) - (a : Int))))) none) W = .ok (.string (s.extract a s.size)) W := slice_ij s _ _ a s.size rfl (by omega) (by omega) (by omega)
        have hpre : acc ++ [litW a ((s.data.toList.drop a).take (s.size - a))] <+: (wordsW s.data.toList).1 := by rw [← hwl]; exact wordsF_acc _ _ _ _
        obtain ⟨fn, tmps, assign, body, hy, hR⟩ := hY acc _ wr wr _ hJ hpre (Ext.refl _) (lit_rel wr _ s a (s.size - a) s.size (by omega))
        gi_wp2_with (refine ⟨trivial, ?_⟩; gi_at_call 79; refine (callsIn_wide.2 (idx_calls _ _ (by simp only [ByteArray.size_extract]; omega) _ hmr)).mono ?_; rintro e w' ⟨rfl, hw⟩; rw [hw]; rw [hiO])
        refine hR.mono ?_
        rintro e W3 (⟨rfl, hk3⟩ | ⟨rfl, hk3⟩)
        · gi_wp2
          exact ⟨⟨a + (s.size - a), k, _, congrArg (Value.int .i64) (by omega), by omega, hwl, by omega, hk3⟩, by show _ - Int.toNat _ < _ - Int.toNat _; omega⟩
        · gi_wp2
          refine bodyPost_ret (results_tmp rfl _ _ _) rfl ?_
          exact ⟨⟨_, rfl⟩, .inr ⟨_, hpre, hk3⟩⟩
      · have hiO : Lib.index (s.extract a s.size).data.toList (⟨#[123, 123]⟩ : ByteArray).data.toList = (i : Int) := by rw [toL_from]; exact hi
        have hid : idxO (s.data.toList.drop a) = i := by unfold idxO; rw [if_neg (by omega), hi]; rfl
        have hi3 := idxO_le (s.data.toList.drop a)
        rw [hid, hlen] at hi3
        cases Nat.eq_zero_or_pos i with
        | inr hi0 =>
          have hwl := lit _ hi0 hid
          have hsl : ∀ W, Sem.run Tryd.prog (Instr.slice 9 (.string s) (some (.int .i64 (a : Int))) (some (.int .i64 ((a : Int) + (i : Int)))) none) W = .ok (.string (s.extract a (a + i))) W := slice_ij s _ _ a (a + i) rfl (by omega) (by omega) (by omega)
          have hpre : acc ++ [litW a ((s.data.toList.drop a).take i)] <+: (wordsW s.data.toList).1 := by rw [← hwl]; exact wordsF_acc _ _ _ _
          obtain ⟨fn, tmps, assign, body, hy, hR⟩ := hY acc _ wr wr _ hJ hpre (Ext.refl _) (lit_rel wr _ s a i (a + i) rfl)
          gi_wp2_with (refine ⟨trivial, ?_⟩; gi_at_call 79; refine (callsIn_wide.2 (idx_calls _ _ (by simp only [ByteArray.size_extract]; omega) _ hmr)).mono ?_; rintro e w' ⟨rfl, hw⟩; rw [hw]; rw [hiO])
          refine hR.mono ?_
          rintro e W3 (⟨rfl, hk3⟩ | ⟨rfl, hk3⟩)
          · gi_wp2
            exact ⟨⟨a + i, k, _, congrArg (Value.int .i64) (by omega), by omega, hwl, by omega, hk3⟩, by show _ - Int.toNat _ < _ - Int.toNat _; omega⟩
          · gi_wp2
            refine bodyPost_ret (results_tmp rfl _ _ _) rfl ?_
            exact ⟨⟨_, rfl⟩, .inr ⟨_, hpre, hk3⟩⟩
        | inl hi0 =>
          subst hi0
          have hw1 := hw
          unfold wordsF at hw1
          rw [if_neg (by rw [hne]; decide), if_neg (by omega)] at hw1
          rcases Lib.index_spec (s.data.toList.drop a) brC with ⟨hj, _⟩ | ⟨j, hj, hj2, _, _⟩
          · have hiC : Lib.index (s.extract a s.size).data.toList (⟨#[125, 125]⟩ : ByteArray).data.toList = -1 := by rw [toL_from]; exact hj
            rw [if_pos (by omega)] at hw1
            gi_wp2_with (refine ⟨trivial, ?_⟩; gi_at_call 79; refine (callsIn_wide.2 (idx_calls _ _ (by simp only [ByteArray.size_extract]; omega) _ hmr)).mono ?_; rintro e w' ⟨rfl, hw⟩; rw [hw]; first | rw [hiO] | rw [hiC])
            refine bodyPost_ret (results_tmp rfl _ _ _) rfl ?_
            exact ⟨⟨_, rfl⟩, .inl (by rw [← hw1]; exact hJ)⟩
          · have hiC : Lib.index (s.extract a s.size).data.toList (⟨#[125, 125]⟩ : ByteArray).data.toList = (j : Int) := by rw [toL_from]; exact hj
            have hj3 := idxC_ge _ hid (by omega) j hj
            have hj4 : j + 2 ≤ s.size - a := by
              have := Lib.index_room (s.data.toList.drop a) brC (by omega)
              have e : (brC.length : Int) = 2 := rfl
              omega
            rw [if_neg (by omega), hj, Int.toNat_natCast] at hw1
            have hsl : ∀ W, Sem.run Tryd.prog (Instr.slice 9 (.string s) (some (.int .i64 ((a : Int) + 2))) (some (.int .i64 ((a : Int) + (j : Int)))) none) W = .ok (.string (s.extract (a + 2) (a + j))) W := slice_ij s _ _ (a + 2) (a + j) (by omega) (by omega) (by omega) (by omega)
            have hq : (s.extract (a + 2) (a + j)).data.toList = ((s.data.toList.drop a).take j).drop 2 := by
              rw [toL_extract, List.drop_take, List.drop_drop, show a + j - (a + 2) = j - 2 by omega]
            have hact := act_calls (mx := mx) (s.extract (a + 2) (a + j)) (by simp only [ByteArray.size_extract]; omega) wr hmr
            rw [hq] at hact
            generalize hA : actW (((s.data.toList.drop a).take j).drop 2) = A at hact hw1
            cases hok : A.ok with
            | false =>
              rw [hok] at hact hw1
              rw [if_neg (by decide)] at hw1
              gi_wp2_with (first | (refine ⟨trivial, ?_⟩; gi_at_call 79; refine (callsIn_wide.2 (idx_calls _ _ (by simp only [ByteArray.size_extract]; omega) _ hmr)).mono ?_; rintro e w' ⟨rfl, hw⟩; rw [hw]; first | rw [hiO] | rw [hiC]) | (refine ⟨trivial, ?_⟩; gi_at_call 80; refine (callsIn_wide.2 hact).mono ?_; rintro e w4 ⟨ad, ln, cc, rfl, hx4, hr4⟩))
              refine bodyPost_ret (results_tmp rfl _ _ _) rfl ?_
              exact ⟨⟨_, rfl⟩, .inl (by rw [← hw1]; exact hE _ _ _ hJ (hx4.trans (Ext.push w4 _)))⟩
            | true =>
              rw [hok] at hact hw1
              rw [if_pos rfl] at hw1
              gi_wp2_with (first | (refine ⟨trivial, ?_⟩; gi_at_call 79; refine (callsIn_wide.2 (idx_calls _ _ (by simp only [ByteArray.size_extract]; omega) _ hmr)).mono ?_; rintro e w' ⟨rfl, hw⟩; rw [hw]; first | rw [hiO] | rw [hiC]) | (refine ⟨trivial, ?_⟩; gi_at_call 80; refine (callsIn_wide.2 hact).mono ?_; rintro e w4 ⟨ad, ln, cc, rfl, hx4, hr4⟩))
              have hpre : acc ++ [actWd a A] <+: (wordsW s.data.toList).1 := by rw [← hw1]; exact wordsF_acc _ _ _ _
              have hwl : wordsF k (s.data.toList.drop (a + (j + 2))) (a + (j + 2)) (acc ++ [actWd a A]) = wordsW s.data.toList := by rw [← List.drop_drop]; exact hw1
              obtain ⟨fn, tmps, assign, body, hy, hR⟩ := hY acc (actWd a A) wr (w4.alloc (.cells #[.int .u8 (A.kind.toNat : Int), .int .i64 (a : Int), .string ByteArray.empty, .bool A.root, .slice ad ln cc] 36)) _ hJ hpre (hx4.trans (Ext.push w4 _))
                (word_rel (k := A.kind) (a := (a : Int)) (q := ByteArray.empty) (r := A.root) (nm := A.names) (nv := .slice ad ln cc) rfl (hr4.mono fun b hb hF => ⟨(Nat.lt_or_ge b wr.heap.size).elim (fun h => .inr (hF h)) .inl, (Ext.push w4 _).block b hb⟩))
              rw [hy, Oper.uponIn_round]
              refine ⟨fun _ => h00, ?_⟩
              refine hR.mono ?_
              rintro e W3 (⟨rfl, hk3⟩ | ⟨rfl, hk3⟩)
              · gi_wp2
                exact ⟨⟨a + (j + 2), k, _, congrArg (Value.int .i64) (by omega), by omega, hwl, by omega, hk3⟩, by show _ - Int.toNat _ < _ - Int.toNat _; omega⟩
              · gi_wp2
                refine bodyPost_ret (results_tmp rfl _ _ _) rfl ?_
                exact ⟨⟨_, rfl⟩, .inr ⟨_, hpre, hk3⟩⟩
    · have ea : a = s.size := by omega
      have hw' : (wordsW s.data.toList).1 = acc := by
        rw [← hw]
        unfold wordsF
        rw [if_pos (by rw [List.isEmpty_iff]; apply List.eq_nil_of_length_eq_zero; omega)]
      gi_wp2
      refine bodyPost_ret (results_tmp rfl _ _ _) rfl ?_
      exact ⟨⟨_, rfl⟩, .inl (by rw [hw']; exact hJ)⟩
end R3

namespace R3
open Go Go.Proofs Go.RowKit Go.Shelf Sx
variable {mx : Int}
/-- The words that lex.Each tells. -/
def eachW (s : ByteArray) : List Wd := if s.size ≤ 65536 then (wordsW s.data.toList).1 else []
set_option maxRecDepth 100000 in
set_option maxHeartbeats 4000000 in
theorem each_in (n : Nat) (s : ByteArray) (w : World) :
    CallsIn Fence.wide n Tryd.prog 26 #[.string s] w fun e w' => e = .returned (.func (.func 58) #[] #[.pointer (some ⟨w.heap.size, 0, none⟩)]) ∧ w' = w.alloc (.cells #[.string s] 9) := by
  refine callsIn_of_wp Tryd.func26 rfl trivial ?_ rfl
  simp only [Tryd.ntmps26, List.size_toArray, List.length_cons, List.length_nil, Nat.reduceAdd, Nat.reduceSub, Array.replicate_succ, Array.replicate_zero, List.push_toArray, List.append_toArray, List.nil_append, List.cons_append]
  gi_wp2
  go_ret
  exact ⟨rfl, rfl⟩
set_option maxRecDepth 100000 in
set_option maxHeartbeats 4000000 in
theorem each1_in (n : Nat) (hn : 3 ≤ n) (l B : Nat) (J Jx : List Wd → World → Prop) (s : ByteArray) (hs : s.size ≤ 1000000000)
    (hB : ∀ pre W, J pre W → W.cell? ⟨B, 0, none⟩ = some (.string s))
    (hm : ∀ pre W, J pre W → W.cell? ⟨1, 0, none⟩ = some (.int .i64 mx)) (hE : ∀ pre W W', J pre W → Ext W W' → J pre W')
    (hY : ∀ pre x W W' v, J pre W → pre ++ [x] <+: eachW s → Ext W W' → Rel W' (fun b => W.heap.size ≤ b ∨ b = 1) x.av v →
      YieldAt Fence.wide (n - 1 - 1) Tryd.prog l #[v] W' fun e W'' => (e = .returned (.bool true) ∧ J (pre ++ [x]) W'') ∨ (e = .returned (.bool false) ∧ Jx (pre ++ [x]) W''))
    (W : World) (h0 : J [] W) :
    CallsIn Fence.wide n Tryd.prog 58 #[.func (.yield l) #[] #[], .pointer (some ⟨B, 0, none⟩)] W fun e W' => (∃ v, e = .returned v) ∧ (J (eachW s) W' ∨ ∃ pre, pre <+: eachW s ∧ Jx pre W') := by
  have h1 : 1 ≤ n := by omega
  have hb := hB _ _ h0
  refine callsIn_of_wp Tryd.func58 rfl trivial ?_ rfl
  simp only [Tryd.ntmps58, List.size_toArray, List.length_cons, List.length_nil, Nat.reduceAdd, Nat.reduceSub, Array.replicate_succ, Array.replicate_zero, List.push_toArray, List.append_toArray, List.nil_append, List.cons_append]
  by_cases hle : s.size ≤ 65536
  · have he : eachW s = (wordsW s.data.toList).1 := if_pos hle
    rw [he] at hY ⊢
    gi_wp2_with (refine ⟨trivial, ?_⟩; gi_at_call 53; refine (words_in (mx := mx) (n - 1) (by omega) l J Jx s hs hm hE hY W h0).mono ?_; rintro e w' ⟨⟨v, rfl⟩, hw⟩)
    go_end0
    exact ⟨⟨_, rfl⟩, hw⟩
  · have he : eachW s = [] := if_neg hle
    rw [he]
    gi_wp2
    go_end0
    exact ⟨⟨_, rfl⟩, .inl h0⟩
end R3

namespace R3
open Go Go.Proofs Go.RowKit Go.Shelf Sx
variable {mx : Int}
/-- What a round owes, by the way in which its body is left: it goes on, or it leaves by the exit id. -/
def ownPostX (id : Nat) (I' Ix : World → Prop) (W : World) : Exit → Act → World → Prop
  | .normal, _, W' => KeepsOthers W W' ∧ I' W'
  | .exit k, _, W' => k = id ∧ KeepsOthers W W' ∧ Ix W'
  | _, _, _ => False
/-- **A range over lex.Each.** -/
theorem range_each {g : Operand} {p : Tmp} {assign body : Code} {Q : Exit → Act → World → Prop} {a : Act} {w : World} {n : Nat} (hn : 5 ≤ n) {B : Nat} {s : ByteArray} (hs : s.size ≤ 1000000000)
    (hg : a.eval g = .func (.func 58) #[] #[.pointer (some ⟨B, 0, none⟩)]) (id : Nat)
    (I Ix : List Wd → World → Prop)
    (hB : ∀ pre W, I pre W → W.cell? ⟨B, 0, none⟩ = some (.string s))
    (hm : ∀ pre W, I pre W → W.cell? ⟨1, 0, none⟩ = some (.int .i64 mx)) (hE : ∀ pre W W', I pre W → Ext W W' → I pre W')
    (hput : ∀ (pre : List Wd) (W : World) (l : Nat) (o o' : Obj), w.heap.size ≤ l → W.heap[l]? = some o → o.isCells = false → I pre W → I pre (W.putObj l o'))
    (hputx : ∀ (pre : List Wd) (W : World) (l : Nat) (o o' : Obj), w.heap.size ≤ l → W.heap[l]? = some o → o.isCells = false → Ix pre W → Ix pre (W.putObj l o'))
    (AX : Value → World → Act → World → Prop) (hAX : ∀ v W a' W', AX v W a' W' → Ext W W')
    (hassign : ∀ (l : Nat) (pre : List Wd) (x : Wd) (F : Nat → Prop) (v : Value) (W : World) (K : Act → World → Prop), pre ++ [x] <+: eachW s → Rel W F x.av v → (∀ a' W', AX v W a' W' → K a' W') →
      assign.wpIn (Fence.wide.inRound l) (n - 1 - 1 - 1) Tryd.prog (Exit.then K (fun _ _ _ => False)) { tmps := ((#[p] : Array Tmp).zip #[v]).foldl (fun t (p, v) => t.setIfInBounds p v) a.tmps, defers := [] } W)
    (hbody : ∀ (l : Nat) (pre : List Wd) (x : Wd) (W W1 W2 : World) (v : Value) (a' : Act) (o o' : Obj), w.heap.size ≤ l → l < W.heap.size → I pre W → pre ++ [x] <+: eachW s → Ext W W1 → Rel W1 (fun b => W.heap.size ≤ b ∨ b = 1) x.av v →
      AX v W1 a' W2 → W2.heap[l]? = some o → o.isCells = false →
      body.wpIn (Fence.wide.inRound l) (n - 1 - 1 - 1) Tryd.prog (ownPostX id (I (pre ++ [x])) (Ix (pre ++ [x])) (W2.putObj l o')) a' (W2.putObj l o'))
    (h0 : I [] w)
    (hdone : ∀ (D : Nat) (W : World), w.heap.size ≤ D → I (eachW s) W → W.heap[D]? = some (.deferred (some [])) → Q .normal { a with defers := { target := .collected D, args := #[] } :: a.defers } W)
    (hstop : ∀ (D : Nat) (pre : List Wd) (W : World), w.heap.size ≤ D → pre <+: eachW s → Ix pre W → W.heap[D]? = some (.deferred (some [])) → (Code.exit id).wpIn Fence.wide n Tryd.prog Q { a with defers := { target := .collected D, args := #[] } :: a.defers } W) :
    (Code.rangeFunc g #[p] assign body).wpIn Fence.wide n Tryd.prog Q a w := by
  have h1 : 1 ≤ n := by omega
  refine wpIn_rangeFunc ?_
  intro fn hfn
  obtain ⟨rec, hrec⟩ : ∃ rec : LoopState → Option Code → Loop, rec = fun st pe => { state := st, pending := pe, fn, tmps := a.tmps, params := #[p], assign, body, defers := w.heap.size } := ⟨_, rfl⟩
  obtain ⟨W1, hW1⟩ : ∃ W1, (w.alloc (.deferred (some []))).alloc (.loop (rec .ready none)) = W1 := ⟨_, rfl⟩
  have hL1 : W1.heap[w.heap.size + 1]? = some (.loop (rec .ready none)) := by
    rw [← hW1]; have := World.alloc_heap_new (w.alloc (.deferred (some []))) (.loop (rec .ready none)); rwa [World.size_alloc] at this
  have hK1 : W1.heap[w.heap.size]? = some (.deferred (some [])) := by
    rw [← hW1]; exact (Below.heap_alloc _ _ _ (by simp)).trans (World.alloc_heap_new w _)
  have hI1 : I [] W1 := by rw [← hW1]; exact hE _ _ _ (hE _ _ _ h0 (Ext.push w _)) (Ext.push _ _)
  refine ⟨w.heap.size + 1, [{ target := .collected w.heap.size, args := #[] }], W1, { target := .fn (.func 58) #[.pointer (some ⟨B, 0, none⟩)], args := #[.func (.yield (w.heap.size + 1)) #[] #[]] }, W1, 58,
    #[.func (.yield (w.heap.size + 1)) #[] #[]] ++ #[.pointer (some ⟨B, 0, none⟩)], W1, ?_, ?_, ?_, ?_, fun _ => h1, ?_⟩
  · rw [← hW1, hrec]; exact run_enterLoop_outer _ _ _ _ _
  · simp only [resolve, hg]
    simp [go_sem]
  · intro f' hf'; trivial
  · simp [invoke, go_sem, enters_of Tryd.func58 (by kernel_rfl) rfl]
  · refine (each1_in (mx := mx) (n - 1) (by omega) (w.heap.size + 1) B
      (fun pre W => I pre W ∧ W.heap[w.heap.size + 1]? = some (.loop (rec .ready none)) ∧ W.heap[w.heap.size]? = some (.deferred (some [])))
      (fun pre W => Ix pre W ∧ W.heap[w.heap.size + 1]? = some (.loop (rec .done (some (.exit id)))) ∧ W.heap[w.heap.size]? = some (.deferred (some [])))
      s hs (fun pre W h => hB pre W h.1) (fun pre W h => hm pre W h.1) (fun pre W W' h hx => ?_) ?_ W1 ⟨hI1, hL1, hK1⟩).mono ?_
    · have q1 := (Array.getElem?_eq_some_iff.1 h.2.1).1
      have q2 := (Array.getElem?_eq_some_iff.1 h.2.2).1
      exact ⟨hE _ _ _ h.1 hx, (hx.block _ q1).trans h.2.1, (hx.block _ q2).trans h.2.2⟩
    · rintro pre x W Wa v ⟨hi, hl, hk⟩ hpre hxa hrel
      have hlt : w.heap.size + 1 < W.heap.size := (Array.getElem?_eq_some_iff.1 hl).1
      have hla := (hxa.block _ hlt).trans hl
      have hka := (hxa.block _ (Nat.lt_of_succ_lt hlt)).trans hk
      have hlta : w.heap.size + 1 < Wa.heap.size := Nat.lt_of_lt_of_le hlt hxa.size
      have hy := run_yield (P := Tryd.prog) (args := #[v]) hla (by rw [hrec]; rfl)
      rw [hrec] at hy
      refine ⟨fn, _, assign, body, hy, roundIn_of_wpIn hfn (hassign _ pre x _ v Wa _ hpre hrel ?_)⟩
      intro a' Wb hax
      have hxb := hAX _ _ _ _ hax
      have hlb := (hxb.block _ hlta).trans hla
      have hkb := (hxb.block _ (Nat.lt_of_succ_lt hlta)).trans hka
      have hltb : w.heap.size + 1 < Wb.heap.size := Nat.lt_of_lt_of_le hlta hxb.size
      refine ⟨_, run_beginRound hlb (by rw [hrec]), ?_⟩
      have hl2 : (Wb.putObj (w.heap.size + 1) (.loop { rec .ready none with state := .busy })).heap[w.heap.size + 1]? = some (.loop { rec .ready none with state := .busy }) := World.putObj_heap_same hltb
      have hk2 : (Wb.putObj (w.heap.size + 1) (.loop { rec .ready none with state := .busy })).heap[w.heap.size]? = some (.deferred (some [])) := (World.putObj_heap_other (by omega)).trans hkb
      refine wpIn_mono (hbody _ pre x W Wa Wb v a' _ _ (by omega) hlt hi hpre hxa hrel hax hlb rfl) ?_
      have fin : ∀ (jump : Option Code) (W3 : World), KeepsOthers (Wb.putObj (w.heap.size + 1) (.loop { rec .ready none with state := .busy })) W3 →
          (Instr.endRound (w.heap.size + 1) jump).run Tryd.prog W3 = .ok (.bool jump.isNone) (W3.putObj (w.heap.size + 1) (.loop (rec (if jump.isNone then .ready else .done) jump))) ∧
          W3.heap[w.heap.size + 1]? = some (.loop { rec .ready none with state := .busy }) ∧
          (W3.putObj (w.heap.size + 1) (.loop (rec (if jump.isNone then .ready else .done) jump))).heap[w.heap.size + 1]? = some (.loop (rec (if jump.isNone then .ready else .done) jump)) ∧
          (W3.putObj (w.heap.size + 1) (.loop (rec (if jump.isNone then .ready else .done) jump))).heap[w.heap.size]? = some (.deferred (some [])) := fun jump W3 hk3 => by
        have hl3 := hk3.same _ _ hl2 rfl
        have := run_endRound (P := Tryd.prog) jump hl3
        rw [hrec] at this ⊢
        exact ⟨this, by rw [hrec] at hl3; exact hl3, World.putObj_heap_same (Array.getElem?_eq_some_iff.1 hl3).1, (World.putObj_heap_other (by omega)).trans (hk3.same _ _ hk2 rfl)⟩
      rintro e a3 W3 hp
      cases e with
      | normal =>
        obtain ⟨hk3, hi3⟩ := hp
        obtain ⟨hr, hl3, hl4, hk4⟩ := fin none W3 hk3
        exact ⟨_, _, hr, .inl ⟨rfl, hput _ _ _ _ _ (by omega) hl3 rfl hi3, hl4, hk4⟩⟩
      | exit k =>
        obtain ⟨rfl, hk3, hi3⟩ := hp
        obtain ⟨hr, hl3, hl4, hk4⟩ := fin (some (.exit k)) W3 hk3
        exact ⟨_, _, hr, .inr ⟨rfl, hputx _ _ _ _ _ (by omega) hl3 rfl hi3, hl4, hk4⟩⟩
      | ret => exact hp.elim
      | goto t => exact hp.elim
      | panic ch => exact hp.elim
      | outgrown => exact hp.elim
    · rintro e W2 ⟨⟨v, rfl⟩, (⟨hi, hl, hk⟩ | ⟨pre, hpre, hi, hl, hk⟩)⟩
      · exact ⟨none, _, by have := run_endLoop (P := Tryd.prog) hl (by rw [hrec]; simp); rw [hrec] at this; exact this, hdone _ _ (Nat.le_refl _) (hput _ _ _ _ _ (by omega) hl rfl hi) ((World.putObj_heap_other (by omega)).trans hk)⟩
      · exact ⟨some (.exit id), _, by have := run_endLoop (P := Tryd.prog) hl (by rw [hrec]; simp); rw [hrec] at this; exact this, hstop _ _ _ (Nat.le_refl _) hpre (hputx _ _ _ _ _ (by omega) hl rfl hi) ((World.putObj_heap_other (by omega)).trans hk)⟩
end R3

namespace R3
open Go Go.Proofs Go.RowKit Go.Shelf Sx
variable {mx : Int}
theorem ext_cell {w w' : World} {p : Addr} {v : Value} (hx : Ext w w') (h : w.cell? p = some v) : w'.cell? p = some v := by
  rw [← h]
  exact World.cell?_of_block (hx.block _ (cell_lt h))
theorem awake_calls (W : World) (hm : W.cell? ⟨1, 0, none⟩ = some (.int .i64 mx)) : Calls Tryd.prog 22 #[] W fun e W' => e = .returned (.bool true) ∧ Ext W W' := by
  refine Calls.mono (calls_sem (fit mx) (c := Tryd.f22.body.getD .skip) Tryd.func22 (by kernel_rfl) (s22 (mx := mx)) (by kernel_rfl) W (fun b => b = 1) #[] (globOk1 hm) rfl (fun j a v h => by simp at h)) fun e w' he => ?_
  obtain ⟨v, rfl, hx, hr⟩ := he
  unfold ResOk at hr
  rw [if_pos (by kernel_rfl)] at hr
  cases hr
  exact ⟨rfl, hx⟩
set_option maxRecDepth 100000 in
set_option maxHeartbeats 4000000 in
theorem f7_big (s : ByteArray) (u : UInt8) (w : World) (hm : w.cell? ⟨1, 0, none⟩ = some (.int .i64 mx)) (hs : 65536 < s.size) :
    CallsIn Fence.wide 8 Tryd.prog 7 #[.string s, .int .u8 (u.toNat : Int)] w fun e w' => e = .returned (.bool true) ∧ Ext w w' := by
  have hx0 : Ext w (w.alloc (.cells #[.int .u8 (u.toNat : Int)] 5)) := Ext.push w _
  replace hm := ext_cell hx0 hm
  have hm0 := hm
  refine callsIn_of_wp_marks Tryd.func7 rfl trivial ?_ rfl
  simp only [Tryd.ntmps7, List.size_toArray, List.length_cons, List.length_nil, Nat.reduceAdd, Nat.reduceSub, Array.replicate_succ, Array.replicate_zero, List.push_toArray, List.append_toArray, List.nil_append, List.cons_append]
  gi_wp2_with (refine ⟨trivial, ?_⟩; gi_at_call 22; first | (refine (callsIn_wide.2 (awake_calls (mx := mx) _ hm0)).mono ?_; clear hm0; rintro e w1 ⟨rfl, hx1⟩; have hm1 := ext_cell hx1 hm) | (refine (callsIn_wide.2 (awake_calls (mx := mx) _ hm1)).mono ?_; rintro e w2 ⟨rfl, hx2⟩))
  exact ⟨_, results_tmp rfl _ _ _, rfl, hx0.trans (hx1.trans hx2)⟩
theorem rel_ro_shape {w : World} {F : Nat → Prop} {k : Nat} {l : List AV} {v : Value} (h : Rel w F (.ro k l) v) : ∃ (ad : Option Addr) (c : Nat), v = .slice ad l.length c ∧ l.length ≤ c := by
  cases h with
  | ro0 => exact ⟨_, _, rfl, Nat.zero_le _⟩
  | ro _ _ r off c xs hk hc => exact ⟨_, _, rfl, hc⟩
theorem all_calls (s : ByteArray) (hs : s.size ≤ 1000000000) (W : World) (hm : W.cell? ⟨1, 0, none⟩ = some (.int .i64 mx)) : Calls Tryd.prog 24 #[.string s] W fun e W' =>
    ∃ (ad : Option Addr) (c : Nat), e = .returned (.tuple #[.slice ad (wordsW s.data.toList).1.length c, .int .i64 (wordsW s.data.toList).2]) ∧ Ext W W' ∧ (wordsW s.data.toList).1.length ≤ c ∧
      Rel W' (fun _ => True) (.ro 5 ((wordsW s.data.toList).1.map Wd.av)) (.slice ad (wordsW s.data.toList).1.length c) := by
  refine Calls.mono (calls_sem (fit mx) (c := Tryd.f24.body.getD .skip) Tryd.func24 (by kernel_rfl) (s24 (mx := mx) s.data.toList hs) (by kernel_rfl) W (fun b => b = 1) #[.string s] (globOk1 hm) rfl (arg1 (.s s))) fun e w' he => ?_
  obtain ⟨v, rfl, hx, hr⟩ := he
  generalize wordsW s.data.toList = ww at hr ⊢
  unfold ResOk at hr
  rw [if_pos (by kernel_rfl)] at hr
  replace hr : Rel w' (fun _ => True) (refAV ww) v := hr.mono fun _ _ _ => ⟨trivial, rfl⟩
  unfold refAV at hr
  cases hr with
  | tu _ vs hl hj =>
    match vs, hl, hj with
    | [v0, v1], _, hj =>
      have h0 := hj 0 v0 rfl
      have h1 := hj 1 v1 rfl
      simp only [List.getD_cons_zero, List.getD_cons_succ] at h0 h1
      cases h1
      obtain ⟨ad, c, rfl, hc⟩ := rel_ro_shape h0
      rw [List.length_map] at hc h0 ⊢
      exact ⟨ad, c, rfl, hx, hc, h0⟩
end R3

namespace R3
open Go Go.Proofs Go.RowKit Go.Shelf Sx
/-- All of before but one block is as it was. -/
structure But (wB : World) (G : Nat) (W : World) : Prop where
  os : W.os = wB.os
  tape : W.tape = wB.tape
  output : W.output = wB.output
  size : wB.heap.size ≤ W.heap.size
  block : ∀ b, b < wB.heap.size → b ≠ G → W.heap[b]? = wB.heap[b]?
theorem But.refl (wB : World) (G : Nat) : But wB G wB := ⟨rfl, rfl, rfl, Nat.le_refl _, fun _ _ _ => rfl⟩
theorem But.grown {wB : World} {G : Nat} {W W' : World} {row : Option Nat} (h : But wB G W) (hg : W.grownBy W' row) (hr : ∀ k, row = some k → wB.heap.size ≤ k ∨ k = G) : But wB G W' :=
  ⟨hg.os.trans h.os, hg.tape.trans h.tape, hg.output.trans h.output, Nat.le_trans h.size hg.size, fun b hb hne => (hg.block b (Nat.lt_of_lt_of_le hb h.size) (fun e => by
    rcases hr b e.symm with q | q
    · omega
    · exact hne q)).trans (h.block b hb hne)⟩
theorem Ext.grown {W W' : World} (h : Ext W W') : W.grownBy W' none := ⟨h.os, h.tape, h.output, h.size, fun k hk _ => h.block k hk⟩
theorem But.ext {wB : World} {G : Nat} {W W' : World} (h : But wB G W) (hx : Ext W W') : But wB G W' := h.grown (Ext.grown hx) (fun k e => by cases e)
theorem But.put {wB : World} {G : Nat} {W : World} (h : But wB G W) {l : Nat} (o' : Obj) (hl : wB.heap.size ≤ l) : But wB G (W.putObj l o') := h.grown (grownBy_putObj' W l o') (fun k e => by cases e; exact .inl hl)
theorem But.set {wB : World} {G : Nat} {W : World} (h : But wB G W) (i : Nat) (v : Value) : But wB G (W.setCell ⟨G, i, none⟩ v) := h.grown (grownBy_set W G i v) (fun k e => by cases e; exact .inr rfl)
theorem But.cell {wB : World} {G : Nat} {W : World} (h : But wB G W) {p : Addr} {v : Value} (hp : wB.cell? p = some v) (hne : p.block ≠ G) : W.cell? p = some v := by
  rw [← hp]; exact World.cell?_of_block (h.block _ (cell_lt hp) hne)
theorem But.toExt {w wB : World} {G : Nat} {W : World} (h : But wB G W) (hx : Ext w wB) (hG : w.heap.size ≤ G) : Ext w W :=
  ⟨h.os.trans hx.os, h.tape.trans hx.tape, h.output.trans hx.output, Nat.le_trans hx.size h.size, fun b hb => (h.block b (Nat.lt_of_lt_of_le hb hx.size) (by omega)).trans (hx.block b hb)⟩
/-- What is read lies in cells. -/
theorem Rel.cells {w : World} {F : Nat → Prop} {a : AV} {v : Value} (h : Rel w F a v) : Rel w (fun b => F b ∧ ∃ o : Obj, w.heap[b]? = some o ∧ o.isCells = true) a v := by
  induction h with
  | un h => exact .un h
  | b x => exact .b x
  | u8 x => exact .u8 x
  | int n => exact .int n
  | ik k n => exact .ik k n
  | s x => exact .s x
  | nils => exact .nils
  | ro0 k a c => exact .ro0 k a c
  | ro k l r off c xs hk hc hF hl hx h1 hr ih =>
    cases xs with
    | nil =>
      have hk0 : l.length * k = 0 := by simpa using hl.symm
      have hl0 : l = [] := by
        rcases Nat.mul_eq_zero.1 hk0 with h | h
        · exact List.eq_nil_of_length_eq_zero h
        · omega
      subst hl0
      exact .ro0 k _ c
    | cons v vs =>
      refine .ro k l r off c (v :: vs) hk hc ⟨hF, ?_⟩ hl hx h1 ih
      have := hx 0 v rfl
      unfold World.cell? at this
      split at this
      · rename_i hh; exact ⟨_, hh, rfl⟩
      · cases this
  | ag l vs hl h1 hr ih => exact .ag l vs hl h1 ih
  | tu l vs hl hr ih => exact .tu l vs hl ih
  | fn f => exact .fn f
  | nilf => exact .nilf
  | nilp => exact .nilp
/-- Which blocks the words in the box G may be read in. -/
def Fg (G : Nat) (gv : Value) (W : World) (b : Nat) : Prop := b ≠ G ∧ gv.ownBlock ≠ some b ∧ ∃ o : Obj, W.heap[b]? = some o ∧ o.isCells = true
/-- The box G holds a slice of one's own, of these words. -/
structure Got (wB : World) (G : Nat) (pre : List Wd) (gv : Value) (xs : List Value) (W : World) : Prop where
  but : But wB G W
  box : W.heap[G]? = some (.cells #[gv] 23)
  row : W.ownsRow wB.heap.size 36 5 gv pre.length xs
  one : ∀ u ∈ xs, u.oneCell' = true
  rel : ∀ i j u, i < pre.length → j < 5 → xs[i * 5 + j]? = some u → Rel W (Fg G gv W) (((pre.map Wd.av).getD i .un).cell j) u
theorem Fg.lt {G : Nat} {gv : Value} {W : World} {b : Nat} (h : Fg G gv W b) : b < W.heap.size := by obtain ⟨_, _, o, ho, _⟩ := h; exact (Array.getElem?_eq_some_iff.1 ho).1
theorem Got.grown {wB : World} {G : Nat} {pre : List Wd} {gv : Value} {xs : List Value} {W W' : World} (h : Got wB G pre gv xs W) {row : Option Nat} (hg : W.grownBy W' row) (hr : ∀ k, row = some k → wB.heap.size ≤ k ∧ ∃ o : Obj, W.heap[k]? = some o ∧ o.isCells = false) (hG : G < wB.heap.size) :
    Got wB G pre gv xs W' := by
  have hsame : ∀ (k : Nat) (o : Obj), W.heap[k]? = some o → o.isCells = true → W'.heap[k]? = W.heap[k]? := fun k o ho hc => hg.block k (Array.getElem?_eq_some_iff.1 ho).1 (fun e => by
    obtain ⟨_, o2, h2, h3⟩ := hr k e.symm
    rw [ho] at h2; cases h2; rw [hc] at h3; cases h3)
  refine ⟨h.but.grown hg fun k e => .inl (hr k e).1, (hsame G _ h.box rfl).trans h.box, h.row.kept hg ?_, h.one, fun i j u hi hj hu => (h.rel i j u hi hj hu).mono fun b hb hF => ?_⟩
  · cases ho : gv.ownBlock with
    | none => exact .inl rfl
    | some k =>
      refine .inr fun e => ?_
      obtain ⟨_, o, h1, h2⟩ := own_ge h.row ho
      obtain ⟨_, o2, h3, h4⟩ := hr k e.symm
      rw [h1] at h3; cases h3; rw [h2] at h4; cases h4
  · obtain ⟨f1, f2, o, f3, f4⟩ := hF
    have := hsame b o f3 f4
    exact ⟨⟨f1, f2, o, this.trans f3, f4⟩, this⟩
theorem Got.ext {wB : World} {G : Nat} {pre : List Wd} {gv : Value} {xs : List Value} {W W' : World} (h : Got wB G pre gv xs W) (hx : Ext W W') (hG : G < wB.heap.size) : Got wB G pre gv xs W' :=
  h.grown (Ext.grown hx) (fun k e => by cases e) hG
theorem Got.put {wB : World} {G : Nat} {pre : List Wd} {gv : Value} {xs : List Value} {W : World} (h : Got wB G pre gv xs W) (hG : G < wB.heap.size) {l : Nat} {o : Obj} (o' : Obj) (hl : wB.heap.size ≤ l) (ho : W.heap[l]? = some o) (hc : o.isCells = false) : Got wB G pre gv xs (W.putObj l o') :=
  h.grown (grownBy_putObj' W l o') (fun k e => by cases e; exact ⟨hl, o, ho, hc⟩) hG
theorem Got.start {wB : World} {G : Nat} (h : wB.heap[G]? = some (.cells #[.slice none 0 0] 23)) : Got wB G [] (.slice none 0 0) [] wB :=
  ⟨But.refl _ _, h, World.ownsRow_nil _ _ _ _, fun u hu => by simp at hu, fun i j u hi => by simp at hi⟩
theorem Got.append {wB : World} {G : Nat} {pre : List Wd} {gv : Value} {xs : List Value} {W : World} (h : Got wB G pre gv xs W) (hG : G < wB.heap.size) (hG1 : G ≠ 1) (h1 : 1 < wB.heap.size) {x : Wd} {c : List Value} (hc : c.length = 5) (hone : ∀ u ∈ c, u.oneCell' = true)
    {N : Nat} (hN : ∀ g, gv.ownBlock = some g → g < N) (hGN : G < N) (hrel : ∀ j u, c[j]? = some u → Rel W (fun b => N ≤ b ∨ b = 1) (x.av.cell j) u) {v' : Value} {w1 : World}
    (hown : w1.ownsRow wB.heap.size 36 5 v' (pre.length + 1) (xs ++ c)) (hgrow : W.grownBy w1 gv.ownBlock) (hv' : v'.ownBlock = gv.ownBlock ∨ v'.ownBlock = some W.heap.size) :
    w1.heap[G]? = some (.cells #[gv] 23) ∧ Got wB G (pre ++ [x]) v' (xs ++ c) (w1.setCell ⟨G, 0, none⟩ v') ∧ KeepsOthers W (w1.setCell ⟨G, 0, none⟩ v') := by
  have hGlt : G < W.heap.size := (Array.getElem?_eq_some_iff.1 h.box).1
  have hGown : ∀ g, gv.ownBlock = some g → g ≠ G ∧ wB.heap.size ≤ g := fun g e => by have := (own_ge h.row e).1; exact ⟨by omega, this⟩
  have hGown' : ∀ g, v'.ownBlock = some g → g ≠ G := fun g e => by have := (own_ge hown e).1; omega
  have hbox1 : w1.heap[G]? = some (.cells #[gv] 23) := (hgrow.block G hGlt (fun e => (hGown G e.symm).1 rfl)).trans h.box
  have hbox2 : (w1.setCell ⟨G, 0, none⟩ v').heap[G]? = some (.cells #[v'] 23) := set_only v' hbox1
  have keep : ∀ b, b < W.heap.size → b ≠ G → gv.ownBlock ≠ some b → (w1.setCell ⟨G, 0, none⟩ v').heap[b]? = W.heap[b]? := fun b hb hne ho => (set_other hne).trans (hgrow.block b hb (fun e => ho e.symm))
  have hxl : xs.length = pre.length * 5 := h.row.1
  refine ⟨hbox1, ⟨(h.but.grown hgrow fun k e => .inl (hGown k e).2).set 0 v', hbox2, ?_, fun u hu => ?_, fun i j u hi hj hu => ?_⟩, ?_⟩
  · have := hown.kept (grownBy_set w1 G 0 v') (by
      cases ho : v'.ownBlock with
      | none => exact .inl rfl
      | some k => exact .inr fun e => hGown' k ho (by cases e; rfl))
    simpa using this
  · rcases List.mem_append.1 hu with hu | hu
    · exact h.one u hu
    · exact hone u hu
  · have toF : ∀ (b : Nat) (o : Obj), b < W.heap.size → b ≠ G → gv.ownBlock ≠ some b → W.heap[b]? = some o → o.isCells = true → Fg G v' (w1.setCell ⟨G, 0, none⟩ v') b ∧ (w1.setCell ⟨G, 0, none⟩ v').heap[b]? = W.heap[b]? := fun b o hb hne ho f3 f4 => by
      refine ⟨⟨hne, fun e => ?_, o, (keep b hb hne ho).trans f3, f4⟩, keep b hb hne ho⟩
      rcases hv' with q | q
      · rw [q] at e; exact ho e
      · rw [q] at e; cases e; omega
    simp only [List.length_append, List.length_cons, List.length_nil] at hi
    by_cases hlt : i < pre.length
    · rw [List.getElem?_append_left (by omega)] at hu
      have := h.rel i j u hlt hj hu
      rw [List.map_append, List.getD_eq_getElem?_getD, List.getElem?_append_left (by rw [List.length_map]; exact hlt), ← List.getD_eq_getElem?_getD]
      exact this.mono fun b hb hF => by
        obtain ⟨f1, f2, o, f3, f4⟩ := hF
        exact toF b o hb f1 f2 f3 f4
    · obtain rfl : i = pre.length := by omega
      rw [List.getElem?_append_right (by omega), show pre.length * 5 + j - xs.length = j by omega] at hu
      have := Rel.cells (hrel j u hu)
      rw [List.map_append, List.getD_eq_getElem?_getD, List.getElem?_append_right (by rw [List.length_map]; exact Nat.le_refl _), List.length_map, Nat.sub_self]
      refine Rel.mono (fun b hb hF => ?_) this
      obtain ⟨f1, o, f3, f4⟩ := hF
      refine toF b o hb (by omega) (fun e => ?_) f3 f4
      have q1 := hN b e
      have q2 := (hGown b e).2
      omega
  · refine (KeepsOthers.of_grownBy hgrow fun j o ej hj => ?_).trans (KeepsOthers.setCell _ _ _)
    obtain ⟨_, o', h1, h2⟩ := own_ge h.row ej
    rw [h1] at hj; cases hj; exact h2
theorem Got.own_lt {wB : World} {G : Nat} {pre : List Wd} {gv : Value} {xs : List Value} {W : World} (h : Got wB G pre gv xs W) : ∀ g, gv.ownBlock = some g → g < W.heap.size := fun g e => (h.row.lt g e).2
/-- What has been gathered, read. -/
theorem Got.read {wB : World} {G : Nat} {pre : List Wd} {gv : Value} {xs : List Value} {W : World} (h : Got wB G pre gv xs W) : Rel W (fun _ => True) (.ro 5 (pre.map Wd.av)) gv := by
  have ho : OwnOk W (Fg G gv W) 36 5 (pre.map Wd.av) gv := by
    refine ⟨by decide, xs, ?_, h.one, fun i j v hi hj hv => h.rel i j v (by rw [List.length_map] at hi; exact hi) hj hv⟩
    rw [List.length_map]
    exact row_base h.row (Nat.zero_le _)
  exact ho.rel (fun _ _ _ => trivial) (fun _ _ => trivial)
theorem row_shape {W : World} {base : Nat} {e : TypeId} {size : Nat} {v : Value} {k : Nat} {xs : List Value} (h : W.ownsRow base e size v k xs) : ∃ (ad : Option Addr) (n c : Nat), v = .slice ad n c := by
  rcases h.2 with ⟨rfl, h0⟩ | ⟨g, cap, _, rfl, _⟩
  · exact ⟨_, _, _, rfl⟩
  · exact ⟨_, _, _, rfl⟩
theorem cell5 {W : World} {b : Nat} {x0 x1 x2 x3 x4 : Value} {t : TypeId} (h : W.heap[b]? = some (.cells #[x0, x1, x2, x3, x4] t)) : W.cell? ⟨b, 0, none⟩ = some x0 ∧ W.cell? ⟨b, 1, none⟩ = some x1 ∧ W.cell? ⟨b, 2, none⟩ = some x2 ∧ W.cell? ⟨b, 3, none⟩ = some x3 ∧ W.cell? ⟨b, 4, none⟩ = some x4 := by
  simp [World.cell?, h]
theorem new5 (w : World) (x0 x1 x2 x3 x4 : Value) (t : TypeId) : ∀ j u, [x0, x1, x2, x3, x4][j]? = some u → (w.alloc (.cells #[x0, x1, x2, x3, x4] t)).cell? ((⟨w.heap.size, 0, none⟩ : Addr).add j) = some u := by
  intro j u hj
  obtain ⟨h0, h1, h2, h3, h4⟩ := cell5 (World.alloc_heap_new w (.cells #[x0, x1, x2, x3, x4] t))
  match j, hj with
  | 0, hj => cases hj; simp [Addr.add, h0]
  | 1, hj => cases hj; simp [Addr.add, h1]
  | 2, hj => cases hj; simp [Addr.add, h2]
  | 3, hj => cases hj; simp [Addr.add, h3]
  | 4, hj => cases hj; simp [Addr.add, h4]
  | j + 5, hj => simp at hj
theorem info36 : (Tryd.prog.info? 36).map (fun i => (i.zero, i.size, i.bytes)) = some (some (.agg #[.int .u8 0, .int .i64 0, .string ⟨#[]⟩, .bool false, .slice none 0 0]), 5, 64) := by kernel_rfl
theorem rel_cell {w : World} {F : Nat → Prop} {l : List AV} {vs : Array Value} (h : Rel w F (.ag l) (.agg vs)) : ∀ j u, vs.toList[j]? = some u → Rel w F (l.getD j .un) u := by
  cases h with
  | ag _ vs hl h1 hr => intro j u hu; exact hr j u (by simpa using hu)
theorem wordsF_len : ∀ (n : Nat) (r : List UInt8) (a : Nat) (acc : List Wd), (wordsF n r a acc).1.length ≤ acc.length + r.length
  | 0, r, a, acc => Nat.le_add_right _ _
  | n + 1, r, a, acc => by
    unfold wordsF
    split
    · exact Nat.le_add_right _ _
    · split
      · have := wordsF_len n (r.drop (idxO r)) (a + idxO r) (acc ++ [litW a (r.take (idxO r))])
        have h2 := idxO_le r
        simp only [List.length_append, List.length_drop, List.length_cons, List.length_nil] at this
        omega
      · split
        · exact Nat.le_add_right _ _
        · split
          · rename_i hne _ _ _
            have := wordsF_len n (r.drop ((Lib.index r brC).toNat + 2)) (a + ((Lib.index r brC).toNat + 2)) (acc ++ [actWd a (actW ((r.take (Lib.index r brC).toNat).drop 2))])
            have h3 : 0 < r.length := by cases r with | nil => simp at hne | cons x t => simp
            simp only [List.length_append, List.length_drop, List.length_cons, List.length_nil] at this
            omega
          · exact Nat.le_add_right _ _
/-- A slice's beginning. -/
theorem rel_take {w : World} {F : Nat → Prop} {k : Nat} {l : List AV} {ad : Option Addr} {m c n : Nat} (h : Rel w F (.ro k l) (.slice ad m c)) (hm : m = l.length) (hn : n ≤ l.length) : Rel w F (.ro k (l.take n)) (.slice ad n c) := by
  cases Nat.eq_zero_or_pos n with
  | inl h0 => subst h0; exact .ro0 k ad c
  | inr h0 =>
    cases h with
    | ro0 => simp at hn; omega
    | ro _ _ r off c xs hk hc hF hl hx h1 hr =>
      have hlt : (l.take n).length = n := by rw [List.length_take]; omega
      have hnk : n * k ≤ xs.length := by rw [hl]; exact Nat.mul_le_mul_right k hn
      have key := Rel.ro (w := w) (F := F) k (l.take n) r off c (xs.take (n * k)) hk (by omega) hF (by rw [hlt, List.length_take]; omega)
        (fun j v hv => hx j v (by rw [List.getElem?_take] at hv; split at hv; exact hv; cases hv)) (fun v hv => h1 v (List.mem_of_mem_take hv))
        (fun i j v hi hj hv => by
          rw [hlt] at hi
          rw [List.getElem?_take] at hv
          split at hv
          · have := hr i j v (by omega) hj hv
            rw [List.getD_eq_getElem?_getD, List.getElem?_take, if_pos hi, ← List.getD_eq_getElem?_getD]
            exact this
          · cases hv)
      rw [hlt] at key
      exact key
theorem args2 {w : World} {F : Nat → Prop} {a b : AV} {x y : Value} (h : Rel w F a x) (k : Rel w F b y) : ∀ (j : Nat) (a' : AV) (v' : Value), ([a, b] : List AV)[j]? = some a' → (#[x, y] : Array Value)[j]? = some v' → Rel w F a' v' := by
  intro j a' v' h1 h2
  match j, h1, h2 with
  | 0, h1, h2 => cases h1; cases h2; exact h
  | 1, h1, h2 => cases h1; cases h2; exact k
  | j + 2, h1, h2 => simp at h1
theorem same_calls {mx : Int} (l : List Wd) (hl : l.length ≤ 1000000000) (hn : ∀ w ∈ l, NmOk w.names) (x y : Value) (W : World) (hm : W.cell? ⟨1, 0, none⟩ = some (.int .i64 mx)) (hx : Rel W (fun _ => True) (.ro 5 (l.map Wd.av)) x) (hy : Rel W (fun _ => True) (.ro 5 (l.map Wd.av)) y) :
    Calls Tryd.prog 25 #[x, y] W fun e W' => e = .returned (.bool true) ∧ Ext W W' := by
  refine Calls.mono (calls_sem (fit mx) (c := Tryd.f25.body.getD .skip) Tryd.func25 (by kernel_rfl) (s25 (mx := mx) l hl hn) (by kernel_rfl) W (fun b => True) #[x, y] (globOk hm) rfl (args2 hx hy)) fun e w' he => ?_
  obtain ⟨v, rfl, hx, hr⟩ := he
  unfold ResOk at hr
  rw [if_pos (by kernel_rfl)] at hr
  cases hr
  exact ⟨rfl, hx⟩
theorem eachW_nm (s : ByteArray) : ∀ w ∈ eachW s, NmOk w.names := by
  intro w hw
  unfold eachW at hw
  split at hw
  · exact wordsF_nm _ _ _ _ (fun _ h => by simp at h) w hw
  · simp at hw
end R3

namespace R3
open Go Go.Proofs Go.RowKit Go.Shelf Sx
variable {mx : Int}
/-- What has turned beyond what was before. -/
theorem _root_.Sx.Ext.put {w W : World} (h : Ext w W) {l : Nat} (o : Obj) (hl : w.heap.size ≤ l) : Ext w (W.putObj l o) :=
  ⟨h.os, h.tape, h.output, by simpa using h.size, fun b hb => (World.putObj_heap_other (by omega)).trans (h.block b hb)⟩
set_option maxRecDepth 100000 in
set_option maxHeartbeats 4000000 in
theorem f7_small (s : ByteArray) (u : UInt8) (w : World) (hm : w.cell? ⟨1, 0, none⟩ = some (.int .i64 mx)) (hs : s.size ≤ 65536) :
    CallsIn Fence.wide 8 Tryd.prog 7 #[.string s, .int .u8 (u.toNat : Int)] w fun e w' => e = .returned (.bool true) ∧ Ext w w' := by
  have hx0 : Ext w (w.alloc (.cells #[.int .u8 (u.toNat : Int)] 5)) := Ext.push w _
  replace hm := ext_cell hx0 hm
  refine callsIn_of_wp_marks Tryd.func7 rfl trivial ?_ rfl
  simp only [Tryd.ntmps7, List.size_toArray, List.length_cons, List.length_nil, Nat.reduceAdd, Nat.reduceSub, Array.replicate_succ, Array.replicate_zero, List.push_toArray, List.append_toArray, List.nil_append, List.cons_append]
  gi_wp2_with (first
    | (refine ⟨trivial, ?_⟩; gi_at_call 22; refine (callsIn_wide.2 (awake_calls (mx := mx) _ hm)).mono ?_; rintro e w1 ⟨rfl, hx1⟩; have hm1 := ext_cell hx1 hm)
    | (refine ⟨trivial, ?_⟩; gi_at_call 24; refine (callsIn_wide.2 (all_calls (mx := mx) s (by omega) _ hm1)).mono ?_; rintro e w2 ⟨ad, cw, rfl, hx2, hcw, hrw⟩; have hm2 := ext_cell hx2 hm1)
    | (refine ⟨trivial, ?_⟩; gi_at_call 26; refine (each_in _ _ _).mono ?_; rintro e w' ⟨rfl, hw⟩; rw [hw]))

  obtain ⟨wB, hwB⟩ : ∃ wB, (w2.alloc (.cells #[.string s] 9)).alloc (.cells #[.slice none 0 0] 23) = wB := ⟨_, rfl⟩
  rw [hwB]
  have hBs : wB.heap.size = w2.heap.size + 2 := by rw [← hwB]; simp
  have hxB : Ext w2 wB := by rw [← hwB]; exact (Ext.push w2 _).trans (Ext.push _ _)
  have hmB := ext_cell hxB hm2
  have h1w : 1 < w2.heap.size := cell_lt hm2
  have hBB : wB.cell? ⟨w2.heap.size, 0, none⟩ = some (.string s) := (cell1 (by rw [← hwB]; exact (al_old' (by simp)).trans (World.alloc_heap_new w2 _))).1
  have hGB : wB.heap[w2.heap.size + 1]? = some (.cells #[.slice none 0 0] 23) := by rw [← hwB]; exact al_new' (by simp)
  have hu0 : (w.alloc (.cells #[.int .u8 (u.toNat : Int)] 5)).cell? ⟨w.heap.size, 0, none⟩ = some (.int .u8 (u.toNat : Int)) := (cell1 (World.alloc_heap_new w _)).1
  have huB := ext_cell (hx1.trans (hx2.trans hxB)) hu0
  have hwn : (wordsW s.data.toList).1.length ≤ 65536 := by
    have := wordsF_len (s.data.toList.length + 1) s.data.toList 0 []
    have e : s.data.toList.length = s.size := rfl
    simp only [List.length_nil] at this
    unfold wordsW
    omega
  have hnm : ∀ w ∈ (wordsW s.data.toList).1, NmOk w.names := by have := eachW_nm s; rw [eachW, if_pos hs] at this; exact this
  have hwl : w.heap.size < w2.heap.size := by have q1 := hx1.size; have q2 := hx2.size; simp at q1; omega
  have hul : u.toNat < 256 := u.toNat_lt
  refine range_each (mx := mx) (by decide) (B := w2.heap.size) (s := s) (by omega) rfl 0
    (fun pre W => pre.length ≤ u.toNat ∧ ∃ gv xs, Got wB (w2.heap.size + 1) pre gv xs W)
    (fun pre W => pre.length = u.toNat + 1 ∧ ∃ gv xs, Got wB (w2.heap.size + 1) pre gv xs W)
    (fun pre W ⟨_, gv, xs, h⟩ => h.but.cell hBB (show w2.heap.size ≠ w2.heap.size + 1 by omega)) (fun pre W ⟨_, gv, xs, h⟩ => h.but.cell hmB (show (1 : Nat) ≠ w2.heap.size + 1 by omega)) (fun pre W W' ⟨h0, gv, xs, h⟩ hx => ⟨h0, gv, xs, h.ext hx (by omega)⟩)
    (fun pre W l o o' hl ho hc ⟨h0, gv, xs, h⟩ => ⟨h0, gv, xs, h.put (by omega) o' hl ho hc⟩) (fun pre W l o o' hl ho hc ⟨h0, gv, xs, h⟩ => ⟨h0, gv, xs, h.put (by omega) o' hl ho hc⟩)
    (fun v W a' W' => ∃ (k at' : Int) (q : ByteArray) (r : Bool) (ad' : Option Addr) (ln c : Nat), v = .agg #[.int .u8 k, .int .i64 at', .string q, .bool r, .slice ad' ln c] ∧ W' = W.alloc (.cells #[.int .u8 k, .int .i64 at', .string q, .bool r, .slice ad' ln c] 36) ∧
      a' = { tmps := #[.string s, .int .u8 (u.toNat : Int), undef, .pointer (some ⟨w.heap.size, 0, none⟩), .bool false, .slice ad (wordsW s.data.toList).1.length cw, .int .i64 (wordsW s.data.toList).2, .func (.func 58) #[] #[.pointer (some ⟨w2.heap.size, 0, none⟩)], .pointer (some ⟨w2.heap.size + 1, 0, none⟩), .pointer (some ⟨W.heap.size, 0, none⟩), undef, undef, undef, .bool true, .bool false, .bool false, .string s, .int .i64 (s.size : Int), .bool (decide ((65536 : Int) < (s.size : Int))), .bool (decide ((65536 : Int) < (s.size : Int))), undef, .tuple #[.slice ad (wordsW s.data.toList).1.length cw, .int .i64 (wordsW s.data.toList).2], .string s, .tuple #[.slice ad (wordsW s.data.toList).1.length cw, .int .i64 (wordsW s.data.toList).2], .slice ad (wordsW s.data.toList).1.length cw, .int .i64 (wordsW s.data.toList).2, .string s, .func (.func 58) #[] #[.pointer (some ⟨w2.heap.size, 0, none⟩)], .func (.func 58) #[] #[.pointer (some ⟨w2.heap.size, 0, none⟩)], .agg #[.int .u8 k, .int .i64 at', .string q, .bool r, .slice ad' ln c], undef, undef, undef, undef, undef, undef, undef, undef, undef, undef, undef, undef, undef, undef, undef, undef, undef, undef, undef, undef, undef, undef, undef, undef, undef, undef, undef, undef, undef, undef], defers := [] })
    (fun v W a' W' ⟨_, _, _, _, _, _, _, _, hW, _⟩ => by rw [hW]; exact Ext.push W _) ?assign ?body ⟨Nat.zero_le _, _, _, Got.start hGB⟩ ?done ?stop
  case assign =>
    intro l pre x F v W K hpre hrel hK
    obtain ⟨q, nv, rfl, _, _, hnm⟩ := rel_word hrel
    obtain ⟨ad', ln, c, rfl⟩ := rel_names (eachW_nm s x (hpre.mem (by simp))) hnm
    have hsem := @Oper.semAt_some
    replace hK := hK _ _ ⟨_, _, _, _, _, _, _, rfl, rfl, rfl⟩
    gi_wp2
    exact hK
  case body =>
    rintro l pre x W W1 W2 v a' o o' hl hlt ⟨hu, gv, xs, hgot⟩ hpre hxa hrel ⟨k, at', q, r, ad', ln, c, rfl, rfl, rfl⟩ ho hoc
    have hsem := @Oper.semAt_some
    obtain ⟨i0, hi9, hz0, hz1, hz2⟩ := info_parts info36
    obtain ⟨ad0, n0, c0', rfl⟩ := row_shape hgot.row
    have hrel5 := rel_cell hrel
    have ha9 : ((W1.alloc (.cells #[.int .u8 k, .int .i64 at', .string q, .bool r, .slice ad' ln c] 36)).putObj l o').heap[W1.heap.size]? = some (.cells #[.int .u8 k, .int .i64 at', .string q, .bool r, .slice ad' ln c] 36) := (World.putObj_heap_other (by have := hxa.size; omega)).trans (World.alloc_heap_new W1 _)
    have hg3 : Got wB (w2.heap.size + 1) pre (.slice ad0 n0 c0') xs ((W1.alloc (.cells #[.int .u8 k, .int .i64 at', .string q, .bool r, .slice ad' ln c] 36)).putObj l o') := ((hgot.ext hxa (by omega)).ext (Ext.push W1 _) (by omega)).put (by omega) o' hl ho hoc
    have hr3 : ∀ j u, [Value.int .u8 k, .int .i64 at', .string q, .bool r, .slice ad' ln c][j]? = some u → Rel (((W1.alloc (.cells #[.int .u8 k, .int .i64 at', .string q, .bool r, .slice ad' ln c] 36)).putObj l o')) (fun b => W.heap.size ≤ b ∨ b = 1) (x.av.cell j) u := fun j u hj => (hrel5 j u hj).mono fun b hb hF => ⟨hF, (World.putObj_heap_other (by omega)).trans ((Ext.push W1 _).block b hb)⟩
    have hlo := hgot.own_lt
    have hGW : w2.heap.size + 1 < W.heap.size := (Array.getElem?_eq_some_iff.1 hgot.box).1
    generalize (W1.alloc (.cells #[.int .u8 k, .int .i64 at', .string q, .bool r, .slice ad' ln c] 36)).putObj l o' = W3 at ha9 hg3 hr3 ⊢
    obtain ⟨c0, c1, c2, c3, c4⟩ := cell5 ha9
    obtain ⟨v1, v2⟩ := cell1 hg3.box
    have hsz := hg3.but.size
    have hone : ∀ y ∈ [Value.int .u8 k, .int .i64 at', .string q, .bool r, .slice ad' ln c], y.oneCell' = true := by simp [Value.oneCell']
    have hg4 := hg3.ext (Ext.push W3 (.cells #[.int .u8 k, .int .i64 at', .string q, .bool r, .slice ad' ln c] 36)) (by omega)
    have hr4 : ∀ j y, [Value.int .u8 k, .int .i64 at', .string q, .bool r, .slice ad' ln c][j]? = some y → Rel (W3.alloc (.cells #[.int .u8 k, .int .i64 at', .string q, .bool r, .slice ad' ln c] 36)) (fun b => W.heap.size ≤ b ∨ b = 1) (x.av.cell j) y := fun j y hj => (hr3 j y hj).mono fun b hb hF => ⟨hF, (Ext.push W3 _).block b hb⟩
    gi_wp2_with (gi_at_builtin; refine wpListIn_append_own_at _ rfl _ _ 23 rfl wB.heap.size 36 i0 _ 5 64 Tryd.underlying23 hi9 hz0 hz1 hz2 rfl (by decide) (.slice ad0 n0 c0') pre.length xs rfl hg4.row ⟨W3.heap.size, 0, none⟩ 1 1 [.int .u8 k, .int .i64 at', .string q, .bool r, .slice ad' ln c] rfl rfl (new5 _ _ _ _ _ _ _) hone (by have : Go.maxLen = 9223372036854775807 := rfl; omega) (by omega) (by simp; omega) ?_; intro v' w5 hown' hgrow _ hv'; obtain ⟨hb5, hgot5, hko5⟩ := Got.append hg4 (by omega) (by omega) (by omega) rfl hone hlo hGW hr4 hown' hgrow hv'; obtain ⟨g', cap', rfl⟩ := ownsRow_succ hown'; obtain ⟨y1, y2⟩ := cell1 hb5; obtain ⟨y3, y4⟩ := cell1 hgot5.box; have y5 := hgot5.but.cell huB (show w.heap.size ≠ w2.heap.size + 1 by omega))
    · exact ⟨rfl, (KeepsOthers.alloc W3 _).trans hko5, by omega, _, _, hgot5⟩
    · exact ⟨(KeepsOthers.alloc W3 _).trans hko5, by omega, _, _, hgot5⟩
  case done =>
    rintro D W hD ⟨hu, gv, xs, hgot⟩ hk
    rw [eachW, if_pos hs] at hu hgot
    have hpl9 : (wordsW s.data.toList).1.length ≤ 1000000000 := by omega
    have hpl9' := hpl9
    have hpnm := hnm
    obtain ⟨ad0, n0, c0', rfl⟩ := row_shape hgot.row
    obtain ⟨v1, v2⟩ := cell1 hgot.box
    have hu3 := hgot.but.cell huB (show w.heap.size ≠ w2.heap.size + 1 by omega)
    have hm3 := hgot.but.cell hmB (show (1 : Nat) ≠ w2.heap.size + 1 by omega)
    have hple : ((wordsW s.data.toList).1).length ≤ cw := by omega
    have hrB := hrw.mono (w' := W) (F' := fun _ => True) fun b hb _ => ⟨trivial, (hgot.but.block b (by omega) (by omega)).trans (hxB.block b hb)⟩
    gi_wp2
    have hpl : ((((wordsW s.data.toList).1).length : Nat) : Int) = min (((wordsW s.data.toList).1.length : Nat) : Int) ((u.toNat : Int) + 1) := by omega
    rw [← hpl]
    clear hpl
    rw [wpIn_wide]
    go_still_tail 4, (by kernel_rfl)
    generalize hW4 : (World.mk _ _ _ _ _) = W4
    have hx4 : Ext W W4 := by rw [← hW4]; exact Ext.drew W _
    have hgot4 := hgot.ext hx4 (by omega)
    have hm4 := ext_cell hx4 hm3
    have hk4 := (hx4.block D (Array.getElem?_eq_some_iff.1 hk).1).trans hk
    have hR1 := hgot4.read
    have hR2 := hrB.mono (w' := W4) (F' := fun _ => True) fun b hb _ => ⟨trivial, hx4.block b hb⟩
    have hR3 := rel_take (n := ((wordsW s.data.toList).1).length) hR2 (by rw [List.length_map]) (by rw [List.length_map]; omega)
    have hpt : (wordsW s.data.toList).1 = (wordsW s.data.toList).1.take ((wordsW s.data.toList).1).length := List.take_length.symm
    rw [← List.map_take, ← hpt] at hR3
    clear hpt
    go_wp2_with (go_at_call 25; refine (same_calls (mx := mx) ((wordsW s.data.toList).1) hpl9 hpnm _ _ _ hm4 hR1 hR3).mono ?_; rintro e w6 ⟨rfl, hx6⟩)
    gi_wp2
    have hm6 := ext_cell hx6 hm4
    have hk6 := (hx6.block D (Array.getElem?_eq_some_iff.1 hk4).1).trans hk4
    have hDl : D < w6.heap.size := (Array.getElem?_eq_some_iff.1 hk6).1
    have hB6 := ext_cell hx6 (ext_cell hx4 (hgot.but.cell hBB (show w2.heap.size ≠ w2.heap.size + 1 by omega)))
    have hR6 := hR2.mono (w' := w6) (F' := fun _ => True) fun b hb _ => ⟨trivial, hx6.block b hb⟩
    have hX6 : Ext w w6 := (((hgot4.but.toExt (hx0.trans (hx1.trans (hx2.trans hxB))) (by omega))).trans hx6)
    obtain ⟨wC, hwC⟩ : ∃ wC, w6.alloc (.cells #[.slice none 0 0] 23) = wC := ⟨_, rfl⟩
    rw [hwC]
    have hCs : wC.heap.size = w6.heap.size + 1 := by rw [← hwC]; simp
    have hxC : Ext w6 wC := by rw [← hwC]; exact Ext.push w6 _
    have hmC := ext_cell hxC hm6
    have hkC := (hxC.block D hDl).trans hk6
    have hBC := ext_cell hxC hB6
    have hRC := hR6.mono (w' := wC) (F' := fun _ => True) fun b hb _ => ⟨trivial, hxC.block b hb⟩
    have hGC : wC.heap[w6.heap.size]? = some (.cells #[.slice none 0 0] 23) := by rw [← hwC]; exact World.alloc_heap_new w6 _
    have h16 : 1 < w6.heap.size := cell_lt hm6
    have h26 : w2.heap.size < w6.heap.size := cell_lt hB6
    have hww : w.heap.size ≤ w6.heap.size := hX6.size
    refine range_each (mx := mx) (by decide) (B := w2.heap.size) (s := s) (by omega) rfl 2
      (fun pre W => ∃ gv xs, Got wC w6.heap.size pre gv xs W)
      (fun pre W => False)
      (fun pre W ⟨gv, xs, h⟩ => h.but.cell hBC (show w2.heap.size ≠ w6.heap.size by omega)) (fun pre W ⟨gv, xs, h⟩ => h.but.cell hmC (show (1 : Nat) ≠ w6.heap.size by omega)) (fun pre W W' ⟨gv, xs, h⟩ hx => ⟨gv, xs, h.ext hx (by omega)⟩)
      (fun pre W l o o' hl ho hc ⟨gv, xs, h⟩ => ⟨gv, xs, h.put (by omega) o' hl ho hc⟩) (fun pre W l o o' hl ho hc h => h)
      (fun v W a' W' => ∃ (k at' : Int) (q : ByteArray) (r : Bool) (ad' : Option Addr) (ln c : Nat), v = .agg #[.int .u8 k, .int .i64 at', .string q, .bool r, .slice ad' ln c] ∧ W' = W.alloc (.cells #[.int .u8 k, .int .i64 at', .string q, .bool r, .slice ad' ln c] 36) ∧
        a' = { tmps := #[.string s, .int .u8 (u.toNat : Int), undef, .pointer (some ⟨w.heap.size, 0, none⟩), .bool false, .slice ad (wordsW s.data.toList).1.length cw, .int .i64 (wordsW s.data.toList).2, .func (.func 58) #[] #[.pointer (some ⟨w2.heap.size, 0, none⟩)], .pointer (some ⟨w2.heap.size + 1, 0, none⟩), undef, .int .i64 ((((wordsW s.data.toList).1).length : Nat) : Int), .pointer (some ⟨w6.heap.size, 0, none⟩), .pointer (some ⟨W.heap.size, 0, none⟩), .bool true, .bool false, .bool false, .string s, .int .i64 (s.size : Int), .bool (decide ((65536 : Int) < (s.size : Int))), .bool (decide ((65536 : Int) < (s.size : Int))), undef, .tuple #[.slice ad (wordsW s.data.toList).1.length cw, .int .i64 (wordsW s.data.toList).2], .string s, .tuple #[.slice ad (wordsW s.data.toList).1.length cw, .int .i64 (wordsW s.data.toList).2], .slice ad (wordsW s.data.toList).1.length cw, .int .i64 (wordsW s.data.toList).2, .string s, .func (.func 58) #[] #[.pointer (some ⟨w2.heap.size, 0, none⟩)], .func (.func 58) #[] #[.pointer (some ⟨w2.heap.size, 0, none⟩)], undef, undef, undef, undef, undef, undef, undef, undef, undef, undef, .slice ad (wordsW s.data.toList).1.length cw, .int .i64 (((wordsW s.data.toList).1.length : Nat) : Int), .int .u8 (u.toNat : Int), .int .i64 (u.toNat : Int), .int .i64 ((u.toNat : Int) + 1), .int .i64 ((((wordsW s.data.toList).1).length : Nat) : Int), .slice ad0 n0 c0', .slice ad (wordsW s.data.toList).1.length cw, .int .i64 ((((wordsW s.data.toList).1).length : Nat) : Int), .slice ad ((wordsW s.data.toList).1).length cw, .bool true, .bool false, .func (.func 58) #[] #[.pointer (some ⟨w2.heap.size, 0, none⟩)], .agg #[.int .u8 k, .int .i64 at', .string q, .bool r, .slice ad' ln c], undef, undef, undef, undef, undef, undef, undef], defers := [] })
      (fun v W a' W' ⟨_, _, _, _, _, _, _, _, hW, _⟩ => by rw [hW]; exact Ext.push W _) ?assign2 ?body2 ⟨_, _, Got.start hGC⟩ ?done2 ?stop2
    case assign2 =>
      intro l pre x F v W K hpre hrel hK
      obtain ⟨q, nv, rfl, _, _, hnm⟩ := rel_word hrel
      obtain ⟨ad', ln, c, rfl⟩ := rel_names (eachW_nm s x (hpre.mem (by simp))) hnm
      have hsem := @Oper.semAt_some
      replace hK := hK _ _ ⟨_, _, _, _, _, _, _, rfl, rfl, rfl⟩
      gi_wp2
      exact hK
    case body2 =>
      rintro l pre x W W1 W2 v a' o o' hl hlt ⟨gv, xs, hgot⟩ hpre hxa hrel ⟨k, at', q, r, ad', ln, c, rfl, rfl, rfl⟩ ho hoc
      have hpl5 : pre.length + 1 ≤ 65536 := by
        have q1 := hpre.length_le
        have q2 : (eachW s).length ≤ 65536 := by rw [eachW, if_pos hs]; exact hwn
        simp only [List.length_append, List.length_cons, List.length_nil] at q1
        omega
      have hsem := @Oper.semAt_some
      obtain ⟨i0, hi9, hz0, hz1, hz2⟩ := info_parts info36
      obtain ⟨ad1, n1, c1', rfl⟩ := row_shape hgot.row
      have hrel5 := rel_cell hrel
      have ha9 : ((W1.alloc (.cells #[.int .u8 k, .int .i64 at', .string q, .bool r, .slice ad' ln c] 36)).putObj l o').heap[W1.heap.size]? = some (.cells #[.int .u8 k, .int .i64 at', .string q, .bool r, .slice ad' ln c] 36) := (World.putObj_heap_other (by have := hxa.size; omega)).trans (World.alloc_heap_new W1 _)
      have hg3 : Got wC w6.heap.size pre (.slice ad1 n1 c1') xs ((W1.alloc (.cells #[.int .u8 k, .int .i64 at', .string q, .bool r, .slice ad' ln c] 36)).putObj l o') := ((hgot.ext hxa (by omega)).ext (Ext.push W1 _) (by omega)).put (by omega) o' hl ho hoc
      have hr3 : ∀ j u, [Value.int .u8 k, .int .i64 at', .string q, .bool r, .slice ad' ln c][j]? = some u → Rel (((W1.alloc (.cells #[.int .u8 k, .int .i64 at', .string q, .bool r, .slice ad' ln c] 36)).putObj l o')) (fun b => W.heap.size ≤ b ∨ b = 1) (x.av.cell j) u := fun j u hj => (hrel5 j u hj).mono fun b hb hF => ⟨hF, (World.putObj_heap_other (by omega)).trans ((Ext.push W1 _).block b hb)⟩
      have hlo := hgot.own_lt
      have hGW : w6.heap.size < W.heap.size := (Array.getElem?_eq_some_iff.1 hgot.box).1
      generalize (W1.alloc (.cells #[.int .u8 k, .int .i64 at', .string q, .bool r, .slice ad' ln c] 36)).putObj l o' = W3 at ha9 hg3 hr3 ⊢
      obtain ⟨c0, c1, c2, c3, c4⟩ := cell5 ha9
      obtain ⟨v1, v2⟩ := cell1 hg3.box
      have hsz := hg3.but.size
      have hone : ∀ y ∈ [Value.int .u8 k, .int .i64 at', .string q, .bool r, .slice ad' ln c], y.oneCell' = true := by simp [Value.oneCell']
      have hg4 := hg3.ext (Ext.push W3 (.cells #[.int .u8 k, .int .i64 at', .string q, .bool r, .slice ad' ln c] 36)) (by omega)
      have hr4 : ∀ j y, [Value.int .u8 k, .int .i64 at', .string q, .bool r, .slice ad' ln c][j]? = some y → Rel (W3.alloc (.cells #[.int .u8 k, .int .i64 at', .string q, .bool r, .slice ad' ln c] 36)) (fun b => W.heap.size ≤ b ∨ b = 1) (x.av.cell j) y := fun j y hj => (hr3 j y hj).mono fun b hb hF => ⟨hF, (Ext.push W3 _).block b hb⟩
      gi_wp2_with (gi_at_builtin; refine wpListIn_append_own_at _ rfl _ _ 23 rfl wC.heap.size 36 i0 _ 5 64 Tryd.underlying23 hi9 hz0 hz1 hz2 rfl (by decide) (.slice ad1 n1 c1') pre.length xs rfl hg4.row ⟨W3.heap.size, 0, none⟩ 1 1 [.int .u8 k, .int .i64 at', .string q, .bool r, .slice ad' ln c] rfl rfl (new5 _ _ _ _ _ _ _) hone (by have : Go.maxLen = 9223372036854775807 := rfl; omega) (by omega) (by simp; omega) ?_; intro v' w5 hown' hgrow _ hv'; obtain ⟨hb5, hgot5, hko5⟩ := Got.append hg4 (by omega) (by omega) (by omega) rfl hone hlo hGW hr4 hown' hgrow hv'; obtain ⟨g', cap', rfl⟩ := ownsRow_succ hown'; obtain ⟨y1, y2⟩ := cell1 hb5)
      exact ⟨(KeepsOthers.alloc W3 _).trans hko5, _, _, hgot5⟩
    case done2 =>
      rintro D2 W7 hD2 ⟨gv2, xs2, hgot2⟩ hk2
      obtain ⟨ad2, n2, c2', rfl⟩ := row_shape hgot2.row
      obtain ⟨v1, v2⟩ := cell1 hgot2.box
      have hk7 := (hgot2.but.block D (by omega) (by omega)).trans hkC
      have hm7 := hgot2.but.cell hmC (show (1 : Nat) ≠ w6.heap.size by omega)
      have hR7 := hgot2.read
      rw [eachW, if_pos hs] at hR7
      have hR8 := hR6.mono (w' := W7) (F' := fun _ => True) fun b hb _ => ⟨trivial, (hgot2.but.block b (by omega) (by omega)).trans (hxC.block b hb)⟩
      have hX7 : Ext w W7 := hgot2.but.toExt (hX6.trans hxC) hww
      gi_wp2_with (refine ⟨trivial, ?_⟩; gi_at_call 25; refine (callsIn_wide.2 (same_calls (mx := mx) _ hpl9' hnm _ _ _ hm7 hR7 hR8)).mono ?_; rintro e w8 ⟨rfl, hx8⟩)
      have hk8 := (hx8.block D2 (Array.getElem?_eq_some_iff.1 hk2).1).trans hk2
      have hk9 := (hx8.block D (Array.getElem?_eq_some_iff.1 hk7).1).trans hk7
      refine ⟨by simp, .inl ⟨_, _, rfl, run_takeDeferred hk8, ?_⟩⟩
      have hDD : D ≠ D2 := by omega
      refine ⟨by simp, .inl ⟨_, _, rfl, run_takeDeferred ((World.putObj_heap_other hDD).trans hk9), ?_⟩⟩
      exact ⟨_, results_tmp rfl _ _ _, rfl, ((hX7.trans hx8).put _ (by omega)).put _ (by omega)⟩
    case stop2 => exact fun _ _ _ _ _ h _ => h.elim
  case stop =>
    rintro D pre W hD hpre ⟨hu, gv, xs, hgot⟩ hk
    rw [eachW, if_pos hs] at hpre
    have hpl1 := hpre.length_le
    have hu1 : pre.length ≤ u.toNat + 1 := by omega
    have hu2 : u.toNat + 1 ≤ pre.length := by omega
    clear hu
    have hpl9 : pre.length ≤ 1000000000 := by omega
    have hpl9' : (wordsW s.data.toList).1.length ≤ 1000000000 := by omega
    have hpnm : ∀ w ∈ pre, NmOk w.names := fun w hw => hnm w (hpre.mem hw)
    obtain ⟨ad0, n0, c0', rfl⟩ := row_shape hgot.row
    obtain ⟨v1, v2⟩ := cell1 hgot.box
    have hu3 := hgot.but.cell huB (show w.heap.size ≠ w2.heap.size + 1 by omega)
    have hm3 := hgot.but.cell hmB (show (1 : Nat) ≠ w2.heap.size + 1 by omega)
    have hple : (pre).length ≤ cw := by omega
    have hrB := hrw.mono (w' := W) (F' := fun _ => True) fun b hb _ => ⟨trivial, (hgot.but.block b (by omega) (by omega)).trans (hxB.block b hb)⟩
    gi_wp2
    have hpl : (((pre).length : Nat) : Int) = min (((wordsW s.data.toList).1.length : Nat) : Int) ((u.toNat : Int) + 1) := by omega
    rw [← hpl]
    clear hpl
    rw [wpIn_wide]
    go_still_tail 4, (by kernel_rfl)
    generalize hW4 : (World.mk _ _ _ _ _) = W4
    have hx4 : Ext W W4 := by rw [← hW4]; exact Ext.drew W _
    have hgot4 := hgot.ext hx4 (by omega)
    have hm4 := ext_cell hx4 hm3
    have hk4 := (hx4.block D (Array.getElem?_eq_some_iff.1 hk).1).trans hk
    have hR1 := hgot4.read
    have hR2 := hrB.mono (w' := W4) (F' := fun _ => True) fun b hb _ => ⟨trivial, hx4.block b hb⟩
    have hR3 := rel_take (n := (pre).length) hR2 (by rw [List.length_map]) (by rw [List.length_map]; omega)
    have hpt : pre = (wordsW s.data.toList).1.take (pre).length := List.prefix_iff_eq_take.1 hpre
    rw [← List.map_take, ← hpt] at hR3
    clear hpt
    go_wp2_with (go_at_call 25; refine (same_calls (mx := mx) (pre) hpl9 hpnm _ _ _ hm4 hR1 hR3).mono ?_; rintro e w6 ⟨rfl, hx6⟩)
    gi_wp2
    have hm6 := ext_cell hx6 hm4
    have hk6 := (hx6.block D (Array.getElem?_eq_some_iff.1 hk4).1).trans hk4
    have hDl : D < w6.heap.size := (Array.getElem?_eq_some_iff.1 hk6).1
    have hB6 := ext_cell hx6 (ext_cell hx4 (hgot.but.cell hBB (show w2.heap.size ≠ w2.heap.size + 1 by omega)))
    have hR6 := hR2.mono (w' := w6) (F' := fun _ => True) fun b hb _ => ⟨trivial, hx6.block b hb⟩
    have hX6 : Ext w w6 := (((hgot4.but.toExt (hx0.trans (hx1.trans (hx2.trans hxB))) (by omega))).trans hx6)
    obtain ⟨wC, hwC⟩ : ∃ wC, w6.alloc (.cells #[.slice none 0 0] 23) = wC := ⟨_, rfl⟩
    rw [hwC]
    have hCs : wC.heap.size = w6.heap.size + 1 := by rw [← hwC]; simp
    have hxC : Ext w6 wC := by rw [← hwC]; exact Ext.push w6 _
    have hmC := ext_cell hxC hm6
    have hkC := (hxC.block D hDl).trans hk6
    have hBC := ext_cell hxC hB6
    have hRC := hR6.mono (w' := wC) (F' := fun _ => True) fun b hb _ => ⟨trivial, hxC.block b hb⟩
    have hGC : wC.heap[w6.heap.size]? = some (.cells #[.slice none 0 0] 23) := by rw [← hwC]; exact World.alloc_heap_new w6 _
    have h16 : 1 < w6.heap.size := cell_lt hm6
    have h26 : w2.heap.size < w6.heap.size := cell_lt hB6
    have hww : w.heap.size ≤ w6.heap.size := hX6.size
    refine range_each (mx := mx) (by decide) (B := w2.heap.size) (s := s) (by omega) rfl 2
      (fun pre W => ∃ gv xs, Got wC w6.heap.size pre gv xs W)
      (fun pre W => False)
      (fun pre W ⟨gv, xs, h⟩ => h.but.cell hBC (show w2.heap.size ≠ w6.heap.size by omega)) (fun pre W ⟨gv, xs, h⟩ => h.but.cell hmC (show (1 : Nat) ≠ w6.heap.size by omega)) (fun pre W W' ⟨gv, xs, h⟩ hx => ⟨gv, xs, h.ext hx (by omega)⟩)
      (fun pre W l o o' hl ho hc ⟨gv, xs, h⟩ => ⟨gv, xs, h.put (by omega) o' hl ho hc⟩) (fun pre W l o o' hl ho hc h => h)
      (fun v W a' W' => ∃ (k at' : Int) (q : ByteArray) (r : Bool) (ad' : Option Addr) (ln c : Nat), v = .agg #[.int .u8 k, .int .i64 at', .string q, .bool r, .slice ad' ln c] ∧ W' = W.alloc (.cells #[.int .u8 k, .int .i64 at', .string q, .bool r, .slice ad' ln c] 36) ∧
        a' = { tmps := #[.string s, .int .u8 (u.toNat : Int), undef, .pointer (some ⟨w.heap.size, 0, none⟩), .bool false, .slice ad (wordsW s.data.toList).1.length cw, .int .i64 (wordsW s.data.toList).2, .func (.func 58) #[] #[.pointer (some ⟨w2.heap.size, 0, none⟩)], .pointer (some ⟨w2.heap.size + 1, 0, none⟩), undef, .int .i64 (((pre).length : Nat) : Int), .pointer (some ⟨w6.heap.size, 0, none⟩), .pointer (some ⟨W.heap.size, 0, none⟩), .bool true, .bool false, .bool false, .string s, .int .i64 (s.size : Int), .bool (decide ((65536 : Int) < (s.size : Int))), .bool (decide ((65536 : Int) < (s.size : Int))), undef, .tuple #[.slice ad (wordsW s.data.toList).1.length cw, .int .i64 (wordsW s.data.toList).2], .string s, .tuple #[.slice ad (wordsW s.data.toList).1.length cw, .int .i64 (wordsW s.data.toList).2], .slice ad (wordsW s.data.toList).1.length cw, .int .i64 (wordsW s.data.toList).2, .string s, .func (.func 58) #[] #[.pointer (some ⟨w2.heap.size, 0, none⟩)], .func (.func 58) #[] #[.pointer (some ⟨w2.heap.size, 0, none⟩)], undef, undef, undef, undef, undef, undef, undef, undef, undef, undef, .slice ad (wordsW s.data.toList).1.length cw, .int .i64 (((wordsW s.data.toList).1.length : Nat) : Int), .int .u8 (u.toNat : Int), .int .i64 (u.toNat : Int), .int .i64 ((u.toNat : Int) + 1), .int .i64 (((pre).length : Nat) : Int), .slice ad0 n0 c0', .slice ad (wordsW s.data.toList).1.length cw, .int .i64 (((pre).length : Nat) : Int), .slice ad (pre).length cw, .bool true, .bool false, .func (.func 58) #[] #[.pointer (some ⟨w2.heap.size, 0, none⟩)], .agg #[.int .u8 k, .int .i64 at', .string q, .bool r, .slice ad' ln c], undef, undef, undef, undef, undef, undef, undef], defers := [] })
      (fun v W a' W' ⟨_, _, _, _, _, _, _, _, hW, _⟩ => by rw [hW]; exact Ext.push W _) ?assign2 ?body2 ⟨_, _, Got.start hGC⟩ ?done2 ?stop2
    case assign2 =>
      intro l pre x F v W K hpre hrel hK
      obtain ⟨q, nv, rfl, _, _, hnm⟩ := rel_word hrel
      obtain ⟨ad', ln, c, rfl⟩ := rel_names (eachW_nm s x (hpre.mem (by simp))) hnm
      have hsem := @Oper.semAt_some
      replace hK := hK _ _ ⟨_, _, _, _, _, _, _, rfl, rfl, rfl⟩
      gi_wp2
      exact hK
    case body2 =>
      rintro l pre x W W1 W2 v a' o o' hl hlt ⟨gv, xs, hgot⟩ hpre hxa hrel ⟨k, at', q, r, ad', ln, c, rfl, rfl, rfl⟩ ho hoc
      have hpl5 : pre.length + 1 ≤ 65536 := by
        have q1 := hpre.length_le
        have q2 : (eachW s).length ≤ 65536 := by rw [eachW, if_pos hs]; exact hwn
        simp only [List.length_append, List.length_cons, List.length_nil] at q1
        omega
      have hsem := @Oper.semAt_some
      obtain ⟨i0, hi9, hz0, hz1, hz2⟩ := info_parts info36
      obtain ⟨ad1, n1, c1', rfl⟩ := row_shape hgot.row
      have hrel5 := rel_cell hrel
      have ha9 : ((W1.alloc (.cells #[.int .u8 k, .int .i64 at', .string q, .bool r, .slice ad' ln c] 36)).putObj l o').heap[W1.heap.size]? = some (.cells #[.int .u8 k, .int .i64 at', .string q, .bool r, .slice ad' ln c] 36) := (World.putObj_heap_other (by have := hxa.size; omega)).trans (World.alloc_heap_new W1 _)
      have hg3 : Got wC w6.heap.size pre (.slice ad1 n1 c1') xs ((W1.alloc (.cells #[.int .u8 k, .int .i64 at', .string q, .bool r, .slice ad' ln c] 36)).putObj l o') := ((hgot.ext hxa (by omega)).ext (Ext.push W1 _) (by omega)).put (by omega) o' hl ho hoc
      have hr3 : ∀ j u, [Value.int .u8 k, .int .i64 at', .string q, .bool r, .slice ad' ln c][j]? = some u → Rel (((W1.alloc (.cells #[.int .u8 k, .int .i64 at', .string q, .bool r, .slice ad' ln c] 36)).putObj l o')) (fun b => W.heap.size ≤ b ∨ b = 1) (x.av.cell j) u := fun j u hj => (hrel5 j u hj).mono fun b hb hF => ⟨hF, (World.putObj_heap_other (by omega)).trans ((Ext.push W1 _).block b hb)⟩
      have hlo := hgot.own_lt
      have hGW : w6.heap.size < W.heap.size := (Array.getElem?_eq_some_iff.1 hgot.box).1
      generalize (W1.alloc (.cells #[.int .u8 k, .int .i64 at', .string q, .bool r, .slice ad' ln c] 36)).putObj l o' = W3 at ha9 hg3 hr3 ⊢
      obtain ⟨c0, c1, c2, c3, c4⟩ := cell5 ha9
      obtain ⟨v1, v2⟩ := cell1 hg3.box
      have hsz := hg3.but.size
      have hone : ∀ y ∈ [Value.int .u8 k, .int .i64 at', .string q, .bool r, .slice ad' ln c], y.oneCell' = true := by simp [Value.oneCell']
      have hg4 := hg3.ext (Ext.push W3 (.cells #[.int .u8 k, .int .i64 at', .string q, .bool r, .slice ad' ln c] 36)) (by omega)
      have hr4 : ∀ j y, [Value.int .u8 k, .int .i64 at', .string q, .bool r, .slice ad' ln c][j]? = some y → Rel (W3.alloc (.cells #[.int .u8 k, .int .i64 at', .string q, .bool r, .slice ad' ln c] 36)) (fun b => W.heap.size ≤ b ∨ b = 1) (x.av.cell j) y := fun j y hj => (hr3 j y hj).mono fun b hb hF => ⟨hF, (Ext.push W3 _).block b hb⟩
      gi_wp2_with (gi_at_builtin; refine wpListIn_append_own_at _ rfl _ _ 23 rfl wC.heap.size 36 i0 _ 5 64 Tryd.underlying23 hi9 hz0 hz1 hz2 rfl (by decide) (.slice ad1 n1 c1') pre.length xs rfl hg4.row ⟨W3.heap.size, 0, none⟩ 1 1 [.int .u8 k, .int .i64 at', .string q, .bool r, .slice ad' ln c] rfl rfl (new5 _ _ _ _ _ _ _) hone (by have : Go.maxLen = 9223372036854775807 := rfl; omega) (by omega) (by simp; omega) ?_; intro v' w5 hown' hgrow _ hv'; obtain ⟨hb5, hgot5, hko5⟩ := Got.append hg4 (by omega) (by omega) (by omega) rfl hone hlo hGW hr4 hown' hgrow hv'; obtain ⟨g', cap', rfl⟩ := ownsRow_succ hown'; obtain ⟨y1, y2⟩ := cell1 hb5)
      exact ⟨(KeepsOthers.alloc W3 _).trans hko5, _, _, hgot5⟩
    case done2 =>
      rintro D2 W7 hD2 ⟨gv2, xs2, hgot2⟩ hk2
      obtain ⟨ad2, n2, c2', rfl⟩ := row_shape hgot2.row
      obtain ⟨v1, v2⟩ := cell1 hgot2.box
      have hk7 := (hgot2.but.block D (by omega) (by omega)).trans hkC
      have hm7 := hgot2.but.cell hmC (show (1 : Nat) ≠ w6.heap.size by omega)
      have hR7 := hgot2.read
      rw [eachW, if_pos hs] at hR7
      have hR8 := hR6.mono (w' := W7) (F' := fun _ => True) fun b hb _ => ⟨trivial, (hgot2.but.block b (by omega) (by omega)).trans (hxC.block b hb)⟩
      have hX7 : Ext w W7 := hgot2.but.toExt (hX6.trans hxC) hww
      gi_wp2_with (refine ⟨trivial, ?_⟩; gi_at_call 25; refine (callsIn_wide.2 (same_calls (mx := mx) _ hpl9' hnm _ _ _ hm7 hR7 hR8)).mono ?_; rintro e w8 ⟨rfl, hx8⟩)
      have hk8 := (hx8.block D2 (Array.getElem?_eq_some_iff.1 hk2).1).trans hk2
      have hk9 := (hx8.block D (Array.getElem?_eq_some_iff.1 hk7).1).trans hk7
      refine ⟨by simp, .inl ⟨_, _, rfl, run_takeDeferred hk8, ?_⟩⟩
      have hDD : D ≠ D2 := by omega
      refine ⟨by simp, .inl ⟨_, _, rfl, run_takeDeferred ((World.putObj_heap_other hDD).trans hk9), ?_⟩⟩
      exact ⟨_, results_tmp rfl _ _ _, rfl, ((hX7.trans hx8).put _ (by omega)).put _ (by omega)⟩
    case stop2 => exact fun _ _ _ _ _ h _ => h.elim
end R3

namespace R3
open Go Go.Proofs Go.RowKit Go.Shelf Sx
variable {mx : Int}
theorem f7_calls (s : ByteArray) (u : UInt8) (w : World) (hm : w.cell? ⟨1, 0, none⟩ = some (.int .i64 mx)) : Calls Tryd.prog 7 #[.string s, .int .u8 (u.toNat : Int)] w fun e w' => e = .returned (.bool true) ∧ Ext w w' := by
  by_cases hs : s.size ≤ 65536
  · exact callsIn_wide.1 (f7_small (mx := mx) s u w hm hs)
  · exact callsIn_wide.1 (f7_big (mx := mx) s u w hm (by omega))
/-- What is told of the law. -/
def G7 (args : List AV) : Option AV :=
  match args with
  | [.s _, .u8 _] => some (.b true)
  | _ => none
theorem cellOf {mx : Int} {C : Cfg} (hgl : C.glob 1 = some (1, .int mx)) {w : World} {F : Nat → Prop} (hG : GlobOk C w F) : w.cell? ⟨1, 0, none⟩ = some (.int .i64 mx) := by
  obtain ⟨r, o, h1, h2, h3, h4⟩ := hG 1 1 _ hgl
  simp only [Value.pointer.injEq, Option.some.injEq, Addr.mk.injEq, Nat.add_zero] at h1
  obtain ⟨v, q1, q2, q3⟩ := h4 0 (by decide)
  obtain ⟨rfl, rfl, _⟩ := h1
  have q3 : Rel w F (.int mx) v := q3
  cases q3
  exact q1
theorem gv7_ok {C : Cfg} {mx : Int} (hgl : C.glob 1 = some (1, .int mx)) (ho : (C.own 7).all Option.isNone = true) (args : List AV) (r : AV) (h : G7 args = some r) (w : World) (F : Nat → Prop) (vs : Array Value) (hG : GlobOk C w F) (hl : vs.size = args.length)
    (hv : ∀ (j : Nat) (a : AV) (v : Value), args[j]? = some a → vs[j]? = some v → Rel w F a v) : CallRuns Tryd.prog 7 vs w (PostOk C 7 w F r) := by
  have hm := cellOf hgl hG
  unfold G7 at h
  split at h
  · rename_i l u
    cases h
    match vs, hl, hv with
    | ⟨[x, y]⟩, _, hv =>
      have hx := hv 0 _ x rfl rfl
      have hy := hv 1 _ y rfl rfl
      cases hy
      cases hx with
      | s q =>
        refine .inl ⟨Tryd.f7, (Tryd.f7.body).getD .skip, Tryd.func7, by kernel_rfl, by kernel_rfl, Calls.mono (f7_calls (mx := mx) q u w hm) fun e w' he => ?_⟩
        obtain ⟨rfl, hx⟩ := he
        refine ⟨_, rfl, hx, ?_⟩
        unfold ResOk
        rw [if_pos ho]
        exact .b true
  · cases h
/-- The tables, with the law told. -/
def C7 (mx : Int) : Cfg := { C mx with gv := fun g => bif Nat.beq g 7 then some G7 else (C mx).gv g }
theorem fns7 (mx : Int) : fnsB (C7 mx) 0 Tryd.prog.funcs.toList = true := by kernel_rfl
theorem gvs7 (mx : Int) : ∀ (g : Nat) (G : List AV → Option AV), (C7 mx).gv g = some G → ((C7 mx).own g).all Option.isNone = true → ∀ (args : List AV) (r : AV), G args = some r → ∀ (w : World) (F : Nat → Prop) (vs : Array Value), GlobOk (C7 mx) w F → vs.size = args.length →
      (∀ (j : Nat) (a : AV) (v : Value), args[j]? = some a → vs[j]? = some v → Rel w F a v) → CallRuns Tryd.prog g vs w (PostOk (C7 mx) g w F r) := by
  intro g G h ho args r hr w F vs hG hl hv
  have h : (bif Nat.beq g 7 then some G7 else (C mx).gv g) = some G := h
  cases h1 : Nat.beq g 7 with
  | true =>
    rw [h1] at h; cases h
    obtain rfl := Nat.eq_of_beq_eq_true h1
    exact gv7_ok (mx := mx) rfl ho args r hr w F vs hG hl hv
  | false =>
    rw [h1] at h
    exact gvs mx g G h ho args r hr w F vs hG hl hv
theorem fit7 (mx : Int) : Fit (C7 mx) Tryd.prog := Fit.of (tab := tyTab) rfl tys (fns7 mx) mixed (ext_of idxs run145) (gvs7 mx)
noncomputable def body7 : Code := Tryd.f7.body.getD .skip
theorem law7 (l : List UInt8) (u : UInt8) : semCall (C7 mx) Tryd.prog 7 [.s l, .u8 u] = some (.b true) :=
  semCall_gv (C := C7 mx) (G := G7) rfl rfl rfl
end R3

namespace R3
open Go Go.Proofs Go.RowKit Go.Shelf Sx
variable {mx : Int}
set_option maxRecDepth 100000 in
set_option maxHeartbeats 4000000 in
theorem f6_big (s : ByteArray) (u : UInt8) (w : World) (hm : w.cell? ⟨1, 0, none⟩ = some (.int .i64 mx)) (hs : 1000 < s.size) :
    CallsIn Fence.wide 8 Tryd.prog 6 #[.string s, .int .u8 (u.toNat : Int)] w fun e w' => e = .returned (.bool true) ∧ Ext w w' := by
  refine callsIn_of_wp_marks Tryd.func6 rfl trivial ?_ rfl
  simp only [Tryd.ntmps6, List.size_toArray, List.length_cons, List.length_nil, Nat.reduceAdd, Nat.reduceSub, Array.replicate_succ, Array.replicate_zero, List.push_toArray, List.append_toArray, List.nil_append, List.cons_append]
  gi_wp2_with (refine ⟨trivial, ?_⟩; gi_at_call 22; first | (refine (callsIn_wide.2 (awake_calls (mx := mx) _ hm)).mono ?_; rintro e w1 ⟨rfl, hx1⟩; have hm1 := ext_cell hx1 hm; clear hm) | (refine (callsIn_wide.2 (awake_calls (mx := mx) _ hm1)).mono ?_; rintro e w2 ⟨rfl, hx2⟩))
  exact ⟨_, results_tmp rfl _ _ _, rfl, hx1.trans hx2⟩
/-- N bytes of one's own, behind w1. -/
structure Bs (w1 : World) (N : Nat) (W : World) : Prop where
  ext : Ext w1 W
  row : ∃ ns : List Int, ns.length = N ∧ W.heap[w1.heap.size]? = some (.cells (ns.map (Value.int .u8)).toArray 5)
theorem Bs.start (w1 : World) (N : Nat) : Bs w1 N (w1.alloc (.cells (madeCells #[.int .u8 0] N) 5)) :=
  ⟨Ext.push w1 _, List.replicate N 0, List.length_replicate, (World.alloc_heap_new w1 _).trans (by
    congr 2
    apply Array.toList_inj.1
    rw [toList_madeCells_one, List.map_replicate])⟩
theorem Bs.at' {w1 : World} {N : Nat} {W : World} (h : Bs w1 N W) {i : Nat} (hi : i < N) : ∃ b : Int, W.cell? ⟨w1.heap.size, i, none⟩ = some (.int .u8 b) ∧ W.frozen? ⟨w1.heap.size, i, none⟩ = false := by
  obtain ⟨_, ns, hn, hr⟩ := h
  refine ⟨ns[i]'(by omega), ?_, ?_⟩
  · simp [World.cell?, hr, hn, hi]
  · simp [World.frozen?, hr]
theorem Bs.set {w1 : World} {N : Nat} {W : World} (h : Bs w1 N W) (i : Nat) (b : Int) : Bs w1 N (W.setCell ⟨w1.heap.size, i, none⟩ (.int .u8 b)) := by
  obtain ⟨hx, ns, hn, hr⟩ := h
  refine ⟨⟨hx.os, hx.tape, hx.output, by rw [set_size]; exact hx.size, fun k hk => (set_other (show k ≠ w1.heap.size by omega)).trans (hx.block k hk)⟩, ns.set i b, by rw [List.length_set]; exact hn, ?_⟩
  obtain ⟨hlt, hk⟩ := Array.getElem?_eq_some_iff.1 hr
  show (W.heap.modify w1.heap.size _)[w1.heap.size]? = _
  rw [Array.getElem?_eq_getElem (by rw [Array.size_modify]; exact hlt), Array.getElem_modify_self, hk]
  simp [List.map_set]
theorem foldl_push_size : ∀ (ns : List Int) (t : ByteArray), (ns.foldl (fun r n => r.push (UInt8.ofNat n.toNat)) t).size = t.size + ns.length
  | [], t => rfl
  | n :: ns, t => by
    rw [List.foldl_cons, foldl_push_size ns]
    simp
    omega
theorem Bs.text {w1 : World} {N : Nat} {W : World} (h : Bs w1 N W) : ∃ t : ByteArray, t.size = N ∧ Sem.run Tryd.prog (convert 38 9 (.slice (some ⟨w1.heap.size, 0, none⟩) N N)) W = .ok (.string t) W := by
  obtain ⟨hx, ns, hn, hr⟩ := h
  refine ⟨_, ?_, (run_convert_bytes_string (P := Tryd.prog) W 38 9 5 _ _ _ Tryd.underlying38 Tryd.underlying5 Tryd.underlying9).trans (run_bytesToString W ⟨w1.heap.size, 0, none⟩ N N ns ?_)⟩
  · rw [foldl_push_size]; simp [hn]
  · have := run_loadCells_list (P := Tryd.prog) W ⟨w1.heap.size, 0, none⟩ (ns.map (Value.int .u8)) (fun j v hv => by
      have hadd : (⟨w1.heap.size, 0, none⟩ : Addr).add j = ⟨w1.heap.size, j, none⟩ := by unfold Addr.add; split <;> simp_all
      rw [hadd, cell_of_row _ _ j _ 5 (0, 0) hr]
      simpa using hv)
    rw [List.length_map, hn] at this
    exact this
/-- What lex.All answers: how many words, where, which error. -/
def lexOut (s : ByteArray) : Nat × Int × Int := if s.size > 65536 then (0, 0, 2) else if 0 ≤ (wordsW s.data.toList).2 then (0, (wordsW s.data.toList).2, 4) else ((wordsW s.data.toList).1.length, 0, 0)
theorem rel3 {w : World} {F : Nat → Prop} {a : AV} {p q : Int} {v : Value} (h : Rel w F (.tu [a, .int p, .int q]) v) : ∃ x, v = .tuple #[x, .int .i64 p, .int .i64 q] ∧ Rel w F a x := by
  cases h with
  | tu _ vs hl hj =>
    match vs, hl, hj with
    | [v0, v1, v2], _, hj =>
      have h0 := hj 0 v0 rfl
      have h1 := hj 1 v1 rfl
      have h2 := hj 2 v2 rfl
      simp only [List.getD_cons_zero, List.getD_cons_succ] at h0 h1 h2
      cases h1; cases h2
      exact ⟨v0, rfl, h0⟩
theorem lexall_calls (s : ByteArray) (W : World) (hm : W.cell? ⟨1, 0, none⟩ = some (.int .i64 mx)) : Calls Tryd.prog 23 #[.string s] W fun e W' =>
    ∃ (ad : Option Addr) (c : Nat), e = .returned (.tuple #[.slice ad (lexOut s).1 c, .int .i64 (lexOut s).2.1, .int .i64 (lexOut s).2.2]) ∧ Ext W W' ∧
      ((lexOut s).2.2 = 0 → Rel W' (fun _ => True) (.ro 5 ((wordsW s.data.toList).1.map Wd.av)) (.slice ad (lexOut s).1 c)) := by
  refine Calls.mono (calls_sem (fit mx) (c := Tryd.f23.body.getD .skip) Tryd.func23 (by kernel_rfl) (s23 (mx := mx) s.data.toList) (by kernel_rfl) W (fun b => b = 1) #[.string s] (globOk1 hm) rfl (arg1 (.s s))) fun e w' he => ?_
  obtain ⟨v, rfl, hx, hr⟩ := he
  unfold ResOk at hr
  rw [if_pos (by kernel_rfl)] at hr
  replace hr : Rel w' (fun _ => True) (allAV s.data.toList) v := hr.mono fun _ _ _ => ⟨trivial, rfl⟩
  have hlen : s.data.toList.length = s.size := rfl
  unfold allAV at hr
  rw [hlen] at hr
  unfold lexOut
  by_cases h1 : s.size > 65536
  · rw [if_pos h1] at hr ⊢
    obtain ⟨x, rfl, h0⟩ := rel3 hr
    cases h0
    exact ⟨none, 0, rfl, hx, fun e => by simp at e⟩
  · rw [if_neg h1] at hr ⊢
    by_cases h2 : 0 ≤ (wordsW s.data.toList).2
    · rw [if_pos h2] at hr ⊢
      obtain ⟨x, rfl, h0⟩ := rel3 hr
      cases h0
      exact ⟨none, 0, rfl, hx, fun e => by simp at e⟩
    · rw [if_neg h2] at hr ⊢
      obtain ⟨x, rfl, h0⟩ := rel3 hr
      obtain ⟨ad, c, rfl, hc⟩ := rel_ro_shape h0
      rw [List.length_map] at h0 ⊢
      exact ⟨ad, c, rfl, hx, fun _ => h0⟩
end R3

namespace R3
open Go Go.Proofs Go.RowKit Go.Shelf Sx
variable {mx : Int}
/-- **A range over lex.Each that keeps no word.** -/
theorem range_each0 {g : Operand} {p : Tmp} {body : Code} {Q : Exit → Act → World → Prop} {a : Act} {w : World} {n : Nat} (hn : 5 ≤ n) {B : Nat} {s : ByteArray} (hs : s.size ≤ 1000000000)
    (hg : a.eval g = .func (.func 58) #[] #[.pointer (some ⟨B, 0, none⟩)])
    (I : List Wd → World → Prop)
    (hB : ∀ pre W, I pre W → W.cell? ⟨B, 0, none⟩ = some (.string s))
    (hm : ∀ pre W, I pre W → W.cell? ⟨1, 0, none⟩ = some (.int .i64 mx)) (hE : ∀ pre W W', I pre W → Ext W W' → I pre W')
    (hput : ∀ (pre : List Wd) (W : World) (l : Nat) (o o' : Obj), w.heap.size ≤ l → W.heap[l]? = some o → o.isCells = false → I pre W → I pre (W.putObj l o'))
    (hbody : ∀ (l : Nat) (pre : List Wd) (x : Wd) (W : World) (v : Value), w.heap.size ≤ l → I pre W → pre ++ [x] <+: eachW s →
      body.wpIn (Fence.wide.inRound l) (n - 1 - 1 - 1) Tryd.prog (ownPostX 0 (I (pre ++ [x])) (fun _ => False) W) { tmps := ((#[p] : Array Tmp).zip #[v]).foldl (fun t (p, v) => t.setIfInBounds p v) a.tmps, defers := [] } W)
    (h0 : I [] w)
    (hdone : ∀ (D : Nat) (W : World), w.heap.size ≤ D → I (eachW s) W → W.heap[D]? = some (.deferred (some [])) → Q .normal { a with defers := { target := .collected D, args := #[] } :: a.defers } W) :
    (Code.rangeFunc g #[p] .skip body).wpIn Fence.wide n Tryd.prog Q a w :=
  range_each (mx := mx) hn hs hg 0 I (fun _ _ => False) hB hm hE hput (fun pre W l o o' hl ho hc h => h)
    (fun v W a' W' => W' = W ∧ a' = { tmps := ((#[p] : Array Tmp).zip #[v]).foldl (fun t (p, v) => t.setIfInBounds p v) a.tmps, defers := [] })
    (fun v W a' W' h => by rw [h.1]; exact Ext.refl _)
    (fun l pre x F v W K hpre hrel hK => wpIn_skip (hK _ _ ⟨rfl, rfl⟩))
    (fun l pre x W W1 W2 v a' o o' hl hlt hi hpre hxa hrel hax ho hoc => by
      obtain ⟨rfl, rfl⟩ := hax
      exact hbody l pre x _ v hl (hput _ _ _ _ _ hl ho hoc (hE _ _ _ hi hxa)) hpre)
    h0 hdone (fun D pre W _ _ h _ => h.elim)
theorem eachW_len (s : ByteArray) : (eachW s).length ≤ 65536 := by
  unfold eachW
  split
  · have := wordsF_len (s.data.toList.length + 1) s.data.toList 0 []
    have e : s.data.toList.length = s.size := rfl
    simp only [List.length_nil] at this
    unfold wordsW
    omega
  · simp
theorem info5 : (Tryd.prog.info? 5).map (fun i => (i.zero, i.size, i.bytes)) = some (some (.int .u8 0), 1, 1) := by kernel_rfl
theorem mk_bytes (N : Nat) (hN : N ≤ 100000) (W : World) : Sem.run Tryd.prog (Instr.makeSlice 38 (.int .i64 (N : Int)) (.int .i64 (N : Int))) W = .ok (.slice (some ⟨W.heap.size, 0, none⟩) N N) (W.alloc (.cells (madeCells #[.int .u8 0] N) 5)) := by
  obtain ⟨i0, hi, hz0, hz1, hz2⟩ := info_parts info5
  have := run_makeSlice (P := Tryd.prog) W 38 5 i0 (.int .u8 0) Tryd.underlying38 hi hz0 .i64 .i64 N N (by omega) (by omega) (by rw [hz1]; omega) (by rw [hz2]; omega) (by omega)
  rw [hz1, Int.toNat_natCast, Nat.mul_one] at this
  exact this
set_option maxRecDepth 100000 in
set_option maxHeartbeats 4000000 in
theorem f6_small (s : ByteArray) (u : UInt8) (w : World) (hm : w.cell? ⟨1, 0, none⟩ = some (.int .i64 mx)) (hs : s.size ≤ 1000) :
    CallsIn Fence.wide 8 Tryd.prog 6 #[.string s, .int .u8 (u.toNat : Int)] w fun e w' => e = .returned (.bool true) ∧ Ext w w' := by
  have hul : u.toNat < 256 := u.toNat_lt
  have ht3 : ((u.toNat : Nat) : Int).tmod 3 = ((u.toNat % 3 : Nat) : Int) := (Int.ofNat_tmod _ 3).symm
  have hr3 : u.toNat % 3 < 3 := Nat.mod_lt _ (by decide)
  obtain ⟨N, hN, hNl⟩ : ∃ N : Nat, 65536 - (s.size : Int) + (u.toNat : Int) % 3 - 1 = (N : Int) ∧ N ≤ 65537 := ⟨65535 - s.size + u.toNat % 3, by omega, by omega⟩
  have hmk := mk_bytes N (by omega)
  refine callsIn_of_wp_marks Tryd.func6 rfl trivial ?_ rfl
  simp only [Tryd.ntmps6, List.size_toArray, List.length_cons, List.length_nil, Nat.reduceAdd, Nat.reduceSub, Array.replicate_succ, Array.replicate_zero, List.push_toArray, List.append_toArray, List.nil_append, List.cons_append]
  gi_wp2_with (first
    | (refine ⟨trivial, ?_⟩; gi_at_call 22; refine (callsIn_wide.2 (awake_calls (mx := mx) _ hm)).mono ?_; rintro e w1 ⟨rfl, hx1⟩; have hm1 := ext_cell hx1 hm))
  gi_loopw [7] (fun vi wr => ∃ i : Nat, vi = .int .i64 (i : Int) ∧ i ≤ N ∧ Bs w1 N wr) (fun vi wr => N - (match vi with | .int _ a => a.toNat | _ => 0))
  case atStart => exact ⟨0, rfl, Nat.zero_le _, Bs.start w1 N⟩
  case round =>
    obtain ⟨i, rfl, hi, hbs⟩ := hrel
    by_cases hlt : i < N
    · obtain ⟨b, hb1, hb2⟩ := hbs.at' hlt
      gi_wp2
      exact ⟨⟨i + 1, congrArg (Value.int .i64) (by omega), by omega, hbs.set i 97⟩, by show _ - Int.toNat _ < _ - Int.toNat _; omega⟩
    · obtain ⟨t0, ht0, htx⟩ := hbs.text
      have hiN : i = N := by omega
      have hmr := ext_cell hbs.ext hm1
      obtain ⟨T, hT⟩ : ∃ T, t0 ++ s = T := ⟨_, rfl⟩
      have hTl : T.size ≤ 70000 := by rw [← hT, ByteArray.size_append]; omega
      by_cases hT1 : T.size > 65536
      · -- too long
        have hlo : lexOut T = (0, 0, 2) := by unfold lexOut; rw [if_pos hT1]
        have hew : (eachW T).length = 0 := by unfold eachW; rw [if_neg (by omega)]; rfl
        gi_wp2_with (first
          | (refine ⟨trivial, ?_⟩; gi_at_call 23; refine (callsIn_wide.2 (lexall_calls (mx := mx) T _ hmr)).mono ?_; rintro e w2 ⟨ad, c, rfl, hx2, hr2⟩; have hm2 := ext_cell hx2 hmr; rw [hlo])
          | (refine ⟨trivial, ?_⟩; gi_at_call 26; refine (each_in _ _ _).mono ?_; rintro e w' ⟨rfl, hw⟩; rw [hw]))
        rw [hlo] at hr2
        obtain ⟨wB, hwB⟩ : ∃ wB, (w2.alloc (.cells #[.int .i64 0] 3)).alloc (.cells #[.string T] 9) = wB := ⟨_, rfl⟩
        rw [hwB]
        have hBs : wB.heap.size = w2.heap.size + 2 := by rw [← hwB]; simp
        have hxB : Ext w2 wB := by rw [← hwB]; exact (Ext.push w2 _).trans (Ext.push _ _)
        have hmB := ext_cell hxB hm2
        have h1w : 1 < w2.heap.size := cell_lt hm2
        have hMM : wB.heap[w2.heap.size]? = some (.cells #[.int .i64 0] 3) := by rw [← hwB]; exact (al_old' (by simp)).trans (World.alloc_heap_new w2 _)
        have hBB : wB.cell? ⟨w2.heap.size + 1, 0, none⟩ = some (.string T) := (cell1 (by rw [← hwB]; exact al_new' (by simp))).1
        have hX2 : Ext w w2 := hx1.trans (hbs.ext.trans hx2)
        refine range_each0 (mx := mx) (by decide) (B := w2.heap.size + 1) (s := T) (by omega) rfl
          (fun pre W => But wB w2.heap.size W ∧ W.heap[w2.heap.size]? = some (.cells #[.int .i64 (pre.length : Int)] 3))
          (fun pre W h => h.1.cell hBB (show w2.heap.size + 1 ≠ w2.heap.size by omega)) (fun pre W h => h.1.cell hmB (show (1 : Nat) ≠ w2.heap.size by omega))
          (fun pre W W' h hx => ⟨h.1.ext hx, (hx.block _ (Array.getElem?_eq_some_iff.1 h.2).1).trans h.2⟩)
          (fun pre W l o o' hl ho hc h => ⟨h.1.put o' hl, (World.putObj_heap_other (by omega)).trans h.2⟩) ?body ⟨But.refl _ _, hMM⟩ ?done
        case body =>
          rintro l pre x W v hl ⟨hb, hM⟩ hpre
          have hsem := @Oper.semAt_some
          obtain ⟨v1, v2⟩ := cell1 hM
          have hp1 : pre.length + 1 ≤ 70000 := by
            have q1 := hpre.length_le
            have q2 := eachW_len T
            simp only [List.length_append, List.length_cons, List.length_nil] at q1
            omega
          gi_wp2
          exact ⟨KeepsOthers.setCell _ _ _, hb.set 0 _, set_only _ hM⟩
        case done =>
          rintro D W hD ⟨hb, hM⟩ hk
          rw [hew] at hM
          obtain ⟨v1, v2⟩ := cell1 hM
          have hm3 := hb.cell hmB (show (1 : Nat) ≠ w2.heap.size by omega)
          have hX3 : Ext w W := hb.toExt (hX2.trans hxB) hX2.size
          have hk0 := (Array.getElem?_eq_some_iff.1 hk).1
          gi_wp2_with (first
            | (refine ⟨trivial, ?_⟩; gi_at_call 24; refine (callsIn_wide.2 (all_calls (mx := mx) T (by omega) _ hm3)).mono ?_; rintro e w3 ⟨ad', c', rfl, hx3, hc', hr3⟩; have hm4 := ext_cell hx3 hm3; have v3 := ext_cell hx3 v1; have hk3 := (hx3.block D hk0).trans hk))
          have hw2 := hX2.size
          refine ⟨by simp, .inl ⟨_, _, rfl, run_takeDeferred hk3, ?_⟩⟩
          exact ⟨_, results_tmp rfl _ _ _, rfl, (hX3.trans hx3).put _ (by omega)⟩
      · by_cases hpl : 0 ≤ (wordsW T.data.toList).2
        · -- at fault
          have hlo : lexOut T = (0, (wordsW T.data.toList).2, 4) := by unfold lexOut; rw [if_neg (by omega), if_pos hpl]
          have hew : (eachW T).length = (wordsW T.data.toList).1.length := by unfold eachW; rw [if_pos (by omega)]
          gi_wp2_with (first
            | (refine ⟨trivial, ?_⟩; gi_at_call 23; refine (callsIn_wide.2 (lexall_calls (mx := mx) T _ hmr)).mono ?_; rintro e w2 ⟨ad, c, rfl, hx2, hr2⟩; have hm2 := ext_cell hx2 hmr; rw [hlo])
            | (refine ⟨trivial, ?_⟩; gi_at_call 26; refine (each_in _ _ _).mono ?_; rintro e w' ⟨rfl, hw⟩; rw [hw]))
          rw [hlo] at hr2
          obtain ⟨wB, hwB⟩ : ∃ wB, (w2.alloc (.cells #[.int .i64 0] 3)).alloc (.cells #[.string T] 9) = wB := ⟨_, rfl⟩
          rw [hwB]
          have hBs : wB.heap.size = w2.heap.size + 2 := by rw [← hwB]; simp
          have hxB : Ext w2 wB := by rw [← hwB]; exact (Ext.push w2 _).trans (Ext.push _ _)
          have hmB := ext_cell hxB hm2
          have h1w : 1 < w2.heap.size := cell_lt hm2
          have hMM : wB.heap[w2.heap.size]? = some (.cells #[.int .i64 0] 3) := by rw [← hwB]; exact (al_old' (by simp)).trans (World.alloc_heap_new w2 _)
          have hBB : wB.cell? ⟨w2.heap.size + 1, 0, none⟩ = some (.string T) := (cell1 (by rw [← hwB]; exact al_new' (by simp))).1
          have hX2 : Ext w w2 := hx1.trans (hbs.ext.trans hx2)
          refine range_each0 (mx := mx) (by decide) (B := w2.heap.size + 1) (s := T) (by omega) rfl
            (fun pre W => But wB w2.heap.size W ∧ W.heap[w2.heap.size]? = some (.cells #[.int .i64 (pre.length : Int)] 3))
            (fun pre W h => h.1.cell hBB (show w2.heap.size + 1 ≠ w2.heap.size by omega)) (fun pre W h => h.1.cell hmB (show (1 : Nat) ≠ w2.heap.size by omega))
            (fun pre W W' h hx => ⟨h.1.ext hx, (hx.block _ (Array.getElem?_eq_some_iff.1 h.2).1).trans h.2⟩)
            (fun pre W l o o' hl ho hc h => ⟨h.1.put o' hl, (World.putObj_heap_other (by omega)).trans h.2⟩) ?body ⟨But.refl _ _, hMM⟩ ?done
          case body =>
            rintro l pre x W v hl ⟨hb, hM⟩ hpre
            have hsem := @Oper.semAt_some
            obtain ⟨v1, v2⟩ := cell1 hM
            have hp1 : pre.length + 1 ≤ 70000 := by
              have q1 := hpre.length_le
              have q2 := eachW_len T
              simp only [List.length_append, List.length_cons, List.length_nil] at q1
              omega
            gi_wp2
            exact ⟨KeepsOthers.setCell _ _ _, hb.set 0 _, set_only _ hM⟩
          case done =>
            rintro D W hD ⟨hb, hM⟩ hk
            rw [hew] at hM
            obtain ⟨v1, v2⟩ := cell1 hM
            have hm3 := hb.cell hmB (show (1 : Nat) ≠ w2.heap.size by omega)
            have hX3 : Ext w W := hb.toExt (hX2.trans hxB) hX2.size
            have hk0 := (Array.getElem?_eq_some_iff.1 hk).1
            gi_wp2_with (first
              | (refine ⟨trivial, ?_⟩; gi_at_call 24; refine (callsIn_wide.2 (all_calls (mx := mx) T (by omega) _ hm3)).mono ?_; rintro e w3 ⟨ad', c', rfl, hx3, hc', hr3⟩; have hm4 := ext_cell hx3 hm3; have v3 := ext_cell hx3 v1; have hk3 := (hx3.block D hk0).trans hk))
            have hw2 := hX2.size
            refine ⟨by simp, .inl ⟨_, _, rfl, run_takeDeferred hk3, ?_⟩⟩
            exact ⟨_, results_tmp rfl _ _ _, rfl, (hX3.trans hx3).put _ (by omega)⟩
        · -- all is well
          have hlo : lexOut T = ((wordsW T.data.toList).1.length, 0, 0) := by unfold lexOut; rw [if_neg (by omega), if_neg (by omega)]
          have hew : (eachW T).length = (wordsW T.data.toList).1.length := by unfold eachW; rw [if_pos (by omega)]
          gi_wp2_with (first
            | (refine ⟨trivial, ?_⟩; gi_at_call 23; refine (callsIn_wide.2 (lexall_calls (mx := mx) T _ hmr)).mono ?_; rintro e w2 ⟨ad, c, rfl, hx2, hr2⟩; have hm2 := ext_cell hx2 hmr; rw [hlo])
            | (refine ⟨trivial, ?_⟩; gi_at_call 26; refine (each_in _ _ _).mono ?_; rintro e w' ⟨rfl, hw⟩; rw [hw]))
          rw [hlo] at hr2
          obtain ⟨wB, hwB⟩ : ∃ wB, (w2.alloc (.cells #[.int .i64 0] 3)).alloc (.cells #[.string T] 9) = wB := ⟨_, rfl⟩
          rw [hwB]
          have hBs : wB.heap.size = w2.heap.size + 2 := by rw [← hwB]; simp
          have hxB : Ext w2 wB := by rw [← hwB]; exact (Ext.push w2 _).trans (Ext.push _ _)
          have hmB := ext_cell hxB hm2
          have h1w : 1 < w2.heap.size := cell_lt hm2
          have hMM : wB.heap[w2.heap.size]? = some (.cells #[.int .i64 0] 3) := by rw [← hwB]; exact (al_old' (by simp)).trans (World.alloc_heap_new w2 _)
          have hBB : wB.cell? ⟨w2.heap.size + 1, 0, none⟩ = some (.string T) := (cell1 (by rw [← hwB]; exact al_new' (by simp))).1
          have hX2 : Ext w w2 := hx1.trans (hbs.ext.trans hx2)
          refine range_each0 (mx := mx) (by decide) (B := w2.heap.size + 1) (s := T) (by omega) rfl
            (fun pre W => But wB w2.heap.size W ∧ W.heap[w2.heap.size]? = some (.cells #[.int .i64 (pre.length : Int)] 3))
            (fun pre W h => h.1.cell hBB (show w2.heap.size + 1 ≠ w2.heap.size by omega)) (fun pre W h => h.1.cell hmB (show (1 : Nat) ≠ w2.heap.size by omega))
            (fun pre W W' h hx => ⟨h.1.ext hx, (hx.block _ (Array.getElem?_eq_some_iff.1 h.2).1).trans h.2⟩)
            (fun pre W l o o' hl ho hc h => ⟨h.1.put o' hl, (World.putObj_heap_other (by omega)).trans h.2⟩) ?body ⟨But.refl _ _, hMM⟩ ?done
          case body =>
            rintro l pre x W v hl ⟨hb, hM⟩ hpre
            have hsem := @Oper.semAt_some
            obtain ⟨v1, v2⟩ := cell1 hM
            have hp1 : pre.length + 1 ≤ 70000 := by
              have q1 := hpre.length_le
              have q2 := eachW_len T
              simp only [List.length_append, List.length_cons, List.length_nil] at q1
              omega
            gi_wp2
            exact ⟨KeepsOthers.setCell _ _ _, hb.set 0 _, set_only _ hM⟩
          case done =>
            rintro D W hD ⟨hb, hM⟩ hk
            rw [hew] at hM
            obtain ⟨v1, v2⟩ := cell1 hM
            have hm3 := hb.cell hmB (show (1 : Nat) ≠ w2.heap.size by omega)
            have hX3 : Ext w W := hb.toExt (hX2.trans hxB) hX2.size
            have hk0 := (Array.getElem?_eq_some_iff.1 hk).1
            have hRW := (hr2 rfl).mono (w' := W) (F' := fun _ => True) fun b hb' _ => ⟨trivial, (hb.block b (by omega) (by omega)).trans (hxB.block b hb')⟩
            have hnm := eachW_nm T
            rw [eachW, if_pos (by omega)] at hnm
            have hwl := eachW_len T
            rw [eachW, if_pos (by omega)] at hwl
            gi_wp2_with (first
              | (refine ⟨trivial, ?_⟩; gi_at_call 24; refine (callsIn_wide.2 (all_calls (mx := mx) T (by omega) _ hm3)).mono ?_; rintro e w3 ⟨ad', c', rfl, hx3, hc', hr3⟩; have hm4 := ext_cell hx3 hm3; have v3 := ext_cell hx3 v1; have hk3 := (hx3.block D hk0).trans hk; have hR3 := hRW.mono (w' := w3) (F' := fun _ => True) fun b hb' _ => ⟨trivial, hx3.block b hb'⟩)
              | (refine ⟨trivial, ?_⟩; gi_at_call 25; refine (callsIn_wide.2 (same_calls (mx := mx) _ (by omega) hnm _ _ _ hm4 hR3 hr3)).mono ?_; rintro e w4 ⟨rfl, hx4⟩; have v4 := ext_cell hx4 v3; have hk4 := (hx4.block D (Array.getElem?_eq_some_iff.1 hk3).1).trans hk3))
            have hw2 := hX2.size
            refine ⟨by simp, .inl ⟨_, _, rfl, run_takeDeferred hk4, ?_⟩⟩
            exact ⟨_, results_tmp rfl _ _ _, rfl, ((hX3.trans hx3).trans hx4).put _ (by omega)⟩
end R3

namespace R3
open Go Go.Proofs Go.RowKit Go.Shelf Sx
variable {mx : Int}
theorem f6_calls (s : ByteArray) (u : UInt8) (w : World) (hm : w.cell? ⟨1, 0, none⟩ = some (.int .i64 mx)) : Calls Tryd.prog 6 #[.string s, .int .u8 (u.toNat : Int)] w fun e w' => e = .returned (.bool true) ∧ Ext w w' := by
  by_cases hs : s.size ≤ 1000
  · exact callsIn_wide.1 (f6_small (mx := mx) s u w hm hs)
  · exact callsIn_wide.1 (f6_big (mx := mx) s u w hm (by omega))
theorem gv6_ok {C : Cfg} {mx : Int} (hgl : C.glob 1 = some (1, .int mx)) (ho : (C.own 6).all Option.isNone = true) (args : List AV) (r : AV) (h : G7 args = some r) (w : World) (F : Nat → Prop) (vs : Array Value) (hG : GlobOk C w F) (hl : vs.size = args.length)
    (hv : ∀ (j : Nat) (a : AV) (v : Value), args[j]? = some a → vs[j]? = some v → Rel w F a v) : CallRuns Tryd.prog 6 vs w (PostOk C 6 w F r) := by
  have hm := cellOf hgl hG
  unfold G7 at h
  split at h
  · rename_i l u
    cases h
    match vs, hl, hv with
    | ⟨[x, y]⟩, _, hv =>
      have hx := hv 0 _ x rfl rfl
      have hy := hv 1 _ y rfl rfl
      cases hy
      cases hx with
      | s q =>
        refine .inl ⟨Tryd.f6, (Tryd.f6.body).getD .skip, Tryd.func6, by kernel_rfl, by kernel_rfl, Calls.mono (f6_calls (mx := mx) q u w hm) fun e w' he => ?_⟩
        obtain ⟨rfl, hx⟩ := he
        refine ⟨_, rfl, hx, ?_⟩
        unfold ResOk
        rw [if_pos ho]
        exact .b true
  · cases h
/-- The tables, with the law told. -/
def C6 (mx : Int) : Cfg := { C mx with gv := fun g => bif Nat.beq g 6 then some G7 else (C mx).gv g }
theorem fns6 (mx : Int) : fnsB (C6 mx) 0 Tryd.prog.funcs.toList = true := by kernel_rfl
theorem gvs6 (mx : Int) : ∀ (g : Nat) (G : List AV → Option AV), (C6 mx).gv g = some G → ((C6 mx).own g).all Option.isNone = true → ∀ (args : List AV) (r : AV), G args = some r → ∀ (w : World) (F : Nat → Prop) (vs : Array Value), GlobOk (C6 mx) w F → vs.size = args.length →
      (∀ (j : Nat) (a : AV) (v : Value), args[j]? = some a → vs[j]? = some v → Rel w F a v) → CallRuns Tryd.prog g vs w (PostOk (C6 mx) g w F r) := by
  intro g G h ho args r hr w F vs hG hl hv
  have h : (bif Nat.beq g 6 then some G7 else (C mx).gv g) = some G := h
  cases h1 : Nat.beq g 6 with
  | true =>
    rw [h1] at h; cases h
    obtain rfl := Nat.eq_of_beq_eq_true h1
    exact gv6_ok (mx := mx) rfl ho args r hr w F vs hG hl hv
  | false =>
    rw [h1] at h
    exact gvs mx g G h ho args r hr w F vs hG hl hv
theorem fit6 (mx : Int) : Fit (C6 mx) Tryd.prog := Fit.of (tab := tyTab) rfl tys (fns6 mx) mixed (ext_of idxs run145) (gvs6 mx)
noncomputable def body6 : Code := Tryd.f6.body.getD .skip
theorem law6 (l : List UInt8) (u : UInt8) : semCall (C6 mx) Tryd.prog 6 [.s l, .u8 u] = some (.b true) :=
  semCall_gv (C := C6 mx) (G := G7) rfl rfl rfl
end R3
