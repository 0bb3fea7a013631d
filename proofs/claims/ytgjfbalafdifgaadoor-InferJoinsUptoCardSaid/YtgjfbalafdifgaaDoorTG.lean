/-
  A part of InferJoins's proof: an evaluator of translated functions over plain data, what functions of this seat come to, and laws on plain data.
-/
import Derived.Test.YtgjfbalafdifgaaDoorTF
import Derived.Test.YtgjfbalafdifgaaDoorProg
import Derived.Test.YtgjfbalafdifgaaDoorTC
import Derived.Test.YtgjfbalafdifgaaDoorRows
set_option linter.unusedVariables false
set_option linter.unusedSimpArgs false
set_option linter.unusedSectionVars false
set_option linter.unnecessarySimpa false
namespace R3
open Go Go.Proofs Sx
namespace Ts
def up (k : Nat) : Ts → Ts
 | nil => nil
 | leaf w t => leaf (w.up k) (up k t)
 | blk w b e t => blk (w.up k) (up k b) (e.up k) (up k t)
 | alt w b l c e t => alt (w.up k) (up k b) (l.up k) (up k c) (e.up k) (up k t)
theorem up_flat (k : Nat) : ∀ t : Ts, (t.up k).flat = t.flat.map (Wd.up k)
 | nil => rfl
 | leaf w t => by simp [up, flat, up_flat k t]
 | blk w b e t => by simp [up, flat, up_flat k t, up_flat k b]
 | alt w b l c e t => by simp [up, flat, up_flat k t, up_flat k b, up_flat k c]
theorem up_depth (k : Nat) : ∀ t : Ts, (t.up k).depth = t.depth
 | nil => rfl
 | leaf w t => by simp [up, depth, up_depth k t]
 | blk w b e t => by simp [up, depth, up_depth k t, up_depth k b]
 | alt w b l c e t => by simp [up, depth, up_depth k t, up_depth k b, up_depth k c]
theorem up_ok (k : Nat) : ∀ t : Ts, t.ok → (t.up k).ok
 | nil, _ => trivial
 | leaf w t, h => ⟨h.1, up_ok k t h.2⟩
 | blk w b e t, h => ⟨h.1, h.2.1, up_ok k b h.2.2.1, up_ok k t h.2.2.2⟩
 | alt w b l c e t, h => ⟨h.1, h.2.1, h.2.2.1, up_ok k b h.2.2.2.1, up_ok k c h.2.2.2.2.1, up_ok k t h.2.2.2.2.2⟩
theorem flat_nil : ∀ {t : Ts}, t.flat = [] → t = nil
 | nil, _ => rfl
 | leaf w t, h => by simp [flat] at h
 | blk w b e t, h => by simp [flat] at h
 | alt w b l c e t, h => by simp [flat] at h
theorem last_leaf : ∀ (t : Ts) (W : List Wd) (w : Wd), t.ok → t.flat = W ++ [w] → w.kind ≠ 5 → ∃ s : Ts, t = s.app (leaf w nil) ∧ s.flat = W
 | nil, W, w, _, h, _ => by simp [flat] at h
 | leaf x k, W, w, ho, h, hw => by
  rcases List.eq_nil_or_concat k.flat with e | ⟨K, y, e⟩
  ·obtain rfl := flat_nil e
   have h : [] ++ [x] = W ++ [w] := h
   obtain ⟨rfl, h2⟩ := List.append_inj' h rfl
   cases h2
   exact ⟨nil, rfl, rfl⟩
  ·rw [List.concat_eq_append] at e
   have h : x :: k.flat = W ++ [w] := h
   rw [e, ← List.cons_append] at h
   obtain ⟨rfl, h2⟩ := List.append_inj' h rfl
   cases h2
   obtain ⟨s, rfl, hs⟩ := last_leaf k K w ho.2 e hw
   exact ⟨leaf x s, rfl, by simp [flat, hs]⟩
 | blk x b e' k, W, w, ho, h, hw => by
  rcases List.eq_nil_or_concat k.flat with e | ⟨K, y, e⟩
  ·have h : x :: (b.flat ++ e' :: k.flat) = W ++ [w] := h
   rw [e, ← List.cons_append] at h
   obtain ⟨_, h2⟩ := List.append_inj' h rfl
   cases h2
   exact absurd ho.2.1 hw
  ·rw [List.concat_eq_append] at e
   have h : x :: (b.flat ++ e' :: k.flat) = W ++ [w] := h
   rw [e, show x :: (b.flat ++ e' :: (K ++ [y])) = (x :: (b.flat ++ e' :: K)) ++ [y] by simp] at h
   obtain ⟨rfl, h2⟩ := List.append_inj' h rfl
   cases h2
   obtain ⟨s, rfl, hs⟩ := last_leaf k K w ho.2.2.2 e hw
   exact ⟨blk x b e' s, rfl, by simp [flat, hs]⟩
 | alt x b l c e' k, W, w, ho, h, hw => by
  rcases List.eq_nil_or_concat k.flat with e | ⟨K, y, e⟩
  ·have h : x :: (b.flat ++ l :: (c.flat ++ e' :: k.flat)) = W ++ [w] := h
   rw [e, show x :: (b.flat ++ l :: (c.flat ++ [e'])) = (x :: (b.flat ++ l :: c.flat)) ++ [e'] by simp] at h
   obtain ⟨_, h2⟩ := List.append_inj' h rfl
   cases h2
   exact absurd ho.2.2.1 hw
  ·rw [List.concat_eq_append] at e
   have h : x :: (b.flat ++ l :: (c.flat ++ e' :: k.flat)) = W ++ [w] := h
   rw [e, show x :: (b.flat ++ l :: (c.flat ++ e' :: (K ++ [y]))) = (x :: (b.flat ++ l :: (c.flat ++ e' :: K))) ++ [y] by simp] at h
   obtain ⟨rfl, h2⟩ := List.append_inj' h rfl
   cases h2
   obtain ⟨s, rfl, hs⟩ := last_leaf k K w ho.2.2.2.2.2 e hw
   exact ⟨alt x b l c e' s, rfl, by simp [flat, hs]⟩
theorem first_leaf {t : Ts} {w : Wd} {V : List Wd} (ho : t.ok) (h : t.flat = w :: V) (h2 : w.kind ≠ 2) (h4 : w.kind ≠ 4) : ∃ s : Ts, t = leaf w s ∧ s.flat = V := by
 cases t with
 | nil => simp [flat] at h
 | leaf x k => simp only [flat, List.cons.injEq] at h; obtain ⟨rfl, rfl⟩ := h; exact ⟨k, rfl, rfl⟩
 | blk x b e k =>
  simp only [flat, List.cons.injEq] at h; obtain ⟨rfl, _⟩ := h
  rcases ho.1 with e | e
  ·exact absurd e h2
  ·exact absurd e h4
 | alt x b l c e k =>
  simp only [flat, List.cons.injEq] at h; obtain ⟨rfl, _⟩ := h
  exact absurd ho.1 h2
end Ts
end R3
namespace R3I
open Go Go.Proofs Sx R3
def WR.up (k : Nat) : WR → WR
 | .ok d => .ok d
 | .bad a e => .bad (a + (k : Int)) e
theorem leafGo_up (k : Nat) (w : Wd) (c : Ctx) : leafGo (w.up k) c = (leafGo w c).up k := by
 unfold leafGo
 show (if ndKind w.kind == 0 then (if (bytesB c w.text).2 ≥ 0 then WR.bad (((w.at' + k : Nat) : Int) + (bytesB c w.text).2) 5 else _) else if ndKind w.kind == 1 then (if hole c == 0 then WR.bad ((w.at' + k : Nat) : Int) 6 else _) else _) = _
 repeat' split
 all_goals simp only [WR.up]
 all_goals first
  | done
  | (congr 1 <;> omega)
theorem then_up (k : Nat) (r : WR) (f g : Ctx → WR) (h : ∀ c, g c = (f c).up k) : (r.up k).then' g = (r.then' f).up k := by
 cases r with
 | ok c => exact h c
 | bad a e => rfl
theorem go_up (k : Nat) : ∀ (t : Ts) (c : Ctx), tsGo (t.up k) c = (tsGo t c).up k
 | .nil, c => rfl
 | .leaf w t, c => by
  show (leafGo (w.up k) c).then' (tsGo (t.up k)) = _
  rw [leafGo_up]
  exact then_up k _ _ _ (go_up k t)
 | .blk w b e t, c => by
  show (tsGo (b.up k) c).then' (fun a => if a = c then tsGo (t.up k) c else .bad ((w.at' + k : Nat) : Int) 7) = _
  rw [go_up k b]
  refine then_up k _ _ _ fun a => ?_
  split
  ·exact go_up k t c
  ·simp only [WR.up]; congr 1
 | .alt w b l x e t, c => by
  show (tsGo (b.up k) c).then' (fun a => (tsGo (x.up k) c).then' fun y => if a = y then tsGo (t.up k) y else .bad ((w.at' + k : Nat) : Int) 7) = _
  rw [go_up k b, go_up k x]
  refine then_up k _ _ _ fun a => then_up k _ _ _ fun y => ?_
  split
  ·exact go_up k t y
  ·simp only [WR.up]; congr 1
theorem then_assoc (r : WR) (f g : Ctx → WR) : (r.then' f).then' g = r.then' fun c => (f c).then' g := by cases r <;> rfl
theorem go_app : ∀ (s t : Ts) (c : Ctx), tsGo (s.app t) c = (tsGo s c).then' (tsGo t)
 | .nil, t, c => rfl
 | .leaf w k, t, c => by
  show (leafGo w c).then' (tsGo (k.app t)) = ((leafGo w c).then' (tsGo k)).then' (tsGo t)
  rw [then_assoc]
  congr 1; funext d; exact go_app k t d
 | .blk w b e k, t, c => by
  show (tsGo b c).then' (fun a => if a = c then tsGo (k.app t) c else _) = ((tsGo b c).then' _).then' (tsGo t)
  rw [then_assoc]
  congr 1; funext d
  split
  ·exact go_app k t c
  ·rfl
 | .alt w b l x e k, t, c => by
  show (tsGo b c).then' (fun a => (tsGo x c).then' fun y => if a = y then tsGo (k.app t) y else _) = ((tsGo b c).then' _).then' (tsGo t)
  rw [then_assoc]
  congr 1; funext d
  rw [then_assoc]
  congr 1; funext y
  split
  ·exact go_app k t y
  ·rfl
def holesT : Ts → Ctx → List UInt8
 | .nil, _ => []
 | .leaf w k, c => (if ndKind w.kind == 1 then [hole c] else []) ++ holesT k ((leafGo w c).get c)
 | .blk _ b _ k, c => holesT b c ++ holesT k c
 | .alt _ b _ x _ k, c => holesT b c ++ (holesT x c ++ holesT k ((tsGo b c).get c))
theorem go_leaf_ok {w : Wd} {k : Ts} {c d : Ctx} (h : tsGo (.leaf w k) c = .ok d) : ∃ c1, leafGo w c = .ok c1 ∧ tsGo k c1 = .ok d := by
 have h : (leafGo w c).then' (tsGo k) = .ok d := h
 cases hl : leafGo w c with
 | ok c1 => rw [hl] at h; exact ⟨c1, rfl, h⟩
 | bad a e => rw [hl] at h; cases h
theorem go_blk_ok {w e : Wd} {b k : Ts} {c d : Ctx} (h : tsGo (.blk w b e k) c = .ok d) : tsGo b c = .ok c ∧ tsGo k c = .ok d := by
 have h : (tsGo b c).then' (fun a => if a = c then tsGo k c else _) = .ok d := h
 cases hl : tsGo b c with
 | ok c1 =>
  rw [hl] at h
  have h : (if c1 = c then tsGo k c else _) = WR.ok d := h
  by_cases hc : c1 = c
  ·rw [if_pos hc] at h; exact ⟨by rw [hc], h⟩
  ·rw [if_neg hc] at h; cases h
 | bad a e => rw [hl] at h; cases h
theorem go_alt_ok {w l e : Wd} {b x k : Ts} {c d : Ctx} (h : tsGo (.alt w b l x e k) c = .ok d) : ∃ c1, tsGo b c = .ok c1 ∧ tsGo x c = .ok c1 ∧ tsGo k c1 = .ok d := by
 have h : (tsGo b c).then' (fun a => (tsGo x c).then' fun y => if a = y then tsGo k y else _) = .ok d := h
 cases hl : tsGo b c with
 | ok c1 =>
  rw [hl] at h
  have h : (tsGo x c).then' (fun y => if c1 = y then tsGo k y else _) = .ok d := h
  cases hx : tsGo x c with
  | ok c2 =>
   rw [hx] at h
   have h : (if c1 = c2 then tsGo k c2 else _) = WR.ok d := h
   by_cases hc : c1 = c2
   ·rw [if_pos hc] at h; exact ⟨c1, rfl, by rw [hc], by rw [hc]; exact h⟩
   ·rw [if_neg hc] at h; cases h
  | bad a e => rw [hx] at h; cases h
 | bad a e => rw [hl] at h; cases h
theorem holes_app : ∀ (s t : Ts) (c d : Ctx), tsGo s c = .ok d → holesT (s.app t) c = holesT s c ++ holesT t d
 | .nil, t, c, d, h => by cases h; rfl
 | .leaf w k, t, c, d, h => by
  obtain ⟨c1, h1, h2⟩ := go_leaf_ok h
  simp only [Ts.app, holesT, h1, WR.get, holes_app k t c1 d h2, List.append_assoc]
 | .blk w b e k, t, c, d, h => by
  obtain ⟨h1, h2⟩ := go_blk_ok h
  simp only [Ts.app, holesT, holes_app k t c d h2, List.append_assoc]
 | .alt w b l x e k, t, c, d, h => by
  obtain ⟨c1, h1, h2, h3⟩ := go_alt_ok h
  simp only [Ts.app, holesT, h1, WR.get, holes_app k t c1 d h3, List.append_assoc]
theorem get_up (k : Nat) (c : Ctx) (r : WR) : (r.up k).get c = r.get c := by cases r <;> rfl
theorem holes_up (k : Nat) : ∀ (t : Ts) (c : Ctx), holesT (t.up k) c = holesT t c
 | .nil, c => rfl
 | .leaf w t, c => by
  simp only [Ts.up, holesT, leafGo_up, get_up, holes_up k t]
  rfl
 | .blk w b e t, c => by simp only [Ts.up, holesT, holes_up k t, holes_up k b]
 | .alt w b l x e t, c => by simp only [Ts.up, holesT, go_up, get_up, holes_up k t, holes_up k b, holes_up k x]
structure Frag (l : List UInt8) (c : Ctx) (ts : Ts) (d : Ctx) : Prop where
 hf : form c = true
 hst : (c.st == 20) = false
 len : l.length ≤ 65536
 lx : Lx 0 l ts.flat
 ok : ts.ok
 depth : ts.depth ≤ 16
 go : tsGo ts c = .ok d
theorem Frag.av {l : List UInt8} {c : Ctx} {ts : Ts} {d : Ctx} (h : Frag l c ts d) : fragAV l c = .tu [.ag [.ro 9 ((arrH 0 ts c).map Nd.av), .ro 1 (numsAV (ts.tops 0))], d.toAV, .int 0, .int 0] := by
 have := frag_ts h.hf h.hst h.len (lx_words h.lx) h.ok h.depth
 rw [h.go] at this
 exact this
theorem frag_or (l : List UInt8) (c : Ctx) : (∃ a e : Int, e ≠ 0 ∧ fragAV l c = .tu [noTree, (st1 0).toAV, .int a, .int e]) ∨ ∃ ts d, Frag l c ts d := by
 rcases frag_cases l c with h | ⟨ts, d, h1, h2, h3, h4, h5, h6, h7, _⟩
 ·exact .inl h
 ·exact .inr ⟨ts, d, h1, h2, h3, words_lx h4, h5, h6, h7⟩
theorem bytes_app {c : Ctx} {p q : List UInt8} (h : (bytesB c p).2 < 0) : bytesB c (p ++ q) = if (bytesB (bytesB c p).1 q).2 = -1 then ((bytesB (bytesB c p).1 q).1, -1) else ((bytesB (bytesB c p).1 q).1, (bytesB (bytesB c p).1 q).2 + p.length) := by
 have hm : (runL stepB (inF c) p 0).2 = -1 := by
  have := (runL_shift stepB p (inF c) 0).2.2.2.1
  unfold bytesB at h
  omega
 have hform : form (bytesB c p).1 = true := runL_form step_form _ _ _ (inF_form _)
 unfold bytesB
 rw [runL_append stepB p q (inF c) 0 (Int.le_refl _), if_pos hm]
 have e : inF (runL stepB (inF c) p 0).1 = (runL stepB (inF c) p 0).1 := by
  unfold inF
  rw [if_pos]
  exact hform
 rw [e]
 obtain ⟨a1, a2, a3, _⟩ := runL_shift stepB q (runL stepB (inF c) p 0).1 (0 + p.length)
 generalize runL stepB (inF c) p 0 = X at *
 by_cases h5 : (runL stepB X.1 q 0).2 = -1
 ·rw [if_pos h5]
  exact Prod.ext a1 (a2 h5)
 ·rw [if_neg h5]
  refine Prod.ext a1 ?_
  have := a3 h5
  simp only
  omega
theorem leafGo_lit (p : Nat) (u : List UInt8) (c : Ctx) : leafGo (litW p u) c = if (bytesB c u).2 ≥ 0 then .bad ((p : Int) + (bytesB c u).2) 5 else .ok (bytesB c u).1 := rfl
theorem lit_two {p q : Nat} {u v : List UInt8} {k : Ts} {c d e : Ctx} (h1 : leafGo (litW p u) c = .ok d) (h2 : tsGo (.leaf (litW q v) k) d = .ok e) : tsGo (.leaf (litW p (u ++ v)) k) c = .ok e ∧ holesT (.leaf (litW p (u ++ v)) k) c = holesT (.leaf (litW q v) k) d := by
 obtain ⟨c1, g1, g2⟩ := go_leaf_ok h2
 rw [leafGo_lit] at h1 g1
 split at h1
 ·cases h1
 ·rename_i n1
  cases h1
  split at g1
  ·cases g1
  ·rename_i n2
   have hb := bytes_app (c := c) (p := u) (q := v) (by omega)
   have hn : (bytesB (bytesB c u).1 v).2 = -1 := by
    have := (bytes_small (bytesB c u).1 v).2.1
    omega
   rw [if_pos hn] at hb
   cases g1
   have hl : leafGo (litW p (u ++ v)) c = .ok (bytesB (bytesB c u).1 v).1 := by
    rw [leafGo_lit, hb, if_neg (by show ¬ (-1 : Int) ≥ 0; decide)]
   refine ⟨?_, ?_⟩
   ·show (leafGo (litW p (u ++ v)) c).then' (tsGo k) = _
    rw [hl]; exact g2
   ·simp only [holesT, hl, leafGo_lit, if_neg n2, WR.get]
    rfl
theorem frag_join {s t : List UInt8} {c d e : Ctx} {ts us : Ts} (hs : Frag s c ts d) (ht : Frag t d us e) (hm : Meet s t) (hl : (s ++ t).length ≤ 65536) : ∃ vs, Frag (s ++ t) c vs e ∧ holesT vs c = holesT ts c ++ holesT us d := by
 have hV : Lx (0 + s.length) t (us.up s.length).flat := by rw [Ts.up_flat]; exact ht.lx.up s.length
 have hgo : tsGo (us.up s.length) d = .ok e := by rw [go_up, ht.go]; rfl
 have hok := Ts.up_ok s.length us ht.ok
 have hdep : (us.up s.length).depth ≤ 16 := by rw [Ts.up_depth]; exact ht.depth
 have hhol := holes_up s.length us d
 generalize us.up s.length = us' at hV hgo hok hdep hhol
 rcases hs.lx.app hV hm with g | ⟨W', p, q, u, v, V', e1, e2, g⟩
 ·refine ⟨ts.app us', ⟨hs.hf, hs.hst, hl, by rw [Ts.flat_app]; exact g, Ts.ok_app _ _ hs.ok hok, by rw [Ts.depth_app]; have := hs.depth; omega, by rw [go_app, hs.go]; exact hgo⟩, ?_⟩
  rw [holes_app _ _ _ _ hs.go, hhol]
 ·obtain ⟨s1, rfl, f1⟩ := Ts.last_leaf ts W' (litW p u) hs.ok e1 (by show (0 : UInt8) ≠ 5; decide)
  obtain ⟨s2, rfl, f2⟩ := Ts.first_leaf hok e2 (by show (0 : UInt8) ≠ 2; decide) (by show (0 : UInt8) ≠ 4; decide)
  have hgs := hs.go
  rw [go_app] at hgs
  obtain ⟨o1, o2⟩ := Ts.of_ok_app _ _ hs.ok
  have hdp := hs.depth
  rw [Ts.depth_app] at hdp
  cases hg1 : tsGo s1 c with
  | bad a er => rw [hg1] at hgs; cases hgs
  | ok c1 =>
   rw [hg1] at hgs
   have hgs : tsGo (.leaf (litW p u) .nil) c1 = .ok d := hgs
   obtain ⟨c2, k1, k2⟩ := go_leaf_ok hgs
   cases k2
   obtain ⟨m1, m2⟩ := lit_two (k := s2) k1 hgo
   refine ⟨s1.app (.leaf (litW p (u ++ v)) s2), ⟨hs.hf, hs.hst, hl, ?_, Ts.ok_app _ _ o1 ⟨o2.1, hok.2⟩, ?_, ?_⟩, ?_⟩
   ·rw [Ts.flat_app, f1]
    show Lx 0 _ (W' ++ litW p (u ++ v) :: s2.flat)
    rw [f2]; exact g
   ·rw [Ts.depth_app]
    have : (Ts.leaf (litW p (u ++ v)) s2).depth = (Ts.leaf (litW q v) s2).depth := rfl
    rw [this]; omega
   ·rw [go_app, hg1]; exact m1
   ·rw [holes_app _ _ _ _ hg1, m2, hhol, holes_app _ _ _ _ hg1]
    simp only [holesT, List.append_nil, List.append_assoc]
    rfl
end R3I

namespace R3
open Go Go.Proofs Sx
theorem Lx.inv_nil {a : Nat} {r : List UInt8} {W : List Wd} (h : Lx a r W) (hw : W = []) : r = [] := by
 cases h with
 | nil => rfl
 | lit => cases hw
 | act => cases hw
theorem actW_kind {t : List UInt8} (h : (actW t).ok = true) : (actW t).kind = 1 ∨ (actW t).kind = 2 ∨ (actW t).kind = 3 ∨ (actW t).kind = 4 ∨ (actW t).kind = 5 ∨ (actW t).kind = 6 := by
 unfold actW actT at *
 repeat' split
 all_goals simp_all [plainW, wayW]
end R3
namespace R3I
open Go Go.Proofs Sx R3
theorem leaf_nm {w : Wd} {c d : Ctx} (hc : NmS c) (h : leafGo w c = .ok d) : NmS d := by
 unfold leafGo at h
 split at h
 ·split at h
  ·cases h
  ·cases h; exact (bytes_small _ _).1
 ·split at h
  ·split at h
   ·cases h
   ·cases h; exact after_small hc
  ·cases h; exact hc
theorem go_nm : ∀ {ts : Ts} {c d : Ctx}, NmS c → tsGo ts c = .ok d → NmS d
 | .nil, c, d, hc, h => by cases h; exact hc
 | .leaf w k, c, d, hc, h => by
  obtain ⟨c1, h1, h2⟩ := go_leaf_ok h
  exact go_nm (leaf_nm hc h1) h2
 | .blk w b e k, c, d, hc, h => go_nm hc (go_blk_ok h).2
 | .alt w b l x e k, c, d, hc, h => by
  obtain ⟨c1, h1, _, h3⟩ := go_alt_ok h
  exact go_nm (go_nm hc h1) h3
theorem frag_one {l : List UInt8} {c x : Ctx} {vs : Ts} (h : Frag l c vs x) (h1 : vs.size = 1) (hk : ∀ n, (arrH 0 vs c)[0]? = some n → n.kind = 0) : bytesB c l = (x, -1) := by
 have hlx := h.lx
 have hgo := h.go
 cases vs with
 | nil => simp [Ts.size] at h1
 | blk w b e k =>
  have := hk _ rfl
  rcases blk_kind h.ok.1 with e | e <;> (rw [show (nBlk w _).kind = ndKind w.kind from rfl, e] at this; cases this)
 | alt w b l' c' e k =>
  have := hk _ rfl
  rw [show (nAlt w _ _).kind = ndKind w.kind from rfl, h.ok.1] at this
  cases this
 | leaf w k =>
  have h0 : ndKind w.kind = 0 := hk _ rfl
  simp only [Ts.size] at h1
  obtain rfl : k = .nil := by
   cases k with
   | nil => rfl
   | leaf => simp only [Ts.size] at h1; omega
   | blk => simp only [Ts.size] at h1; omega
   | alt => simp only [Ts.size] at h1; omega
  have hlx : Lx 0 l [w] := hlx
  generalize hW : [w] = W at hlx
  cases hlx with
  | nil => cases hW
  | act a t r W hi hok hr =>
   cases hW
   exfalso
   obtain ⟨k2, k3, k4, k5⟩ := h.ok.1
   have hz := actW_kind hok
   have e : (actWd 0 (actW t)).kind = (actW t).kind := rfl
   rw [e] at h0 k2 k3 k4 k5
   unfold ndKind at h0
   rcases hz with e | e | e | e | e | e <;> rw [e] at h0 k2 k3 k4 k5
   ·exact absurd h0 (by decide)
   ·exact k2 rfl
   ·exact k3 rfl
   ·exact k4 rfl
   ·exact k5 rfl
   ·exact absurd h0 (by decide)
  | lit a u r W hu hi hr =>
   cases hW
   obtain rfl := hr.inv_nil rfl
   rw [List.append_nil]
   obtain ⟨c1, g1, g2⟩ := go_leaf_ok hgo
   cases g2
   rw [leafGo_lit] at g1
   split at g1
   ·cases g1
   ·rename_i hn
    cases g1
    have := (bytes_small c u).2.1
    exact Prod.ext rfl (by show (bytesB c u).2 = -1; omega)
end R3I

namespace R3J
open Go Go.Proofs Sx
variable {mx : Int}
noncomputable def body13 : Code := (Tryd.f13.body).getD .skip
noncomputable def X13 (call : CallT) (run : RunT) (a0 a1 : List UInt8) (a2 a3 : UInt8) (a4 : Bool) (a5 a6 a7 a8 : UInt8) (a9 : Bool) (a10 : UInt8) (a11 : List UInt8) : Option AV :=
 (call 40 []).bind fun v1 => (unop .not (v1)).bind fun v2 => condM (v2)
 (some (.b false))
 ((selW (.b (decide (((a0.length : Int)) > 0))) true (some (.b (decide (((a1.length : Int)) > 0)))) (.b false)).bind fun v3 => (selW (v3) true ((idxS (.s a0) (.int (w64 (((a0.length : Int)) - 1)))).bind fun v4 => (binI .eql (v4) (.u8 123)).bind fun v5 => some (v5)) (.b false)).bind fun v6 => (selW (v6) true ((idxS (.s a1) (.int 0)).bind fun v7 => (binI .eql (v7) (.u8 123)).bind fun v8 => some (v8)) (.b false)).bind fun v9 => condM (v9)
 (some (.b true))
 ((call 41 [.s a0, .ag [.u8 a2, .u8 a3, .b a4, .u8 a5, .u8 a6, .u8 a7, .u8 a8, .b a9, .u8 a10, .s a11]]).bind fun v10 => (tupI (v10) 0).bind fun v11 => (tupI (v10) 1).bind fun v12 => (tupI (v10) 2).bind fun v13 => (tupI (v10) 3).bind fun v14 => (AV.asAg 2 (v11)).bind fun v15 => (AV.asAg 10 (v12)).bind fun v16 => (binI .neq (v14) (.int 0)).bind fun v17 => condM (v17)
 ((binAg [.i, .i, .b, .i, .i, .i, .i, .b, .i, .s] .eql (.ag [v16.getD 0 .un, v16.getD 1 .un, v16.getD 2 .un, v16.getD 3 .un, v16.getD 4 .un, v16.getD 5 .un, v16.getD 6 .un, v16.getD 7 .un, v16.getD 8 .un, v16.getD 9 .un]) (.ag [.u8 0, .u8 0, .b false, .u8 0, .u8 0, .u8 0, .u8 0, .b false, .u8 0, .s []])).bind fun v18 => some (v18))
 ((call 41 [.s a1, .ag [v16.getD 0 .un, v16.getD 1 .un, v16.getD 2 .un, v16.getD 3 .un, v16.getD 4 .un, v16.getD 5 .un, v16.getD 6 .un, v16.getD 7 .un, v16.getD 8 .un, v16.getD 9 .un]]).bind fun v19 => (tupI (v19) 0).bind fun v20 => (tupI (v19) 1).bind fun v21 => (tupI (v19) 2).bind fun v22 => (tupI (v19) 3).bind fun v23 => (AV.asAg 2 (v20)).bind fun v24 => (AV.asAg 10 (v21)).bind fun v25 => (binS .add (.s a0) (.s a1)).bind fun v26 => (call 41 [v26, .ag [.u8 a2, .u8 a3, .b a4, .u8 a5, .u8 a6, .u8 a7, .u8 a8, .b a9, .u8 a10, .s a11]]).bind fun v27 => (tupI (v27) 0).bind fun v28 => (tupI (v27) 1).bind fun v29 => (tupI (v27) 2).bind fun v30 => (tupI (v27) 3).bind fun v31 => (AV.asAg 2 (v28)).bind fun v32 => (AV.asAg 10 (v29)).bind fun v33 => (binI .eql (v23) (.int 0)).bind fun v34 => (selW (v34) true ((binI .eql (v31) (.int 0)).bind fun v35 => some (v35)) (.b false)).bind fun v36 => (selW (v36) true ((binAg [.i, .i, .b, .i, .i, .i, .i, .b, .i, .s] .neq (.ag [v33.getD 0 .un, v33.getD 1 .un, v33.getD 2 .un, v33.getD 3 .un, v33.getD 4 .un, v33.getD 5 .un, v33.getD 6 .un, v33.getD 7 .un, v33.getD 8 .un, v33.getD 9 .un]) (.ag [v25.getD 0 .un, v25.getD 1 .un, v25.getD 2 .un, v25.getD 3 .un, v25.getD 4 .un, v25.getD 5 .un, v25.getD 6 .un, v25.getD 7 .un, v25.getD 8 .un, v25.getD 9 .un])).bind fun v37 => some (v37)) (.b false)).bind fun v38 => condM (v38)
 (some (.b false))
 ((lenR (v32.getD 0 .un)).bind fun v39 => (binI .eql (v39) (.int 1)).bind fun v40 => (selW (v40) true ((idx 9 (v32.getD 0 .un) (.int 0)).bind fun v41 => (binI .eql (AV.cell (v41) 0) (.u8 0)).bind fun v42 => some (v42)) (.b false)).bind fun v43 => (selW (v43) true ((binI .eql (v31) (.int 0)).bind fun v44 => some (v44)) (.b false)).bind fun v45 => condM (v45)
 ((binS .add (.s a0) (.s a1)).bind fun v46 => (s2b (v46)).bind fun v47 => (call 42 [.ag [.u8 a2, .u8 a3, .b a4, .u8 a5, .u8 a6, .u8 a7, .u8 a8, .b a9, .u8 a10, .s a11], v47]).bind fun v48 => (tupI (v48) 0).bind fun v49 => (tupI (v48) 1).bind fun v50 => (AV.asAg 10 (v49)).bind fun v51 => (binI .eql (v50) (.int ((-1)))).bind fun v52 => (selW (v52) true ((binAg [.i, .i, .b, .i, .i, .i, .i, .b, .i, .s] .eql (.ag [v51.getD 0 .un, v51.getD 1 .un, v51.getD 2 .un, v51.getD 3 .un, v51.getD 4 .un, v51.getD 5 .un, v51.getD 6 .un, v51.getD 7 .un, v51.getD 8 .un, v51.getD 9 .un]) (.ag [v33.getD 0 .un, v33.getD 1 .un, v33.getD 2 .un, v33.getD 3 .un, v33.getD 4 .un, v33.getD 5 .un, v33.getD 6 .un, v33.getD 7 .un, v33.getD 8 .un, v33.getD 9 .un])).bind fun v53 => some (v53)) (.b false)).bind fun v54 => some (v54))
 (some (.b true))))))
section
variable (call : CallT) (run : RunT) (a0 a1 : List UInt8) (a2 a3 : UInt8) (a4 : Bool) (a5 a6 a7 a8 : UInt8) (a9 : Bool) (a10 : UInt8) (a11 : List UInt8)
theorem text13 : unr (C mx) call run 13 Tryd.f13 400 [.code body13] (initF (C mx) 13 Tryd.f13.ntmps [.s a0, .s a1, .ag [.u8 a2, .u8 a3, .b a4, .u8 a5, .u8 a6, .u8 a7, .u8 a8, .b a9, .u8 a10, .s a11]]) = X13 call run a0 a1 a2 a3 a4 a5 a6 a7 a8 a9 a10 a11 := by
 kernel_rfl
theorem c13 {r : AV} (h : X13 (semCall (C mx) Tryd.prog) (semRun (C mx) Tryd.prog 13 Tryd.f13) a0 a1 a2 a3 a4 a5 a6 a7 a8 a9 a10 a11 = some r) : semCall (C mx) Tryd.prog 13 [.s a0, .s a1, .ag [.u8 a2, .u8 a3, .b a4, .u8 a5, .u8 a6, .u8 a7, .u8 a8, .b a9, .u8 a10, .s a11]] = some r :=
 semCall_unr (fn := Tryd.f13) (c := body13) (by kernel_rfl) (by kernel_rfl) 400 (by kernel_rfl) ((text13 _ _ a0 a1 a2 a3 a4 a5 a6 a7 a8 a9 a10 a11).trans h)
end
end R3J

namespace R3J
open Go Go.Proofs Sx R3 R3I
variable {mx : Int}
theorem frag_shape (l : List UInt8) (c : Ctx) : ∃ (t1 t2 : AV) (d : Ctx) (a e : Int), fragAV l c = .tu [.ag [t1, t2], d.toAV, .int a, .int e] ∧
  ((e ≠ 0 ∧ d = st1 0 ∧ t1 = .nils) ∨ (e = 0 ∧ a = 0 ∧ ∃ ts, Frag l c ts d ∧ t1 = .ro 9 ((arrH 0 ts c).map Nd.av) ∧ t2 = .ro 1 (numsAV (ts.tops 0)))) := by
 rcases frag_or l c with ⟨a, e, h1, h2⟩ | ⟨ts, d, h⟩
 ·exact ⟨.nils, .nils, st1 0, a, e, h2, .inl ⟨h1, rfl, rfl⟩⟩
 ·exact ⟨_, _, d, 0, 0, h.av, .inr ⟨rfl, rfl, ts, h, rfl, rfl⟩⟩
def met (p q : List UInt8) : Bool := p.getLast? == some 123 && q[0]? == some 123
theorem met_meet {p q : List UInt8} (h : met p q = false) : Meet p q := by
 rintro ⟨h1, h2⟩
 unfold met at h
 rw [h1, h2] at h
 cases h
theorem last_idx {p : List UInt8} {x : UInt8} (h : p.getLast? = some x) (hp : p.length < 1152921504606846976) : idxS (.s p) (.int (w64 ((p.length : Int) - 1))) = some (.u8 x) := by
 have hne : p ≠ [] := by rintro rfl; simp at h
 have hpos := List.length_pos_iff.2 hne
 have e : w64 ((p.length : Int) - 1) = ((p.length - 1 : Nat) : Int) := by rw [w64_eq (by omega) (by omega)]; omega
 rw [e, idxS_int (i := p.length - 1) (l := p) (by omega)]
 rw [List.getLast?_eq_getElem?] at h
 rw [(List.getElem?_eq_some_iff.1 h).2]
theorem head_idx {p : List UInt8} {x : UInt8} (h : p[0]? = some x) : idxS (.s p) (.int 0) = some (.u8 x) := by
 obtain ⟨h1, h2⟩ := List.getElem?_eq_some_iff.1 h
 have := idxS_int (i := 0) (l := p) h1
 rw [h2] at this
 exact this
theorem met_sel (p q : List UInt8) (hp : p.length < 1152921504606846976) (k : AV → Option AV) : ((selW (.b (decide (((p.length : Int)) > 0))) true (some (.b (decide (((q.length : Int)) > 0)))) (.b false)).bind fun v3 => (selW (v3) true ((idxS (.s p) (.int (w64 (((p.length : Int)) - 1)))).bind fun v4 => (binI .eql (v4) (.u8 123)).bind fun v5 => some (v5)) (.b false)).bind fun v6 => (selW (v6) true ((idxS (.s q) (.int 0)).bind fun v7 => (binI .eql (v7) (.u8 123)).bind fun v8 => some (v8)) (.b false)).bind k) = k (.b (met p q)) := by
 cases hl : p.getLast? with
 | none =>
  obtain rfl : p = [] := by simpa using hl
  simp [met, selW_and, hl]
 | some x =>
  have hpos : 0 < p.length := by cases p with | nil => simp at hl | cons a t => simp
  rw [last_idx hl hp]
  cases hq : q[0]? with
  | none =>
   obtain rfl : q = [] := by cases q with | nil => rfl | cons a t => simp at hq
   simp [met, selW_and, hl]
  | some y =>
   have hqp : 0 < q.length := by cases q with | nil => simp at hq | cons a t => simp
   rw [head_idx hq]
   have d1 : decide ((p.length : Int) > 0) = true := by rw [decide_eq_true_eq]; omega
   have d2 : decide ((q.length : Int) > 0) = true := by rw [decide_eq_true_eq]; omega
   simp only [d1, d2, selW_and, Option.bind_some, u8_eql, Bool.and_true, Bool.true_and]
   unfold met
   rw [hl, hq]
   congr 2
set_option maxHeartbeats 1000000 in
theorem law13 (s t : List UInt8) (c : Ctx) (hc : NmS c) (hs : s.length < 2000000) (ht : t.length < 2000000) : semCall (C mx) Tryd.prog 13 [.s s, .s t, c.toAV] = some (.b true) := by
 apply c13
 have hun : unop .not (.b true) = some (.b false) := rfl
 have hadd : binS .add (.s s) (.s t) = some (.s (s ++ t)) := s_add (Nat.le_trans (m := 4000000) (by omega) (by decide))
 have hs2b (p : List UInt8) : s2b (.s p) = some (.ro 1 (p.map .u8)) := rfl
 simp only [X13, j40 (mx := mx), Option.bind_some, hun, condM_b, Bool.false_eq_true, if_false]
 rw [met_sel s t (by omega)]
 simp only [condM_b, mk_toAV, mk_eta, z0]
 cases hm : met s t with
 | true => rfl
 | false =>
  have hmeet := met_meet hm
  obtain ⟨t1, t2, d, a, e, h1, g1⟩ := frag_shape s c
  have x1 := (j41 (mx := mx) s c hc).trans (congrArg some h1)
  simp only [Bool.false_eq_true, if_false, x1, Option.bind_some, q0, q1, q2, q3, asAg2, asAg_toAV, ten0, ten1, ten2, ten3, ten4, ten5, ten6, ten7, ten8, ten9, mk_toAV, mk_eta, Sx.int_neq, condM_b, eq_toAV]
  rcases g1 with ⟨ge, rfl, rfl⟩ | ⟨rfl, _, ts, hF, rfl, rfl⟩
  ·rw [if_pos (by simpa using ge)]
   simp
  ·simp only [bne_self_eq_false, Bool.false_eq_true, if_false]
   have hd : NmS d := go_nm hc hF.go
   obtain ⟨t3, t4, d2, a2, e2, h2, g2⟩ := frag_shape t d
   obtain ⟨t5, t6, d3, a3, e3, h3, g3⟩ := frag_shape (s ++ t) c
   have x2 := (j41 (mx := mx) t d hd).trans (congrArg some h2)
   have x3 := (j41 (mx := mx) (s ++ t) c hc).trans (congrArg some h3)
   have x4 := j42 (mx := mx) (s ++ t) c hc (by rw [List.length_append]; omega)
   simp only [x2, hadd, x3, hs2b, x4, ti_0, ti_1, Option.bind_some, q0, q1, q2, q3, asAg2, asAg_toAV, ten0, ten1, ten2, ten3, ten4, ten5, ten6, ten7, ten8, ten9, mk_toAV, mk_eta, Sx.int_eql, selW_and, condM_b, ne_toAV, eq_toAV, List.getD_cons_zero]
   rw [if_neg ?_]
   ·rcases g3 with ⟨ge3, rfl, rfl⟩ | ⟨rfl, _, vs, hV, rfl, rfl⟩
    ·rfl
    ·have e1 : lenR (.ro 9 ((arrH 0 vs c).map Nd.av)) = some (.int (vs.size : Int)) := by
      show some (AV.int (((arrH 0 vs c).map Nd.av).length : Int)) = _
      rw [List.length_map, arrH_len]
     rw [e1]
     simp only [Option.bind_some, Sx.int_eql]
     by_cases h1 : vs.size = 1
     ·have e2 : ((vs.size : Int) == 1) = true := by rw [h1]; rfl
      have hl : (arrH 0 vs c).length = 1 := by rw [arrH_len, h1]
      obtain ⟨n, hn⟩ : ∃ n, arrH 0 vs c = [n] := List.length_eq_one_iff.1 hl
      have e3 : idx 9 (.ro 9 ((arrH 0 vs c).map Nd.av)) (.int 0) = some n.av := by
       rw [hn]; rfl
      have e4 : n.av.cell 0 = .u8 n.kind := rfl
      rw [e2, e3]
      simp only [Option.bind_some, e4, u8_eql, selW_and, Bool.true_and, condM_b, beq_self_eq_true, Bool.and_true]
      by_cases hk : n.kind = 0
      ·have hone := frag_one hV h1 (fun m hm => by rw [hn] at hm; cases hm; exact hk)
       rw [hone]
       simp
      ·rw [if_neg (by simpa using hk)]
     ·have e2 : ((vs.size : Int) == 1) = false := by rw [beq_eq_false_iff_ne]; omega
      rw [e2]
      rfl
   ·intro h
    simp only [Bool.and_eq_true, beq_iff_eq, Bool.not_eq_true', decide_eq_false_iff_not] at h
    obtain ⟨⟨z2, z3⟩, hne⟩ := h
    rcases g2 with ⟨ge2, _⟩ | ⟨_, _, us, hU, _, _⟩
    ·exact ge2 z2
    ·rcases g3 with ⟨ge3, _⟩ | ⟨_, _, vs, hV, _, _⟩
     ·exact ge3 z3
     ·obtain ⟨vs', hW, _⟩ := frag_join hF hU hmeet hV.len
      have ea := hV.av
      rw [hW.av] at ea
      injection ea with ea
      injection ea with _ ea
      injection ea with ea _
      exact hne (Option.some.inj (congrArg ctxOf ea)).symm
end R3J

namespace Go.Proofs.YtgjfbalafdifgaaDoor
open Sx
mutual
theorem bulk_eq {H : Type} : ∀ d : DataW H, Rows.uptoBulk d = bulk d
 | .lit l => by cases l <;> simp only [Rows.uptoBulk, bulk]
 | .nil => by simp only [Rows.uptoBulk, bulk]
 | .ptr d => by simp only [Rows.uptoBulk, bulk, bulk_eq d]
 | .slice elems spare => by simp only [Rows.uptoBulk, bulk, bulkAll_eq elems, bulkAll_eq spare]
 | .agg parts => by simp only [Rows.uptoBulk, bulk, bulkAll_eq parts]
 | .iface _ d => by simp only [Rows.uptoBulk, bulk, bulk_eq d]
 | .map entries => by simp only [Rows.uptoBulk, bulk, bulkEntries_eq entries]
 | .held _ => by simp only [Rows.uptoBulk, bulk]
theorem bulkAll_eq {H : Type} : ∀ l : List (DataW H), Rows.uptoBulkAll l = bulkAll l
 | [] => by simp only [Rows.uptoBulkAll, bulkAll]
 | d :: r => by simp only [Rows.uptoBulkAll, bulkAll, bulk_eq d, bulkAll_eq r]
theorem bulkEntries_eq {H : Type} : ∀ l : List (Lit × DataW H), Rows.uptoBulkEntries l = bulkEntries l
 | [] => by simp only [Rows.uptoBulkEntries, bulkEntries]
 | x :: r => by simp only [Rows.uptoBulkEntries, bulkEntries, bulkEntry_eq x, bulkEntries_eq r]
theorem bulkEntry_eq {H : Type} : ∀ x : Lit × DataW H, Rows.uptoBulkEntry x = bulkEntry x
 | (l, d) => by cases l <;> simp only [Rows.uptoBulkEntry, bulkEntry, bulk_eq d]
end
end Go.Proofs.YtgjfbalafdifgaaDoor
