/-
  A part of InferTwice's proof: an evaluator of translated functions over plain data, what functions of this seat come to, and laws on plain data.
-/
import Derived.Test.YtgjfbalafdifgaaDoorTF
import Derived.Test.YtgjfbalafdifgaaDoorProg
set_option linter.unusedVariables false
set_option linter.unusedSimpArgs false
set_option linter.unusedSectionVars false
set_option linter.unnecessarySimpa false
namespace R3
open Go Go.Proofs Sx
namespace Ts
def up (k : Nat) : Ts → Ts
 | nil => nil
 | leaf w t => leaf (w.up k) (up k t)
 | blk w b e t => blk (w.up k) (up k b) (e.up k) (up k t)
 | alt w b l c e t => alt (w.up k) (up k b) (l.up k) (up k c) (e.up k) (up k t)
theorem up_flat (k : Nat) : ∀ t : Ts, (t.up k).flat = t.flat.map (Wd.up k)
 | nil => rfl
 | leaf w t => by simp [up, flat, up_flat k t]
 | blk w b e t => by simp [up, flat, up_flat k t, up_flat k b]
 | alt w b l c e t => by simp [up, flat, up_flat k t, up_flat k b, up_flat k c]
theorem up_depth (k : Nat) : ∀ t : Ts, (t.up k).depth = t.depth
 | nil => rfl
 | leaf w t => by simp [up, depth, up_depth k t]
 | blk w b e t => by simp [up, depth, up_depth k t, up_depth k b]
 | alt w b l c e t => by simp [up, depth, up_depth k t, up_depth k b, up_depth k c]
theorem up_ok (k : Nat) : ∀ t : Ts, t.ok → (t.up k).ok
 | nil, _ => trivial
 | leaf w t, h => ⟨h.1, up_ok k t h.2⟩
 | blk w b e t, h => ⟨h.1, h.2.1, up_ok k b h.2.2.1, up_ok k t h.2.2.2⟩
 | alt w b l c e t, h => ⟨h.1, h.2.1, h.2.2.1, up_ok k b h.2.2.2.1, up_ok k c h.2.2.2.2.1, up_ok k t h.2.2.2.2.2⟩
theorem flat_nil : ∀ {t : Ts}, t.flat = [] → t = nil
 | nil, _ => rfl
 | leaf w t, h => by simp [flat] at h
 | blk w b e t, h => by simp [flat] at h
 | alt w b l c e t, h => by simp [flat] at h
theorem last_leaf : ∀ (t : Ts) (W : List Wd) (w : Wd), t.ok → t.flat = W ++ [w] → w.kind ≠ 5 → ∃ s : Ts, t = s.app (leaf w nil) ∧ s.flat = W
 | nil, W, w, _, h, _ => by simp [flat] at h
 | leaf x k, W, w, ho, h, hw => by
  rcases List.eq_nil_or_concat k.flat with e | ⟨K, y, e⟩
  ·obtain rfl := flat_nil e
   have h : [] ++ [x] = W ++ [w] := h
   obtain ⟨rfl, h2⟩ := List.append_inj' h rfl
   cases h2
   exact ⟨nil, rfl, rfl⟩
  ·rw [List.concat_eq_append] at e
   have h : x :: k.flat = W ++ [w] := h
   rw [e, ← List.cons_append] at h
   obtain ⟨rfl, h2⟩ := List.append_inj' h rfl
   cases h2
   obtain ⟨s, rfl, hs⟩ := last_leaf k K w ho.2 e hw
   exact ⟨leaf x s, rfl, by simp [flat, hs]⟩
 | blk x b e' k, W, w, ho, h, hw => by
  rcases List.eq_nil_or_concat k.flat with e | ⟨K, y, e⟩
  ·have h : x :: (b.flat ++ e' :: k.flat) = W ++ [w] := h
   rw [e, ← List.cons_append] at h
   obtain ⟨_, h2⟩ := List.append_inj' h rfl
   cases h2
   exact absurd ho.2.1 hw
  ·rw [List.concat_eq_append] at e
   have h : x :: (b.flat ++ e' :: k.flat) = W ++ [w] := h
   rw [e, show x :: (b.flat ++ e' :: (K ++ [y])) = (x :: (b.flat ++ e' :: K)) ++ [y] by simp] at h
   obtain ⟨rfl, h2⟩ := List.append_inj' h rfl
   cases h2
   obtain ⟨s, rfl, hs⟩ := last_leaf k K w ho.2.2.2 e hw
   exact ⟨blk x b e' s, rfl, by simp [flat, hs]⟩
 | alt x b l c e' k, W, w, ho, h, hw => by
  rcases List.eq_nil_or_concat k.flat with e | ⟨K, y, e⟩
  ·have h : x :: (b.flat ++ l :: (c.flat ++ e' :: k.flat)) = W ++ [w] := h
   rw [e, show x :: (b.flat ++ l :: (c.flat ++ [e'])) = (x :: (b.flat ++ l :: c.flat)) ++ [e'] by simp] at h
   obtain ⟨_, h2⟩ := List.append_inj' h rfl
   cases h2
   exact absurd ho.2.2.1 hw
  ·rw [List.concat_eq_append] at e
   have h : x :: (b.flat ++ l :: (c.flat ++ e' :: k.flat)) = W ++ [w] := h
   rw [e, show x :: (b.flat ++ l :: (c.flat ++ e' :: (K ++ [y]))) = (x :: (b.flat ++ l :: (c.flat ++ e' :: K))) ++ [y] by simp] at h
   obtain ⟨rfl, h2⟩ := List.append_inj' h rfl
   cases h2
   obtain ⟨s, rfl, hs⟩ := last_leaf k K w ho.2.2.2.2.2 e hw
   exact ⟨alt x b l c e' s, rfl, by simp [flat, hs]⟩
theorem first_leaf {t : Ts} {w : Wd} {V : List Wd} (ho : t.ok) (h : t.flat = w :: V) (h2 : w.kind ≠ 2) (h4 : w.kind ≠ 4) : ∃ s : Ts, t = leaf w s ∧ s.flat = V := by
 cases t with
 | nil => simp [flat] at h
 | leaf x k => simp only [flat, List.cons.injEq] at h; obtain ⟨rfl, rfl⟩ := h; exact ⟨k, rfl, rfl⟩
 | blk x b e k =>
  simp only [flat, List.cons.injEq] at h; obtain ⟨rfl, _⟩ := h
  rcases ho.1 with e | e
  ·exact absurd e h2
  ·exact absurd e h4
 | alt x b l c e k =>
  simp only [flat, List.cons.injEq] at h; obtain ⟨rfl, _⟩ := h
  exact absurd ho.1 h2
end Ts
end R3
namespace R3I
open Go Go.Proofs Sx R3
def WR.up (k : Nat) : WR → WR
 | .ok d => .ok d
 | .bad a e => .bad (a + (k : Int)) e
theorem leafGo_up (k : Nat) (w : Wd) (c : Ctx) : leafGo (w.up k) c = (leafGo w c).up k := by
 unfold leafGo
 show (if ndKind w.kind == 0 then (if (bytesB c w.text).2 ≥ 0 then WR.bad (((w.at' + k : Nat) : Int) + (bytesB c w.text).2) 5 else _) else if ndKind w.kind == 1 then (if hole c == 0 then WR.bad ((w.at' + k : Nat) : Int) 6 else _) else _) = _
 repeat' split
 all_goals simp only [WR.up]
 all_goals first
  | done
  | (congr 1 <;> omega)
theorem then_up (k : Nat) (r : WR) (f g : Ctx → WR) (h : ∀ c, g c = (f c).up k) : (r.up k).then' g = (r.then' f).up k := by
 cases r with
 | ok c => exact h c
 | bad a e => rfl
theorem go_up (k : Nat) : ∀ (t : Ts) (c : Ctx), tsGo (t.up k) c = (tsGo t c).up k
 | .nil, c => rfl
 | .leaf w t, c => by
  show (leafGo (w.up k) c).then' (tsGo (t.up k)) = _
  rw [leafGo_up]
  exact then_up k _ _ _ (go_up k t)
 | .blk w b e t, c => by
  show (tsGo (b.up k) c).then' (fun a => if a = c then tsGo (t.up k) c else .bad ((w.at' + k : Nat) : Int) 7) = _
  rw [go_up k b]
  refine then_up k _ _ _ fun a => ?_
  split
  ·exact go_up k t c
  ·simp only [WR.up]; congr 1
 | .alt w b l x e t, c => by
  show (tsGo (b.up k) c).then' (fun a => (tsGo (x.up k) c).then' fun y => if a = y then tsGo (t.up k) y else .bad ((w.at' + k : Nat) : Int) 7) = _
  rw [go_up k b, go_up k x]
  refine then_up k _ _ _ fun a => then_up k _ _ _ fun y => ?_
  split
  ·exact go_up k t y
  ·simp only [WR.up]; congr 1
theorem then_assoc (r : WR) (f g : Ctx → WR) : (r.then' f).then' g = r.then' fun c => (f c).then' g := by cases r <;> rfl
theorem go_app : ∀ (s t : Ts) (c : Ctx), tsGo (s.app t) c = (tsGo s c).then' (tsGo t)
 | .nil, t, c => rfl
 | .leaf w k, t, c => by
  show (leafGo w c).then' (tsGo (k.app t)) = ((leafGo w c).then' (tsGo k)).then' (tsGo t)
  rw [then_assoc]
  congr 1; funext d; exact go_app k t d
 | .blk w b e k, t, c => by
  show (tsGo b c).then' (fun a => if a = c then tsGo (k.app t) c else _) = ((tsGo b c).then' _).then' (tsGo t)
  rw [then_assoc]
  congr 1; funext d
  split
  ·exact go_app k t c
  ·rfl
 | .alt w b l x e k, t, c => by
  show (tsGo b c).then' (fun a => (tsGo x c).then' fun y => if a = y then tsGo (k.app t) y else _) = ((tsGo b c).then' _).then' (tsGo t)
  rw [then_assoc]
  congr 1; funext d
  rw [then_assoc]
  congr 1; funext y
  split
  ·exact go_app k t y
  ·rfl
def holesT : Ts → Ctx → List UInt8
 | .nil, _ => []
 | .leaf w k, c => (if ndKind w.kind == 1 then [hole c] else []) ++ holesT k ((leafGo w c).get c)
 | .blk _ b _ k, c => holesT b c ++ holesT k c
 | .alt _ b _ x _ k, c => holesT b c ++ (holesT x c ++ holesT k ((tsGo b c).get c))
theorem holes_arr : ∀ (t : Ts) (m : Nat) (c : Ctx), t.ok → ((arrH m t c).filter fun n => n.kind == 1).map Nd.hole = holesT t c
 | .nil, m, c, _ => rfl
 | .leaf w k, m, c, h => by
  have ih := holes_arr k (m + 1) ((leafGo w c).get c) h.2
  simp only [arrH, holesT, List.filter_cons]
  show List.map Nd.hole (if ndKind w.kind == 1 then _ else _) = _
  split
  ·rename_i h1
   simp only [List.map_cons, ih, List.cons_append, List.nil_append]
   show holeOf w c :: _ = _
   unfold holeOf; rw [if_pos h1]
  ·rw [ih]; rfl
 | .blk w b e k, m, c, h => by
  have h1 : (ndKind w.kind == 1) = false := by rcases blk_kind h.1 with e | e <;> rw [e] <;> rfl
  simp only [arrH, holesT, List.filter_cons]
  show List.map Nd.hole (if ndKind w.kind == 1 then _ else _) = _
  rw [h1]
  simp only [Bool.false_eq_true, if_false, List.filter_append, List.map_append, holes_arr b _ c h.2.2.1, holes_arr k _ c h.2.2.2]
 | .alt w b l x e k, m, c, h => by
  have h1 : (ndKind w.kind == 1) = false := by rw [h.1]; rfl
  simp only [arrH, holesT, List.filter_cons]
  show List.map Nd.hole (if ndKind w.kind == 1 then _ else _) = _
  rw [h1]
  simp only [Bool.false_eq_true, if_false, List.filter_append, List.map_append, holes_arr b _ c h.2.2.2.1, holes_arr x _ c h.2.2.2.2.1, holes_arr k _ _ h.2.2.2.2.2]
theorem go_leaf_ok {w : Wd} {k : Ts} {c d : Ctx} (h : tsGo (.leaf w k) c = .ok d) : ∃ c1, leafGo w c = .ok c1 ∧ tsGo k c1 = .ok d := by
 have h : (leafGo w c).then' (tsGo k) = .ok d := h
 cases hl : leafGo w c with
 | ok c1 => rw [hl] at h; exact ⟨c1, rfl, h⟩
 | bad a e => rw [hl] at h; cases h
theorem go_blk_ok {w e : Wd} {b k : Ts} {c d : Ctx} (h : tsGo (.blk w b e k) c = .ok d) : tsGo b c = .ok c ∧ tsGo k c = .ok d := by
 have h : (tsGo b c).then' (fun a => if a = c then tsGo k c else _) = .ok d := h
 cases hl : tsGo b c with
 | ok c1 =>
  rw [hl] at h
  have h : (if c1 = c then tsGo k c else _) = WR.ok d := h
  by_cases hc : c1 = c
  ·rw [if_pos hc] at h; exact ⟨by rw [hc], h⟩
  ·rw [if_neg hc] at h; cases h
 | bad a e => rw [hl] at h; cases h
theorem go_alt_ok {w l e : Wd} {b x k : Ts} {c d : Ctx} (h : tsGo (.alt w b l x e k) c = .ok d) : ∃ c1, tsGo b c = .ok c1 ∧ tsGo x c = .ok c1 ∧ tsGo k c1 = .ok d := by
 have h : (tsGo b c).then' (fun a => (tsGo x c).then' fun y => if a = y then tsGo k y else _) = .ok d := h
 cases hl : tsGo b c with
 | ok c1 =>
  rw [hl] at h
  have h : (tsGo x c).then' (fun y => if c1 = y then tsGo k y else _) = .ok d := h
  cases hx : tsGo x c with
  | ok c2 =>
   rw [hx] at h
   have h : (if c1 = c2 then tsGo k c2 else _) = WR.ok d := h
   by_cases hc : c1 = c2
   ·rw [if_pos hc] at h; exact ⟨c1, rfl, by rw [hc], by rw [hc]; exact h⟩
   ·rw [if_neg hc] at h; cases h
  | bad a e => rw [hx] at h; cases h
 | bad a e => rw [hl] at h; cases h
theorem holes_app : ∀ (s t : Ts) (c d : Ctx), tsGo s c = .ok d → holesT (s.app t) c = holesT s c ++ holesT t d
 | .nil, t, c, d, h => by cases h; rfl
 | .leaf w k, t, c, d, h => by
  obtain ⟨c1, h1, h2⟩ := go_leaf_ok h
  simp only [Ts.app, holesT, h1, WR.get, holes_app k t c1 d h2, List.append_assoc]
 | .blk w b e k, t, c, d, h => by
  obtain ⟨h1, h2⟩ := go_blk_ok h
  simp only [Ts.app, holesT, holes_app k t c d h2, List.append_assoc]
 | .alt w b l x e k, t, c, d, h => by
  obtain ⟨c1, h1, h2, h3⟩ := go_alt_ok h
  simp only [Ts.app, holesT, h1, WR.get, holes_app k t c1 d h3, List.append_assoc]
theorem get_up (k : Nat) (c : Ctx) (r : WR) : (r.up k).get c = r.get c := by cases r <;> rfl
theorem holes_up (k : Nat) : ∀ (t : Ts) (c : Ctx), holesT (t.up k) c = holesT t c
 | .nil, c => rfl
 | .leaf w t, c => by
  simp only [Ts.up, holesT, leafGo_up, get_up, holes_up k t]
  rfl
 | .blk w b e t, c => by simp only [Ts.up, holesT, holes_up k t, holes_up k b]
 | .alt w b l x e t, c => by simp only [Ts.up, holesT, go_up, get_up, holes_up k t, holes_up k b, holes_up k x]
structure Frag (l : List UInt8) (c : Ctx) (ts : Ts) (d : Ctx) : Prop where
 hf : form c = true
 hst : (c.st == 20) = false
 len : l.length ≤ 65536
 lx : Lx 0 l ts.flat
 ok : ts.ok
 depth : ts.depth ≤ 16
 go : tsGo ts c = .ok d
theorem Frag.av {l : List UInt8} {c : Ctx} {ts : Ts} {d : Ctx} (h : Frag l c ts d) : fragAV l c = .tu [.ag [.ro 9 ((arrH 0 ts c).map Nd.av), .ro 1 (numsAV (ts.tops 0))], d.toAV, .int 0, .int 0] := by
 have := frag_ts h.hf h.hst h.len (lx_words h.lx) h.ok h.depth
 rw [h.go] at this
 exact this
theorem frag_or (l : List UInt8) (c : Ctx) : (∃ a e : Int, e ≠ 0 ∧ fragAV l c = .tu [noTree, (st1 0).toAV, .int a, .int e]) ∨ ∃ ts d, Frag l c ts d := by
 rcases frag_cases l c with h | ⟨ts, d, h1, h2, h3, h4, h5, h6, h7, _⟩
 ·exact .inl h
 ·exact .inr ⟨ts, d, h1, h2, h3, words_lx h4, h5, h6, h7⟩
theorem bytes_app {c : Ctx} {p q : List UInt8} (h : (bytesB c p).2 < 0) : bytesB c (p ++ q) = if (bytesB (bytesB c p).1 q).2 = -1 then ((bytesB (bytesB c p).1 q).1, -1) else ((bytesB (bytesB c p).1 q).1, (bytesB (bytesB c p).1 q).2 + p.length) := by
 have hm : (runL stepB (inF c) p 0).2 = -1 := by
  have := (runL_shift stepB p (inF c) 0).2.2.2.1
  unfold bytesB at h
  omega
 have hform : form (bytesB c p).1 = true := runL_form step_form _ _ _ (inF_form _)
 unfold bytesB
 rw [runL_append stepB p q (inF c) 0 (Int.le_refl _), if_pos hm]
 have e : inF (runL stepB (inF c) p 0).1 = (runL stepB (inF c) p 0).1 := by
  unfold inF
  rw [if_pos]
  exact hform
 rw [e]
 obtain ⟨a1, a2, a3, _⟩ := runL_shift stepB q (runL stepB (inF c) p 0).1 (0 + p.length)
 generalize runL stepB (inF c) p 0 = X at *
 by_cases h5 : (runL stepB X.1 q 0).2 = -1
 ·rw [if_pos h5]
  exact Prod.ext a1 (a2 h5)
 ·rw [if_neg h5]
  refine Prod.ext a1 ?_
  have := a3 h5
  simp only
  omega
theorem leafGo_lit (p : Nat) (u : List UInt8) (c : Ctx) : leafGo (litW p u) c = if (bytesB c u).2 ≥ 0 then .bad ((p : Int) + (bytesB c u).2) 5 else .ok (bytesB c u).1 := rfl
theorem lit_two {p q : Nat} {u v : List UInt8} {k : Ts} {c d e : Ctx} (h1 : leafGo (litW p u) c = .ok d) (h2 : tsGo (.leaf (litW q v) k) d = .ok e) : tsGo (.leaf (litW p (u ++ v)) k) c = .ok e ∧ holesT (.leaf (litW p (u ++ v)) k) c = holesT (.leaf (litW q v) k) d := by
 obtain ⟨c1, g1, g2⟩ := go_leaf_ok h2
 rw [leafGo_lit] at h1 g1
 split at h1
 ·cases h1
 ·rename_i n1
  cases h1
  split at g1
  ·cases g1
  ·rename_i n2
   have hb := bytes_app (c := c) (p := u) (q := v) (by omega)
   have hn : (bytesB (bytesB c u).1 v).2 = -1 := by
    have := (bytes_small (bytesB c u).1 v).2.1
    omega
   rw [if_pos hn] at hb
   cases g1
   have hl : leafGo (litW p (u ++ v)) c = .ok (bytesB (bytesB c u).1 v).1 := by
    rw [leafGo_lit, hb, if_neg (by show ¬ (-1 : Int) ≥ 0; decide)]
   refine ⟨?_, ?_⟩
   ·show (leafGo (litW p (u ++ v)) c).then' (tsGo k) = _
    rw [hl]; exact g2
   ·simp only [holesT, hl, leafGo_lit, if_neg n2, WR.get]
    rfl
theorem frag_join {s t : List UInt8} {c d e : Ctx} {ts us : Ts} (hs : Frag s c ts d) (ht : Frag t d us e) (hm : Meet s t) (hl : (s ++ t).length ≤ 65536) : ∃ vs, Frag (s ++ t) c vs e ∧ holesT vs c = holesT ts c ++ holesT us d := by
 have hV : Lx (0 + s.length) t (us.up s.length).flat := by rw [Ts.up_flat]; exact ht.lx.up s.length
 have hgo : tsGo (us.up s.length) d = .ok e := by rw [go_up, ht.go]; rfl
 have hok := Ts.up_ok s.length us ht.ok
 have hdep : (us.up s.length).depth ≤ 16 := by rw [Ts.up_depth]; exact ht.depth
 have hhol := holes_up s.length us d
 generalize us.up s.length = us' at hV hgo hok hdep hhol
 rcases hs.lx.app hV hm with g | ⟨W', p, q, u, v, V', e1, e2, g⟩
 ·refine ⟨ts.app us', ⟨hs.hf, hs.hst, hl, by rw [Ts.flat_app]; exact g, Ts.ok_app _ _ hs.ok hok, by rw [Ts.depth_app]; have := hs.depth; omega, by rw [go_app, hs.go]; exact hgo⟩, ?_⟩
  rw [holes_app _ _ _ _ hs.go, hhol]
 ·obtain ⟨s1, rfl, f1⟩ := Ts.last_leaf ts W' (litW p u) hs.ok e1 (by show (0 : UInt8) ≠ 5; decide)
  obtain ⟨s2, rfl, f2⟩ := Ts.first_leaf hok e2 (by show (0 : UInt8) ≠ 2; decide) (by show (0 : UInt8) ≠ 4; decide)
  have hgs := hs.go
  rw [go_app] at hgs
  obtain ⟨o1, o2⟩ := Ts.of_ok_app _ _ hs.ok
  have hdp := hs.depth
  rw [Ts.depth_app] at hdp
  cases hg1 : tsGo s1 c with
  | bad a er => rw [hg1] at hgs; cases hgs
  | ok c1 =>
   rw [hg1] at hgs
   have hgs : tsGo (.leaf (litW p u) .nil) c1 = .ok d := hgs
   obtain ⟨c2, k1, k2⟩ := go_leaf_ok hgs
   cases k2
   obtain ⟨m1, m2⟩ := lit_two (k := s2) k1 hgo
   refine ⟨s1.app (.leaf (litW p (u ++ v)) s2), ⟨hs.hf, hs.hst, hl, ?_, Ts.ok_app _ _ o1 ⟨o2.1, hok.2⟩, ?_, ?_⟩, ?_⟩
   ·rw [Ts.flat_app, f1]
    show Lx 0 _ (W' ++ litW p (u ++ v) :: s2.flat)
    rw [f2]; exact g
   ·rw [Ts.depth_app]
    have : (Ts.leaf (litW p (u ++ v)) s2).depth = (Ts.leaf (litW q v) s2).depth := rfl
    rw [this]; omega
   ·rw [go_app, hg1]; exact m1
   ·rw [holes_app _ _ _ _ hg1, m2, hhol, holes_app _ _ _ _ hg1]
    simp only [holesT, List.append_nil, List.append_assoc]
    rfl
end R3I

namespace R3
open Go Go.Proofs Sx
theorem actW_kind {t : List UInt8} (h : (actW t).ok = true) : (actW t).kind = 1 ∨ (actW t).kind = 2 ∨ (actW t).kind = 3 ∨ (actW t).kind = 4 ∨ (actW t).kind = 5 ∨ (actW t).kind = 6 := by
 unfold actW actT at *
 repeat' split
 all_goals simp_all [plainW, wayW]
end R3
namespace R3I
open Go Go.Proofs Sx R3
end R3I

namespace R3J
open Go Go.Proofs Sx
variable {mx : Int}
section
variable (call : CallT) (run : RunT) (a0 a1 : List UInt8) (a2 a3 : UInt8) (a4 : Bool) (a5 a6 a7 a8 : UInt8) (a9 : Bool) (a10 : UInt8) (a11 : List UInt8)
end
end R3J

namespace R3J
open Go Go.Proofs Sx R3 R3I
variable {mx : Int}
theorem frag_shape (l : List UInt8) (c : Ctx) : ∃ (t1 t2 : AV) (d : Ctx) (a e : Int), fragAV l c = .tu [.ag [t1, t2], d.toAV, .int a, .int e] ∧
  ((e ≠ 0 ∧ d = st1 0 ∧ t1 = .nils) ∨ (e = 0 ∧ a = 0 ∧ ∃ ts, Frag l c ts d ∧ t1 = .ro 9 ((arrH 0 ts c).map Nd.av) ∧ t2 = .ro 1 (numsAV (ts.tops 0)))) := by
 rcases frag_or l c with ⟨a, e, h1, h2⟩ | ⟨ts, d, h⟩
 ·exact ⟨.nils, .nils, st1 0, a, e, h2, .inl ⟨h1, rfl, rfl⟩⟩
 ·exact ⟨_, _, d, 0, 0, h.av, .inr ⟨rfl, rfl, ts, h, rfl, rfl⟩⟩
def met (p q : List UInt8) : Bool := p.getLast? == some 123 && q[0]? == some 123
theorem met_meet {p q : List UInt8} (h : met p q = false) : Meet p q := by
 rintro ⟨h1, h2⟩
 unfold met at h
 rw [h1, h2] at h
 cases h
theorem last_idx {p : List UInt8} {x : UInt8} (h : p.getLast? = some x) (hp : p.length < 1152921504606846976) : idxS (.s p) (.int (w64 ((p.length : Int) - 1))) = some (.u8 x) := by
 have hne : p ≠ [] := by rintro rfl; simp at h
 have hpos := List.length_pos_iff.2 hne
 have e : w64 ((p.length : Int) - 1) = ((p.length - 1 : Nat) : Int) := by rw [w64_eq (by omega) (by omega)]; omega
 rw [e, idxS_int (i := p.length - 1) (l := p) (by omega)]
 rw [List.getLast?_eq_getElem?] at h
 rw [(List.getElem?_eq_some_iff.1 h).2]
theorem head_idx {p : List UInt8} {x : UInt8} (h : p[0]? = some x) : idxS (.s p) (.int 0) = some (.u8 x) := by
 obtain ⟨h1, h2⟩ := List.getElem?_eq_some_iff.1 h
 have := idxS_int (i := 0) (l := p) h1
 rw [h2] at this
 exact this
end R3J

namespace R3
open Go Go.Proofs Sx
theorem idx_act {t : List UInt8} (hb : ∀ x ∈ t, x ≠ 125) (r : List UInt8) : Lib.index (brO ++ (t ++ (brC ++ r))) brC = ((t.length + 2 : Nat) : Int) := by
 refine Lib.index_first (by simp [brO]) ?_ fun j hj => ?_
 ·unfold Lib.occAt
  rw [show brO ++ (t ++ (brC ++ r)) = (brO ++ t) ++ (brC ++ r) by simp [List.append_assoc], List.drop_left' (by simp [brO])]
  simp [brC, List.isPrefixOf]
 ·cases h : Lib.occAt (brO ++ (t ++ (brC ++ r))) brC j with
  | false => rfl
  | true =>
   have := Lib.occAt_head (c := 125) (t := [125]) rfl h
   rw [show brO ++ (t ++ (brC ++ r)) = (brO ++ t) ++ (brC ++ r) by simp [List.append_assoc], List.getElem?_append_left (by simp [brO]; omega)] at this
   rcases List.mem_append.1 (List.mem_of_getElem? this) with h | h
   ·simp [brO] at h
   ·exact absurd rfl (hb 125 h)
def actS (t : List UInt8) : List UInt8 := brO ++ (t ++ (brC ++ []))
theorem actS_app (t r : List UInt8) : actS t ++ r = brO ++ (t ++ (brC ++ r)) := by simp [actS]
theorem actS_len (t : List UInt8) : (actS t).length = t.length + 4 := by simp [actS, brO, brC]
theorem lx_act {t r : List UInt8} {W : List Wd} {a : Nat} (hb : ∀ x ∈ t, x ≠ 125) (hok : (actW t).ok = true) (h : Lx (a + (t.length + 4)) r W) : Lx a (actS t ++ r) (actWd a (actW t) :: W) := by
 rw [actS_app]
 exact .act a t r W (idx_act hb r) hok h
theorem lx_one {t : List UInt8} {a : Nat} (hb : ∀ x ∈ t, x ≠ 125) (hok : (actW t).ok = true) : Lx a (actS t) [actWd a (actW t)] := by
 have := lx_act (a := a) hb hok (.nil _)
 rwa [List.append_nil] at this
theorem lx_behind {t s : List UInt8} {W : List Wd} {a : Nat} (hb : ∀ x ∈ t, x ≠ 125) (hok : (actW t).ok = true) (h : Lx a s W) (hm : s.getLast? ≠ some 123) : Lx a (s ++ actS t) (W ++ [actWd (a + s.length) (actW t)]) := by
 rcases h.app (lx_one hb hok) (fun hh => hm hh.1) with g | ⟨W', p, q, u, v, V', e1, e2, g⟩
 ·exact g
 ·have hk : (actW t).kind = 0 := by
   have : actWd (a + s.length) (actW t) = litW q v := (List.cons.inj e2).1
   exact congrArg Wd.kind this
  have := actW_kind hok
  rw [hk] at this
  rcases this with h | h | h | h | h | h <;> cases h
end R3
namespace R3I
open Go Go.Proofs Sx R3
theorem frag_wrap {s t : List UInt8} {c : Ctx} {ts : Ts} (hs : Frag s c ts c) (hm : s.getLast? ≠ some 123) (hb : ∀ x ∈ t, x ≠ 125) (hok : (actW t).ok = true) (hk : (actW t).kind = 2 ∨ (actW t).kind = 4) (hl : s.length + t.length ≤ 60000) :
  ∃ (t1 t2 : AV) (a e : Int) , fragAV (actS t ++ (s ++ actS tEnd)) c = .tu [.ag [t1, t2], (if e = 0 then c else st1 0).toAV, .int a, .int e] ∧ (e = 0 ∨ e = 3) := by
 have h1 := lx_behind (t := tEnd) (by decide) (by rw [aEnd]) (hs.lx.up (t.length + 4)) hm
 rw [aEnd] at h1
 have h2 := lx_act (a := 0) hb hok (by rw [Nat.zero_add] at h1 ⊢; exact h1)
 have hlen : (actS t ++ (s ++ actS tEnd)).length ≤ 65536 := by simp only [List.length_append, actS_len]; show t.length + 4 + (s.length + (3 + 4)) ≤ 65536; omega
 have hflat : (Ts.blk (actWd 0 (actW t)) (ts.up (t.length + 4)) (actWd (0 + (t.length + 4) + s.length) ⟨5, false, .nils, true⟩) .nil).flat = actWd 0 (actW t) :: (ts.flat.map (Wd.up (t.length + 4)) ++ [actWd (t.length + 4 + s.length) ⟨5, false, .nils, true⟩]) := by
  simp [Ts.flat, Ts.up_flat]
 have hok' : (Ts.blk (actWd 0 (actW t)) (ts.up (t.length + 4)) (actWd (0 + (t.length + 4) + s.length) ⟨5, false, .nils, true⟩) .nil).ok := ⟨hk, rfl, Ts.up_ok _ _ hs.ok, trivial⟩
 have hdp : (Ts.blk (actWd 0 (actW t)) (ts.up (t.length + 4)) (actWd (0 + (t.length + 4) + s.length) ⟨5, false, .nils, true⟩) .nil).depth = ts.depth + 1 := by simp [Ts.depth, Ts.up_depth]
 have hgo : tsGo (Ts.blk (actWd 0 (actW t)) (ts.up (t.length + 4)) (actWd (0 + (t.length + 4) + s.length) ⟨5, false, .nils, true⟩) .nil) c = .ok c := by
  show (tsGo (ts.up (t.length + 4)) c).then' (fun a => if a = c then tsGo .nil c else _) = _
  rw [go_up, hs.go]
  show (if c = c then tsGo .nil c else _) = _
  rw [if_pos rfl]; rfl
 by_cases hd : ts.depth + 1 ≤ 16
 ·have hF : Frag (actS t ++ (s ++ actS tEnd)) c _ c := ⟨hs.hf, hs.hst, hlen, by rw [hflat]; exact h2, hok', by omega, hgo⟩
  exact ⟨_, _, 0, 0, hF.av, .inl rfl⟩
 ·obtain ⟨a, ha⟩ := treeOf_deep hok' (by omega)
  refine ⟨.nils, .nils, a, 3, ?_, .inr rfl⟩
  have hp : parseT (actS t ++ (s ++ actS tEnd)) = .bad a 3 := by
   rw [parseT_of hlen (lx_words h2), ← hflat]
   exact ha
  unfold fragAV
  rw [hs.hf, hs.hst, hp]
  rfl
end R3I

namespace R3J
open Go Go.Proofs Sx
variable {mx : Int}
noncomputable def body15 : Code := (Tryd.f15.body).getD .skip
section
variable (run : RunT) (a0 : List UInt8) (a1 a2 : AV) (a3 : Int)
noncomputable def K15_16 : List Item := (kAt 16 body15 []).getD []
def S15_16 : St := St.ofL [(0, .cell (.val (.s a0))), (9, .cell (.val (a1))), (10, .cell (.val (a2))), (11, .cell (.val (.int a3)))] []
noncomputable def F15_16 : Option AV := run K15_16 (S15_16 a0 a1 a2 a3)
end
noncomputable def X15 (call : CallT) (run : RunT) (a0 : List UInt8) : Option AV :=
 (call 40 []).bind fun v1 => (unop .not (v1)).bind fun v2 => condM (v2)
 (some (.b false))
 ((call 43 [.s a0]).bind fun v3 => (tupI (v3) 0).bind fun v4 => (tupI (v3) 1).bind fun v5 => (tupI (v3) 2).bind fun v6 => (AV.asAg 2 (v4)).bind fun v7 => (binI .neq (v6) (.int 0)).bind fun v8 => (selW (v8) false (some (.b (decide (((a0.length : Int)) > 30000)))) (.b true)).bind fun v9 => condM (v9)
 (some (.b true))
 ((selW (.b (decide (((a0.length : Int)) > 0))) true ((idxS (.s a0) (.int 0)).bind fun v10 => (binI .eql (v10) (.u8 123)).bind fun v11 => some (v11)) (.b false)).bind fun v12 => (selW (v12) true ((idxS (.s a0) (.int (w64 (((a0.length : Int)) - 1)))).bind fun v13 => (binI .eql (v13) (.u8 123)).bind fun v14 => some (v14)) (.b false)).bind fun v15 => condM (v15)
 (some (.b true))
 ((binS .add (.s a0) (.s a0)).bind fun v16 => (call 43 [v16]).bind fun v17 => (tupI (v17) 0).bind fun v18 => (tupI (v17) 1).bind fun v19 => (tupI (v17) 2).bind fun v20 => (AV.asAg 2 (v18)).bind fun v21 => (binI .neq (v20) (.int 0)).bind fun v22 => condM (v22)
 (some (.b false))
 ((call 44 [.ag [v7.getD 0 .un, v7.getD 1 .un]]).bind fun v23 => (call 44 [.ag [v21.getD 0 .un, v21.getD 1 .un]]).bind fun v24 => (lenR (v24)).bind fun v25 => (lenR (v23)).bind fun v26 => (binI .mul (.int 2) (v26)).bind fun v27 => (binI .neq (v25) (v27)).bind fun v28 => condM (v28)
 (some (.b false))
 (F15_16 run a0 (v23) (v24) 0)))))
section
variable (call : CallT) (run : RunT) (a0 : List UInt8)
theorem text15 : unr (C mx) call run 15 Tryd.f15 400 [.code body15] (initF (C mx) 15 Tryd.f15.ntmps [.s a0]) = X15 call run a0 := by
 kernel_rfl
theorem c15 {r : AV} (h : X15 (semCall (C mx) Tryd.prog) (semRun (C mx) Tryd.prog 15 Tryd.f15) a0 = some r) : semCall (C mx) Tryd.prog 15 [.s a0] = some r :=
 semCall_unr (fn := Tryd.f15) (c := body15) (by kernel_rfl) (by kernel_rfl) 400 (by kernel_rfl) ((text15 _ _ a0).trans h)
end
noncomputable def X15_16 (call : CallT) (run : RunT) (a0 : List UInt8) (a1 a2 : AV) (a3 : Int) : Option AV :=
 (lenR (a1)).bind fun v1 => (binI .lss (.int a3) (v1)).bind fun v2 => condM (v2)
 ((idx 1 (a2) (.int a3)).bind fun v3 => (idx 1 (a1) (.int a3)).bind fun v4 => (binI .neq (AV.cell (v3) 0) (AV.cell (v4) 0)).bind fun v5 => (selW (v5) false ((lenR (a1)).bind fun v6 => (binI .add (.int a3) (v6)).bind fun v7 => (idx 1 (a2) (v7)).bind fun v8 => (idx 1 (a1) (.int a3)).bind fun v9 => (binI .neq (AV.cell (v8) 0) (AV.cell (v9) 0)).bind fun v10 => some (v10)) (.b true)).bind fun v11 => condM (v11)
 (some (.b false))
 (F15_16 run a0 (a1) (a2) (w64 (a3 + 1))))
 ((selW (.b (decide (((a0.length : Int)) > 0))) true ((idxS (.s a0) (.int (w64 (((a0.length : Int)) - 1)))).bind fun v12 => (binI .eql (v12) (.u8 123)).bind fun v13 => some (v13)) (.b false)).bind fun v14 => condM (v14)
 (some (.b true))
 ((binS .add (.s [123, 123, 105, 102, 32, 120, 125, 125]) (.s a0)).bind fun v15 => (binS .add (v15) (.s [123, 123, 101, 110, 100, 125, 125])).bind fun v16 => (call 43 [v16]).bind fun v17 => (tupI (v17) 0).bind fun v18 => (tupI (v17) 1).bind fun v19 => (tupI (v17) 2).bind fun v20 => (AV.asAg 2 (v18)).bind fun v21 => (binS .add (.s [123, 123, 114, 97, 110, 103, 101, 32, 120, 125, 125]) (.s a0)).bind fun v22 => (binS .add (v22) (.s [123, 123, 101, 110, 100, 125, 125])).bind fun v23 => (call 43 [v23]).bind fun v24 => (tupI (v24) 0).bind fun v25 => (tupI (v24) 1).bind fun v26 => (tupI (v24) 2).bind fun v27 => (AV.asAg 2 (v25)).bind fun v28 => (binI .eql (v20) (.int 0)).bind fun v29 => (selW (v29) false ((binI .eql (v20) (.int 3)).bind fun v30 => some (v30)) (.b true)).bind fun v31 => (selW (v31) true ((binI .eql (v27) (.int 0)).bind fun v32 => (selW (v32) false ((binI .eql (v27) (.int 3)).bind fun v33 => some (v33)) (.b true)).bind fun v34 => some (v34)) (.b false)).bind fun v35 => some (v35)))
section
variable (call : CallT) (run : RunT) (a0 : List UInt8) (a1 a2 : AV) (a3 : Int)
theorem text15_16 : step (C mx) call 15 Tryd.f15 (unr (C mx) call run 15 Tryd.f15 400) K15_16 (S15_16 a0 a1 a2 a3) = X15_16 call run a0 a1 a2 a3 := by
 kernel_rfl
end
section
variable (a0 : List UInt8) (a1 a2 : AV) (a3 : Int)
theorem r15_16 {r : AV} (h : X15_16 (semCall (C mx) Tryd.prog) (semRun (C mx) Tryd.prog 15 Tryd.f15) a0 a1 a2 a3 = some r) : F15_16 (semRun (C mx) Tryd.prog 15 Tryd.f15) a0 a1 a2 a3 = some r :=
 semRun_unr 400 ((text15_16 _ _ a0 a1 a2 a3).trans h)
end
end R3J

namespace R3J
open Go Go.Proofs Sx
variable {mx : Int}
noncomputable def body44 : Code := (Tryd.f44.body).getD .skip
section
variable (run : RunT) (a0 : List AV) (a1 : Int) (a2 a3 : AV)
noncomputable def K44_3 : List Item := (kAt 3 body44 []).getD []
def S44_3 : St := St.ofL [(1, .cell (.ptr 1 0)), (3, .cell (.own 300003 59 1 a0)), (4, .cell (.val (.int a1)))] [(1, some [.val (a2), .val (a3)])]
noncomputable def F44_3 : Option AV := run K44_3 (S44_3 a0 a1 a2 a3)
end
section
variable (run : RunT) (a0 : List AV) (a1 : Int) (a2 a3 : AV)
noncomputable def K44_4 : List Item := (kAt 4 body44 []).getD []
def S44_4 : St := St.ofL [(1, .cell (.ptr 1 0)), (3, .cell (.own 300003 59 1 a0)), (4, .cell (.val (.int a1)))] [(1, some [.val (a2), .val (a3)])]
noncomputable def F44_4 : Option AV := run K44_4 (S44_4 a0 a1 a2 a3)
end
noncomputable def X44 (call : CallT) (run : RunT) (a0 a1 : AV) : Option AV :=
 F44_3 run [] 0 (a0) (a1)
section
variable (call : CallT) (run : RunT) (a0 a1 : AV)
theorem text44 : unr (C mx) call run 44 Tryd.f44 400 [.code body44] (initF (C mx) 44 Tryd.f44.ntmps [.ag [a0, a1]]) = X44 call run a0 a1 := by
 kernel_rfl
theorem c44 {r : AV} (h : X44 (semCall (C mx) Tryd.prog) (semRun (C mx) Tryd.prog 44 Tryd.f44) a0 a1 = some r) : semCall (C mx) Tryd.prog 44 [.ag [a0, a1]] = some r :=
 semCall_unr (fn := Tryd.f44) (c := body44) (by kernel_rfl) (by kernel_rfl) 400 (by kernel_rfl) ((text44 _ _ a0 a1).trans h)
end
noncomputable def X44_3 (call : CallT) (run : RunT) (a0 : List AV) (a1 : Int) (a2 a3 : AV) : Option AV :=
 (lenR (a2)).bind fun v1 => (binI .lss (.int a1) (v1)).bind fun v2 => condM (v2)
 ((idx 9 (a2) (.int a1)).bind fun v3 => (binI .eql (AV.cell (v3) 0) (.u8 1)).bind fun v4 => condM (v4)
 ((idx 9 (a2) (.int a1)).bind fun v5 => (AV.one (AV.cell (v5) 8)).bind fun v6 => (app 1 1 a0 (.ro 1 (([v6] : List AV)))).bind fun v7 => F44_4 run v7 a1 (a2) (a3))
 (F44_4 run a0 a1 (a2) (a3)))
 (some (.ro 1 a0))
section
variable (call : CallT) (run : RunT) (a0 : List AV) (a1 : Int) (a2 a3 : AV)
theorem text44_3 : step (C mx) call 44 Tryd.f44 (unr (C mx) call run 44 Tryd.f44 400) K44_3 (S44_3 a0 a1 a2 a3) = X44_3 call run a0 a1 a2 a3 := by
 kernel_rfl
end
noncomputable def X44_4 (call : CallT) (run : RunT) (a0 : List AV) (a1 : Int) (a2 a3 : AV) : Option AV :=
 F44_3 run a0 (w64 (a1 + 1)) (a2) (a3)
section
variable (call : CallT) (run : RunT) (a0 : List AV) (a1 : Int) (a2 a3 : AV)
theorem text44_4 : step (C mx) call 44 Tryd.f44 (unr (C mx) call run 44 Tryd.f44 400) K44_4 (S44_4 a0 a1 a2 a3) = X44_4 call run a0 a1 a2 a3 := by
 kernel_rfl
end
section
variable (a0 : List AV) (a1 : Int) (a2 a3 : AV)
theorem r44_3 {r : AV} (h : X44_3 (semCall (C mx) Tryd.prog) (semRun (C mx) Tryd.prog 44 Tryd.f44) a0 a1 a2 a3 = some r) : F44_3 (semRun (C mx) Tryd.prog 44 Tryd.f44) a0 a1 a2 a3 = some r :=
 semRun_unr 400 ((text44_3 _ _ a0 a1 a2 a3).trans h)
end
section
variable (a0 : List AV) (a1 : Int) (a2 a3 : AV)
theorem r44_4 {r : AV} (h : X44_4 (semCall (C mx) Tryd.prog) (semRun (C mx) Tryd.prog 44 Tryd.f44) a0 a1 a2 a3 = some r) : F44_4 (semRun (C mx) Tryd.prog 44 Tryd.f44) a0 a1 a2 a3 = some r :=
 semRun_unr 400 ((text44_4 _ _ a0 a1 a2 a3).trans h)
end
end R3J

namespace R3J
open Go Go.Proofs Sx R3 R3I
variable {mx : Int}
theorem j43 {l : List UInt8} {t1 t2 : AV} {d : Ctx} {a e : Int} (h : fragAV l (st1 0) = .tu [.ag [t1, t2], d.toAV, .int a, .int e]) :
  semCall (C mx) Tryd.prog 43 [.s l] = some (if e = 0 ∧ d ≠ st1 0 then .tu [.ag [.nils, .nils], .int (l.length : Int), .int 8] else .tu [.ag [t1, t2], .int a, .int e]) := by
 apply c43
 have x1 := (j41 (mx := mx) l (st1 0) nz).trans (congrArg some h)
 simp only [X43, mk_toAV, z0, x1, Option.bind_some, q0, q1, q2, q3, asAg2, asAg_toAV, ten0, ten1, ten2, ten3, ten4, ten5, ten6, ten7, ten8, ten9, mk_eta, ne_toAV, Sx.int_eql, selW_and, condM_b, List.getD_cons_zero, List.getD_cons_succ]
 by_cases h1 : e = 0 ∧ d ≠ st1 0
 ·rw [if_pos h1, if_pos (by simp [h1.1, h1.2])]
 ·rw [if_neg h1, if_neg (by simpa using h1)]
theorem app1' {l : List AV} {x : AV} (h : l.length ≤ 1000000) : app 1 1 l (.ro 1 [x]) = some (l ++ [x]) := by
 show ((if 1 = 1 then some [x] else none).bind fun q => if (l.length + q.length) * 1 ≤ big then some (l ++ q) else none) = _
 rw [if_pos rfl]
 simp only [Option.bind_some, List.length_cons, List.length_nil, Nat.zero_add, Nat.mul_one]
 rw [if_pos (Nat.le_trans (m := 2000000) (by omega) (by decide))]
theorem l44 (t2 : AV) (ns : List Nd) (hn : ns.length ≤ 1000000) : ∀ (m i : Nat) (acc : List AV), ns.length = i + m → acc.length ≤ i →
  F44_3 (semRun (C mx) Tryd.prog 44 Tryd.f44) acc (i : Int) (.ro 9 (ns.map Nd.av)) t2 = some (.ro 1 (acc ++ ((ns.drop i).filter fun n => n.kind == 1).map fun n => .u8 n.hole))
 | 0, i, acc, hi, ha => by
  apply r44_3
  have e : decide ((i : Int) < ((ns.map Nd.av).length : Int)) = false := by rw [decide_eq_false_iff_not, List.length_map]; omega
  simp only [X44_3, lenR_ro, Sx.int_lss, e, Option.bind_some, condM_b, Bool.false_eq_true, if_false]
  rw [List.drop_eq_nil_of_le (by omega)]
  simp
 | m + 1, i, acc, hi, ha => by
  apply r44_3
  have hlt : i < ns.length := by omega
  have e : decide ((i : Int) < ((ns.map Nd.av).length : Int)) = true := by rw [decide_eq_true_eq, List.length_map]; omega
  have e3 : w64 ((i : Int) + 1) = ((i + 1 : Nat) : Int) := by rw [w64_eq (by omega) (by omega)]; omega
  have hx : idx 9 (.ro 9 (ns.map Nd.av)) (.int (i : Int)) = some ns[i].av := by
   rw [idx_get 9 (by rw [List.length_map]; exact hlt)]
   simp
  have k0 (n : Nd) : n.av.cell 0 = .u8 n.kind := rfl
  have k8 (n : Nd) : n.av.cell 8 = .u8 n.hole := rfl
  simp only [X44_3, lenR_ro, Sx.int_lss, e, Option.bind_some, condM_b, if_true, hx, k0, k8, u8_eql, one_u8, app1' (Nat.le_trans ha (Nat.le_trans (Nat.le_of_lt hlt) hn))]
  rw [List.drop_eq_getElem_cons hlt, List.filter_cons]
  cases hk : (ns[i].kind == 1) with
  | true =>
   simp only [if_true]
   apply r44_4
   simp only [X44_4, e3]
   rw [l44 t2 ns hn m (i + 1) _ (by omega) (by rw [List.length_append]; simp; omega)]
   simp
  | false =>
   simp only [Bool.false_eq_true, if_false]
   apply r44_4
   simp only [X44_4, e3]
   rw [l44 t2 ns hn m (i + 1) _ (by omega) (by omega)]
theorem j44 (ns : List Nd) (t2 : AV) (hn : ns.length ≤ 1000000) : semCall (C mx) Tryd.prog 44 [.ag [.ro 9 (ns.map Nd.av), t2]] = some (.ro 1 ((ns.filter fun n => n.kind == 1).map fun n => .u8 n.hole)) := by
 apply c44
 have := l44 (mx := mx) t2 ns hn ns.length 0 [] (by omega) (by simp)
 rw [List.nil_append, List.drop_zero] at this
 exact this
theorem both_sel (p : List UInt8) (hp : p.length < 1152921504606846976) (k : AV → Option AV) : ((selW (.b (decide (((p.length : Int)) > 0))) true ((idxS (.s p) (.int 0)).bind fun v10 => (binI .eql (v10) (.u8 123)).bind fun v11 => some (v11)) (.b false)).bind fun v12 => (selW (v12) true ((idxS (.s p) (.int (w64 (((p.length : Int)) - 1)))).bind fun v13 => (binI .eql (v13) (.u8 123)).bind fun v14 => some (v14)) (.b false)).bind k) = k (.b (met p p)) := by
 cases hl : p.getLast? with
 | none =>
  obtain rfl : p = [] := by simpa using hl
  simp [met, selW_and, hl]
 | some x =>
  have hpos : 0 < p.length := by cases p with | nil => simp at hl | cons a t => simp
  rw [last_idx hl hp]
  cases hq : p[0]? with
  | none =>
   obtain rfl : p = [] := by cases p with | nil => rfl | cons a t => simp at hq
   simp at hpos
  | some y =>
   rw [head_idx hq]
   have d1 : decide ((p.length : Int) > 0) = true := by rw [decide_eq_true_eq]; omega
   simp only [d1, selW_and, Option.bind_some, u8_eql, Bool.and_true, Bool.true_and]
   unfold met
   rw [hl, hq, Bool.and_comm]
   congr 2
theorem last_sel (p : List UInt8) (hp : p.length < 1152921504606846976) (k : AV → Option AV) : ((selW (.b (decide (((p.length : Int)) > 0))) true ((idxS (.s p) (.int (w64 (((p.length : Int)) - 1)))).bind fun v10 => (binI .eql (v10) (.u8 123)).bind fun v11 => some (v11)) (.b false)).bind k) = k (.b (p.getLast? == some 123)) := by
 cases hl : p.getLast? with
 | none =>
  obtain rfl : p = [] := by simpa using hl
  simp [selW_and]
 | some x =>
  have hpos : 0 < p.length := by cases p with | nil => simp at hl | cons a t => simp
  rw [last_idx hl hp]
  have d1 : decide ((p.length : Int) > 0) = true := by rw [decide_eq_true_eq]; omega
  simp only [d1, selW_and, Option.bind_some, u8_eql, Bool.and_true, Bool.true_and]
  congr 2
def tIfx : List UInt8 := [105, 102, 32, 120]
def tRangex : List UInt8 := [114, 97, 110, 103, 101, 32, 120]
theorem aIfx : actW tIfx = ⟨2, false, .ro 1 [.s [120]], true⟩ := by kernel_rfl
theorem aRangex : actW tRangex = ⟨4, false, .ro 1 [.s [120]], true⟩ := by kernel_rfl
theorem l15 (s : List UInt8) (H : List UInt8) (ts : Ts) (hF : Frag s (st1 0) ts (st1 0)) (hs : s.length ≤ 30000) (hH : H.length ≤ 1000000) : ∀ (m i : Nat), H.length = i + m →
  F15_16 (semRun (C mx) Tryd.prog 15 Tryd.f15) s (.ro 1 (H.map .u8)) (.ro 1 ((H ++ H).map .u8)) (i : Int) = some (.b true)
 | 0, i, hi => by
  apply r15_16
  have e : decide ((i : Int) < ((H.map AV.u8).length : Int)) = false := by rw [decide_eq_false_iff_not, List.length_map]; omega
  have a1 : binS .add (.s [123, 123, 105, 102, 32, 120, 125, 125]) (.s s) = some (.s ([123, 123, 105, 102, 32, 120, 125, 125] ++ s)) := s_add' (by simp only [List.length_cons, List.length_nil]; omega)
  have a2 : binS .add (.s ([123, 123, 105, 102, 32, 120, 125, 125] ++ s)) (.s [123, 123, 101, 110, 100, 125, 125]) = some (.s (actS tIfx ++ (s ++ actS tEnd))) := (s_add' (by simp only [List.length_append, List.length_cons, List.length_nil]; omega)).trans (by simp [actS, tIfx, tEnd, brO, brC])
  have a3 : binS .add (.s [123, 123, 114, 97, 110, 103, 101, 32, 120, 125, 125]) (.s s) = some (.s ([123, 123, 114, 97, 110, 103, 101, 32, 120, 125, 125] ++ s)) := s_add' (by simp only [List.length_cons, List.length_nil]; omega)
  have a4 : binS .add (.s ([123, 123, 114, 97, 110, 103, 101, 32, 120, 125, 125] ++ s)) (.s [123, 123, 101, 110, 100, 125, 125]) = some (.s (actS tRangex ++ (s ++ actS tEnd))) := (s_add' (by simp only [List.length_append, List.length_cons, List.length_nil]; omega)).trans (by simp [actS, tRangex, tEnd, brO, brC])
  simp only [X15_16, lenR_ro, Sx.int_lss, e, Option.bind_some, condM_b, Bool.false_eq_true, if_false]
  rw [last_sel s (by omega)]
  simp only [condM_b]
  cases hlast : (s.getLast? == some 123) with
  | true => rfl
  | false =>
   have hm : s.getLast? ≠ some 123 := by simpa using hlast
   obtain ⟨t1, t2, x, y, f1, f2⟩ := frag_wrap (t := tIfx) hF hm (by decide) (by rw [aIfx]) (.inl (by rw [aIfx])) (by show s.length + 4 ≤ 60000; omega)
   obtain ⟨t3, t4, x', y', f3, f4⟩ := frag_wrap (t := tRangex) hF hm (by decide) (by rw [aRangex]) (.inr (by rw [aRangex])) (by show s.length + 7 ≤ 60000; omega)
   have b1 := j43 (mx := mx) f1
   have b2 := j43 (mx := mx) f3
   rw [if_neg (by rintro ⟨h1, h2⟩; rw [if_pos h1] at h2; exact h2 rfl)] at b1 b2
   have p0 (a b c : AV) : tupI (.tu [a, b, c]) 0 = some a := rfl
   have p1 (a b c : AV) : tupI (.tu [a, b, c]) 1 = some b := rfl
   have p2 (a b c : AV) : tupI (.tu [a, b, c]) 2 = some c := rfl
   simp only [Bool.false_eq_true, if_false, a1, a2, a3, a4, b1, b2, Option.bind_some, p0, p1, p2, asAg2, Sx.int_eql, selW_or, selW_and]
   rcases f2 with rfl | rfl <;> rcases f4 with rfl | rfl <;> rfl
 | m + 1, i, hi => by
  apply r15_16
  have hlt : i < H.length := by omega
  have e : decide ((i : Int) < ((H.map AV.u8).length : Int)) = true := by rw [decide_eq_true_eq, List.length_map]; omega
  have e3 : w64 ((i : Int) + 1) = ((i + 1 : Nat) : Int) := by rw [w64_eq (by omega) (by omega)]; omega
  have x1 : idx 1 (.ro 1 ((H ++ H).map AV.u8)) (.int (i : Int)) = some (.u8 H[i]) := by
   rw [idx_get 1 (by rw [List.length_map, List.length_append]; omega)]
   simp only [List.getElem_map, List.getElem_append_left hlt]
  have x2 : idx 1 (.ro 1 (H.map AV.u8)) (.int (i : Int)) = some (.u8 H[i]) := by
   rw [idx_get 1 (by rw [List.length_map]; omega)]
   simp
  have x3 : idx 1 (.ro 1 ((H ++ H).map AV.u8)) (.int ((i + H.length : Nat) : Int)) = some (.u8 H[i]) := by
   rw [idx_get 1 (by rw [List.length_map, List.length_append]; omega)]
   simp [List.getElem_append_right]
  have ha : binI .add (.int (i : Int)) (.int ((H.map AV.u8).length : Int)) = some (.int ((i + H.length : Nat) : Int)) := by
   rw [int_add (by rw [List.length_map]; omega) (by rw [List.length_map]; omega), List.length_map]; rfl
  have k0 (b : UInt8) : AV.cell (.u8 b) 0 = .u8 b := rfl
  have nq (b : UInt8) : binI .neq (.u8 b) (.u8 b) = some (.b false) := by rw [u8_neq]; simp
  simp only [X15_16, lenR_ro, Sx.int_lss, e, Option.bind_some, condM_b, if_true, x1, x2, k0, nq, ha, x3, selW_or, Bool.or_self, Bool.false_eq_true, if_false, e3]
  exact l15 s H ts hF hs hH m (i + 1) (by omega)
theorem law15 (s : List UInt8) : semCall (C mx) Tryd.prog 15 [.s s] = some (.b true) := by
 apply c15
 have hun : unop .not (.b true) = some (.b false) := rfl
 obtain ⟨t1, t2, d, a, e, h1, g1⟩ := frag_shape s (st1 0)
 have b1 := j43 (mx := mx) h1
 have p0 (a b c : AV) : tupI (.tu [a, b, c]) 0 = some a := rfl
 have p1 (a b c : AV) : tupI (.tu [a, b, c]) 1 = some b := rfl
 have p2 (a b c : AV) : tupI (.tu [a, b, c]) 2 = some c := rfl
 have bad : ∀ (t1 t2 : AV) (a e : Int), e ≠ 0 → semCall (C mx) Tryd.prog 43 [.s s] = some (.tu [.ag [t1, t2], .int a, .int e]) → X15 (semCall (C mx) Tryd.prog) (semRun (C mx) Tryd.prog 15 Tryd.f15) s = some (.b true) := by
  intro t1 t2 a e he hb
  simp only [X15, j40 (mx := mx), hb, Option.bind_some, hun, condM_b, Bool.false_eq_true, if_false, p0, p1, p2, asAg2, Sx.int_neq, selW_or]
  rw [if_pos (by simp [he])]
 by_cases h8 : e = 0 ∧ d ≠ st1 0
 ·rw [if_pos h8] at b1
  exact bad _ _ _ _ (by decide) b1
 ·rw [if_neg h8] at b1
  rcases g1 with ⟨ge, _⟩ | ⟨rfl, rfl, ts, hF, rfl, rfl⟩
  ·exact bad _ _ _ _ ge b1
  ·obtain rfl : d = st1 0 := by
    by_cases hd : d = st1 0
    ·exact hd
    ·exact absurd ⟨rfl, hd⟩ h8
   simp only [X15, j40 (mx := mx), b1, Option.bind_some, hun, condM_b, Bool.false_eq_true, if_false, p0, p1, p2, asAg2, Sx.int_neq, selW_or, bne_self_eq_false, Bool.false_or]
   by_cases hl : s.length > 30000
   ·rw [if_pos (by rw [decide_eq_true_eq]; omega)]
   ·rw [if_neg (by rw [decide_eq_true_eq]; omega), both_sel s (by omega)]
    cases hm : met s s with
    | true => rfl
    | false =>
     have hl' : s.length ≤ 30000 := by omega
     have hadd : binS .add (.s s) (.s s) = some (.s (s ++ s)) := s_add' (by omega)
     obtain ⟨vs, hV, hh⟩ := frag_join hF hF (met_meet hm) (by rw [List.length_append]; omega)
     have b2 := j43 (mx := mx) hV.av
     rw [if_neg (by simp)] at b2
     have hsz : ∀ {l : List UInt8} {us : Ts} {c d : Ctx}, Frag l c us d → (arrH 0 us c).length ≤ 100000 := by
      intro l us c d h
      rw [arrH_len]
      have h1 := Ts.flat_len us
      have h2 := wordsF_len (l.length + 1) l 0 []
      have h3 := lx_words h.lx
      unfold wordsW at h3
      rw [h3] at h2
      simp only [List.length_nil] at h2
      have := h.len
      omega
     have b3 := j44 (mx := mx) (arrH 0 ts (st1 0)) (.ro 1 (numsAV (ts.tops 0))) (Nat.le_trans (hsz hF) (by decide))
     have b4 := j44 (mx := mx) (arrH 0 vs (st1 0)) (.ro 1 (numsAV (vs.tops 0))) (Nat.le_trans (hsz hV) (by decide))
     have m1 : ((arrH 0 ts (st1 0)).filter fun n => n.kind == 1).map (fun n => AV.u8 n.hole) = (holesT ts (st1 0)).map .u8 := by
      rw [← holes_arr ts 0 (st1 0) hF.ok, List.map_map]; rfl
     have m2 : ((arrH 0 vs (st1 0)).filter fun n => n.kind == 1).map (fun n => AV.u8 n.hole) = (holesT ts (st1 0) ++ holesT ts (st1 0)).map .u8 := by
      rw [← hh, ← holes_arr vs 0 (st1 0) hV.ok, List.map_map]; rfl
     have hHl : (holesT ts (st1 0)).length ≤ 100000 := by
      rw [← holes_arr ts 0 (st1 0) hF.ok, List.length_map]
      exact Nat.le_trans (List.length_filter_le _ _) (hsz hF)
     rw [m1] at b3
     rw [m2] at b4
     have hmul : binI .mul (.int 2) (.int (((holesT ts (st1 0)).map AV.u8).length : Int)) = some (.int (((holesT ts (st1 0) ++ holesT ts (st1 0)).map AV.u8).length : Int)) := by
      show some (AV.int (w64 _)) = _
      rw [List.length_map, List.length_map, List.length_append, w64_eq (by omega) (by omega)]
      congr 2; omega
     simp only [condM_b, Bool.false_eq_true, if_false, hadd, b2, b3, b4, Option.bind_some, p0, p1, p2, asAg2, Sx.int_neq, bne_self_eq_false, List.getD_cons_zero, List.getD_cons_succ, lenR_ro, hmul]
     exact l15 s _ ts hF hl' (Nat.le_trans hHl (by decide)) (holesT ts (st1 0)).length 0 (by omega)
end R3J
