/-
  What the document says, in plain Lean, with no program in sight.
-/
import Derived.Test.YtcmpmpnjidjenaaDoorPureA
set_option linter.unusedVariables false
set_option linter.unusedSimpArgs false
set_option linter.unusedSectionVars false
set_option linter.unnecessarySimpa false
/-
  SxPTok4: what holds of all tokens.
-/
namespace Sx
open Go

theorem run_ctx : ∀ (l : List UInt8) (r : Rd) (i : Int), (r.run l i).1.c = (runL plainB r.c l i).1 ∧ (r.run l i).2 = (runL plainB r.c l i).2
  | [], r, i => ⟨rfl, rfl⟩
  | b :: l, r, i => by
    unfold Rd.run runL
    rw [take_c]
    split
    · exact ⟨take_c r b, rfl⟩
    · have := run_ctx l (r.take b) (i + 1)
      rw [take_c] at this
      exact this
theorem tokAll_ctx (p : List UInt8) : (tokAll p).2 = plainsB (st1 0) p := by
  have := run_ctx p Rd.new 0
  exact Prod.ext this.1 this.2

/-- Is it a tag's state? -/
def inTag (s : UInt8) : Bool := decide (3 ≤ s) && decide (s ≤ 10)
def inNote (s : UInt8) : Bool := decide (11 ≤ s) && decide (s ≤ 16)
/-- A token as it should be. -/
def tokOk (t : Tok) : Bool := if t.kind == 0 then !t.data.isEmpty && t.name.isEmpty && t.attrs.isEmpty && t.nil else if t.kind == 1 || t.kind == 2 then !t.name.isEmpty && t.data.isEmpty else true
/-- No two texts stand together. -/
def apart' : List Tok → Bool
  | a :: b :: l => !(a.kind == 0 && b.kind == 0) && apart' (b :: l)
  | _ => true
def lastText (l : List Tok) : Bool := match l.getLast? with | some t => t.kind == 0 | none => false
def weight (l : List Tok) : Nat := (l.map fun t => t.data.length + t.name.length).sum
theorem apart_snoc : ∀ (l : List Tok) (t : Tok), apart' l = true → (lastText l && t.kind == 0) = false → apart' (l ++ [t]) = true
  | [], t, _, _ => rfl
  | [a], t, _, h => by simp only [lastText, List.getLast?_singleton] at h; simp only [List.cons_append, List.nil_append, apart', h]; rfl
  | a :: b :: l, t, h, h2 => by
    simp only [apart', Bool.and_eq_true] at h
    have e : lastText (b :: l) = lastText (a :: b :: l) := by unfold lastText; rw [List.getLast?_cons_cons]
    have := apart_snoc (b :: l) t h.2 (by rw [e]; exact h2)
    show (!(a.kind == 0 && b.kind == 0) && apart' (b :: l ++ [t])) = true
    rw [h.1, this]; rfl
theorem lastText_snoc (l : List Tok) (t : Tok) : lastText (l ++ [t]) = (t.kind == 0) := by simp [lastText]
theorem weight_snoc (l : List Tok) (t : Tok) : weight (l ++ [t]) = weight l + (t.data.length + t.name.length) := by simp [weight]

/-- What the reader holds of its tokens, behind so many bytes. -/
structure Fine (r : Rd) (n : Nat) : Prop where
  fm : form r.c = true
  all : r.out.all tokOk = true
  ap : apart' r.out = true
  opn : r.op = (inTag r.c.st || inNote r.c.st)
  lt : r.op = false → lastText r.out = false
  tx : r.op = true → r.text = []
  tg : inTag r.c.st = true → (r.kind = 1 ∨ r.kind = 2) ∧ r.name ≠ [] ∧ r.data = []
  nt : inNote r.c.st = true → (r.kind = 3 ∨ r.kind = 4)
  n3 : r.c.st = 3 → r.name = r.c.nm
  n19 : r.c.st = 19 → r.c.nm.length + 1 ≤ r.pend.length
  w : weight r.out + r.text.length + r.pend.length + r.data.length + (if r.op then r.name.length else 0) ≤ n

theorem inTag_of {s : UInt8} (h : isT s = true ∨ s = 8) : inTag s = true := by
  rcases h with h | h
  · rcases isT_cases h with q | q | q | q | q | q | q <;> rw [q] <;> decide
  · rw [h]; decide
/-- To where a byte leads. -/
def ToC (c d : Ctx) (b : UInt8) : Prop :=
  (c.st = 0 ∨ c.st = 1 ∨ c.st = 2 → d.st = 0 ∨ d.st = 1 ∨ d.st = 2 ∨ d.st = 3 ∨ d.st = 11 ∨ d.st = 16) ∧
  (isT c.st = true ∨ c.st = 8 → inTag d.st = true ∨ d.st = 0 ∨ d.st = 17 ∨ d.st = 20) ∧
  (inNote c.st = true → inNote d.st = true ∨ d.st = 0 ∨ d.st = 20) ∧
  (c.st = 17 ∨ c.st = 18 ∨ c.st = 19 → d.st = 17 ∨ d.st = 18 ∨ d.st = 19 ∨ d.st = 20 ∨ ((d.st = 4 ∨ d.st = 10 ∨ d.st = 0) ∧ c.st = 19 ∧ c.nm = nameOf c.el)) ∧
  (d.st = 3 → ((c.st = 1 ∨ c.st = 2) ∧ d.nm.length = 1) ∨ (c.st = 3 ∧ d.nm.length = c.nm.length + 1)) ∧
  (d.st = 19 → (c.st = 18 ∧ d.nm = c.nm) ∨ (c.st = 19 ∧ d.nm.length = c.nm.length + 1))
theorem grown_3 (c : Ctx) (b : UInt8) (h : (grown c b).st = 3) : c.st = 3 ∧ (grown c b).nm.length = c.nm.length + 1 := by
  unfold grown at h ⊢
  split at h
  · cases h
  · rename_i hh; rw [if_neg hh]; exact ⟨h, by simp⟩
theorem tag_to (c : Ctx) (b : UInt8) (hT : isT c.st = true) (h : (tag c b).2 = false) :
    (inTag (tag c b).1.st = true ∨ (tag c b).1.st = 0 ∨ (tag c b).1.st = 17 ∨ (tag c b).1.st = 20) ∧ ((tag c b).1.st = 3 → c.st = 3 ∧ (tag c b).1.nm.length = c.nm.length + 1) ∧ (tag c b).1.st ≠ 19 := by
  have hg := grown_stC c b
  have h3 := grown_3 c b
  have ht := tagEnd_st0 c.el
  rcases isT_cases hT with e | e | e | e | e | e | e
  all_goals unfold tag at h ⊢
  all_goals simp only [e] at h hg ht ⊢
  · revert h; cases (!blankB b && b != 47 && b != 62) <;> cases c.en <;> simp [within] <;> (rcases hg with hg | hg <;> simp [hg, inTag]) <;> exact (h3 hg).2
  · revert h; cases h1 : blankB b <;> cases h2 : (b == 47 || b == 62) <;> cases h3 : (b == 61) <;> simp [within, badC, e, inTag]
  · unfold named at h ⊢
    simp only [e] at h ⊢
    revert h
    cases h1 : (b == 61 && c.nm != []) <;> cases h2 : (b == 47 || b == 62) <;> cases h3 : blankB b <;> cases h4 : (b == 34 || b == 39 || b == 60) <;> simp [within, badC, inTag] <;> (rcases hg with hg | hg <;> simp [hg]; done)
  · unfold named at h ⊢
    simp only [e] at h ⊢
    revert h
    cases h1 : (b == 61 && c.nm != []) <;> cases h2 : (b == 47 || b == 62) <;> cases h3 : blankB b <;> cases h4 : (b == 34 || b == 39 || b == 60) <;> simp [within, badC, inTag] <;> (rcases hg with hg | hg <;> simp [hg]; done)
  · unfold begunV at h ⊢
    revert h
    cases h1 : blankB b <;> cases h2 : (b == 62) <;> cases h3 : (b == 34 || b == 39) <;> simp [badC, e, inTag]
  · revert h; cases h1 : blankB b <;> cases h2 : (b == 47) <;> cases h3 : (b == 62) <;> simp [within, badC, inTag] <;> rcases ht with ht | ht <;> simp [ht]
  · revert h; cases h1 : (b == 62) <;> simp [within] <;> rcases ht with ht | ht <;> simp [ht, inTag]
theorem raw_to (c : Ctx) (b : UInt8) (feed : Bool) (e : c.st = 17 ∨ c.st = 18 ∨ c.st = 19) :
    ((raw c b feed).st = 4 ∨ (raw c b feed).st = 10 ∨ (raw c b feed).st = 0 → c.st = 19 ∧ c.nm = nameOf c.el) ∧ ((raw c b feed).st = 19 → (c.st = 18 ∧ (raw c b feed).nm = c.nm) ∨ (c.st = 19 ∧ (raw c b feed).nm.length = c.nm.length + 1)) := by
  have hf (c : Ctx) (l : List UInt8) : (fed c l feed).st = 17 ∨ (fed c l feed).st = 20 := by
    rcases fed_st c l feed with h | h
    · exact .inl h
    · right; rw [h]; rfl
  have h2 (c : Ctx) : (raw2 c b feed).st = 17 ∨ (raw2 c b feed).st = 18 ∨ (raw2 c b feed).st = 20 := by
    unfold raw2
    split
    · exact .inr (.inr rfl)
    · split
      · exact .inr (.inl rfl)
      · rcases hf c [b] with h | h
        · exact .inl h
        · exact .inr (.inr h)
  have ht : (tag ⟨9, 0, true, 0, 0, 0, 0, false, 0, []⟩ b).1.st = 4 ∨ (tag ⟨9, 0, true, 0, 0, 0, 0, false, 0, []⟩ b).1.st = 10 ∨ (tag ⟨9, 0, true, 0, 0, 0, 0, false, 0, []⟩ b).1.st = 0 ∨ (tag ⟨9, 0, true, 0, 0, 0, 0, false, 0, []⟩ b).1.st = 20 := by
    unfold tag
    simp only [show ((9 : UInt8) == 3) = false from rfl, show ((9 : UInt8) == 9) = true from rfl, Bool.false_eq_true, if_false, if_true]
    cases blankB b <;> cases (b == 47) <;> cases (b == 62) <;> simp [within, tagEnd, badC, st1]
  have bad (d : Ctx) (hd : d.st = 17 ∨ d.st = 18 ∨ d.st = 20) : (d.st = 4 ∨ d.st = 10 ∨ d.st = 0 → c.st = 19 ∧ c.nm = nameOf c.el) ∧ (d.st = 19 → (c.st = 18 ∧ d.nm = c.nm) ∨ (c.st = 19 ∧ d.nm.length = c.nm.length + 1)) := by
    rcases hd with q | q | q <;> rw [q] <;> exact ⟨fun h => absurd h (by decide), fun h => absurd h (by decide)⟩
  unfold raw
  split
  · rename_i h
    simp only [Bool.and_eq_true, beq_iff_eq] at h
    exact ⟨fun q => (by simp at q), fun _ => .inl ⟨h.1, rfl⟩⟩
  · split
    · exact bad _ (.inr (.inr rfl))
    · split
      · rename_i h
        simp only [Bool.and_eq_true, beq_iff_eq] at h
        split
        · exact bad _ (.inr (.inr rfl))
        · exact ⟨fun _ => ⟨h.1.1, h.1.2⟩, fun q => by rcases ht with r | r | r | r <;> rw [r] at q <;> exact absurd q (by decide)⟩
      · split
        · rename_i h
          simp only [Bool.and_eq_true, beq_iff_eq] at h
          refine ⟨fun q => ?_, fun _ => .inr ⟨h.1, by simp⟩⟩
          rw [show ({ c with nm := c.nm ++ [lowb b] } : Ctx).st = c.st from rfl, h.1] at q
          exact absurd q (by decide)
        · split
          · exact bad _ (h2 _)
          · exact bad _ (h2 _)
theorem opened_to (b : UInt8) (h : (opened b).2 = true) : ((opened b).1.st = 3 ∧ (opened b).1.nm.length = 1) ∨ (opened b).1.st = 2 ∨ (opened b).1.st = 11 ∨ (opened b).1.st = 16 := by
  unfold opened at h ⊢
  split
  · exact .inl ⟨rfl, rfl⟩
  · split
    · exact .inr (.inl rfl)
    · split
      · exact .inr (.inr (.inl rfl))
      · split
        · exact .inr (.inr (.inr rfl))
        · simp_all
theorem closed_to (b : UInt8) : ((closed b).st = 3 ∧ (closed b).nm.length = 1) ∨ (closed b).st = 0 ∨ (closed b).st = 16 := by
  unfold closed
  split
  · exact .inl ⟨rfl, rfl⟩
  · split
    · exact .inr (.inl rfl)
    · exact .inr (.inr rfl)
theorem again_to (b : UInt8) (feed : Bool) : ∀ (n : Nat) (c d : Ctx), decide (c.st ≤ 20) = true → c.da.toNat ≤ 2 → again n c b feed = some d → ToC c d b
  | 0, c, d, _, _, h => by cases h
  | n + 1, c, d, hs, hd, h => by
    unfold again at h
    rcases st_all c.st hs with e | e | e | e | e | e
    · simp only [e, beq_self_eq_true, if_true] at h
      cases hb : (b == 60) <;> rw [hb] at h <;> simp only [Bool.false_eq_true, if_false, if_true, Option.some.injEq] at h <;> subst h <;> simp [ToC, e, isT, inNote]
    · rw [e] at h
      rw [show ((1 : UInt8) == 0) = false from rfl, show ((1 : UInt8) == 1) = true from rfl] at h
      simp only [Bool.false_eq_true, if_false, if_true] at h
      cases ho : (opened b).2 with
      | true =>
        rw [ho] at h
        simp only [if_true, Option.some.injEq] at h
        subst h
        unfold ToC
        rw [e]
        rcases opened_to b ho with ⟨q, q2⟩ | q | q | q <;> rw [q] <;> simp [isT, inNote] <;> exact q2
      | false =>
        rw [ho] at h
        simp only [Bool.false_eq_true, if_false] at h
        obtain ⟨a1, a2, a3, a4, a5, a6⟩ := again_to b feed n { c with st := 0 } d rfl hd h
        unfold ToC
        rw [e]
        refine ⟨fun _ => a1 (.inl rfl), fun q => absurd q (by decide), fun q => absurd q (by decide), fun q => absurd q (by decide), fun q => ?_, fun q => ?_⟩
        · have := a5 q; revert this; simp
        · have := a6 q; revert this; simp
    · rw [e] at h
      have h' : closed b = d := by simpa using h
      subst h'
      unfold ToC
      rw [e]
      rcases closed_to b with ⟨q, q2⟩ | q | q <;> rw [q] <;> simp [isT, inNote] <;> exact q2
    · have hn : (c.st == 0) = false ∧ (c.st == 1) = false ∧ (c.st == 2) = false := by rcases isT_cases e with q | q | q | q | q | q | q <;> rw [q] <;> decide
      have hno : inNote c.st = false ∧ ¬ (c.st = 0 ∨ c.st = 1 ∨ c.st = 2) ∧ ¬ (c.st = 17 ∨ c.st = 18 ∨ c.st = 19) := by rcases isT_cases e with q | q | q | q | q | q | q <;> rw [q] <;> decide
      rw [hn.1, hn.2.1, hn.2.2, e] at h
      simp only [Bool.false_eq_true, if_false, if_true] at h
      cases ht : (tag c b).2 with
      | false =>
        rw [ht] at h
        simp only [Bool.false_eq_true, if_false, Option.some.injEq] at h
        subst h
        obtain ⟨a1, a2, a3⟩ := tag_to c b e ht
        exact ⟨fun q => absurd q hno.2.1, fun _ => a1, fun q => (by rw [hno.1] at q; cases q), fun q => absurd q hno.2.2, fun q => .inr (a2 q), fun q => absurd q a3⟩
      | true =>
        rw [ht] at h
        simp only [if_true] at h
        have hda : (tag c b).1.da.toNat ≤ 2 := by rcases tag_da c b with q | q <;> rw [q]; exact hd; decide
        have hm := tag_more c b e ht
        have hle : decide ((tag c b).1.st ≤ 20) = true := by rcases hm with q | q | q | q <;> first | rw [q]; decide | rw [q.1]; decide
        have hT : isT (tag c b).1.st = true ∨ (tag c b).1.st = 8 := by rcases hm with q | q | q | q <;> first | (left; rw [q]; rfl) | (left; rw [q.1]; rfl) | exact .inr q.1
        obtain ⟨a1, a2, a3, a4, a5, a6⟩ := again_to b feed n _ d hle hda h
        refine ⟨fun q => absurd q hno.2.1, fun _ => a2 hT, fun q => (by rw [hno.1] at q; cases q), fun q => absurd q hno.2.2, fun q => ?_, fun q => ?_⟩
        · have h1 := a5 q
          rcases hm with q | q | ⟨q, _, _⟩ | ⟨q, _⟩ <;> rw [q] at h1 <;> simp at h1
        · have h1 := a6 q
          rcases hm with q | q | ⟨q, _, _⟩ | ⟨q, _⟩ <;> rw [q] at h1 <;> simp at h1
    · have h' : value c b = d := by
        rw [e] at h
        simpa [isT] using h
      subst h'
      have := value_st c b e
      unfold ToC
      rw [e]
      rcases this with q | q | q | q | q | q <;> rw [q] <;> simp [inTag, inNote, isT]
    · have key : ∀ (hr : c.st = 17 ∨ c.st = 18 ∨ c.st = 19), ToC c d b := by
        intro hr
        have h' : raw c b feed = d := by
          rcases hr with q | q | q <;> rw [q] at h <;> simpa [isT] using h
        subst h'
        have h1 := raw_st c b feed hr
        obtain ⟨h2, h3⟩ := raw_to c b feed hr
        have hno : inNote c.st = false ∧ ¬ (c.st = 0 ∨ c.st = 1 ∨ c.st = 2) ∧ ¬ (isT c.st = true ∨ c.st = 8) := by rcases hr with q | q | q <;> rw [q] <;> decide
        refine ⟨fun q => absurd q hno.2.1, fun q => absurd q hno.2.2, fun q => (by rw [hno.1] at q; cases q), fun _ => ?_, fun q => ?_, h3⟩
        · rcases h1 with q | q | q | q | q | q | q
          · exact .inl q
          · exact .inr (.inl q)
          · exact .inr (.inr (.inl q))
          · exact .inr (.inr (.inr (.inl q)))
          · exact .inr (.inr (.inr (.inr ⟨.inl q, h2 (.inl q)⟩)))
          · exact .inr (.inr (.inr (.inr ⟨.inr (.inl q), h2 (.inr (.inl q))⟩)))
          · exact .inr (.inr (.inr (.inr ⟨.inr (.inr q), h2 (.inr (.inr q))⟩)))
        · rw [q] at h1; exact absurd h1 (by decide)
      have keyN : ∀ (hr : c.st = 11 ∨ c.st = 12 ∨ c.st = 13 ∨ c.st = 14 ∨ c.st = 15 ∨ c.st = 16 ∨ c.st = 20), ToC c d b := by
        intro hr
        have h' : note c b = d := by
          rcases hr with q | q | q | q | q | q | q <;> rw [q] at h <;> simpa [isT] using h
        subst h'
        obtain ⟨q1, q2, q3, q4, q5⟩ := note_st c b hr hd
        have hno : ¬ (c.st = 0 ∨ c.st = 1 ∨ c.st = 2) ∧ ¬ (isT c.st = true ∨ c.st = 8) ∧ ¬ (c.st = 17 ∨ c.st = 18 ∨ c.st = 19) := by rcases hr with q | q | q | q | q | q | q <;> rw [q] <;> decide
        refine ⟨fun q => absurd q hno.1, fun q => absurd q hno.2.1, fun _ => ?_, fun q => absurd q hno.2.2, fun q => ?_, fun q => ?_⟩
        · rcases q1 with q | q | q | q | q | q | q <;> rw [q] <;> decide
        · rw [q] at q1; exact absurd q1 (by decide)
        · rw [q] at q1; exact absurd q1 (by decide)
      rcases e with e | e | e | e
      · exact key (.inl e)
      · exact key (.inr (.inl e))
      · exact key (.inr (.inr e))
      · exact keyN e
theorem plain_to (c : Ctx) (b : UInt8) (h : form c = true) : ToC c (plainB c b) b := by
  have h1 := mv_some (flat c) b false (flat_form c h)
  have h2 := form_le c h
  have h3 := again_to b false 4 (flat c) _ h2.1 h2.2 h1
  have hn : (c.st == 8) = false → (flat c).nm = c.nm := fun e => by simp [flat, e]
  generalize hm : mv (flat c) b false = m at h3
  have hp : plainB c b = flat m := by unfold plainB; rw [if_pos h, hm]
  have hs : (flat m).st = m.st := rfl
  have hmn : (m.st == 8) = false → (flat m).nm = m.nm := fun e => by simp [flat, e]
  obtain ⟨a1, a2, a3, a4, a5, a6⟩ := h3
  rw [hp]
  refine ⟨a1, a2, a3, fun q => ?_, fun q => ?_, fun q => ?_⟩
  · rcases a4 q with r | r | r | r | ⟨r, r2, r3⟩
    · exact .inl r
    · exact .inr (.inl r)
    · exact .inr (.inr (.inl r))
    · exact .inr (.inr (.inr (.inl r)))
    · refine .inr (.inr (.inr (.inr ⟨r, r2, ?_⟩)))
      rw [hn (by rw [show c.st = 19 from r2]; rfl)] at r3
      exact r3
  · rw [hs] at q
    rw [hmn (by rw [q]; rfl)]
    rcases a5 q with ⟨r, r2⟩ | ⟨r, r2⟩
    · exact .inl ⟨r, r2⟩
    · rw [hn (by rw [show c.st = 3 from r]; rfl)] at r2
      exact .inr ⟨r, r2⟩
  · rw [hs] at q
    rw [hmn (by rw [q]; rfl)]
    rcases a6 q with ⟨r, r2⟩ | ⟨r, r2⟩
    · rw [hn (by rw [show c.st = 18 from r]; rfl)] at r2
      exact .inl ⟨r, r2⟩
    · rw [hn (by rw [show c.st = 19 from r]; rfl)] at r2
      exact .inr ⟨r, r2⟩

theorem form_nm3 (c : Ctx) (h : form c = true) (e : c.st = 3) : c.nm ≠ [] := by
  have := (form_st3 c h e).2
  intro q
  rw [q] at this
  cases this
theorem form_nm18 (c : Ctx) (h : form c = true) (e : c.st = 18) : c.nm = [] := by
  have := form_raw c h (.inr (.inl e))
  obtain ⟨su, es, h1, _⟩ := this
  rw [h1, e]
  rfl
theorem el5' {c : Ctx} (h : form c = true) : c.el = 0 ∨ c.el = 1 ∨ c.el = 2 ∨ c.el = 3 ∨ c.el = 4 := by
  rcases okE_cases (okE_of c h) with ⟨_, e⟩ | ⟨_, e⟩
  · exact .inl e
  · exact e
theorem form_el (c : Ctx) (h : form c = true) (e : c.st = 19) : nameOf c.el ≠ [] := by
  have := form_raw c h (.inr (.inr e))
  obtain ⟨su, es, h1, h2⟩ := this
  have : c.el = 1 ∨ c.el = 2 ∨ c.el = 3 ∨ c.el = 4 := by
    rcases el5' h with q | q | q | q | q
    · exfalso
      unfold form at h
      obtain ⟨_, h⟩ := of_ite h
      obtain ⟨h, _⟩ := of_ite h
      simp [e, q, isRaw] at h
    · exact .inl q
    · exact .inr (.inl q)
    · exact .inr (.inr (.inl q))
    · exact .inr (.inr (.inr q))
  rcases this with q | q | q | q <;> rw [q] <;> decide

theorem Fine.flushed {r : Rd} {n : Nat} (h : Fine r n) (ho : r.op = false) : r.flush.out.all tokOk = true ∧ apart' r.flush.out = true ∧ weight r.flush.out = weight r.out + r.text.length := by
  unfold Rd.flush
  dsimp only
  cases ht : r.text with
  | nil => exact ⟨h.all, h.ap, rfl⟩
  | cons x l =>
    simp only [List.isEmpty_cons, Bool.false_eq_true, if_false]
    refine ⟨?_, apart_snoc _ _ h.ap (by rw [h.lt ho]; rfl), by rw [weight_snoc]; simp⟩
    rw [List.all_append, h.all]
    simp [tokOk]
/-- The last token, given. -/
theorem Fine.given {out : List Tok} {k : UInt8} {nm d : List UInt8} {at' : List (List UInt8 × List UInt8)} (ha : out.all tokOk = true) (hp : apart' out = true) (hk : (k = 1 ∨ k = 2) ∧ nm ≠ [] ∧ d = [] ∨ (k = 3 ∨ k = 4)) :
    (out ++ [(⟨k, nm, at', d, false⟩ : Tok)]).all tokOk = true ∧ apart' (out ++ [(⟨k, nm, at', d, false⟩ : Tok)]) = true ∧ lastText (out ++ [(⟨k, nm, at', d, false⟩ : Tok)]) = false ∧ weight (out ++ [(⟨k, nm, at', d, false⟩ : Tok)]) = weight out + (d.length + nm.length) := by
  have hk0 : (k == 0) = false := by rcases hk with ⟨h | h, _⟩ | h | h <;> rw [h] <;> rfl
  refine ⟨?_, apart_snoc _ _ hp (by simp [hk0]), by rw [lastText_snoc]; exact hk0, weight_snoc _ _⟩
  rw [List.all_append, ha]
  rcases hk with ⟨h | h, h2, h3⟩ | h | h
  · subst h; subst h3; simp [tokOk, h2]
  · subst h; subst h3; simp [tokOk, h2]
  · subst h; simp [tokOk]
  · subst h; simp [tokOk]
theorem fine_take {r : Rd} {n : Nat} (h : Fine r n) (b : UInt8) (h20 : (r.take b).c.st ≠ 20) (hr20 : r.c.st ≠ 20) : Fine (r.take b) (n + 1) := by
  have hc := take_c r b
  rw [hc] at h20
  obtain ⟨a1, a2, a3, a4, a5, a6⟩ := plain_to r.c b h.fm
  have hfm := plain_form r.c b
  have hle := (form_le r.c h.fm).1
  have hw := h.w
  generalize hd : plainB r.c b = d at *
  have htake : r.take b = ({ r with c := d } : Rd).take1 r.c b := by unfold Rd.take; rw [hd]
  have data : ∀ (e : r.c.st = 0 ∨ r.c.st = 1 ∨ r.c.st = 2), Fine (r.take b) (n + 1) := by
    intro e
    have ho : r.op = false := by rw [h.opn]; rcases e with q | q | q <;> rw [q] <;> rfl
    rw [ho] at hw
    simp only [Bool.false_eq_true, if_false, Nat.add_zero] at hw
    have e1 : r.take b = ({ r with c := d } : Rd).dataR r.c b := by
      rw [htake]; unfold Rd.take1
      rcases e with q | q | q <;> rw [q] <;> rfl
    rw [e1]
    have plainF (r' : Rd) (hc' : r'.c = d) (h1 : r'.out = r.out) (h2 : r'.op = r.op) (h3 : r'.text.length + r'.pend.length + r'.data.length ≤ r.text.length + r.pend.length + r.data.length + 1) (hs : d.st = 0 ∨ d.st = 1 ∨ d.st = 2) : Fine r' (n + 1) :=
      { fm := by rw [hc']; exact hfm, all := by rw [h1]; exact h.all, ap := by rw [h1]; exact h.ap, opn := by rw [h2, ho, hc']; rcases hs with q | q | q <;> rw [q] <;> rfl,
        lt := fun _ => by rw [h1]; exact h.lt ho, tx := fun q => (by rw [h2, ho] at q; cases q),
        tg := fun q => (by rw [hc'] at q; rcases hs with s | s | s <;> rw [s] at q <;> cases q),
        nt := fun q => (by rw [hc'] at q; rcases hs with s | s | s <;> rw [s] at q <;> cases q),
        n3 := fun q => (by rw [hc'] at q; rcases hs with s | s | s <;> rw [s] at q <;> cases q),
        n19 := fun q => (by rw [hc'] at q; rcases hs with s | s | s <;> rw [s] at q <;> cases q),
        w := by rw [h1, h2, ho]; simp only [Bool.false_eq_true, if_false, Nat.add_zero]; omega }
    obtain ⟨f1, f2, f3⟩ := Fine.flushed (r := r) h ho
    have begF (k : UInt8) (nm dt : List UInt8) (hl : nm.length + dt.length ≤ 1) (ht : inTag d.st = true → (k = 1 ∨ k = 2) ∧ nm ≠ [] ∧ dt = []) (hn : inNote d.st = true → k = 3 ∨ k = 4) (h3 : d.st = 3 → nm = d.nm) (hon : (inTag d.st || inNote d.st) = true) (h19 : d.st ≠ 19) :
        Fine (({ r with c := d } : Rd).begin' k nm dt) (n + 1) :=
      { fm := hfm, all := f1, ap := f2, opn := hon.symm, lt := fun q => (by cases q), tx := fun _ => rfl, tg := ht, nt := hn, n3 := h3, n19 := fun q => absurd q h19,
        w := by
          show weight r.flush.out + 0 + 0 + dt.length + (if true = true then nm.length else 0) ≤ n + 1
          rw [f3]; simp only [if_true]; omega }
    have cases6 := a1 e
    unfold Rd.dataR
    rcases cases6 with s | s | s | s | s | s
    · simp only [s, show ((0 : UInt8) == 1) = false from rfl, show ((0 : UInt8) == 2) = false from rfl, show ((0 : UInt8) == 3) = false from rfl, show ((0 : UInt8) == 11) = false from rfl, show ((0 : UInt8) == 16) = false from rfl, show ((0 : UInt8) == 0) = true from rfl, Bool.false_eq_true, if_false, if_true]
      split
      · exact plainF _ rfl rfl rfl (by simp; omega) (.inl s)
      · exact plainF _ rfl rfl rfl (by simp [Rd.settle]; omega) (.inl s)
    · simp only [s, show ((1 : UInt8) == 1) = true from rfl, if_true]
      split
      · exact plainF _ rfl rfl rfl (by simp [Rd.settle]; omega) (.inr (.inl s))
      · exact plainF _ rfl rfl rfl (by simp; omega) (.inr (.inl s))
    · simp only [s, show ((2 : UInt8) == 1) = false from rfl, show ((2 : UInt8) == 2) = true from rfl, Bool.false_eq_true, if_false, if_true]
      exact plainF _ rfl rfl rfl (by simp; omega) (.inr (.inr s))
    · simp only [s, show ((3 : UInt8) == 1) = false from rfl, show ((3 : UInt8) == 2) = false from rfl, show ((3 : UInt8) == 3) = true from rfl, Bool.false_eq_true, if_false, if_true]
      have hl : d.nm.length = 1 := by
        rcases a5 s with ⟨_, q⟩ | ⟨q, _⟩
        · exact q
        · rcases e with e | e | e <;> rw [e] at q <;> cases q
      refine begF _ _ _ (by simp [hl]) (fun _ => ⟨by split; exact .inr rfl; exact .inl rfl, form_nm3 d hfm s, rfl⟩) (fun q => (by rw [s] at q; cases q)) (fun _ => rfl) (by rw [s]; rfl) (by rw [s]; decide)
    · simp only [s, show ((11 : UInt8) == 1) = false from rfl, show ((11 : UInt8) == 2) = false from rfl, show ((11 : UInt8) == 3) = false from rfl, show ((11 : UInt8) == 11) = true from rfl, Bool.false_eq_true, if_false, if_true]
      exact begF _ _ _ (by simp) (fun q => (by rw [s] at q; cases q)) (fun _ => .inr rfl) (fun q => (by rw [s] at q; cases q)) (by rw [s]; rfl) (by rw [s]; decide)
    · simp only [s, show ((16 : UInt8) == 1) = false from rfl, show ((16 : UInt8) == 2) = false from rfl, show ((16 : UInt8) == 3) = false from rfl, show ((16 : UInt8) == 11) = false from rfl, show ((16 : UInt8) == 16) = true from rfl, Bool.false_eq_true, if_false, if_true]
      exact begF _ _ _ (by simp) (fun q => (by rw [s] at q; cases q)) (fun _ => .inr rfl) (fun q => (by rw [s] at q; cases q)) (by rw [s]; rfl) (by rw [s]; decide)
  -- a token is ended
  have finF (r' : Rd) (hc' : r'.c = d) (h1 : r'.out = r.out) (h2 : r'.op = true) (h3 : r'.text = []) (h4 : r'.pend.length ≤ r.pend.length) (h5 : r'.data.length ≤ r.data.length) (h6 : r'.name = r.name) (h7 : r.op = true) (hk : (r'.kind = 1 ∨ r'.kind = 2) ∧ r'.name ≠ [] ∧ r'.data = [] ∨ (r'.kind = 3 ∨ r'.kind = 4)) (hs : d.st = 0 ∨ d.st = 17) : Fine r'.fin (n + 1) := by
    obtain ⟨g1, g2, g3, g4⟩ := Fine.given (at' := r'.attrs) h.all h.ap hk
    have ho : r'.fin.out = r.out ++ [⟨r'.kind, r'.name, r'.attrs, r'.data, false⟩] := by unfold Rd.fin; rw [h1, h2]; rfl
    refine { fm := by show form r'.c = true; rw [hc']; exact hfm, all := by rw [ho]; exact g1, ap := by rw [ho]; exact g2, opn := ?_, lt := fun _ => by rw [ho]; exact g3, tx := fun q => (by cases q), tg := fun q => ?_, nt := fun q => ?_, n3 := fun q => ?_, n19 := fun q => ?_, w := ?_ }
    · show false = (inTag r'.c.st || inNote r'.c.st)
      rw [hc']; rcases hs with s | s <;> rw [s] <;> rfl
    · have q : inTag r'.c.st = true := q
      rw [hc'] at q; rcases hs with s | s <;> rw [s] at q <;> cases q
    · have q : inNote r'.c.st = true := q
      rw [hc'] at q; rcases hs with s | s <;> rw [s] at q <;> cases q
    · have q : r'.c.st = 3 := q
      rw [hc'] at q; rcases hs with s | s <;> rw [s] at q <;> cases q
    · have q : r'.c.st = 19 := q
      rw [hc'] at q; rcases hs with s | s <;> rw [s] at q <;> cases q
    · rw [ho, g4]
      show weight r.out + (r'.data.length + r'.name.length) + r'.text.length + r'.pend.length + 0 + (if false = true then 0 else 0) ≤ n + 1
      rw [h3, h6]
      rw [h7] at hw
      simp only [Bool.false_eq_true, if_false, if_true, List.length_nil] at hw ⊢
      omega
  have tagK : ∀ (e : isT r.c.st = true ∨ r.c.st = 8), Fine (r.take b) (n + 1) := by
    intro e
    have hin := inTag_of e
    have ho : r.op = true := by rw [h.opn, hin]; rfl
    have e1 : r.take b = ({ r with c := d } : Rd).tagR r.c b := by
      rw [htake]; unfold Rd.take1
      have : (r.c.st == 0 || r.c.st == 1 || r.c.st == 2) = false ∧ (r.c.st == 17 || r.c.st == 18 || r.c.st == 19) = false ∧ (r.c.st == 11 || r.c.st == 12 || r.c.st == 13 || r.c.st == 14 || r.c.st == 15 || r.c.st == 16) = false := by
        rcases e with hT | hT
        · rcases isT_cases hT with q | q | q | q | q | q | q <;> rw [q] <;> decide
        · rw [hT]; decide
      rw [this.1, this.2.1, this.2.2]
      rfl
    obtain ⟨t1, t2, t3⟩ := h.tg hin
    have hx := h.tx ho
    rw [ho] at hw
    simp only [if_true] at hw
    rw [e1]
    have keep (r' : Rd) (hc' : r'.c = d) (h1 : r'.out = r.out) (h2 : r'.op = r.op) (h3 : r'.text = r.text) (h4 : r'.pend = r.pend) (h5 : r'.data = r.data) (h6 : r'.kind = r.kind) (h7 : r'.name.length ≤ r.name.length + 1) (h8 : r'.name ≠ []) (h9 : d.st = 3 → r'.name = d.nm) (hs : inTag d.st = true) : Fine r' (n + 1) :=
      { fm := by rw [hc']; exact hfm, all := by rw [h1]; exact h.all, ap := by rw [h1]; exact h.ap, opn := by rw [h2, ho, hc', hs]; rfl, lt := fun q => (by rw [h2, ho] at q; cases q), tx := fun _ => by rw [h3]; exact hx,
        tg := fun _ => ⟨by rw [h6]; exact t1, h8, by rw [h5]; exact t3⟩, nt := fun q => by
          rw [hc'] at q
          exfalso
          unfold inTag at hs; unfold inNote at q
          simp only [Bool.and_eq_true, decide_eq_true_eq] at hs q
          have := UInt8.le_trans q.1 hs.2
          exact absurd this (by decide),
        n3 := fun q => by rw [hc'] at q ⊢; exact h9 q, n19 := fun q => (by rw [hc'] at q; rw [q] at hs; cases hs),
        w := by rw [h1, h2, ho, h3, h4, h5]; simp only [if_true]; omega }
    rcases a2 e with s | s | s | s
    · unfold Rd.tagR
      split
      · rename_i q
        have q : d.st = 3 := by simpa using q
        refine keep _ rfl rfl rfl rfl rfl rfl rfl ?_ (form_nm3 d hfm q) (fun _ => rfl) s
        show d.nm.length ≤ _
        rcases a5 q with ⟨q1, q2⟩ | ⟨q1, q2⟩
        · rw [q2]; omega
        · rw [q2, h.n3 q1]; exact Nat.le_refl _
      · rename_i q3
        have n3 : d.st ≠ 3 := fun q => q3 (by simp [q])
        have k0 (r' : Rd) (hc' : r'.c = d) (h1 : r'.out = r.out) (h2 : r'.op = r.op) (h3 : r'.text = r.text) (h4 : r'.pend = r.pend) (h5 : r'.data = r.data) (h6 : r'.kind = r.kind) (h7 : r'.name = r.name) : Fine r' (n + 1) :=
          keep r' hc' h1 h2 h3 h4 h5 h6 (by rw [h7]; omega) (by rw [h7]; exact t2) (fun q => absurd q n3) s
        split
        · exact k0 _ rfl rfl rfl rfl rfl rfl rfl rfl
        · split
          · split
            · exact k0 _ rfl rfl rfl rfl rfl rfl rfl rfl
            · exact k0 _ rfl rfl rfl rfl rfl rfl rfl rfl
          · split
            · rename_i q; have q : d.st = 0 := by simpa using q
              rw [q] at s; cases s
            · split
              · rename_i q; have q : d.st = 17 := by simpa using q
                rw [q] at s; cases s
              · exact k0 _ rfl rfl rfl rfl rfl rfl rfl rfl
    · have e2 : ({ r with c := d } : Rd).tagR r.c b = ({ r with c := d } : Rd).fin := by unfold Rd.tagR; simp only [s]; rfl
      rw [e2]
      exact finF _ rfl rfl ho hx (Nat.le_refl _) (Nat.le_refl _) rfl ho (.inl ⟨t1, t2, t3⟩) (.inl s)
    · have e2 : ({ r with c := d } : Rd).tagR r.c b = ({ r with c := d } : Rd).fin := by unfold Rd.tagR; simp only [s]; rfl
      rw [e2]
      exact finF _ rfl rfl ho hx (Nat.le_refl _) (Nat.le_refl _) rfl ho (.inl ⟨t1, t2, t3⟩) (.inr s)
    · exact absurd s h20
  have noteK : ∀ (e : inNote r.c.st = true), Fine (r.take b) (n + 1) := by
    intro e
    have ho : r.op = true := by rw [h.opn, e, Bool.or_true]
    have hx := h.tx ho
    have hk := h.nt e
    have e1 : r.take b = ({ r with c := d } : Rd).noteR r.c b := by
      rw [htake]; unfold Rd.take1
      rcases st_all r.c.st hle with q | q | q | q | q | q | q | q | q | q | q | q | q | q | q
      all_goals first
        | (rw [q] at e; cases e; done)
        | (rw [q]; rfl)
        | (exfalso; rcases isT_cases q with z | z | z | z | z | z | z <;> rw [z] at e <;> cases e)
    rw [ho] at hw
    simp only [if_true] at hw
    rw [e1]
    have keep (r' : Rd) (hc' : r'.c = d) (h1 : r'.out = r.out) (h2 : r'.op = r.op) (h3 : r'.text = r.text) (h4 : r'.pend = r.pend) (h5 : r'.data.length ≤ r.data.length + 1) (h6 : r'.kind = 3 ∨ r'.kind = 4) (h7 : r'.name.length ≤ r.name.length) (hs : inNote d.st = true) : Fine r' (n + 1) :=
      have ht : inTag d.st = false := by
        cases hh : inTag d.st with
        | false => rfl
        | true =>
          exfalso
          unfold inTag at hh; unfold inNote at hs
          simp only [Bool.and_eq_true, decide_eq_true_eq] at hs hh
          exact absurd (UInt8.le_trans hs.1 hh.2) (by decide)
      { fm := by rw [hc']; exact hfm, all := by rw [h1]; exact h.all, ap := by rw [h1]; exact h.ap, opn := by rw [h2, ho, hc', hs, Bool.or_true], lt := fun q => (by rw [h2, ho] at q; cases q), tx := fun _ => by rw [h3]; exact hx,
        tg := fun q => (by rw [hc', ht] at q; cases q), nt := fun _ => h6, n3 := fun q => (by rw [hc'] at q; rw [q] at hs; cases hs), n19 := fun q => (by rw [hc'] at q; rw [q] at hs; cases hs),
        w := by rw [h1, h2, ho, h3, h4]; simp only [if_true]; omega }
    rcases a3 e with s | s | s
    · unfold Rd.noteR
      have n0 : (d.st != 0) = true := by
        cases hz : (d.st != 0) with
        | true => rfl
        | false => have : d.st = 0 := by simpa using hz
                   rw [this] at s; cases s
      split
      · exact keep _ rfl rfl rfl rfl rfl (by simp) (.inl rfl) (by simp) s
      · dsimp only
        exact keep _ rfl rfl rfl rfl rfl (by simp) hk (Nat.le_refl _) s
    · have e2 : ({ r with c := d } : Rd).noteR r.c b = if r.c.st == 15 then ({ r with c := d, data := r.data.take (r.data.length - 2) } : Rd).fin else ({ r with c := d } : Rd).fin := by unfold Rd.noteR; simp only [s]; rfl
      rw [e2]
      split
      · exact finF _ rfl rfl ho hx (Nat.le_refl _) (by simp) rfl ho (.inr hk) (.inl s)
      · exact finF _ rfl rfl ho hx (Nat.le_refl _) (Nat.le_refl _) rfl ho (.inr hk) (.inl s)
    · exact absurd s h20
  have rawK : ∀ (e : r.c.st = 17 ∨ r.c.st = 18 ∨ r.c.st = 19), Fine (r.take b) (n + 1) := by
    intro e
    have ho : r.op = false := by rw [h.opn]; rcases e with q | q | q <;> rw [q] <;> rfl
    rw [ho] at hw
    simp only [Bool.false_eq_true, if_false, Nat.add_zero] at hw
    have e1 : r.take b = ({ r with c := d } : Rd).rawR r.c b := by
      rw [htake]; unfold Rd.take1
      rcases e with q | q | q <;> rw [q] <;> rfl
    rw [e1]
    have plainF (r' : Rd) (hc' : r'.c = d) (h1 : r'.out = r.out) (h2 : r'.op = r.op) (h3 : r'.text.length + r'.pend.length + r'.data.length ≤ r.text.length + r.pend.length + r.data.length + 1) (hs : d.st = 17 ∨ d.st = 18 ∨ d.st = 19) (h19 : d.st = 19 → d.nm.length + 1 ≤ r'.pend.length) : Fine r' (n + 1) :=
      { fm := by rw [hc']; exact hfm, all := by rw [h1]; exact h.all, ap := by rw [h1]; exact h.ap, opn := by rw [h2, ho, hc']; rcases hs with q | q | q <;> rw [q] <;> rfl,
        lt := fun _ => by rw [h1]; exact h.lt ho, tx := fun q => (by rw [h2, ho] at q; cases q),
        tg := fun q => (by rw [hc'] at q; rcases hs with s | s | s <;> rw [s] at q <;> cases q),
        nt := fun q => (by rw [hc'] at q; rcases hs with s | s | s <;> rw [s] at q <;> cases q),
        n3 := fun q => (by rw [hc'] at q; rcases hs with s | s | s <;> rw [s] at q <;> cases q),
        n19 := fun q => by rw [hc'] at q ⊢; exact h19 q,
        w := by rw [h1, h2, ho]; simp only [Bool.false_eq_true, if_false, Nat.add_zero]; omega }
    unfold Rd.rawR
    rcases a4 e with s | s | s | s | ⟨s, s2, s3⟩
    · simp only [s, show ((17 : UInt8) == 17) = true from rfl, if_true]
      exact plainF _ rfl rfl rfl (by simp [Rd.settle]; omega) (.inl s) (fun q => (by rw [s] at q; cases q))
    · simp only [s, show ((18 : UInt8) == 17) = false from rfl, show ((18 : UInt8) == 18) = true from rfl, Bool.false_eq_true, if_false, if_true]
      exact plainF _ rfl rfl rfl (by simp [Rd.settle]; omega) (.inr (.inl s)) (fun q => (by rw [s] at q; cases q))
    · simp only [s, show ((19 : UInt8) == 17) = false from rfl, show ((19 : UInt8) == 18) = false from rfl, show ((19 : UInt8) == 19) = true from rfl, Bool.false_eq_true, if_false, if_true]
      refine plainF _ rfl rfl rfl (by simp; omega) (.inr (.inr s)) (fun _ => ?_)
      simp only [List.length_append, List.length_cons, List.length_nil]
      rcases a6 s with ⟨q, q2⟩ | ⟨q, q2⟩
      · rw [q2, form_nm18 r.c h.fm q]; simp
      · rw [q2]; have := h.n19 q; omega
    · exact absurd s h20
    · have hn := h.n19 s2
      have hne : r.c.nm ≠ [] := by rw [s3]; exact form_el r.c h.fm s2
      obtain ⟨f1, f2, f3⟩ := Fine.flushed (r := r) h ho
      have beg : Fine (({ r with c := d } : Rd).begin' 2 r.c.nm []) (n + 1) ∨ d.st = 0 := by
        rcases s with s | s | s
        · left
          exact
           { fm := hfm, all := f1, ap := f2, opn := by show true = (inTag d.st || inNote d.st); rw [s]; rfl, lt := fun q => (by cases q), tx := fun _ => rfl, tg := fun _ => ⟨.inr rfl, hne, rfl⟩, nt := fun q => (by have q : inNote d.st = true := q; rw [s] at q; cases q),
             n3 := fun q => (by have q : d.st = 3 := q; rw [s] at q; cases q), n19 := fun q => (by have q : d.st = 19 := q; rw [s] at q; cases q),
             w := by
              show weight r.flush.out + 0 + 0 + 0 + (if true = true then r.c.nm.length else 0) ≤ n + 1
              rw [f3]; simp only [if_true]; omega }
        · left
          exact
           { fm := hfm, all := f1, ap := f2, opn := by show true = (inTag d.st || inNote d.st); rw [s]; rfl, lt := fun q => (by cases q), tx := fun _ => rfl, tg := fun _ => ⟨.inr rfl, hne, rfl⟩, nt := fun q => (by have q : inNote d.st = true := q; rw [s] at q; cases q),
             n3 := fun q => (by have q : d.st = 3 := q; rw [s] at q; cases q), n19 := fun q => (by have q : d.st = 19 := q; rw [s] at q; cases q),
             w := by
              show weight r.flush.out + 0 + 0 + 0 + (if true = true then r.c.nm.length else 0) ≤ n + 1
              rw [f3]; simp only [if_true]; omega }
        · exact .inr s
      have fin0 : d.st = 0 → Fine (({ r with c := d } : Rd).begin' 2 r.c.nm []).fin (n + 1) := by
        intro s0
        obtain ⟨g1, g2, g3, g4⟩ := Fine.given (k := 2) (nm := r.c.nm) (d := []) (at' := []) f1 f2 (.inl ⟨.inr rfl, hne, rfl⟩)
        exact
         { fm := hfm, all := g1, ap := g2, opn := by show false = (inTag d.st || inNote d.st); rw [s0]; rfl, lt := fun _ => g3, tx := fun q => (by cases q), tg := fun q => (by have q : inTag d.st = true := q; rw [s0] at q; cases q), nt := fun q => (by have q : inNote d.st = true := q; rw [s0] at q; cases q),
           n3 := fun q => (by have q : d.st = 3 := q; rw [s0] at q; cases q), n19 := fun q => (by have q : d.st = 19 := q; rw [s0] at q; cases q),
           w := by
            show weight (r.flush.out ++ [⟨2, r.c.nm, [], [], false⟩]) + 0 + 0 + 0 + 0 ≤ n + 1
            rw [g4, f3]; simp only [List.length_nil]; omega }
      have hE : ({ r with c := d } : Rd).rawE r.c = if d.st == 0 then (({ r with c := d } : Rd).begin' 2 r.c.nm []).fin else ({ r with c := d } : Rd).begin' 2 r.c.nm [] := rfl
      rcases s with s | s | s
      · simp only [s, show ((4 : UInt8) == 17) = false from rfl, show ((4 : UInt8) == 18) = false from rfl, show ((4 : UInt8) == 19) = false from rfl, show ((4 : UInt8) == 4) = true from rfl, Bool.false_eq_true, if_false, if_true]
        rw [hE, s]
        rcases beg with g | g
        · exact g
        · rw [s] at g; cases g
      · simp only [s, show ((10 : UInt8) == 17) = false from rfl, show ((10 : UInt8) == 18) = false from rfl, show ((10 : UInt8) == 19) = false from rfl, show ((10 : UInt8) == 4) = false from rfl, show ((10 : UInt8) == 10) = true from rfl, Bool.false_eq_true, if_false, if_true]
        rw [hE, s]
        rcases beg with g | g
        · exact g
        · rw [s] at g; cases g
      · simp only [s, show ((0 : UInt8) == 17) = false from rfl, show ((0 : UInt8) == 18) = false from rfl, show ((0 : UInt8) == 19) = false from rfl, show ((0 : UInt8) == 4) = false from rfl, show ((0 : UInt8) == 10) = false from rfl, show ((0 : UInt8) == 0) = true from rfl, Bool.false_eq_true, if_false, if_true]
        rw [hE, s]
        exact fin0 s
  rcases st_all r.c.st hle with q | q | q | q | q | q | q | q | q | q | q | q | q | q | q
  · exact data (.inl q)
  · exact data (.inr (.inl q))
  · exact data (.inr (.inr q))
  · exact tagK (.inl q)
  · exact tagK (.inr q)
  · exact rawK (.inl q)
  · exact rawK (.inr (.inl q))
  · exact rawK (.inr (.inr q))
  all_goals first | exact noteK (by rw [q]; rfl) | exact absurd q hr20
theorem fine_new : Fine Rd.new 0 := ⟨rfl, rfl, rfl, rfl, fun _ => rfl, fun _ => rfl, fun h => (by cases h), fun h => (by cases h), fun h => (by cases h), fun h => (by cases h), Nat.le_refl _⟩
theorem fine_run : ∀ (l : List UInt8) (r : Rd) (n : Nat) (i : Int), Fine r n → r.c.st ≠ 20 → (r.run l i).1.out.all tokOk = true ∧ apart' (r.run l i).1.out = true ∧ weight (r.run l i).1.out ≤ n + l.length
  | [], r, n, i, h, _ => by
    unfold Rd.run
    have hw := h.w
    by_cases ho : r.op = true
    · have hx := h.tx ho
      have e : ({ r with pend := [] } : Rd).flush.out = r.out := by unfold Rd.flush; dsimp only; rw [hx]; rfl
      dsimp only
      rw [e]
      exact ⟨h.all, h.ap, by rw [List.length_nil]; omega⟩
    · have ho : r.op = false := by simpa using ho
      have e : ({ r with pend := [] } : Rd).flush.out = r.flush.out := rfl
      dsimp only
      obtain ⟨f1, f2, f3⟩ := Fine.flushed h ho
      rw [e]
      exact ⟨f1, f2, by rw [f3, List.length_nil]; omega⟩
  | b :: l, r, n, i, h, hr => by
    unfold Rd.run
    split
    · rename_i h20
      -- not taken: the tokens are those of before, or one text more
      have key : (r.take b).out = r.out ∨ (r.take b).out = r.flush.out := by
        have e20 : (plainB r.c b).st = 20 := by rw [take_c] at h20; simpa using h20
        obtain ⟨a1, a2, a3, a4, a5, a6⟩ := plain_to r.c b h.fm
        unfold Rd.take Rd.take1 Rd.dataR Rd.rawR Rd.noteR Rd.tagR
        simp only [e20]
        repeat' split
        all_goals first | exact .inl rfl | simp_all
      have hw := h.w
      rcases key with q | q
      · rw [q]; exact ⟨h.all, h.ap, by simp; omega⟩
      · rw [q]
        cases ho : r.op with
        | true =>
          have hx := h.tx ho
          have e : r.flush.out = r.out := by unfold Rd.flush; dsimp only; rw [hx]; rfl
          rw [e]; exact ⟨h.all, h.ap, by simp; omega⟩
        | false =>
          obtain ⟨f1, f2, f3⟩ := Fine.flushed h ho
          exact ⟨f1, f2, by rw [f3]; simp; omega⟩
    · rename_i h20
      have := fine_run l (r.take b) (n + 1) (i + 1) (fine_take h b (by simpa using h20) hr) (by simpa using h20)
      refine ⟨this.1, this.2.1, ?_⟩
      have h3 := this.2.2
      simp only [List.length_cons]
      omega
theorem tok_fine (p : List UInt8) : (tokAll p).1.all tokOk = true ∧ apart' (tokAll p).1 = true ∧ weight (tokAll p).1 ≤ p.length := by
  have := fine_run p Rd.new 0 0 fine_new (by decide)
  rw [Nat.zero_add] at this
  exact this

theorem run_count : ∀ (l : List UInt8) (r : Rd) (n : Nat) (i : Int), Good r n → r.c.st ≠ 20 → (r.run l i).1.out.length ≤ 2 * (n + l.length) + 2
  | [], r, n, i, h, _ => by
    unfold Rd.run
    have := flush_ot { r with pend := [] }
    have h2 := h.ot
    dsimp only at this ⊢
    simp only [List.length_nil]
    omega
  | b :: l, r, n, i, h, hr => by
    unfold Rd.run
    have hs : Sz (r.take b) (n + 1) (2 * (n + 1)) := by
      obtain ⟨g0, g5, g8⟩ := good_room h b
      exact take1_sz (r := { r with c := plainB r.c b }) ⟨h.tx, h.ot, h.dt, h.al, h.av⟩ r.c b g5 g8
    split
    · have := hs.ot
      simp only [List.length_cons]
      omega
    · rename_i h20
      have := run_count l (r.take b) (n + 1) (i + 1) (good_take h b (by simpa using h20)) (by simpa using h20)
      simp only [List.length_cons]
      omega
end Sx
