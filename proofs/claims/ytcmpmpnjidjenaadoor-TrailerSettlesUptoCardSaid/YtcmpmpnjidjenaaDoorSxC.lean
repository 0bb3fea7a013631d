/-
  What the evaluator tells of a region, a run and a call, they do; limits in the steps; a program that is fit.
-/
import Derived.Test.YtcmpmpnjidjenaaDoorSxB
import Derived.Lib.Bytealg
set_option linter.unusedVariables false
set_option linter.unusedSimpArgs false
set_option linter.unusedSectionVars false
set_option linter.unnecessarySimpa false
/-
  SxRegion: the operations of a region, in whatever order they come up.
-/
namespace Sx
open Go Go.RowKit Go.Lib

section plain
variable {P : Program} {ops : Array Oper} {nc : List Nat} {Q : Exit → Act → World → Prop} {E : World → World → Prop}

def calmAt (ops : Array Oper) (nc : List Nat) (i : Nat) : Bool := match ops[i]? with | some o => Op.calm o.op && !(nc.any (Nat.beq (1000000 + i))) | none => true

/-- Does j wait for i, through whatever others? -/
def behind (ops : Array Oper) (i : Nat) : Nat → Nat → Bool
  | 0, _ => false
  | m + 1, j => match ops[j]? with
    | some o => o.after.any fun e => Region.binds .any e && (Nat.beq e.on i || behind ops i m e.on)
    | none => false

/-- What has come up has all come up that it waits for. -/
def Closed (ops : Array Oper) (done : Array Bool) : Prop := ∀ (j : Nat) (o : Oper), done.getD j false = true → ops[j]? = some o → ∀ e ∈ o.after, Region.binds .any e = true → done.getD e.on false = true

theorem Closed.set {ops : Array Oper} {done : Array Bool} (h : Closed ops done) {i : Nat} (hi : i ∈ Region.ready .any ops done) : Closed ops (done.setIfInBounds i true) := by
  intro j o hj ho e he hb
  refine getD_set_true ?_
  by_cases hij : i = j
  · subst hij
    obtain ⟨_, o', ho', hd⟩ := mem_ready.1 hi
    rw [ho] at ho'
    cases ho'
    exact hd e he hb
  · rw [getD_set_ne false hij] at hj
    exact h j o hj ho e he hb

theorem behind_done {ops : Array Oper} {done : Array Bool} (h : Closed ops done) {i : Nat} : ∀ (m j : Nat), (∀ o, ops[j]? = some o → ∀ e ∈ o.after, Region.binds .any e = true → done.getD e.on false = true) → behind ops i m j = true → done.getD i false = true
  | 0, j, _, hb => by simp [behind] at hb
  | m + 1, j, hd, hb => by
    simp only [behind] at hb
    split at hb
    · rename_i o ho
      obtain ⟨e, he, hx⟩ := Array.any_eq_true'.1 hb
      rw [Bool.and_eq_true, Bool.or_eq_true] at hx
      have h1 := hd o ho e he hx.1
      rcases hx.2 with h2 | h2
      · rw [Nat.eq_of_beq_eq_true h2] at h1; exact h1
      · exact behind_done h m e.on (fun o' ho' e' he' hb' => h e.on o' h1 ho' e' he' hb') h2
    · cases hb

def stepL (P : Program) (ops : Array Oper) (nc : List Nat) (Q : Exit → Act → World → Prop) (E : World → World → Prop) (p : Nat × Bool) (N : Act → World → Prop) (a : Act) (w : World) : Prop :=
  if p.2 = true then ∃ oi v, ops[p.1]? = some oi ∧ YieldsIf P ops (E w) oi v a ∧ N (a.put oi.dst v) w
  else wpOp P ops Q p.1 (fun a' w' => (calmAt ops nc p.1 = true → E w w') ∧ N a' w') a w

/-- Operations in an order of one's own, and what is behind them. -/
def wpL (P : Program) (ops : Array Oper) (nc : List Nat) (Q : Exit → Act → World → Prop) (E : World → World → Prop) : List (Nat × Bool) → (Act → World → Prop) → Act → World → Prop
  | [], N, a, w => N a w
  | p :: r, N, a, w => stepL P ops nc Q E p (wpL P ops nc Q E r N) a w

theorem wpL_append (l m : List (Nat × Bool)) (N : Act → World → Prop) (a : Act) (w : World) : wpL P ops nc Q E (l ++ m) N a w = wpL P ops nc Q E l (wpL P ops nc Q E m N) a w := by
  induction l generalizing a w with
  | nil => rfl
  | cons p r ih =>
    have : wpL P ops nc Q E (r ++ m) N = wpL P ops nc Q E r (wpL P ops nc Q E m N) := by funext a w; exact ih a w
    show stepL P ops nc Q E p (wpL P ops nc Q E (r ++ m) N) a w = stepL P ops nc Q E p (wpL P ops nc Q E r (wpL P ops nc Q E m N)) a w
    rw [this]

theorem wpOps_of_wpL (l : List Nat) (a : Act) (w : World) (h : wpL P ops nc Q E (l.map fun i => (i, false)) (fun a w => Q .normal a w) a w) : wpOps P ops Q l a w := by
  induction l generalizing a w with
  | nil => exact h
  | cons i r ih =>
    rw [wpOps_cons]
    have h' : stepL P ops nc Q E (i, false) _ a w := h
    unfold stepL at h'
    rw [if_neg (by simp)] at h'
    exact wpOp_mono (fun a' w' hh => ih a' w' hh.2) h'

/-- Any order from here on, each operation leading to a world that is related to the one ahead of it. -/
def AnyE (P : Program) (ops : Array Oper) (nc : List Nat) (Q : Exit → Act → World → Prop) (E : World → World → Prop) : Nat → Array Bool → Act → World → Prop
  | 0, done, a, w => Region.ready .any ops done = [] ∧ Q .normal a w
  | m + 1, done, a, w => (Region.ready .any ops done = [] → Q .normal a w) ∧ ∀ i ∈ Region.ready .any ops done, wpOp P ops Q i (fun a' w' => (calmAt ops nc i = true → E w w') ∧ AnyE P ops nc Q E m (done.setIfInBounds i true) a' w') a w

theorem AnyE.any : ∀ (m : Nat) {done : Array Bool} {a : Act} {w : World}, AnyE P ops nc Q E m done a w → wpAny P .any ops Q m done a w
  | 0, _, _, _, h => h
  | m + 1, _, _, _, h => ⟨h.1, fun i hi => wpOp_mono (fun _ _ hh => AnyE.any m hh.2) (h.2 i hi)⟩

/-- What yields its value in all worlds that may come may be taken ahead. -/
theorem AnyE.take (hr : ∀ w, E w w) (ht : ∀ u v w, E u v → E v w → E u w) (hQ : ∀ c a w, ¬ Q (.panic c) a w) (hns : Region.noSelect ops = true) {i : Nat} {oi : Oper} {v : Value} (hi : ops[i]? = some oi) : ∀ (m : Nat) {done : Array Bool} {a : Act} {w : World},
    (∀ (j : Nat) (oj : Oper), ops[j]? = some oj → j ≠ i → done.getD j true = false → (∀ e ∈ oj.after, Region.binds .any e = true → e.on ≠ i) → oi.apart ops oj = true) → i ∈ Region.ready .any ops done → Closed ops done → (∀ j, j < ops.size → j ≠ i → done.getD j true = false → calmAt ops nc j = true ∨ behind ops i ops.size j = true) → YieldsIf P ops (E w) oi v a →
    AnyE P ops nc Q E m (done.setIfInBounds i true) (a.put oi.dst v) w → AnyE P ops nc Q E (m + 1) done a w := by
  have sel := Region.noSelect_spec hns
  intro m
  induction m with
  | zero =>
    intro done a w _ hrdy _ _ hy h
    constructor
    · intro e; rw [e] at hrdy; cases hrdy
    · intro j hj
      rcases Nat.decEq j i with hne | rfl
      · have := ready_mono hj hne; rw [h.1] at this; cases this
      · exact hy.wpOp hi (hr w) ⟨fun _ => hr w, h⟩
  | succ m ih =>
    intro done a w hap hrdy hcl hcalm hy h
    constructor
    · intro e; rw [e] at hrdy; cases hrdy
    · intro j hj
      rcases Nat.decEq j i with hne | rfl
      · obtain ⟨hjd, oj, hoj, hdeps⟩ := mem_ready.1 hj
        have hid := (mem_ready.1 hrdy).1
        have hwait : ∀ e ∈ oj.after, Region.binds .any e = true → e.on ≠ i := by
          intro e he hb heq
          have hd := hdeps e he hb
          rw [heq] at hd
          by_cases hlt : i < done.size
          · simp [hlt] at hid hd; rw [hid] at hd; cases hd
          · simp [hlt] at hd
        have hjlt : j < ops.size := (Array.getElem?_eq_some_iff.1 hoj).1
        have hjcalm : calmAt ops nc j = true := by
          rcases hcalm j hjlt hne hjd with hc | hb
          · exact hc
          · exfalso
            have := behind_done hcl ops.size j (fun o ho => by rw [hoj] at ho; cases ho; exact hdeps) hb
            by_cases hlt : i < done.size
            · simp [hlt] at hid this; rw [hid] at this; cases this
            · simp [hlt] at this
        have hh := wpOp_putIf hoj (hap j oj hoj hne hjd hwait) (fun cs b => sel i oi cs b hi) (fun cs b => sel j oj cs b hoj) (fun c a w hc => absurd hc (hQ c _ w)) hy (h.2 j (ready_mono hj hne))
        refine wpOp_mono (fun a' w' ⟨hy', hE, hrest⟩ => ⟨hE, ih ?_ (ready_mono hrdy (Ne.symm hne)) (hcl.set hj) ?_ ?_ ?_⟩) hh
        · intro k ok hk hki hkd hkw
          refine hap k ok hk hki ?_ hkw
          by_cases hjk : j = k
          · subst hjk; exact hjd
          · rwa [getD_set_ne true hjk] at hkd
        · intro k hk hki hkd
          refine hcalm k hk hki ?_
          by_cases hjk : j = k
          · subst hjk; exact hjd
          · rwa [getD_set_ne true hjk] at hkd
        · rcases hy' with ⟨q1, q2⟩ | q
          · exact .inl ⟨q1, fun u hu => q2 u (ht w w' u (hE hjcalm) hu)⟩
          · exact .inr q
        · rw [Array.setIfInBounds_comm _ _ hne]
          exact hrest
      · exact hy.wpOp hi (hr w) ⟨fun _ => hr w, h⟩

/-- May these operations be looked at in this order? 'k': what is asked behind them. -/
def planB (ops : Array Oper) (nc : List Nat) (k : Array Bool → Bool) : Array Bool → List (Nat × Bool) → Bool
  | listed, [] => k listed
  | listed, p :: r => (bif p.2 then Region.free .any ops listed p.1 && (Region.ready .any ops listed).contains p.1 && ((List.range ops.size).all fun j => Nat.beq j p.1 || listed.getD j true || calmAt ops nc j || behind ops p.1 ops.size j) else decide (Region.ready .any ops listed = [p.1])) && planB ops nc k (listed.setIfInBounds p.1 true) r

def Plan.len : Plan → Nat
  | .done => 0
  | .seq l t => l.length + t.len
  | .fork _ x _ _ => x.len + 1
/-- .. of a region that asks for an order. -/
def planT (ops : Array Oper) (nc : List Nat) : Plan → Array Bool → Bool
  | .done, listed => (Region.ready .any ops listed).isEmpty
  | .seq l t, listed => planB ops nc (planT ops nc t) listed l
  | .fork i x j y, listed => decide (Region.ready .any ops listed = [i, j]) && Nat.beq x.len y.len && planT ops nc x (listed.setIfInBounds i true) && planT ops nc y (listed.setIfInBounds j true)

theorem anyE_of_wpL (hr : ∀ w, E w w) (ht : ∀ u v w, E u v → E v w → E u w) (hs : Region.noSelect ops = true) (hQ : ∀ c a w, ¬ Q (.panic c) a w) {k : Array Bool → Bool} {N : Act → World → Prop} {m : Nat}
    (hN : ∀ (listed : Array Bool) (a : Act) (w : World), Closed ops listed → k listed = true → N a w → AnyE P ops nc Q E m listed a w) : ∀ (l : List (Nat × Bool)) (listed : Array Bool) (a : Act) (w : World), Closed ops listed → planB ops nc k listed l = true →
    wpL P ops nc Q E l N a w → AnyE P ops nc Q E (l.length + m) listed a w
  | [], listed, a, w, hcl, hp, h => by
    rw [List.length_nil, Nat.zero_add]
    exact hN listed a w hcl hp h
  | (i, tk) :: r, listed, a, w, hcl, hp, h => by
    simp only [planB, Bool.and_eq_true] at hp
    have h' : stepL P ops nc Q E (i, tk) (wpL P ops nc Q E r N) a w := h
    unfold stepL at h'
    rw [List.length_cons, show r.length + 1 + m = (r.length + m) + 1 by omega]
    cases tk with
    | true =>
      rw [if_pos rfl] at h'
      obtain ⟨oi, v, hi, hy, hn⟩ := h'
      simp only [cond_true, Bool.and_eq_true] at hp
      have hrdy : i ∈ Region.ready .any ops listed := by simpa using hp.1.1.2
      refine AnyE.take hr ht hQ hs hi (r.length + m) (Region.free_spec hi hp.1.1.1) hrdy hcl (fun j hj hne hun => ?_) hy (anyE_of_wpL hr ht hs hQ hN r _ _ _ (hcl.set hrdy) hp.2 hn)
      have := List.all_eq_true.1 hp.1.2 j (List.mem_range.2 hj)
      rw [Bool.or_eq_true, Bool.or_eq_true, Bool.or_eq_true] at this
      rcases this with ((h1 | h1) | h1) | h1
      · exact absurd (Nat.eq_of_beq_eq_true h1) hne
      · rw [hun] at h1; cases h1
      · exact .inl h1
      · exact .inr h1
    | false =>
      rw [if_neg (by simp)] at h'
      simp only [cond_false, decide_eq_true_eq] at hp
      refine ⟨fun e => (by rw [hp.1] at e; cases e), fun j hj => ?_⟩
      rw [hp.1] at hj
      have : j = i := by simpa using hj
      subst this
      exact wpOp_mono (fun a' w' hh => ⟨hh.1, anyE_of_wpL hr ht hs hQ hN r _ _ _ (hcl.set (by rw [hp.1]; simp)) hp.2 hh.2⟩) h'

/-- Operations by a plan, and what is behind them. -/
def wpT (P : Program) (ops : Array Oper) (nc : List Nat) (Q : Exit → Act → World → Prop) (E : World → World → Prop) : Plan → (Act → World → Prop) → Act → World → Prop
  | .done, N, a, w => N a w
  | .seq l t, N, a, w => wpL P ops nc Q E l (wpT P ops nc Q E t N) a w
  | .fork i x j y, N, a, w => wpL P ops nc Q E [(i, false)] (wpT P ops nc Q E x N) a w ∧ wpL P ops nc Q E [(j, false)] (wpT P ops nc Q E y N) a w

theorem anyE_of_wpT (hr : ∀ w, E w w) (ht : ∀ u v w, E u v → E v w → E u w) (hs : Region.noSelect ops = true) (hQ : ∀ c a w, ¬ Q (.panic c) a w) : ∀ (T : Plan) (listed : Array Bool) (a : Act) (w : World), Closed ops listed → planT ops nc T listed = true →
    wpT P ops nc Q E T (fun a w => Q .normal a w) a w → AnyE P ops nc Q E T.len listed a w
  | .done, listed, a, w, hcl, hp, h => ⟨by simpa [planT] using hp, h⟩
  | .seq l t, listed, a, w, hcl, hp, h => anyE_of_wpL hr ht hs hQ (fun listed a w hcl hk hn => anyE_of_wpT hr ht hs hQ t listed a w hcl hk hn) l listed a w hcl hp h
  | .fork i x j y, listed, a, w, hcl, hp, h => by
    simp only [planT, Bool.and_eq_true, decide_eq_true_eq] at hp
    obtain ⟨⟨⟨h1, h2⟩, h3⟩, h4⟩ := hp
    have hl := Nat.eq_of_beq_eq_true h2
    have key : ∀ (q : Nat) (z : Plan), (∀ (listed : Array Bool) (a : Act) (w : World), Closed ops listed → planT ops nc z listed = true → wpT P ops nc Q E z (fun a w => Q .normal a w) a w → AnyE P ops nc Q E z.len listed a w) → q ∈ Region.ready .any ops listed → planT ops nc z (listed.setIfInBounds q true) = true → wpL P ops nc Q E [(q, false)] (wpT P ops nc Q E z fun a w => Q .normal a w) a w →
        wpOp P ops Q q (fun a' w' => (calmAt ops nc q = true → E w w') ∧ AnyE P ops nc Q E z.len (listed.setIfInBounds q true) a' w') a w := by
      intro q z ih hq hz hw
      have h' : stepL P ops nc Q E (q, false) (wpL P ops nc Q E [] (wpT P ops nc Q E z fun a w => Q .normal a w)) a w := hw
      unfold stepL at h'
      rw [if_neg (by simp)] at h'
      exact wpOp_mono (fun a' w' hh => ⟨hh.1, ih _ _ _ (hcl.set hq) hz hh.2⟩) h'
    have kx := anyE_of_wpT hr ht hs hQ x
    have ky := anyE_of_wpT hr ht hs hQ y
    refine ⟨fun e => (by rw [h1] at e; cases e), fun q hq => ?_⟩
    have hq' := hq
    rw [h1] at hq'
    rcases List.mem_cons.1 hq' with e | hq'
    · subst e; exact key _ x kx hq h3 h.1
    · rcases List.mem_cons.1 hq' with e | hq'
      · subst e
        have := key _ y ky hq h4 h.2
        rw [← hl] at this
        exact this
      · cases hq'
end plain

section
variable {C : Cfg} {P : Program} {w0 : World} {F0 : Nat → Prop} {nt : Nat} {call : Nat → List AV → Option AV} {f : Nat} {ops : Array Oper} {nc : List Nat} {Q : Exit → Act → World → Prop}

/-- Nothing that the world w has has turned but the variables that the region writes. -/
def Held (D : Option (List Nat)) (σ0 : Nat → Option Nat) (w w' : World) : Prop :=
  match D with
  | none => True
  | some ws => w.heap.size ≤ w'.heap.size ∧ ∀ b, b < w.heap.size → (∀ s ∈ ws, σ0 s ≠ some b) → w'.heap[b]? = w.heap[b]?

theorem Held.refl (D : Option (List Nat)) (σ0 : Nat → Option Nat) (w : World) : Held D σ0 w w := by
  cases D with
  | none => trivial
  | some ws => exact ⟨Nat.le_refl _, fun _ _ _ => rfl⟩
theorem Held.trans {D : Option (List Nat)} {σ0 : Nat → Option Nat} {u v w : World} (h : Held D σ0 u v) (k : Held D σ0 v w) : Held D σ0 u w := by
  cases D with
  | none => trivial
  | some ws => exact ⟨Nat.le_trans h.1 k.1, fun b hb hs => (k.2 b (Nat.lt_of_lt_of_le hb h.1) hs).trans (h.2 b hb hs)⟩

/-- The variables that the region writes are where they were. -/
def Ord (D : Option (List Nat)) (σ0 σ : Nat → Option Nat) : Prop := ∀ ws, D = some ws → ∀ s ∈ ws, σ s = σ0 s

/-- That on which all hangs is as it is wanted, and stays. -/
def CtxOk (ops : Array Oper) (ctx : Option (Nat × Bool)) (l : List (Nat × Bool)) (a : Act) : Prop :=
  match ctx with
  | none => True
  | some (j, want) => yielded ops a.tmps j = some want ∧ ∃ d, dstOf ops j = some d ∧ ∀ i ∈ l, dstOf ops i.1 ≠ some d

theorem opAt_some {i : Nat} (h : Nat.blt i ops.size = true) : ops[i]? = some (opAt ops i) := by
  have hlt : i < ops.size := by unfold Nat.blt at h; exact Nat.le_of_ble_eq_true h
  unfold opAt
  simp [hlt]

theorem dstOf_opAt {i : Nat} (h : Nat.blt i ops.size = true) : dstOf ops i = (opAt ops i).dst := by
  unfold dstOf
  rw [opAt_some h]
  rfl

theorem sameG_wanted {o : Oper} {ctx : Option (Nat × Bool)} {l : List (Nat × Bool)} {a : Act} (h : sameG o.guard ctx = true) (hc : CtxOk ops ctx l a) : Region.wanted o (yielded ops a.tmps) = true := by
  unfold Region.wanted
  unfold sameG at h
  split at h
  · rename_i hg; rw [hg]
  · rename_i i x j y hg
    rw [hg]
    rw [Bool.and_eq_true] at h
    have e1 := Nat.eq_of_beq_eq_true h.1
    have e2 : x = y := by simpa using h.2
    subst e1 e2
    simp [hc.1]
  · cases h

theorem yielded_put {a : Act} {dst : Option Nat} {v : Value} {j d : Nat} (hj : dstOf ops j = some d) (hne : dst ≠ some d) : yielded ops (a.put dst v).tmps j = yielded ops a.tmps j := by
  unfold yielded
  unfold dstOf at hj
  rw [hj]
  cases dst with
  | none => rfl
  | some e =>
    simp only [Act.put, Option.bind_some]
    rw [Array.getElem?_setIfInBounds_ne (fun hh => hne (by rw [hh]))]

theorem yielded_none {a : Act} {j : Nat} (hj : dstOf ops j = none) : yielded ops a.tmps j = none := by
  unfold yielded
  unfold dstOf at hj
  rw [hj]
  rfl

theorem CtxOk.put {ctx : Option (Nat × Bool)} {l : List (Nat × Bool)} {a : Act} (h : CtxOk ops ctx l a) {i : Nat × Bool} (hi : i ∈ l) (v : Value) : CtxOk ops ctx l (a.put (dstOf ops i.1) v) := by
  unfold CtxOk at *
  match ctx, h with
  | none, _ => trivial
  | some (j, want), ⟨h1, d, hd, h2⟩ => exact ⟨by rw [yielded_put hd (h2 i hi)]; exact h1, d, hd, h2⟩

theorem CtxOk.sub {ctx : Option (Nat × Bool)} {l m : List (Nat × Bool)} {a : Act} (h : CtxOk ops ctx l a) (hm : ∀ i ∈ m, i ∈ l) : CtxOk ops ctx m a := by
  unfold CtxOk at *
  match ctx, h with
  | none, _ => trivial
  | some (j, want), ⟨h1, d, hd, h2⟩ => exact ⟨h1, d, hd, fun i hi => h2 i (hm i hi)⟩

theorem yielded_same {a a' : Act} {j d : Nat} (hj : dstOf ops j = some d) (hsz : a'.tmps.size = a.tmps.size) (h : a'.tmps.getD d undef = a.tmps.getD d undef) : yielded ops a'.tmps j = yielded ops a.tmps j := by
  unfold yielded
  unfold dstOf at hj
  rw [hj]
  simp only [Option.bind_some]
  by_cases hd : d < a.tmps.size
  · have hd' : d < a'.tmps.size := by omega
    have : a'.tmps[d]? = a.tmps[d]? := by
      simp only [Array.getD_eq_getD_getElem?, Array.getElem?_eq_getElem hd, Array.getElem?_eq_getElem hd', Option.getD_some] at h
      rw [Array.getElem?_eq_getElem hd, Array.getElem?_eq_getElem hd', h]
    rw [this]
  · rw [Array.getElem?_eq_none (by omega), Array.getElem?_eq_none (by omega)]

/-- Temporaries but those that operations write are as they were. -/
def Same' (ops : Array Oper) (l : List (Nat × Bool)) (a a' : Act) : Prop := ∀ t, (∀ i ∈ l, dstOf ops i.1 ≠ some t) → a'.tmps.getD t undef = a.tmps.getD t undef

theorem CtxOk.same {ctx : Option (Nat × Bool)} {l m : List (Nat × Bool)} {a a' : Act} (h : CtxOk ops ctx l a) (hm : ∀ i ∈ m, i ∈ l) (hsz : a'.tmps.size = a.tmps.size) (hs : Same' ops m a a') : CtxOk ops ctx l a' := by
  unfold CtxOk at *
  match ctx, h with
  | none, _ => trivial
  | some (j, want), ⟨h1, d, hd, h2⟩ => exact ⟨by rw [yielded_same hd hsz (hs d fun i hi => h2 i (hm i hi))]; exact h1, d, hd, h2⟩

/-- What the first state tells holds, but for the temporaries that operations wrote. -/
theorem Inv.deads {st : St} {a a' : Act} {w w' : World} {H : Nat → Option Value} {σ : Nat → Option Nat} (h : Inv C w0 F0 nt st a w H σ) (hw : Ext w w') {l : List (Nat × Bool)} (hsz : a'.tmps.size = a.tmps.size) (hdf : a'.defers = []) (hs : Same' ops l a a') :
    Inv C w0 F0 nt (st.deads (l.filterMap fun i => dstOf ops i.1)) a' w' H σ := by
  have h1 := h.ext hw
  have key : ∀ (ts : List Nat) (st0 : St) (t : Nat), (t ∈ ts → (st0.deads ts).env t = .dead) ∧ (t ∉ ts → (st0.deads ts).env t = st0.env t) ∧ (st0.env t = .dead → (st0.deads ts).env t = .dead) ∧ (st0.deads ts).mem = st0.mem := by
    intro ts
    induction ts with
    | nil => intro st0 t; simp [St.deads]
    | cons u ts ih =>
      intro st0 t
      obtain ⟨i1, i2, i3, i4⟩ := ih (st0.set u .dead) t
      have e : st0.deads (u :: ts) = (st0.set u .dead).deads ts := rfl
      have hset : (st0.set u .dead).env t = if t = u then .dead else st0.env t := by simp [St.set, bif_beq]
      rw [e]
      refine ⟨fun hm => ?_, fun hm => ?_, fun hd => i3 ?_, i4⟩
      · by_cases hin : t ∈ ts
        · exact i1 hin
        · rw [i2 hin, hset]
          rcases List.mem_cons.1 hm with h | h
          · rw [if_pos h]
          · exact absurd h hin
      · rw [i2 fun hin => hm (List.mem_cons_of_mem _ hin), hset, if_neg]
        intro e; exact hm (e ▸ List.mem_cons_self ..)
      · rw [hset]; split
        · rfl
        · exact hd
  refine { h1 with defers := hdf, size := hsz.trans h1.size, env := fun t => ?_, mem := ?_ }
  · obtain ⟨k1, k2, _, _⟩ := key (l.filterMap fun i => dstOf ops i.1) st t
    by_cases ht : t ∈ l.filterMap fun i => dstOf ops i.1
    · rw [k1 ht]; trivial
    · rw [k2 ht, hs t fun i hi e => ht (List.mem_filterMap.2 ⟨i, hi, e⟩)]
      exact h1.env t
  · obtain ⟨_, _, _, k4⟩ := key (l.filterMap fun i => dstOf ops i.1) st 0
    rw [k4]
    exact h1.mem

theorem cutSeg_some {ctx : Option (Nat × Bool)} {d : Nat} {want : Bool} : ∀ {l : List (Nat × Bool)} {seg : List (Nat × Bool)} {p : Nat × Bool} {ab : Operand × Operand} {rest : List (Nat × Bool)},
    cutSeg ops ctx d want l = some (seg, p, ab, rest) → l = seg ++ p :: rest ∧ closes ctx d want (opAt ops p.1) = some ab
  | [], _, _, _, _, h => by cases h
  | i :: r, seg, p, ab, rest, h => by
    simp only [cutSeg] at h
    split at h
    · rename_i hc
      cases h
      exact ⟨rfl, hc⟩
    · cases hr : cutSeg ops ctx d want r with
      | none => rw [hr] at h; cases h
      | some q =>
        obtain ⟨seg', p', ab', rest'⟩ := q
        rw [hr] at h
        cases h
        obtain ⟨h1, h2⟩ := cutSeg_some hr
        exact ⟨by rw [h1]; rfl, h2⟩

theorem hangs_spec {j : Nat} {want : Bool} {d : Nat} : ∀ {l : List (Nat × Bool)} {seen : List Nat}, hangs ops j want d l seen = true →
    (∀ i ∈ l, Op.light (opAt ops i.1).op = true ∧ dstOf ops i.1 ≠ some d)
  | [], _, _ => by simp
  | i :: r, seen, h => by
    simp only [hangs, Bool.and_eq_true] at h
    obtain ⟨⟨⟨⟨h1, h2⟩, h3⟩, h4⟩, h5⟩ := h
    intro q hq
    rcases List.mem_cons.1 hq with rfl | hq
    · refine ⟨h3, ?_⟩
      rw [dstOf_opAt h1]
      intro e
      rw [e] at h4
      simp at h4
    · exact hangs_spec h5 q hq

/-- What hangs on what is not so is not done. -/
theorem skip_ok {E : World → World → Prop} (hE : ∀ w, E w w) {j : Nat} {want x : Bool} {d : Nat} (hx : x ≠ want) (hjd : dstOf ops j = some d) : ∀ {l : List (Nat × Bool)} {seen : List Nat}, hangs ops j want d l seen = true →
    ∀ {N : Act → World → Prop} {a : Act} {w : World}, yielded ops a.tmps j = some x → (∀ g ∈ seen, yielded ops a.tmps g = none) →
      (∀ a', a'.tmps.size = a.tmps.size → a'.defers = a.defers → Same' ops l a a' → N a' w) → wpL P ops nc Q E l N a w
  | [], seen, h, N, a, w, hj, hs, hn => hn a rfl rfl fun _ _ => rfl
  | i :: r, seen, h, N, a, w, hj, hs, hn => by
    simp only [hangs, Bool.and_eq_true] at h
    obtain ⟨⟨⟨⟨h1, h2⟩, h3⟩, h4⟩, h5⟩ := h
    have hop := opAt_some h1
    have hnw : Region.wanted (opAt ops i.1) (yielded ops a.tmps) = false := by
      unfold Region.wanted
      split at h2
      · rename_i g x' hg
        rw [hg]
        simp only
        rw [Bool.or_eq_true] at h2
        rcases h2 with h2 | h2
        · rw [Bool.and_eq_true] at h2
          have e1 := Nat.eq_of_beq_eq_true h2.1
          have e2 : x' = want := by simpa using h2.2
          subst e1 e2
          rw [hj]
          simpa using hx
        · rw [hs g (by simpa using h2)]
          rfl
      · cases h2
    have hdi : (opAt ops i.1).dst ≠ some d := by
      intro e
      rw [e] at h4
      simp at h4
    have hundef : ∀ g, yielded ops (a.put (opAt ops i.1).dst undef).tmps g = yielded ops a.tmps g ∨ yielded ops (a.put (opAt ops i.1).dst undef).tmps g = none := by
      intro g
      cases hg : dstOf ops g with
      | none => exact .inr (yielded_none hg)
      | some e =>
        by_cases he : (opAt ops i.1).dst = some e
        · right
          unfold yielded
          unfold dstOf at hg
          rw [hg]
          simp only [Option.bind_some, he, Act.put]
          by_cases hlt : e < a.tmps.size
          · simp [hlt, undef]
          · simp [hlt]
        · exact .inl (yielded_put hg he)
    have hself : yielded ops (a.put (opAt ops i.1).dst undef).tmps i.1 = none := by
      cases hg : dstOf ops i.1 with
      | none => exact yielded_none hg
      | some e =>
        have he : (opAt ops i.1).dst = some e := by rw [← dstOf_opAt h1]; exact hg
        unfold yielded
        unfold dstOf at hg
        rw [hg]
        simp only [Option.bind_some, he, Act.put]
        by_cases hlt : e < a.tmps.size
        · simp [hlt, undef]
        · simp [hlt]
    have hrest : wpL P ops nc Q E r N (a.put (opAt ops i.1).dst undef) w := by
      refine skip_ok hE hx hjd h5 (by rw [yielded_put hjd hdi]; exact hj) (fun g hg => ?_) (fun a' q1 q2 q3 => hn a' (q1.trans (size_put ..)) (q2.trans (defers_put ..)) fun t ht => ?_)
      · rcases List.mem_cons.1 hg with rfl | hg
        · exact hself
        · rcases hundef g with e | e
          · rw [e]; exact hs g hg
          · exact e
      · rw [q3 t fun i hi => ht i (List.mem_cons_of_mem _ hi)]
        refine Only.put a _ undef t fun e => ht i (List.mem_cons_self ..) ?_
        rw [dstOf_opAt h1]; exact e
    show stepL P ops nc Q E i (wpL P ops nc Q E r N) a w
    unfold stepL
    split
    · exact ⟨_, undef, hop, .inr ⟨hnw, rfl⟩, hrest⟩
    · unfold wpOp
      rw [hop]
      simp only [hnw, Bool.false_eq_true, if_false]
      exact ⟨fun _ => hE w, hrest⟩
end
end Sx

/-
  SxRegion2: what the evaluator does with a region is what the machine does with it.
-/
namespace Sx
open Go Go.RowKit Go.Lib

section
variable {C : Cfg} {P : Program} {w0 : World} {F0 : Nat → Prop} {nt : Nat} {call : Nat → List AV → Option AV} {f : Nat} {ops : Array Oper} {nc : List Nat} {Q : Exit → Act → World → Prop}

def wsOf (D : Option (List Nat)) : List Nat := D.getD []

theorem any_beq {s : Nat} {ws : List Nat} : ws.any (Nat.beq s) = true ↔ s ∈ ws := by
  rw [List.any_eq_true]
  constructor
  · rintro ⟨x, hx, he⟩
    rw [Nat.eq_of_beq_eq_true he]; exact hx
  · intro h; exact ⟨s, h, Nat.beq_refl s⟩

/-- What all hangs together with stays so behind an operation. -/
theorem Ord.step {D : Option (List Nat)} {σ0 : Nat → Option Nat} {st : St} {w w' : World} {σ σ' : Nat → Option Nat} {o : Oper} {i : Nat} (h : Ord D σ0 σ) (hok : okOp C i o false D st = true) (hk : Keep2 C st o σ w w')
    (hσ : ∀ s, o.dst ≠ some s → σ' s = σ s) (hal : (∃ t, o.op = .alloc t) ∨ (∃ t x, o.op = .box t x) ∨ σ' = σ) : Ord D σ0 σ' ∧ (Op.calm o.op = true → (wsOf D).any (Nat.beq (1000000 + i)) = false → Held D σ0 w w') := by
  cases D with
  | none => exact ⟨fun ws e => (by cases e), fun _ _ => trivial⟩
  | some ws =>
    have hsig : ∀ s ∈ ws, σ' s = σ0 s := fun s hs => by
      rw [← h ws rfl s hs]
      rcases hal with ⟨t, ht⟩ | ⟨t, x, ht⟩ | e
      · refine hσ s fun hd => ?_
        simp only [okOp, ht, hd, cond_false, Bool.not_eq_true'] at hok
        rw [any_beq.2 hs] at hok; cases hok
      · refine hσ s fun hd => ?_
        simp only [okOp, ht, hd, cond_false, Bool.not_eq_true'] at hok
        rw [any_beq.2 hs] at hok; cases hok
      · rw [e]
    refine ⟨fun ws' e s hs => by cases e; exact hsig s hs, fun hcalm hnc => ?_⟩
    have ext : Ext w w' → Held (some ws) σ0 w w' := fun hx => ⟨hx.size, fun b hb _ => hx.block b hb⟩
    unfold Keep2 at hk
    cases ho : o.op with
    | store t x y =>
      rw [ho] at hk
      simp only [okOp, ho, cond_false] at hok
      simp only at hk
      have hnc' : ws.any (Nat.beq (1000000 + i)) = false := hnc
      rw [hnc', Bool.false_or] at hok
      split at hok
      · rename_i s off hge
        rw [hge] at hk
        refine ⟨hk.1, fun b hb hs => hk.2 b hb ?_⟩
        have hm := any_beq.1 hok
        rw [h ws rfl s hm]
        exact hs s hm
      · cases hok
    | call c =>
      rw [ho] at hk
      obtain ⟨ce, ar, aty⟩ := c
      cases ce with
      | builtin b =>
        cases b <;> first | (rw [ho] at hcalm; cases hcalm; done) | exact ext hk
      | value x => exact ext hk
      | invoke x n => exact ext hk
    | convert s t x =>
      rw [ho] at hk hcalm
      simp only [Op.calm, Bool.not_eq_true'] at hcalm
      simp only [hcalm] at hk
      rw [if_neg (by simp)] at hk
      exact ext hk
    | _ => rw [ho] at hk; exact ext hk

theorem Same'.sub {l m : List (Nat × Bool)} {a a' : Act} (h : Same' ops l a a') (hm : ∀ i ∈ l, i ∈ m) : Same' ops m a a' := fun t ht => h t fun i hi => ht i (hm i hi)
theorem Same'.trans {l : List (Nat × Bool)} {a b c : Act} (h : Same' ops l a b) (k : Same' ops l b c) : Same' ops l a c := fun t ht => (k t ht).trans (h t ht)

/-- The operand of a pick. -/
theorem pay_bool {st : St} {a : Act} {w : World} {H : Nat → Option Value} {σ : Nat → Option Nat} {x : Operand} {y : Bool} (h : Inv C w0 F0 nt st a w H σ) (hp : (st.get C x).pay = .b y) : a.eval x = .bool y := by
  rcases (h.get x).pay with e | e
  · rw [hp] at e; cases e
  · rw [hp] at e
    generalize a.eval x = V at e
    cases e; rfl

theorem closes_spec {ctx : Option (Nat × Bool)} {d : Nat} {want : Bool} {o : Oper} {A B : Operand} (h : closes ctx d want o = some (A, B)) : o.op = .pick (.tmp d) A B ∧ sameG o.guard ctx = true ∧ ∃ v, (bif want then B else A) = .const v := by
  unfold closes at h
  split at h
  · rename_i c A' B' hop
    rename_i h0
    cases hb : (Nat.beq c d && sameG o.guard ctx && isConst (bif want then B' else A')) with
    | false => rw [hb] at h; cases h
    | true =>
      rw [hb] at h
      simp only [cond_true, Option.some.injEq, Prod.mk.injEq] at h
      obtain ⟨rfl, rfl⟩ := h
      rw [Bool.and_eq_true, Bool.and_eq_true] at hb
      have := Nat.eq_of_beq_eq_true hb.1.1
      subst this
      refine ⟨hop, hb.1.2, ?_⟩
      have h3 := hb.2
      unfold isConst at h3
      split at h3
      · rename_i v hv; exact ⟨v, hv⟩
      · cases h3
  · cases h

theorem evOps_ok (hC : CallOk C P call) (hT : ∀ t i, C.ty t = some i → TyOk P t i) (hdst : ∀ (i : Nat) (o : Oper) (t : Nat), ops[i]? = some o → o.dst = some t → t < nt) {D : Option (List Nat)} {σ0 : Nat → Option Nat} :
    ∀ (n : Nat) {R : Type} {ctx : Option (Nat × Bool)} {l : List (Nat × Bool)} {st : St} {K : St → Option R} {r : R} {a : Act} {w : World} {H : Nat → Option Value} {σ : Nat → Option Nat} {N : Act → World → Prop},
      evOps C call f ops D n ctx l st K = some r → Inv C w0 F0 nt st a w H σ → Ord D σ0 σ → CtxOk ops ctx l a →
      (∀ (a' : Act) (w' : World) (st' : St) (H' : Nat → Option Value) (σ' : Nat → Option Nat), K st' = some r → Inv C w0 F0 nt st' a' w' H' σ' → Ord D σ0 σ' →
        Same' ops l a a' → ((∀ i ∈ l, Op.light (opAt ops i.1).op = true) → Ext w w') → N a' w') →
      wpL P ops (wsOf D) Q (Held D σ0) l N a w
  | 0, R, ctx, l, st, K, r, a, w, H, σ, N, hK, hI, hO, hc, hn => by cases hK
  | n + 1, R, ctx, [], st, K, r, a, w, H, σ, N, hK, hI, hO, hc, hn => hn a w st H σ hK hI hO (fun _ _ => rfl) (fun _ => Ext.refl w)
  | n + 1, R, ctx, i :: l, st, K, r, a, w, H, σ, N, hK, hI, hO, hc, hn => by
    simp only [evOps] at hK
    cases hlt : Nat.blt i.1 ops.size with
    | false => rw [hlt] at hK; cases hK
    | true =>
      rw [hlt] at hK
      simp only [Bool.not_true, cond_false] at hK
      have hop := opAt_some hlt
      cases hsg : sameG (opAt ops i.1).guard ctx with
      | true =>
        rw [hsg] at hK
        simp only [cond_true] at hK
        have hw := sameG_wanted hsg hc
        cases hok : okOp C i.1 (opAt ops i.1) i.2 D st with
        | false => rw [hok] at hK; cases hK
        | true =>
          rw [hok] at hK
          simp only [cond_true] at hK
          have hd : ∀ t, (opAt ops i.1).dst = some t → t < nt := fun t ht => hdst i.1 _ t hop ht
          -- what goes on behind it
          have go : ∀ (a' : Act) (w' : World) (st' : St) (H' : Nat → Option Value) (σ' : Nat → Option Nat), evOps C call f ops D n ctx l st' K = some r → Inv C w0 F0 nt st' a' w' H' σ' →
              Ord D σ0 σ' → Only (opAt ops i.1).dst a a' → (Op.light (opAt ops i.1).op = true → Ext w w') → wpL P ops (wsOf D) Q (Held D σ0) l N a' w' := by
            intro a' w' st' H' σ' hK' hI' hO' hon hex
            have hsame : Same' ops [i] a a' := fun t ht => hon t fun e => ht i (List.mem_cons_self ..) (by rw [dstOf_opAt hlt]; exact e)
            have hsz : a'.tmps.size = a.tmps.size := hI'.size.trans hI.size.symm
            refine evOps_ok hC hT hdst n hK' hI' hO' ((hc.same (m := [i]) (fun q hq => by simp at hq; subst hq; exact List.mem_cons_self ..) hsz hsame).sub fun q hq => List.mem_cons_of_mem _ hq) fun a2 w2 st2 H2 σ2 q1 q2 q3 q4 q5 => ?_
            refine hn a2 w2 st2 H2 σ2 q1 q2 q3 ((hsame.sub fun q hq => by simp at hq; subst hq; exact List.mem_cons_self ..).trans (q4.sub fun q hq => List.mem_cons_of_mem _ hq)) fun hl => ?_
            · exact (hex (hl i (List.mem_cons_self ..))).trans (q5 fun q hq => hl q (List.mem_cons_of_mem _ hq))
          show stepL P ops (wsOf D) Q (Held D σ0) i (wpL P ops (wsOf D) Q (Held D σ0) l N) a w
          unfold stepL
          cases htk : i.2 with
          | true =>
            rw [if_pos rfl]
            rw [htk] at hok
            have hy : C.pure (opAt ops i.1).op = true ∧ Yld C P w0 F0 nt a w σ (fun st => evOps C call f ops D n ctx l st K) r (opAt ops i.1) (Held D σ0 w) := by
              cases D with
              | none => cases hok
              | some ws =>
                unfold okOp at hok
                simp only [cond_true, Bool.and_eq_true] at hok
                obtain ⟨k1, k3⟩ := hok
                refine ⟨k1, ?_⟩
                refine evPure_ok (ws := ws) k1 hT hI hd hK (fun w' hw' b hb hs => hw'.2 b hb fun s hm => by rw [← hO ws rfl s hm]; exact hs s hm) (fun t x s off ho hge hm => ?_)
                · rw [ho] at k3
                  simp only [hge, Bool.not_eq_true'] at k3
                  have := any_beq.2 hm
                  rw [k3] at this; cases this
            obtain ⟨k1, v, hv, st', H', hK', hI'⟩ := hy
            refine ⟨_, v, hop, .inl ⟨hw, hv⟩, go _ w st' H' σ hK' hI' hO (Only.put a _ v) (fun _ => Ext.refl w)⟩
          | false =>
            rw [if_neg (by simp)]
            rw [htk] at hok
            unfold wpOp
            rw [hop]
            simp only [hw, if_true]
            left
            cases hp : C.pure (opAt ops i.1).op with
            | true =>
              obtain ⟨v, hv, st', H', hK', hI'⟩ := evPure_ok (ws := []) hp hT hI hd hK (S := (· = w)) (Keeps.self [] σ w) (fun _ _ _ _ _ _ => by simp)
              unfold Oper.wp
              rw [hv w rfl, Oper.upon_value]
              exact ⟨fun _ => Held.refl D σ0 w, go _ w st' H' σ hK' hI' hO (Only.put a _ v) (fun _ => Ext.refl w)⟩
            | false =>
              refine evOp_ok hC hT hI hd hK _ Q fun a' w' st' H' σ' q1 q2 q3 q4 q5 => ?_
              obtain ⟨hO', hheld⟩ := hO.step hok q3 q4.1 q4.2
              refine ⟨fun hc => (by unfold calmAt at hc; rw [hop] at hc; simp only [Bool.and_eq_true, Bool.not_eq_true'] at hc; exact hheld hc.1 hc.2), go a' w' st' H' σ' q1 q2 hO' q5 fun hl => ?_⟩
              unfold Keep2 at q3
              split at q3
              · rename_i ho; rw [ho] at hl; cases hl
              · rename_i ho; rw [ho] at hl; cases hl
              · rename_i ho
                rw [ho] at hl
                simp only [Op.light, Bool.not_eq_true'] at hl
                rw [hl, if_neg (by simp)] at q3
                exact q3
              · exact q3
      | false =>
        rw [hsg] at hK
        simp only [cond_false] at hK
        split at hK
        · cases hK
        rename_i j want hg
        split at hK
        · cases hK
        rename_i d hjd
        split at hK
        case h_2 => cases hK
        rename_i seg p A B rest hcut
        obtain ⟨hl, hcl⟩ := cutSeg_some hcut
        obtain ⟨hpop, hpg, cv, hcv⟩ := closes_spec hcl
        cases hh : (hangs ops j want d seg [] && Nat.blt p.1 ops.size) with
        | false => rw [hh] at hK; cases hK
        | true =>
          rw [hh] at hK
          simp only [cond_true] at hK
          rw [Bool.and_eq_true] at hh
          have hpopx := opAt_some hh.2
          obtain ⟨z, hz, hK⟩ := Option.bind_eq_some_iff.1 hK
          have hsp := hangs_spec hh.1
          have hdn : d < nt := by
            unfold dstOf at hjd
            cases hjo : ops[j]? with
            | none => rw [hjo] at hjd; cases hjd
            | some oj => rw [hjo] at hjd; exact hdst j oj d hjo hjd
          -- what the first part was
          obtain ⟨x, hx⟩ : ∃ x, (st.env d).pay = .b x := by
            unfold selW at hz
            split at hz
            · rename_i x hx; exact ⟨x, hx⟩
            · cases hz
          have hxv : a.tmps.getD d undef = .bool x := pay_bool (x := .tmp d) hI hx
          have hyj : yielded ops a.tmps j = some x := by
            have hlt' : d < a.tmps.size := by rw [hI.size]; exact hdn
            unfold yielded
            unfold dstOf at hjd
            rw [hjd]
            simp only [Option.bind_some]
            rw [Array.getElem?_eq_getElem hlt']
            simp only [Array.getD_eq_getD_getElem?, Array.getElem?_eq_getElem hlt', Option.getD_some] at hxv
            rw [hxv]
          rw [hl]
          rw [wpL_append]
          rw [hl] at hc hn
          have hcs := hc.sub (m := seg) fun q hq => List.mem_append_left _ hq
          have hpd : d ∉ (dstOf ops p.1).toList ∨ True := .inr trivial
          -- the pick and what is behind it
          have fin : ∀ (a' : Act) (w' : World) (y : Bool), a'.tmps.size = a.tmps.size → a'.defers = [] → Same' ops seg a a' → Ext w w' → z = .b y →
              (if x = true then a'.eval A else a'.eval B) = .bool y → wpL P ops (wsOf D) Q (Held D σ0) (p :: rest) N a' w' := by
            intro a' w' y hsz hdf hsm hext hzy hval
            subst hzy
            have hId : Inv C w0 F0 nt (st.deads (seg.filterMap fun i => dstOf ops i.1)) a' w' H σ := hI.deads hext hsz hdf hsm
            have hdd : a'.tmps.getD d undef = .bool x := by rw [hsm d fun i hi => (hsp i hi).2]; exact hxv
            have hcx := hc.same (m := seg) (fun q hq => List.mem_append_left _ hq) hsz hsm
            have hw := sameG_wanted hpg hcx
            have hrun : ∀ w1 : World, (execOp a'.eval (opAt ops p.1)).run P w1 = .ok (.value (.bool y)) w1 := fun w1 => by
              have hdd' : a'.eval (.tmp d) = .bool x := hdd
              simp only [execOp, hpop, hdd']
              simp [asBool, hval]
            have hpd : ∀ t, (opAt ops p.1).dst = some t → t < nt := fun t ht => hdst p.1 _ t hpopx ht
            have hI2 : Inv C w0 F0 nt ((st.deads (seg.filterMap fun i => dstOf ops i.1)).put (opAt ops p.1).dst (.val (.b y))) (a'.put (opAt ops p.1).dst (.bool y)) w' H σ := hId.put hpd (Rel.b y)
            have hrest : wpL P ops (wsOf D) Q (Held D σ0) rest N (a'.put (opAt ops p.1).dst (.bool y)) w' := by
              have hs2 : Same' ops [p] a' (a'.put (opAt ops p.1).dst (.bool y)) := fun t ht => Only.put a' _ _ t fun e => ht p (List.mem_cons_self ..) (by rw [dstOf_opAt hh.2]; exact e)
              refine evOps_ok hC hT hdst n hK hI2 hO ((hcx.same (m := [p]) (fun q hq => by simp at hq; subst hq; exact List.mem_append_right _ (List.mem_cons_self ..)) (size_put ..) hs2).sub fun q hq => List.mem_append_right _ (List.mem_cons_of_mem _ hq)) fun a2 w2 st2 H2 σ2 q1 q2 q3 q4 q5 => ?_
              refine hn a2 w2 st2 H2 σ2 q1 q2 q3 (((hsm.sub fun q hq => List.mem_append_left _ hq).trans (hs2.sub fun q hq => by simp at hq; subst hq; exact List.mem_append_right _ (List.mem_cons_self ..))).trans (q4.sub fun q hq => List.mem_append_right _ (List.mem_cons_of_mem _ hq))) fun hl => ?_
              · exact hext.trans (q5 fun q hq => hl q (List.mem_append_right _ (List.mem_cons_of_mem _ hq)))
            show stepL P ops (wsOf D) Q (Held D σ0) p (wpL P ops (wsOf D) Q (Held D σ0) rest N) a' w'
            unfold stepL
            split
            · exact ⟨_, _, hpopx, .inl ⟨hw, fun w1 _ => hrun w1⟩, hrest⟩
            · unfold wpOp
              rw [hpopx]
              simp only [hw, if_true]
              left
              unfold Oper.wp
              rw [hrun w', Oper.upon_value]
              exact ⟨fun _ => Held.refl D σ0 w', hrest⟩
          unfold selW at hz
          rw [hx] at hz
          simp only at hz
          by_cases hxw : x = want
          · subst hxw
            simp only [BEq.rfl, cond_true] at hz
            split at hz
            · rename_i y hy
              cases hz
              refine evOps_ok hC hT hdst n hy hI hO ⟨hyj, d, hjd, fun q hq => (hsp q hq).2⟩ fun a2 w2 st2 H2 σ2 q1 q2 q3 q4 q5 => ?_
              refine fin a2 w2 y (q2.size.trans hI.size.symm) q2.defers q4 (q5 fun q hq => (hsp q hq).1) rfl ?_
              have := pay_bool q2 (Option.some.inj q1)
              cases x with
              | true => simpa using this
              | false => simpa using this
            · cases hz
          · have hxw' : (x == want) = false := by simpa using hxw
            rw [hxw'] at hz
            simp only [cond_false] at hz
            split at hz
            · rename_i y hy
              cases hz
              refine skip_ok (Held.refl D σ0) hxw hjd hh.1 hyj (by simp) fun a2 q1 q2 q3 => ?_
              refine fin a2 w y q1 (q2.trans hI.defers) q3 (Ext.refl w) rfl ?_
              have := pay_bool hI hy
              rw [hcv] at this
              cases x with
              | true =>
                have hwf : want = false := by cases want with
                  | true => exact absurd rfl hxw
                  | false => rfl
                subst hwf
                simp only [cond_false] at hcv
                subst hcv
                have hc2 : cv = .bool y := this
                simp [Act.eval, hc2]
              | false =>
                have hwf : want = true := by cases want with
                  | false => exact absurd rfl hxw
                  | true => rfl
                subst hwf
                simp only [cond_true] at hcv
                subst hcv
                have hc2 : cv = .bool y := this
                simp [Act.eval, hc2]
            · cases hz

theorem evTree_ok (hC : CallOk C P call) (hT : ∀ t i, C.ty t = some i → TyOk P t i) (hdst : ∀ (i : Nat) (o : Oper) (t : Nat), ops[i]? = some o → o.dst = some t → t < nt) {D : Option (List Nat)} {σ0 : Nat → Option Nat} {n : Nat} {R : Type} {K : St → Option R} {r : R} {N : Act → World → Prop}
    (hn : ∀ (a' : Act) (w' : World) (st' : St) (H' : Nat → Option Value) (σ' : Nat → Option Nat), K st' = some r → Inv C w0 F0 nt st' a' w' H' σ' → N a' w') :
    ∀ (T : Plan) {st : St} {a : Act} {w : World} {H : Nat → Option Value} {σ : Nat → Option Nat}, evTree C call f ops D n T st K = some r → Inv C w0 F0 nt st a w H σ → Ord D σ0 σ → wpT P ops (wsOf D) Q (Held D σ0) T N a w
  | .done, st, a, w, H, σ, h, hI, hO => hn a w st H σ h hI
  | .seq l t, st, a, w, H, σ, h, hI, hO => evOps_ok hC hT hdst n h hI hO trivial fun a' w' st' H' σ' q1 q2 q3 _ _ => evTree_ok hC hT hdst hn t q1 q2 q3
  | .fork i x j y, st, a, w, H, σ, h, hI, hO => by
    simp only [evTree] at h
    have h1 : evOps C call f ops D n none [(i, false)] st (fun st => evTree C call f ops D n x st K) = some r ∧ evOps C call f ops D n none [(j, false)] st (fun st => evTree C call f ops D n y st K) = some r := by
      unfold agree at h
      split at h
      · rename_i e; exact ⟨h, e ▸ h⟩
      · cases h
    exact ⟨evOps_ok hC hT hdst n h1.1 hI hO trivial fun a' w' st' H' σ' q1 q2 q3 _ _ => evTree_ok hC hT hdst hn x q1 q2 q3,
      evOps_ok hC hT hdst n h1.2 hI hO trivial fun a' w' st' H' σ' q1 q2 q3 _ _ => evTree_ok hC hT hdst hn y q1 q2 q3⟩
end
end Sx

/-
  SxMach: the evaluator's steps are the machine's.
-/
namespace Sx
open Go Go.RowKit Go.Lib

/-! ### Where ways meet -/
section
variable {C : Cfg} {P : Program} {w0 : World} {F0 : Nat → Prop} {nt : Nat} {st : St} {a : Act} {w : World} {H : Nat → Option Value} {σ : Nat → Option Nat}

def renH (H : Nat → Option Value) (i j : Nat) : Nat → Option Value := fun x => if x = j then H i else if x = i then none else H x

theorem renH_some {i j x : Nat} {v : Value} (h : renH H i j x = some v) : (x = j ∧ H i = some v) ∨ (x ≠ j ∧ x ≠ i ∧ H x = some v) := by
  unfold renH at h
  split at h
  · exact .inl ⟨‹_›, h⟩
  · split at h
    · cases h
    · exact .inr ⟨‹_›, ‹_›, h⟩

/-- A name is replaced by one that nothing has. -/
theorem Inv.rn (h : Inv C w0 F0 nt st a w H σ) {i j : Nat} (hij : i ≠ j) (hj : H j = none) : Inv C w0 F0 nt (st.rn i j) a w (renH H i j) σ := by
  have hF : ∀ b, b < w.heap.size → Fr w0.heap.size F0 H σ b → Fr w0.heap.size F0 (renH H i j) σ b ∧ w.heap[b]? = w.heap[b]? := fun b _ hf => ⟨⟨hf.1, fun x v hv => by
    rcases renH_some hv with ⟨_, hv⟩ | ⟨_, _, hv⟩ <;> exact hf.2.1 _ v hv, hf.2.2⟩, rfl⟩
  have hself : ∀ v, H i = some v → renH H i j j = some v := fun v hv => by unfold renH; rw [if_pos rfl]; exact hv
  have hoth : ∀ x v, x ≠ i → H x = some v → renH H i j x = some v := fun x v hx hv => by
    unfold renH
    rw [if_neg (fun e => by rw [e, hj] at hv; cases hv), if_neg hx]
    exact hv
  have hc : ∀ c y, RCell w (Fr w0.heap.size F0 H σ) H σ c y → RCell w (Fr w0.heap.size F0 (renH H i j) σ) (renH H i j) σ (c.rn i j) y := by
    intro c y hy
    cases c with
    | dead => exact hy
    | val v => exact ⟨hy.1, hy.2.mono hF⟩
    | ptr s o => exact hy
    | own x e k l =>
      simp only [Cell.rn, bif_beq]
      by_cases hx : x = i
      · subst hx; rw [if_pos rfl]; exact ⟨hself y hy.1, hy.2.mono hF fun _ _ => rfl⟩
      · rw [if_neg hx]; exact ⟨hoth x y hx hy.1, hy.2.mono hF fun _ _ => rfl⟩
  have he : ∀ e y, REnt w (Fr w0.heap.size F0 H σ) H σ e y → REnt w (Fr w0.heap.size F0 (renH H i j) σ) (renH H i j) σ (e.rn i j) y := by
    intro e y hy
    cases e with
    | cell c => cases c with
      | dead => trivial
      | val v => exact Rel.mono hF hy
      | own x e k l =>
        have := hc (.own x e k l) y hy
        simp only [Ent.rn, Cell.rn, bif_beq] at this ⊢
        split
        · rename_i hx; rw [if_pos hx] at this; exact this
        · rename_i hx; rw [if_neg hx] at this; exact this
      | ptr s o => exact hy
    | agg cs =>
      obtain ⟨vs, rfl, hl, hv⟩ := hy
      refine ⟨vs, rfl, by simpa using hl, fun j' c v h1 h2 => ?_⟩
      rw [List.getElem?_map] at h1
      cases hc0 : cs[j']? with
      | none => rw [hc0] at h1; cases h1
      | some c0 =>
        rw [hc0] at h1
        simp only [Option.map_some, Option.some.injEq] at h1
        subst h1
        exact hc c0 v (hv j' c0 v hc0 h2)
    | elv k e off =>
      obtain ⟨b, o, rfl, a2, a3, a4⟩ := hy
      refine ⟨b, o, rfl, (hF b a3 a2).1, a3, fun q hq => ?_⟩
      obtain ⟨v, c1, c2, c3⟩ := a4 q hq
      exact ⟨v, c1, c2, c3.mono hF⟩
    | elo x e k l n off =>
      obtain ⟨g, m, cap, a1, a2, a3, rfl⟩ := hy
      simp only [Ent.rn, bif_beq]
      by_cases hx : x = i
      · subst hx; rw [if_pos rfl]; exact ⟨g, m, cap, hself _ a1, a2.mono hF (fun _ _ => rfl), a3, rfl⟩
      · rw [if_neg hx]; exact ⟨g, m, cap, hoth x _ hx a1, a2.mono hF (fun _ _ => rfl), a3, rfl⟩
    | tup rr ks =>
      obtain ⟨vs, rfl, hl, hv⟩ := hy
      refine ⟨vs, rfl, by simpa using hl, fun q o v h1 h2 => ?_⟩
      rw [List.getElem?_map] at h1
      cases ho : ks[q]? with
      | none => rw [ho] at h1; cases h1
      | some o' =>
        rw [ho] at h1
        have h3 := hv q o' v ho h2
        simp only [Option.map_some, Option.some.injEq] at h1
        subst h1
        match o', h3 with
        | none, _ => trivial
        | some none, h3 => exact Rel.mono hF h3
        | some (some (x, e, k)), h3 =>
          simp only [bif_beq]
          by_cases hx : x = i
          · subst hx; rw [if_pos rfl]; exact ⟨hself v h3.1, h3.2.mono hF fun _ _ => rfl⟩
          · rw [if_neg hx]; exact ⟨hoth x v hx h3.1, h3.2.mono hF fun _ _ => rfl⟩
  refine { h with env := fun t => he _ _ (h.env t), mem := fun s cs hcs => ?_, hown := fun x v g hx hv => ?_, hh := ?_, hs := fun x s v r hx hs => ?_, glob := fun g k e hg => he (.elv k e 0) _ (h.glob g k e hg) }
  · simp only [St.rn, St.map, Option.map_eq_some_iff] at hcs
    obtain ⟨cs0, h0, rfl⟩ := hcs
    obtain ⟨r, us, e', h1, h2, h3, h4⟩ := h.mem s cs0 h0
    refine ⟨r, us, e', h1, h2, by simpa using h3, fun q c v hc' hv => ?_⟩
    rw [List.getElem?_map] at hc'
    cases hc0 : cs0[q]? with
    | none => rw [hc0] at hc'; cases hc'
    | some c0 =>
      rw [hc0] at hc'
      simp only [Option.map_some, Option.some.injEq] at hc'
      subst hc'
      exact hc c0 v (h4 q c0 v hc0 hv)
  · rcases renH_some hx with ⟨_, hx⟩ | ⟨_, _, hx⟩ <;> exact h.hown _ v g hx hv
  · intro x y u v g hne hx hy
    rcases renH_some hx with ⟨a0, hx'⟩ | ⟨a1, a2, hx'⟩ <;> rcases renH_some hy with ⟨b0, hy'⟩ | ⟨b1, b2, hy'⟩
    · exact absurd (a0.trans b0.symm) hne
    · exact h.hh i y u v g (Ne.symm b2) hx' hy'
    · exact h.hh x i u v g a2 hx' hy'
    · exact h.hh x y u v g hne hx' hy'
  · rcases renH_some hx with ⟨_, hx⟩ | ⟨_, _, hx⟩ <;> exact h.hs _ s v r hx hs

theorem Inv.canon1 (h : Inv C w0 F0 nt st a w H σ) (p : Nat × Option (Nat × Nat)) : ∃ H', Inv C w0 F0 nt (st.canon1 p) a w H' σ := by
  unfold St.canon1
  split
  · rename_i e k hp
    split
    · rename_i id e' k' l hge
      cases hb : (Nat.beq e e' && Nat.beq k k') with
      | false => exact ⟨H, h.dead p.1⟩
      | true =>
        simp only [cond_true, bif_beq]
        by_cases hid : id = 300000 + p.1
        · rw [if_pos hid]; exact ⟨H, h⟩
        · rw [if_neg hid]
          exact ⟨_, (h.kl (300000 + p.1)).rn hid (by unfold Sx.erase; simp)⟩
    · rename_i hge
      cases hk : Nat.blt 0 k with
      | false => exact ⟨H, h.dead p.1⟩
      | true =>
        simp only [cond_true]
        have hk0 : 0 < k := by unfold Nat.blt at hk; exact Nat.le_of_ble_eq_true hk
        have hv := h.env p.1
        rw [hge] at hv
        have hv' : a.tmps.getD p.1 undef = .slice none 0 0 := by
          generalize a.tmps.getD p.1 undef = V at hv
          cases hv; rfl
        have h2 := h.regrow (300000 + p.1) (300000 + p.1) none (w' := w) (x := .slice none 0 0) rfl rfl rfl (Nat.le_refl _) (fun _ _ _ => rfl) (fun g hg => by cases hg) (fun g hg => by cases hg)
        have hkk := kl_kl st (300000 + p.1)
        rw [hkk] at h2
        refine ⟨_, h2.setVal (t := p.1) ?_⟩
        rw [hv']
        exact ⟨by unfold upd; simp, hk0, [], World.ownsRow_nil w 0 _ _, by simp, fun i j v hi => by simp at hi⟩
    · exact ⟨H, h.dead p.1⟩
  · exact ⟨H, h⟩

theorem Inv.canon (h : Inv C w0 F0 nt st a w H σ) (live : List (Nat × Option (Nat × Nat))) (sites : List Nat) : ∃ H', Inv C w0 F0 nt (st.canon live sites) a w H' σ := by
  have fold : ∀ (l : List (Nat × Option (Nat × Nat))) (st : St) (H : Nat → Option Value), Inv C w0 F0 nt st a w H σ → ∃ H', Inv C w0 F0 nt (l.foldl St.canon1 st) a w H' σ := by
    intro l
    induction l with
    | nil => exact fun st H h => ⟨H, h⟩
    | cons p l ih =>
      intro st H h
      obtain ⟨H', h'⟩ := h.canon1 p
      exact ih _ _ h'
  obtain ⟨H', h'⟩ := fold live st H h
  refine ⟨H', { h' with env := fun t => ?_, mem := fun s cs hcs => ?_ }⟩
  · show REnt _ _ _ _ (match (live.map fun p => (p.1, (live.foldl St.canon1 st).env p.1)).find? (fun p => Nat.beq p.1 t) with | some p => p.2 | none => .dead) _
    split
    · rename_i p hp
      have h1 := List.mem_of_find?_eq_some hp
      have h2 := List.find?_some hp
      obtain ⟨q, hq, rfl⟩ := List.mem_map.1 h1
      have := Nat.eq_of_beq_eq_true h2
      simp only at this
      subst this
      exact h'.env q.1
    · trivial
  · have hcs' : (match (sites.map fun s => (s, (live.foldl St.canon1 st).mem s)).find? (fun p => Nat.beq p.1 s) with | some p => p.2 | none => none) = some cs := hcs
    split at hcs'
    · rename_i p hp
      have h1 := List.mem_of_find?_eq_some hp
      have h2 := List.find?_some hp
      obtain ⟨q, hq, rfl⟩ := List.mem_map.1 h1
      have := Nat.eq_of_beq_eq_true h2
      simp only at this
      subst this
      exact h'.mem q cs hcs'
    · cases hcs'
end
end Sx

/-
  SxMach2: a function returns.
-/
namespace Sx
open Go Go.RowKit Go.Lib

section
variable {C : Cfg} {P : Program} {w0 : World} {F0 : Nat → Prop} {nt : Nat} {st : St} {a : Act} {w : World} {H : Nat → Option Value} {σ : Nat → Option Nat}

def resRun (tmps : Array Value) : ResultVar → Sem Value
  | .tmp t => pure (tmps.getD t undef)
  | .cell a t => do loadVar t (← asAddr (tmps.getD a undef))

theorem res_ok (hT : ∀ t i, C.ty t = some i → TyOk P t i) (h : Inv C w0 F0 nt st a w H σ) (rv : ResultVar) (ht : (resEnt C st rv).told = true) : ∃ v, (resRun a.tmps rv).run P w = .ok v w ∧ REnt w (Fr w0.heap.size F0 H σ) H σ (resEnt C st rv) v := by
  cases rv with
  | tmp t => exact ⟨_, rfl, h.env t⟩
  | cell x ty =>
    unfold resEnt at ht ⊢
    simp only at ht ⊢
    split at ht
    · rename_i s off i hge hi
      split at ht
      · rename_i cs hcs
        cases hle : Nat.ble (off + i.size) cs.length with
        | false => rw [hle] at ht; cases ht
        | true =>
          rw [hle] at ht
          have hle' := Nat.le_of_ble_eq_true hle
          have hx := h.env x
          rw [hge] at hx
          obtain ⟨b, hb, hx⟩ := hx
          obtain ⟨b', vs, e, h1, h2, h3, h4⟩ := h.mem s cs hcs
          have hbb : b' = b := by rw [hb] at h1; exact (Option.some.inj h1).symm
          subst hbb
          have ht' := hT ty i hi
          have hl : ((vs.drop off).take i.size).length = i.size := by simp; omega
          have hcr : CR w (Fr w0.heap.size F0 H σ) H σ ((cs.drop off).take i.size) ((vs.drop off).take i.size) := (CR.drop ⟨h3, h4⟩ off).take i.size
          have hag : i.kd.agg = true ∨ i.size = 1 := by
            cases hh : i.kd.agg with
            | true => exact .inl rfl
            | false => exact .inr (ht'.one hh)
          refine ⟨if i.kd.agg then .agg ((vs.drop off).take i.size).toArray else ((vs.drop off).take i.size).headD undef, ?_, ?_⟩
          · have hr := ht'.run_load hag w b' off _ hl (fun j v hv => by
              rw [List.getElem?_take, List.getElem?_drop] at hv
              split at hv
              · rw [cell_of_row w b' (off + j) vs.toArray e (0, 0) h2]; simpa using hv
              · cases hv)
            simp only [resRun, hx, asAddr, Sem.run_bind, Sem.run_pure, Result.andThen_ok]
            exact hr
          · simp only [cond_true]
            exact fromCells_ok hcr _ (hag.imp id fun e => by simp; omega)
      · cases ht
    · cases ht

theorem run_mapM_list {α : Type} (f : α → Sem Value) : ∀ (l : List α) (vs : List Value), l.length = vs.length → (∀ (j : Nat) (x : α) (v : Value), l[j]? = some x → vs[j]? = some v → (f x).run P w = .ok v w) → (l.mapM f).run P w = .ok vs w
  | [], [], _, _ => by simp
  | [], v :: vs, hl, _ => by simp at hl
  | x :: l, [], hl, _ => by simp at hl
  | x :: l, v :: vs, hl, h => by
    have h0 := h 0 x v rfl rfl
    have ih := run_mapM_list f l vs (by simpa using hl) fun j y u h1 h2 => h (j + 1) y u (by simpa using h1) (by simpa using h2)
    simp [List.mapM_cons, h0, ih]

/-- All results of a function, read. -/
theorem results_ok (hT : ∀ t i, C.ty t = some i → TyOk P t i) (h : Inv C w0 F0 nt st a w H σ) (fn : Func) (ht : ∀ rv ∈ fn.results.toList, (resEnt C st rv).told = true) :
    ∃ vs : List Value, vs.length = fn.results.toList.length ∧ (results fn a.tmps).run P w = .ok (tupV vs) w ∧
      ∀ (j : Nat) (e : Ent) (v : Value), (fn.results.toList.map (resEnt C st))[j]? = some e → vs[j]? = some v → REnt w (Fr w0.heap.size F0 H σ) H σ e v := by
  have key : ∀ l : List ResultVar, (∀ rv ∈ l, (resEnt C st rv).told = true) → ∃ vs : List Value, vs.length = l.length ∧ (l.mapM (resRun a.tmps)).run P w = .ok vs w ∧
      ∀ (j : Nat) (e : Ent) (v : Value), (l.map (resEnt C st))[j]? = some e → vs[j]? = some v → REnt w (Fr w0.heap.size F0 H σ) H σ e v := by
    intro l
    induction l with
    | nil => exact fun _ => ⟨[], rfl, by simp, fun j e v h1 _ => by simp at h1⟩
    | cons rv l ih =>
      intro hl
      obtain ⟨v, h1, h2⟩ := res_ok hT h rv (hl rv (List.mem_cons_self ..))
      obtain ⟨vs, h3, h4, h5⟩ := ih fun rv hm => hl rv (List.mem_cons_of_mem _ hm)
      refine ⟨v :: vs, by simp [h3], by simp [List.mapM_cons, h1, h4], fun j e u q1 q2 => ?_⟩
      cases j with
      | zero => simp at q1 q2; subst q1 q2; exact h2
      | succ j => exact h5 j e u (by simpa using q1) (by simpa using q2)
  obtain ⟨vs, h1, h2, h3⟩ := key fn.results.toList ht
  refine ⟨vs, h1, ?_, h3⟩
  have hm : (fn.results.mapM (resRun a.tmps)).run P w = .ok vs.toArray w := by
    rw [Array.mapM_eq_mapM_toList]
    simp [h2]
  unfold results
  have : (fn.results.mapM fun x => match x with
    | .tmp t => pure (a.tmps.getD t undef)
    | .cell b t => do loadVar t (← asAddr (a.tmps.getD b undef))) = fn.results.mapM (resRun a.tmps) := by
    congr 1
  rw [Sem.run_bind]
  erw [this]
  rw [hm]
  simp only [Result.andThen_ok, Sem.run_pure]
  congr 1
  match vs with
  | [] => simp [tupV]
  | [x] => simp [tupV]
  | x :: y :: r => simp [tupV]

theorem finL_some {es : List Ent} : ∀ {ks : List (Option (Nat × Nat))} {K : List AV → Option AV} {r : AV}, finL ks es K = some r →
    ∃ rs, K rs = some r ∧ rs.length = es.length ∧ ∀ (j : Nat) (e : Ent), es[j]? = some e → ∃ v, finOne (ks[j]?.getD none) e = some v ∧ rs[j]? = some v := by
  induction es with
  | nil => intro ks K r h; cases ks <;> exact ⟨[], h, rfl, fun j e he => by simp at he⟩
  | cons e es ih =>
    intro ks K r h
    cases ks with
    | nil =>
      simp only [finL] at h
      obtain ⟨v, hv, h⟩ := Option.bind_eq_some_iff.1 h
      obtain ⟨rs, h1, h2, h3⟩ := ih h
      refine ⟨v :: rs, h1, by simp [h2], fun j e' he => ?_⟩
      cases j with
      | zero => simp at he; subst he; exact ⟨v, hv, rfl⟩
      | succ j => obtain ⟨u, q1, q2⟩ := h3 j e' (by simpa using he); exact ⟨u, by simpa using q1, by simpa using q2⟩
    | cons o ks =>
      simp only [finL] at h
      obtain ⟨v, hv, h⟩ := Option.bind_eq_some_iff.1 h
      obtain ⟨rs, h1, h2, h3⟩ := ih h
      refine ⟨v :: rs, h1, by simp [h2], fun j e' he => ?_⟩
      cases j with
      | zero => simp at he; subst he; exact ⟨v, hv, rfl⟩
      | succ j => obtain ⟨u, q1, q2⟩ := h3 j e' (by simpa using he); exact ⟨u, by simpa using q1, by simpa using q2⟩

theorem ownIds_mem {es : List Ent} : ∀ {ks : List (Option (Nat × Nat))} {j i : Nat} {e : Ent} {p : Nat × Nat}, es[j]? = some e → ks[j]? = some (some p) → i ∈ e.ids → i ∈ ownIds ks es := by
  induction es with
  | nil => intro ks j i e p h; simp at h
  | cons e0 es ih =>
    intro ks j i e p he hk hi
    cases ks with
    | nil => simp at hk
    | cons o ks =>
      cases j with
      | zero =>
        simp at he hk
        subst he hk
        exact List.mem_append_left _ hi
      | succ j =>
        have := ih (by simpa using he) (by simpa using hk) hi
        cases o with
        | none => exact this
        | some q => exact List.mem_append_right _ this

theorem valIds_mem {es : List Ent} : ∀ {ks : List (Option (Nat × Nat))} {j i : Nat} {e : Ent}, es[j]? = some e → ks[j]?.getD none = none → i ∈ e.ids → i ∈ valIds ks es := by
  induction es with
  | nil => intro ks j i e h; simp at h
  | cons e0 es ih =>
    intro ks j i e he hk hi
    cases ks with
    | nil =>
      cases j with
      | zero => simp at he; subst he; exact List.mem_append_left _ hi
      | succ j => exact List.mem_append_right _ (ih (ks := []) (by simpa using he) (by simp) hi)
    | cons o ks =>
      cases j with
      | zero =>
        simp at he hk
        subst he hk
        exact List.mem_append_left _ hi
      | succ j =>
        have := ih (by simpa using he) (by simpa using hk) hi
        cases o with
        | none => exact List.mem_append_right _ this
        | some q => exact this

theorem nodup_app {l m : List Nat} (h : nodup (l ++ m) = true) : nodup m = true ∧ ∀ x ∈ l, x ∉ m := by
  induction l with
  | nil => exact ⟨h, by simp⟩
  | cons x l ih =>
    simp only [List.cons_append, nodup, Bool.and_eq_true] at h
    obtain ⟨h1, h2⟩ := ih h.2
    refine ⟨h1, fun y hy => ?_⟩
    rcases List.mem_cons.1 hy with rfl | hy
    · intro hm
      have := h.1
      simp only [Bool.not_eq_true', List.any_eq_false] at this
      exact this y (List.mem_append_right _ hm) (Nat.beq_refl y)
    · exact h2 y hy

theorem ownIds_ne {es : List Ent} : ∀ {ks : List (Option (Nat × Nat))} {j j' i i' : Nat} {e e' : Ent} {p p' : Nat × Nat}, nodup (ownIds ks es) = true → j < j' → es[j]? = some e → ks[j]? = some (some p) → es[j']? = some e' → ks[j']? = some (some p') →
    i ∈ e.ids → i' ∈ e'.ids → i ≠ i' := by
  induction es with
  | nil => intro ks j j' i i' e e' p p' _ _ h; simp at h
  | cons e0 es ih =>
    intro ks j j' i i' e e' p p' hn hlt he hk he' hk' hi hi'
    cases ks with
    | nil => simp at hk
    | cons o ks =>
      cases j' with
      | zero => omega
      | succ j' =>
        cases j with
        | zero =>
          simp at he hk
          subst he hk
          have h1 := (nodup_app hn).2 i hi
          intro e
          exact h1 (e ▸ ownIds_mem (by simpa using he') (by simpa using hk') hi')
        | succ j =>
          refine ih (ks := ks) (j := j) (j' := j') ?_ (by omega) (by simpa using he) (by simpa using hk) (by simpa using he') (by simpa using hk') hi hi'
          cases o with
          | none => exact hn
          | some q => exact (nodup_app hn).1

theorem finOne_told {o : Option (Nat × Nat)} {e : Ent} {v : AV} (h : finOne o e = some v) : e.told = true := by
  unfold finOne at h
  split at h
  · split at h
    · rfl
    · rfl
    · cases h
  · cases ht : e.told with
    | true => rfl
    | false => rw [ht] at h; cases h

/-- The function returns. -/
theorem finish_ok (hT : ∀ t i, C.ty t = some i → TyOk P t i) (h : Inv C w0 F0 nt st a w H σ) {f : Nat} {fn : Func} {r : AV} (hf : finish C f fn st = some r) :
    ∃ v, (results fn a.tmps).run P w = .ok v w ∧ ResOk (C.own f) w0 w F0 r v := by
  unfold finish at hf
  simp only at hf
  generalize hes : fn.results.toList.map (resEnt C st) = es at hf
  generalize C.own f = ks at hf ⊢
  cases hb : ((ks.all Option.isNone || Nat.beq ks.length es.length) && nodup (ownIds ks es) && (ownIds ks es).all (fun i => !((valIds ks es).any fun j => Nat.beq i j))) with
  | false => rw [hb] at hf; cases hf
  | true =>
    rw [hb] at hf
    simp only [cond_true] at hf
    rw [Bool.and_eq_true, Bool.and_eq_true] at hb
    obtain ⟨⟨hb1, hb2⟩, hb3⟩ := hb
    obtain ⟨rs, hr, hrl, hfin⟩ := finL_some hf
    simp only [Option.some.injEq] at hr
    obtain ⟨vs, hvl, hrun, hrel⟩ := results_ok hT h fn (fun rv hm => by
      obtain ⟨j, hj⟩ := List.getElem?_of_mem hm
      obtain ⟨v, hv, _⟩ := hfin j (resEnt C st rv) (by rw [← hes, List.getElem?_map, hj]; rfl)
      exact finOne_told hv)
    rw [hes] at hrel
    have hvs : vs.length = es.length := by rw [hvl, ← hes]; simp
    refine ⟨tupV vs, hrun, ?_⟩
    -- what is only read
    obtain ⟨H', h', hent, hsub, hsup⟩ := h.fzs2 (valIds ks es)
    have hval : ∀ (j : Nat) (e : Ent) (x : Value) (v : AV), es[j]? = some e → vs[j]? = some x → ks[j]?.getD none = none → finOne (ks[j]?.getD none) e = some v → Rel w (Fr w0.heap.size F0 H' σ) v x := by
      intro j e x v he hx hk hv
      rw [hk] at hv
      have ht := finOne_told hv
      simp only [finOne, ht, cond_true, Option.some.injEq] at hv
      subst hv
      exact told_fzs (hent _ _ (hrel j e x he hx)) ht fun i hi => valIds_mem he hk hi
    have hone : ∀ (F : Nat → Prop), (∀ (j : Nat) (x : Value) (v : AV), vs[j]? = some x → rs[j]? = some v → Rel w F v x) → Rel w F r (tupV vs) := by
      intro F hF
      rw [← hr]
      have hl : rs.length = vs.length := by rw [hrl, hvs]
      match rs, vs, hl with
      | [], [], _ => exact .tu [] [] rfl (fun j v hv => by simp at hv)
      | [v], [x], _ => exact hF 0 x v rfl rfl
      | v :: v' :: rs, x :: x' :: vs, hl =>
        refine .tu (v :: v' :: rs) (x :: x' :: vs) hl fun j u hu => ?_
        have hj : j < (v :: v' :: rs).length := by rw [hl]; exact (List.getElem?_eq_some_iff.1 hu).1
        have := hF j u _ hu (List.getElem?_eq_getElem hj)
        rw [List.getD_eq_getElem?_getD, List.getElem?_eq_getElem hj]
        exact this
    have hget : ∀ (j : Nat) (x : Value), vs[j]? = some x → ∃ e, es[j]? = some e := fun j x hx => by
      have : j < es.length := by rw [← hvs]; exact (List.getElem?_eq_some_iff.1 hx).1
      exact ⟨_, List.getElem?_eq_getElem this⟩
    unfold ResOk
    cases hall : ks.all Option.isNone with
    | true =>
      rw [if_pos rfl]
      refine Rel.mono (F := Fr w0.heap.size F0 H' σ) (fun b hb hF => ⟨hF.1, rfl⟩) (hone _ fun j x v hx hv => ?_)
      obtain ⟨e, he⟩ := hget j x hx
      obtain ⟨v', hv1, hv2⟩ := hfin j e he
      have : v' = v := by rw [hv2] at hv; exact Option.some.inj hv
      subst this
      refine hval j e x v' he hx ?_ hv1
      cases hk : ks[j]? with
      | none => rfl
      | some o =>
        have := List.all_eq_true.1 hall o (List.mem_of_getElem? hk)
        cases o with
        | none => rfl
        | some p => cases this
    | false =>
      rw [if_neg (by simp)]
      rw [hall, Bool.false_or] at hb1
      have hkl := Nat.eq_of_beq_eq_true hb1
      -- what is the caller's own
      have hown : ∀ (j : Nat) (x : Value) (e k : Nat) (v : AV), vs[j]? = some x → ks[j]? = some (some (e, k)) → rs[j]? = some v →
          (x.ownBlock = none ∧ v.elems = [] ∧ 0 < k ∧ x = .slice none 0 0) ∨ ∃ id, (∃ en, es[j]? = some en ∧ id ∈ en.ids) ∧ H id = some x ∧ OwnOk w (Fr w0.heap.size F0 H σ) e k v.elems x := by
        intro j x e k v hx hk hv
        obtain ⟨en, he⟩ := hget j x hx
        obtain ⟨v', hv1, hv2⟩ := hfin j en he
        have : v' = v := by rw [hv2] at hv; exact Option.some.inj hv
        subst this
        have hre := hrel j en x he hx
        rw [hk] at hv1
        simp only [Option.getD_some, finOne] at hv1
        split at hv1
        · rename_i id y' k' l
          cases hbb : (Nat.beq e y' && Nat.beq k k') with
          | false => rw [hbb] at hv1; cases hv1
          | true =>
            rw [hbb] at hv1
            simp only [cond_true, Option.some.injEq] at hv1
            subst hv1
            rw [Bool.and_eq_true] at hbb
            have e1 := Nat.eq_of_beq_eq_true hbb.1
            have e2 := Nat.eq_of_beq_eq_true hbb.2
            subst e1 e2
            exact .inr ⟨id, ⟨_, he, by simp [Ent.ids, Cell.ids]⟩, hre.1, hre.2⟩
        · cases hk0 : Nat.blt 0 k with
          | false => rw [hk0] at hv1; cases hv1
          | true =>
            rw [hk0] at hv1
            simp only [cond_true, Option.some.injEq] at hv1
            subst hv1
            have hx0 : x = .slice none 0 0 := by
              have hre' : Rel w _ .nils x := hre
              cases hre'; rfl
            subst hx0
            exact .inl ⟨rfl, rfl, by unfold Nat.blt at hk0; exact Nat.le_of_ble_eq_true hk0, rfl⟩
        · cases hv1
      have hrs : ∀ (j : Nat) (x : Value), vs[j]? = some x → ∃ v, rs[j]? = some v ∧ compOf vs.length r j = v := by
        intro j x hx
        have hj : j < vs.length := (List.getElem?_eq_some_iff.1 hx).1
        have hjr : j < rs.length := by rw [hrl, ← hvs]; exact hj
        refine ⟨rs[j], List.getElem?_eq_getElem hjr, ?_⟩
        have hl : rs.length = vs.length := by rw [hrl, hvs]
        unfold compOf
        rw [← hr]
        by_cases h1 : vs.length = 1
        · rw [if_pos h1]
          match rs, hl.trans h1, hjr with
          | [v], _, hjr =>
            have : j = 0 := by simpa using hjr
            subst this
            rfl
        · rw [if_neg h1]
          match rs, hl, hjr with
          | [], _, hjr => simp at hjr
          | [v], hl, _ => simp at hl; omega
          | v :: v' :: rs, _, hjr =>
            show (v :: v' :: rs).getD j .un = _
            rw [List.getD_eq_getElem?_getD, List.getElem?_eq_getElem hjr]
            rfl
      refine ⟨vs, by rw [hvs, hkl], rfl, fun j x o hx ho => ?_, fun i j x y p q g hij hx hy hi hj hg => ?_⟩
      · obtain ⟨v, hv, hcv⟩ := hrs j x hx
        rw [hcv]
        cases o with
        | some p =>
          obtain ⟨e, k⟩ := p
          simp only
          rcases hown j x e k v hx ho hv with ⟨_, h2, h3, rfl⟩ | ⟨id, _, h2, h3⟩
          · rw [h2]
            exact ⟨⟨h3, [], World.ownsRow_nil w 0 _ _, by simp, fun i j v hi => by simp at hi⟩, fun g hg => by cases hg⟩
          · refine ⟨h3.mono (fun b hb hF => ⟨⟨hF.1, fun i y p hy hp e => ?_⟩, rfl⟩) (fun _ _ => rfl), fun g hg => (h.hown id x g h2 hg).1⟩
            obtain ⟨v', hv', _⟩ := hrs i y hy
            rcases hown i y p.1 p.2 v' hy hp hv' with ⟨h5, _⟩ | ⟨id', _, h5, _⟩
            · rw [h5] at e; cases e
            · exact hF.2.1 id' y h5 e
        | none =>
          simp only
          obtain ⟨e, he⟩ := hget j x hx
          obtain ⟨v', hv1, hv2⟩ := hfin j e he
          have : v' = v := by rw [hv2] at hv; exact Option.some.inj hv
          subst this
          refine (hval j e x v' he hx (by rw [ho]; rfl) hv1).mono fun b hb hF => ⟨⟨hF.1, fun i y p hy hp eb => ?_⟩, rfl⟩
          obtain ⟨v2, hv', _⟩ := hrs i y hy
          rcases hown i y p.1 p.2 v2 hy hp hv' with ⟨h5, _⟩ | ⟨id', ⟨en, hen, hid⟩, h5, _⟩
          · rw [h5] at eb; cases eb
          · have hm := ownIds_mem hen hp hid
            have hnv : id' ∉ valIds ks es := fun hm2 => by
              have := List.all_eq_true.1 hb3 id' hm
              simp only [Bool.not_eq_true', List.any_eq_false] at this
              exact this id' hm2 (Nat.beq_refl id')
            exact hF.2.1 id' y (hsup id' y hnv h5) eb
      · obtain ⟨v, hv, _⟩ := hrs i x hx
        obtain ⟨v', hv', _⟩ := hrs j y hy
        rcases hown i x p.1 p.2 v hx hi hv with ⟨h5, _⟩ | ⟨id, ⟨en, hen, hid⟩, h5, _⟩
        · rw [h5] at hg; cases hg
        · rcases hown j y q.1 q.2 v' hy hj hv' with ⟨h6, _⟩ | ⟨id', ⟨en', hen', hid'⟩, h6, _⟩
          · rw [h6]; simp
          · have hne : id ≠ id' := by
              rcases Nat.lt_or_gt_of_ne hij with hlt | hgt
              · exact ownIds_ne hb2 hlt hen hi hen' hj hid hid'
              · exact fun e => ownIds_ne hb2 hgt hen' hj hen hi hid' hid e.symm
            exact h.hh id id' x y g hne h5 h6 hg
end
end Sx

/-
  SxMach3: what the evaluator tells of a call, the call answers.
-/
namespace Sx
open Go Go.RowKit Go.Lib

/-- Is a region fit for what the evaluator does with it? -/
def regB (C : Cfg) (f nt : Nat) (id : Nat) (ops : Array Oper) (draw : Bool) : Bool :=
  ops.all (fun o => match o.dst with | some d => Nat.blt d nt | none => true) &&
    (match draw with
     | false => true
     | true => match C.plan f id with
       | none => true
       | some l => planT ops l.2 l.1 (Array.replicate ops.size false) && Region.noSelect ops && Nat.beq l.1.len ops.size)

def codeB (p : Nat → Array Oper → Bool → Bool) : Code → Bool
  | .region id ops d => p id ops d
  | .seq a b => codeB p a && codeB p b
  | .cond _ a b => codeB p a && codeB p b
  | .block _ c => codeB p c
  | .loop c => codeB p c
  | .scope c => codeB p c
  | _ => true

def itemB (p : Nat → Array Oper → Bool → Bool) : Item → Bool
  | .code c => codeB p c
  | .inLoop c => codeB p c
  | .inScope c => codeB p c
  | _ => true

/-- A program that is fit. -/
structure Fit (C : Cfg) (P : Program) : Prop where
  ty : ∀ t i, C.ty t = some i → TyOk P t i
  code : ∀ (f : Nat) (fn : Func) (c : Code), P.funcs[f]? = some fn → fn.body = some c → codeB (regB C f fn.ntmps) c = true
  mixed : P.follows .mixedOrders = true
  name : ∀ (f : Nat) (fn : Func) (c : Code), P.funcs[f]? = some fn → fn.body = some c → (fn.name == "runtime.NumGoroutine") = false
  ext : ∀ (f : Nat) (fn : Func), P.funcs[f]? = some fn → fn.body = none → (fn.name == "internal/bytealg.IndexByteString") = true → ∀ (s : ByteArray) (c : Int) (w : World), (callFunc f #[.string s, .int .u8 c]).run P w = .ok (.value (.int .i64 (Lib.indexByte s.data.toList c.toNat.toUInt8))) w

theorem findLabel_good {p : Nat → Array Oper → Bool → Bool} : ∀ {c : Code} {l : Nat} {r : Code}, findLabel c l = some r → codeB p c = true → codeB p r = true := by
  intro c
  induction c with
  | seq a b iha ihb =>
    intro l r h hg
    simp only [codeB, Bool.and_eq_true] at hg
    simp only [findLabel] at h
    split at h
    · rename_i rest hr
      cases h
      simp only [codeB, Bool.and_eq_true]
      exact ⟨iha hr hg.1, hg.2⟩
    · exact ihb h hg.2
  | label l' =>
    intro l r h hg
    simp only [findLabel] at h
    split at h
    · cases h; rfl
    · cases h
  | _ => intro l r h; simp [findLabel] at h

theorem gotoIn_good {p : Nat → Array Oper → Bool → Bool} {l : Nat} : ∀ {k k' : List Item}, gotoIn l k = some k' → (∀ x ∈ k, itemB p x = true) → ∀ x ∈ k', itemB p x = true
  | [], k', h, _ => by simp [gotoIn] at h
  | it :: k, k', h, hg => by
    have rest : gotoIn l k = some k' → ∀ x ∈ k', itemB p x = true := fun h => gotoIn_good h fun x hx => hg x (List.mem_cons_of_mem _ hx)
    cases it with
    | inScope body =>
      simp only [gotoIn] at h
      split at h
      · rename_i r hr
        cases h
        intro x hx
        rcases List.mem_cons.1 hx with rfl | hx
        · exact findLabel_good hr (hg (.inScope body) (List.mem_cons_self ..))
        · exact hg x hx
      · exact rest h
    | _ => exact rest (by simpa [gotoIn] using h)

theorem exitTo_good {p : Nat → Array Oper → Bool → Bool} {l : Nat} : ∀ {k k' : List Item}, exitTo l k = some k' → (∀ x ∈ k, itemB p x = true) → ∀ x ∈ k', itemB p x = true
  | [], k', h, _ => by simp [exitTo] at h
  | it :: k, k', h, hg => by
    have rest : exitTo l k = some k' → ∀ x ∈ k', itemB p x = true := fun h => exitTo_good h fun x hx => hg x (List.mem_cons_of_mem _ hx)
    cases it with
    | inBlock id =>
      simp only [exitTo] at h
      split at h
      · cases h
        intro x hx
        exact hg x (List.mem_cons_of_mem _ hx)
      · exact rest h
    | _ => exact rest (by simpa [exitTo] using h)

section
variable {C : Cfg} {P : Program}

theorem step_scope {b : Frame} {a : Act} {k : List Item} {cs : List Frame} {w : World} {c : Code} :
    Go.step P (lone (b.at a (.code (.scope c) :: k)) cs w) = .next (lone (b.at a (.code c :: .inScope c :: k)) cs w) :=
  step_lone_go (by simp [stepG, stepG.exec, Frame.at])
theorem step_inScope {b : Frame} {a : Act} {k : List Item} {cs : List Frame} {w : World} {c : Code} :
    Go.step P (lone (b.at a (.inScope c :: k)) cs w) = .next (lone (b.at a k) cs w) :=
  step_lone_go (by simp [stepG, stepG.exec, Frame.at])

/-- The rest of a call comes to this. -/
def Ends (P : Program) (b : Frame) (a : Act) (k : List Item) (w : World) (R : Ending → World → Prop) : Prop :=
  ∀ cs, ∃ e w' fr, R e w' ∧ Comes P (lone (b.at a k) cs w) (lone fr cs w') e ∧ fr.fn = b.fn ∧ fr.leaving P w' e

theorem Ends.of_steps {b : Frame} {a a' : Act} {k k' : List Item} {w w' : World} {R : Ending → World → Prop} (h : ∀ cs, Steps P (lone (b.at a k) cs w) (lone (b.at a' k') cs w')) (he : Ends P b a' k' w' R) : Ends P b a k w R := fun cs => by
  obtain ⟨e, w2, fr, h1, h2, h3⟩ := he cs
  exact ⟨e, w2, fr, h1, Comes.of_steps (h cs) h2, h3⟩

/-- Of what is left to do it tells how the call ends. -/
def RunOk (C : Cfg) (P : Program) (f : Nat) (fn : Func) (go : List Item → St → Option AV) : Prop :=
  ∀ (k : List Item) (st : St) (r : AV), go k st = some r → (∀ x ∈ k, itemB (regB C f fn.ntmps) x = true) → ∀ (w0 : World) (F0 : Nat → Prop) (a : Act) (w : World) (H : Nat → Option Value) (σ : Nat → Option Nat) (b : Frame), b.fn = f → b.kind = .normal →
    Inv C w0 F0 fn.ntmps st a w H σ → Ends P b a k w (PostOk C f w0 F0 r)

theorem arr_ok {f : Nat} {fn : Func} {go : List Item → St → Option AV} (h : RunOk C P f fn go) : RunOk C P f fn (arr C f go) := by
  intro k st r hr hk w0 F0 a w H σ b hb hkd hI
  unfold arr at hr
  split at hr
  · rename_i l s _
    obtain ⟨H', hI'⟩ := hI.canon l s
    exact h k _ r hr hk w0 F0 a w H' σ b hb hkd hI'
  · exact h k st r hr hk w0 F0 a w H σ b hb hkd hI

theorem Ends.finish {f : Nat} {fn : Func} {st : St} {r : AV} {w0 : World} {F0 : Nat → Prop} {a : Act} {w : World} {H : Nat → Option Value} {σ : Nat → Option Nat} {b : Frame} {k : List Item} (hfit : Fit C P) (hfn : P.funcs[f]? = some fn) (hb : b.fn = f) (hkd : b.kind = .normal)
    (hI : Inv C w0 F0 fn.ntmps st a w H σ) (hf : Sx.finish C f fn st = some r) (hs : ∀ cs, ∃ todo, Steps P (lone (b.at a k) cs w) (lone { b.at a todo with mode := .returning } cs w)) : Ends P b a k w (PostOk C f w0 F0 r) := fun cs => by
  obtain ⟨v, hv, hr⟩ := finish_ok hfit.ty hI hf
  obtain ⟨todo, hst⟩ := hs cs
  refine ⟨.returned v, w, _, ⟨v, rfl, Ext.of_below hI.below, hr⟩, hst, rfl, rfl, hI.defers, hkd, fn, ?_, hv⟩
  show P.funcs[b.fn]? = some fn
  rw [hb]; exact hfn

theorem region_ok {f : Nat} {fn : Func} {call : Nat → List AV → Option AV} (hfit : Fit C P) (hC : CallOk C P call) {id : Nat} {ops : Array Oper} {draw : Bool} {st : St} {K : St → Option AV} {r : AV} (hg : regB C f fn.ntmps id ops draw = true)
    (hK : evRegion C call f id ops draw st K = some r) {w0 : World} {F0 : Nat → Prop} {a : Act} {w : World} {H : Nat → Option Value} {σ : Nat → Option Nat} (hI : Inv C w0 F0 fn.ntmps st a w H σ) :
    (Code.region id ops draw).wp P (fun e a' w' => e = .normal ∧ ∃ st' H' σ', K st' = some r ∧ Inv C w0 F0 fn.ntmps st' a' w' H' σ') a w := by
  unfold regB at hg
  rw [Bool.and_eq_true] at hg
  obtain ⟨hg1, hg2⟩ := hg
  have hdst : ∀ (i : Nat) (o : Oper) (t : Nat), ops[i]? = some o → o.dst = some t → t < fn.ntmps := by
    intro i o t hi ht
    have := Array.all_eq_true_iff_forall_mem.1 hg1 o (Array.mem_of_getElem? hi)
    rw [ht] at this
    unfold Nat.blt at this
    exact Nat.le_of_ble_eq_true this
  unfold evRegion at hK
  cases draw with
  | false =>
    simp only [cond_false] at hK
    refine wp_region (wpOps_of_wpL (nc := []) (E := Held none σ) _ a w ?_)
    exact evOps_ok (D := none) hC hfit.ty hdst _ hK hI (fun ws e => by cases e) trivial fun a' w' st' H' σ' q1 q2 _ _ _ => ⟨rfl, st', H', σ', q1, q2⟩
  | true =>
    simp only [cond_true] at hK hg2
    cases hp : C.plan f id with
    | none => rw [hp] at hK; cases hK
    | some l =>
      rw [hp] at hK hg2
      simp only at hK
      simp only [Bool.and_eq_true] at hg2
      obtain ⟨⟨h1, h2⟩, h3⟩ := hg2
      have hlen := Nat.eq_of_beq_eq_true h3
      have hI' := hI.ext (Ext.drew w (w.drawn + 1))
      refine wp_region_any hfit.mixed (AnyE.any (nc := l.2) (E := Held (some l.2) σ) _ ?_)
      have key := anyE_of_wpT (P := P) (nc := l.2) (E := Held (some l.2) σ) (Q := fun e a' w' => e = .normal ∧ ∃ st' H' σ', K st' = some r ∧ Inv C w0 F0 fn.ntmps st' a' w' H' σ') (Held.refl _ _) (fun u v w h k => h.trans k) h2 (fun c a w hc => by cases hc.1) l.1 (Array.replicate ops.size false) a _
        (fun j o hj => by rw [show (Array.replicate ops.size false).getD j false = false by rw [Array.getD_eq_getD_getElem?, Array.getElem?_replicate]; split <;> rfl] at hj; cases hj) h1
        (evTree_ok (D := some l.2) (σ0 := σ) hC hfit.ty hdst (fun a' w' st' H' σ' q1 q2 => ⟨rfl, st', H', σ', q1, q2⟩) l.1 hK hI' (fun ws _ s _ => rfl))
      rw [hlen] at key
      exact key

theorem step_ok {f : Nat} {fn : Func} {call : Nat → List AV → Option AV} {go : List Item → St → Option AV} (hfit : Fit C P) (hfn : P.funcs[f]? = some fn) (hC : CallOk C P call) (hgo : RunOk C P f fn go) : RunOk C P f fn (Sx.step C call f fn go) := by
  intro k st r hr hk w0 F0 a w H σ b hb hkd hI
  have hk1 : ∀ {x : Item} {k' : List Item}, k = x :: k' → ∀ y ∈ k', itemB (regB C f fn.ntmps) y = true := fun e y hy => hk y (by rw [e]; exact List.mem_cons_of_mem _ hy)
  have hk0 : ∀ {x : Item} {k' : List Item}, k = x :: k' → itemB (regB C f fn.ntmps) x = true := fun e => hk _ (by rw [e]; exact List.mem_cons_self ..)
  have cons2 : ∀ {x : Item} {k' : List Item}, itemB (regB C f fn.ntmps) x = true → (∀ y ∈ k', itemB (regB C f fn.ntmps) y = true) → ∀ y ∈ x :: k', itemB (regB C f fn.ntmps) y = true := fun h1 h2 y hy => by
    rcases List.mem_cons.1 hy with rfl | hy
    · exact h1
    · exact h2 y hy
  have next : ∀ (k' : List Item) (st' : St), go k' st' = some r → (∀ y ∈ k', itemB (regB C f fn.ntmps) y = true) → Inv C w0 F0 fn.ntmps st' a w H σ → (∀ cs, Go.step P (lone (b.at a k) cs w) = .next (lone (b.at a k') cs w)) → Ends P b a k w (PostOk C f w0 F0 r) :=
    fun k' st' h1 h2 h3 h4 => Ends.of_steps (fun cs => .one (h4 cs)) (hgo k' st' r h1 h2 w0 F0 a w H σ b hb hkd h3)
  cases k with
  | nil => exact Ends.finish hfit hfn hb hkd hI hr fun cs => ⟨_, .one step_end⟩
  | cons it k =>
    cases it with
    | inBlock id => exact next k st hr (hk1 rfl) hI fun cs => step_inBlock
    | inScope c => exact next k st hr (hk1 rfl) hI fun cs => step_inScope
    | inLoop c => exact next _ st hr (cons2 (show itemB _ (.code c) = true from hk0 (x := .inLoop c) rfl) (cons2 (hk0 rfl) (hk1 rfl))) hI fun cs => step_inLoop
    | code c =>
      have hc0 : codeB (regB C f fn.ntmps) c = true := hk0 rfl
      cases c with
      | skip => exact next k st hr (hk1 rfl) hI fun cs => step_skip
      | label l => exact next k st hr (hk1 rfl) hI fun cs => step_label
      | loop c => exact next _ st hr (cons2 hc0 (cons2 hc0 (hk1 rfl))) hI fun cs => step_loop
      | seq x y =>
        simp only [codeB, Bool.and_eq_true] at hc0
        exact next _ st hr (cons2 hc0.1 (cons2 hc0.2 (hk1 rfl))) hI fun cs => step_seq
      | block id c => exact next _ st hr (cons2 hc0 (cons2 rfl (hk1 rfl))) hI fun cs => step_block
      | scope c => exact next _ st hr (cons2 hc0 (cons2 hc0 (hk1 rfl))) hI fun cs => step_scope
      | ret => exact Ends.finish hfit hfn hb hkd hI hr fun cs => ⟨_, .one step_ret⟩
      | exit id =>
        have hr' : (match exitTo id k with | some k' => go k' st | none => none) = some r := hr
        split at hr'
        · rename_i k' he
          exact next k' st hr' (exitTo_good he (hk1 rfl)) hI fun cs => step_exit he
        · cases hr'
      | goto l =>
        have hr' : (match gotoIn l k with | some k' => go k' st | none => none) = some r := hr
        split at hr'
        · rename_i k' he
          exact next k' st hr' (gotoIn_good he (hk1 rfl)) hI fun cs => step_goto he
        · cases hr'
      | cond c x y =>
        simp only [codeB, Bool.and_eq_true] at hc0
        have hr' : condM (st.get C c).pay (go (.code x :: k) (st.assume c true)) (go (.code y :: k) (st.assume c false)) = some r := hr
        unfold condM at hr'
        split at hr'
        · rename_i q hq
          have hv := pay_bool hI hq
          have hass : Inv C w0 F0 fn.ntmps (st.assume c q) a w H σ := by
            cases c with
            | tmp t =>
              refine hI.setVal ?_
              have : a.tmps.getD t undef = .bool q := hv
              rw [this]
              exact Rel.b q
            | _ => exact hI
          cases q with
          | true => exact next _ _ hr' (cons2 hc0.1 (hk1 rfl)) hass fun cs => step_cond hv
          | false => exact next _ _ hr' (cons2 hc0.2 (hk1 rfl)) hass fun cs => step_cond hv
        · cases hr'
      | region id ops draw =>
        have hr' : evRegion C call f id ops draw st (fun st => go k st) = some r := hr
        have hw := region_ok hfit hC hc0 hr' hI
        intro cs
        obtain ⟨e, a', w', ⟨he, st', H', σ', q1, q2⟩, harr⟩ := hw b k cs
        subst he
        obtain ⟨e2, w2, fr, h1, h2, h3⟩ := hgo k st' r q1 (hk1 rfl) w0 F0 a' w' H' σ' b hb hkd q2 cs
        exact ⟨e2, w2, fr, h1, Comes.of_steps harr h2, h3⟩
      | _ => cases hr
    | _ => cases hr

theorem firstIdx (l : List UInt8) (c : UInt8) : idxByte l c = Lib.indexByte l c := by
  unfold idxByte
  induction l with
  | nil => rfl
  | cons x l ih =>
    simp only [List.findIdx?_cons, Lib.indexByte]
    by_cases hx : (x == c) = true
    · simp [hx]
    · simp only [hx, Bool.false_eq_true, if_false]
      rw [← ih]
      cases hf : l.findIdx? (· == c) with
      | none => simp
      | some i =>
        have hne : (((i : Nat) : Int) == -1) = false := by
          rw [beq_eq_false_iff_ne]
          omega
        simp [hne]

/-- **What the evaluator tells of a call, the call answers.** -/
theorem both_ok (hfit : Fit C P) : ∀ n, CallOk C P (both C P n).1 ∧ ∀ (f : Nat) (fn : Func), P.funcs[f]? = some fn → RunOk C P f fn ((both C P n).2 f fn)
  | 0 => ⟨fun g args r h => by simp [both] at h, fun f fn _ k st r h => by simp [both] at h⟩
  | n + 1 => by
    obtain ⟨ihC, ihR⟩ := both_ok hfit n
    refine ⟨fun g args r h w F vs hG hl hv => ?_, fun f fn hfn => ?_⟩
    · have h' : (match P.funcs[g]? with
      | some fn => match fn.body with
        | some c => bif Nat.ble args.length fn.ntmps then arr C g ((both C P n).2 g fn) [.code c] (initSt args) else none
        | none => bif (C.own g).all Option.isNone then ext fn.name args else none
      | none => none) = some r := h
      split at h'
      case h_2 => cases h'
      rename_i fn hfn
      split at h'
      · rename_i c hbody
        cases hle : Nat.ble args.length fn.ntmps with
        | false => rw [hle] at h'; cases h'
        | true =>
          rw [hle] at h'
          have hle' := Nat.le_of_ble_eq_true hle
          left
          refine ⟨fn, c, hfn, hbody, hfit.name g fn c hfn hbody, fun cs => ?_⟩
          let b : Frame := Frame.enter P g vs .normal
          have hfr : Frame.enter P g vs .normal = b.at ⟨b.tmps, []⟩ [.code c] := by
            simp [b, Frame.enter, Frame.at, hfn, hbody]
          have htm : b.tmps = vs ++ Array.replicate (fn.ntmps - vs.size) undef := by simp [b, Frame.enter, hfn]
          have hI : Inv C w F fn.ntmps (initSt args) ⟨b.tmps, []⟩ w (fun _ => none) (fun _ => none) := {
            defers := rfl
            size := by rw [htm]; simp; omega
            env := fun t => by
              show REnt _ _ _ _ (match args[t]? with | some v => .val v | none => .dead) _
              cases ht : args[t]? with
              | none => trivial
              | some x =>
                have hlt : t < vs.size := by rw [hl]; exact (List.getElem?_eq_some_iff.1 ht).1
                show Rel _ _ x _
                have hg : vs[t]? = some vs[t] := by simp [hlt]
                have := hv t x vs[t] ht hg
                have e : b.tmps.getD t undef = vs[t] := by
                  rw [htm]
                  simp [Array.getElem?_append, hlt]
                rw [e]
                refine this.mono fun b' hb' hF => ⟨⟨fun _ => hF, fun i v hi => (by cases hi), fun s hs => (by cases hs)⟩, rfl⟩
            mem := fun s cs hs => by cases hs
            hown := fun i x g hi => by cases hi
            sown := fun s r hs => by cases hs
            hh := fun i j x y g _ hi => by cases hi
            hs := fun i s x r hi => by cases hi
            ss := fun s s' r _ hs => by cases hs
            glob := fun g k e hg => by
              obtain ⟨b', o, h1, h2, h3, h4⟩ := hG g k e hg
              refine ⟨b', o, h1, ⟨fun _ => h2, fun i v hi => (by cases hi), fun s hs => (by cases hs)⟩, h3, fun j hj => ?_⟩
              obtain ⟨v, q1, q2, q3⟩ := h4 j hj
              exact ⟨v, q1, q2, q3.mono fun b' hb' hF => ⟨⟨fun _ => hF, fun i v hi => (by cases hi), fun s hs => (by cases hs)⟩, rfl⟩⟩
            below := ⟨rfl, rfl, rfl, Nat.le_refl _, fun _ _ => rfl⟩ }
          have hrun := arr_ok (ihR g fn hfn) [.code c] (initSt args) r h' (fun x hx => by
            have : x = .code c := by simpa using hx
            subst this
            exact hfit.code g fn c hfn hbody) w F _ w _ _ b rfl rfl hI cs
          rw [hfr]
          exact hrun
      · rename_i hbody
        right
        cases hall : (C.own g).all Option.isNone with
        | false => rw [hall] at h'; cases h'
        | true =>
        rw [hall] at h'
        simp only [cond_true] at h'
        unfold ext at h'
        split at h'
        · rename_i l c
          cases hnm : (fn.name == "internal/bytealg.IndexByteString") with
          | false => rw [hnm] at h'; cases h'
          | true =>
            rw [hnm] at h'
            simp only [cond_true, Option.some.injEq] at h'
            subst h'
            match vs, hl, hv with
            | ⟨[x, y]⟩, _, hv =>
              have hx := hv 0 _ x rfl rfl
              have hy := hv 1 _ y rfl rfl
              cases hx with
              | s q =>
                cases hy
                refine ⟨_, hfit.ext g fn hfn hbody hnm q c.toNat w, _, rfl, Ext.refl w, ?_⟩
                unfold ResOk
                rw [if_pos hall, firstIdx]
                have e : ((c.toNat : Int)).toNat.toUInt8 = c := by simp
                rw [e]
                exact .int _
        · cases h'
    · exact step_ok hfit hfn ihC (arr_ok (ihR f fn hfn))
end
end Sx

/-
  SxSem: what the evaluator tells when it has as many steps as it wants.
-/
namespace Sx
open Go

section
variable {C : Cfg} {call : Nat → List AV → Option AV} {f : Nat} {R : Type}

theorem lift_bind (st : St) (dst : Option Nat) (K : St → Option R) (o : Option AV) : lift st dst K o = (lift st dst some o).bind K := by
  unfold lift; cases o <;> rfl

theorem cellsOf_bind (t : Nat) (e : Ent) (K : List Cell → Option R) : cellsOf C t e K = (cellsOf C t e some).bind K := by
  unfold cellsOf
  cases C.ty t with
  | none => rfl
  | some i =>
    simp only
    cases i.kd.agg with
    | true =>
      simp only [cond_true]
      cases e with
      | agg cs => simp only; cases Nat.beq cs.length i.size <;> rfl
      | cell c => cases c with
        | val v => simp only; cases AV.asAg i.size v <;> rfl
        | _ => rfl
      | _ => rfl
    | false =>
      simp only [cond_false]
      cases Nat.beq i.size 1 with
      | false => rfl
      | true =>
        simp only [cond_true]
        cases e with
        | cell c => cases c with
          | val v => simp only; cases AV.one v <;> rfl
          | _ => rfl
        | _ => rfl

theorem evLoad_bind (t : Nat) (a : Ent) (dst : Option Nat) (st : St) (K : St → Option R) : evLoad C t a dst st K = (evLoad C t a dst st some).bind K := by
  unfold evLoad
  cases C.ty t with
  | none => rfl
  | some i =>
    simp only
    split
    · split
      · cases Nat.ble _ _ <;> rfl
      · rfl
    · cases Nat.ble _ _ <;> rfl
    · cases Nat.ble _ _ <;> rfl
    · rfl

theorem evStore_bind (t : Nat) (a v : Ent) (st : St) (K : St → Option R) : evStore C t a v st K = (evStore C t a v st some).bind K := by
  unfold evStore
  split
  · rw [cellsOf_bind]; conv => rhs; rw [cellsOf_bind]
    cases cellsOf C t v some with
    | none => rfl
    | some new =>
      simp only [Option.bind_some]
      split
      · cases Nat.ble _ _ <;> rfl
      · rfl
  · rw [cellsOf_bind]; conv => rhs; rw [cellsOf_bind]
    cases cellsOf C t v some with
    | none => rfl
    | some new =>
      simp only [Option.bind_some]
      split
      · cases (_ && _ : Bool) <;> rfl
      · rfl
  · rfl

theorem fillC_bind (fields : List (Nat × Nat)) (st : St) (K : List Cell → Option R) : ∀ (ps : List (Nat × Operand)) (cs : List Cell), fillC C fields st ps cs K = (fillC C fields st ps cs some).bind K
  | [], cs => rfl
  | (i, x) :: r, cs => by
    simp only [fillC]
    split
    · rw [cellsOf_bind]; conv => rhs; rw [cellsOf_bind]
      cases cellsOf C _ (st.get C x) some with
      | none => rfl
      | some new =>
        simp only [Option.bind_some]
        cases Nat.ble _ _ with
        | false => rfl
        | true => simp only [cond_true]; exact fillC_bind fields st K r _
    · rfl

theorem fillE_bind (t : Nat) (agg : Bool) (st : St) (K : List AV → Option R) : ∀ (ps : List (Nat × Operand)) (l : List AV), fillE C t agg st ps l K = (fillE C t agg st ps l some).bind K
  | [], l => rfl
  | (i, x) :: r, l => by
    simp only [fillE]
    cases (_ && _ : Bool) with
    | false => rfl
    | true =>
      simp only [cond_true]
      rw [cellsOf_bind]; conv => rhs; rw [cellsOf_bind]
      cases cellsOf C _ (st.get C x) some with
      | none => rfl
      | some new => simp only [Option.bind_some]; exact fillE_bind t agg st K r _

theorem evSlice_bind (t : Nat) (x : Ent) (lo hi mx : Option Operand) (dst : Option Nat) (st : St) (K : St → Option R) : evSlice C f t x lo hi mx dst st K = (evSlice C f t x lo hi mx dst st some).bind K := by
  cases mx with
  | some m => rfl
  | none =>
    simp only [evSlice]
    split
    · exact lift_bind ..
    · split
      · rfl
      · cases (dst.map (C.trunc f)).getD false with
        | false => simp only [cond_false]; exact lift_bind ..
        | true =>
          simp only [cond_true]
          split
          · cases upN _ _ with
            | none => rfl
            | some n => cases dst <;> rfl
          · rfl
    · rfl

theorem evConv_bind (src to : Nat) (x : Ent) (dst : Option Nat) (st : St) (K : St → Option R) : evConv C src to x dst st K = (evConv C src to x dst st some).bind K := by
  unfold evConv
  split
  · exact lift_bind ..
  · exact lift_bind ..
  · split
    · exact lift_bind ..
    · rfl
  · split
    · exact lift_bind ..
    · rfl
  · split
    · cases (_ && _ : Bool) with
      | false => rfl
      | true =>
        simp only [cond_true]
        split <;> rfl
    · rfl
  · rfl

theorem evBuiltin_bind (b : Builtin) (args : List Operand) (ts : List Nat) (dst : Option Nat) (st : St) (K : St → Option R) : evBuiltin C b args ts dst st K = (evBuiltin C b args ts dst st some).bind K := by
  unfold evBuiltin
  split
  · split
    · exact lift_bind ..
    · exact lift_bind ..
    · rfl
  · exact lift_bind ..
  · exact lift_bind ..
  · split
    · split
      · cases (Kd.isSl _) with
        | false => rfl
        | true =>
          simp only [cond_true]
          split
          · cases (_ && _ : Bool) with
            | false => rfl
            | true =>
              simp only [cond_true]
              cases app _ _ _ _ with
              | none => rfl
              | some m => cases dst <;> rfl
          · cases app _ _ _ _ with
            | none => rfl
            | some m => cases dst <;> rfl
          · rfl
      · cases (Kd.isSl _) with
        | false => rfl
        | true =>
          simp only [cond_true]
          split
          · cases (_ && _ : Bool) with
            | false => rfl
            | true =>
              simp only [cond_true]
              cases app _ _ _ _ with
              | none => rfl
              | some m => cases dst <;> rfl
          · cases app _ _ _ _ with
            | none => rfl
            | some m => cases dst <;> rfl
          · rfl
      · rfl
    · rfl
  · rfl

theorem evCall_bind (c : Call) (dst : Option Nat) (st : St) (K : St → Option R) : evCall C call c dst st K = (evCall C call c dst st some).bind K := by
  unfold evCall
  simp only
  split
  · cases List.all _ _ with
    | false => rfl
    | true =>
      simp only [cond_true]
      cases call _ _ with
      | none => rfl
      | some r => simp only [Option.bind_some]; cases putRes _ _ _ _ <;> rfl
  · cases List.all _ _ with
    | false => rfl
    | true =>
      simp only [cond_true]
      cases AV.fnId _ with
      | none => rfl
      | some g =>
        simp only [Option.bind_some]
        cases call _ _ with
        | none => rfl
        | some r =>
          simp only [Option.bind_some]
          cases List.all _ _ <;> rfl
  · exact evBuiltin_bind ..
  · rfl

theorem evOp_bind (o : Oper) (st : St) (K : St → Option R) : evOp C call f o st K = (evOp C call f o st some).bind K := by
  cases ho : o.op with
  | move x => simp only [evOp, ho]; rfl
  | assign x => simp only [evOp, ho]; rfl
  | pick c a b => simp only [evOp, ho]; exact lift_bind ..
  | alloc t => simp only [evOp, ho]; cases C.ty t with
    | none => rfl
    | some i => cases o.dst <;> rfl
  | box t x =>
    simp only [evOp, ho]
    rw [cellsOf_bind]; conv => rhs; rw [cellsOf_bind]
    cases cellsOf C t (st.get C x) some with
    | none => rfl
    | some cs => cases o.dst <;> rfl
  | build t ps => simp only [evOp, ho]; cases C.ty t with
    | none => rfl
    | some i =>
      simp only
      cases i.kd.agg with
      | false => rfl
      | true =>
        simp only [cond_true]
        rw [fillC_bind]; conv => rhs; rw [fillC_bind]
        cases fillC C i.fields st ps.toList _ some <;> rfl
  | buildSlice t n ps =>
    simp only [evOp, ho]
    split
    · cases (_ && _ : Bool) with
      | false => rfl
      | true =>
        simp only [cond_true]
        rw [fillE_bind]; conv => rhs; rw [fillE_bind]
        cases fillE C _ _ st ps.toList _ some with
        | none => rfl
        | some l => cases o.dst <;> rfl
    · rfl
  | load t a => simp only [evOp, ho]; exact evLoad_bind ..
  | store t a x => simp only [evOp, ho]; cases o.dst with
    | none => exact evStore_bind ..
    | some d => rfl
  | binOp op t x y u =>
    simp only [evOp, ho]
    cases C.ty t with
    | none => rfl
    | some i =>
      simp only
      cases i.kd.agg with
      | true =>
        simp only [cond_true]
        cases i.eqk with
        | none => rfl
        | some ks => exact lift_bind ..
      | false =>
        simp only [cond_false]
        cases i.kd <;> first | exact lift_bind .. | rfl
  | unOp op t x => simp only [evOp, ho]; exact lift_bind ..
  | convert s t x => simp only [evOp, ho]; exact evConv_bind ..
  | makeSlice t n c =>
    simp only [evOp, ho]
    split
    · cases (bif _ then _ else _ : Option (List AV)) with
      | none => rfl
      | some l => cases o.dst <;> rfl
    · rfl
  | slice t x lo hi mx => simp only [evOp, ho]; exact evSlice_bind ..
  | fieldAddr t x i => simp only [evOp, ho]; split <;> rfl
  | field t x i =>
    simp only [evOp, ho]
    split
    · rw [cellsOf_bind]; conv => rhs; rw [cellsOf_bind]
      cases cellsOf C t (st.get C x) some with
      | none => rfl
      | some cs =>
        simp only [Option.bind_some]
        split
        · cases Nat.ble _ _ <;> rfl
        · rfl
    · rfl
  | indexAddr t x i =>
    simp only [evOp, ho]
    split
    · split
      · cases Nat.beq _ _ with
        | false => rfl
        | true => simp only [cond_true]; cases inN _ _ <;> rfl
      · cases idx _ _ _ <;> rfl
      · rfl
    · rfl
  | index t x i => simp only [evOp, ho]; split
                   · exact lift_bind ..
                   · rfl
  | extract x i =>
    simp only [evOp, ho]
    cases x with
    | tmp t =>
      simp only
      split
      · split <;> rfl
      · exact lift_bind ..
      · rfl
    | _ => rfl
  | makeFunc fn fi ca => simp only [evOp, ho]; split <;> rfl
  | call c => simp only [evOp, ho]; exact evCall_bind ..
  | _ => simp only [evOp, ho]; rfl

end

/-- From some number on. -/
def Ev (p : Nat → Prop) : Prop := ∃ n0, ∀ n, n0 ≤ n → p n

theorem Ev.of {p : Nat → Prop} (h : ∀ n, p n) : Ev p := ⟨0, fun n _ => h n⟩
theorem Ev.mono {p q : Nat → Prop} (h : Ev p) (hq : ∀ n, p n → q n) : Ev q := by
  obtain ⟨n0, h⟩ := h; exact ⟨n0, fun n hn => hq n (h n hn)⟩
theorem Ev.and {p q : Nat → Prop} (h : Ev p) (k : Ev q) : Ev fun n => p n ∧ q n := by
  obtain ⟨a, h⟩ := h; obtain ⟨b, k⟩ := k
  exact ⟨max a b, fun n hn => ⟨h n (Nat.le_trans (Nat.le_max_left ..) hn), k n (Nat.le_trans (Nat.le_max_right ..) hn)⟩⟩
theorem Ev.const {p : Prop} (h : Ev fun _ => p) : p := by obtain ⟨n0, h⟩ := h; exact h n0 (Nat.le_refl _)
theorem Ev.ex {p : Nat → Prop} (h : Ev p) : ∃ n, p n := by obtain ⟨n0, h⟩ := h; exact ⟨n0, h n0 (Nat.le_refl _)⟩

section
variable {C : Cfg} {call : Nat → List AV → Option AV} {cs : Nat → Nat → List AV → Option AV} {f : Nat}

theorem evOp_ev (hc : ∀ g xs r, call g xs = some r → Ev fun n => cs n g xs = some r) (o : Oper) (st st' : St) (h : evOp C call f o st some = some st') : Ev fun n => evOp C (cs n) f o st some = some st' := by
  cases ho : o.op <;> first
    | (refine Ev.of fun n => ?_; simp only [evOp, ho] at h ⊢; exact h; done)
    | skip
  case call c =>
    simp only [evOp, ho] at h ⊢
    unfold evCall at h ⊢
    simp only at h ⊢
    split at h
    · rename_i g hg
      cases ha : (c.args.toList.map (st.get C)).all Ent.told with
      | false => rw [ha] at h; cases h
      | true =>
        rw [ha] at h
        simp only [cond_true] at h
        obtain ⟨r, hr, h⟩ := Option.bind_eq_some_iff.1 h
        refine (hc _ _ _ hr).mono fun n hn => ?_
        simp only [hg, ha, cond_true, hn, Option.bind_some]
        exact h
    · rename_i t ht
      cases ha : (c.args.toList.map (st.get C)).all Ent.told with
      | false => rw [ha] at h; cases h
      | true =>
        rw [ha] at h
        simp only [cond_true] at h
        obtain ⟨g, hg, h⟩ := Option.bind_eq_some_iff.1 h
        obtain ⟨r, hr, h⟩ := Option.bind_eq_some_iff.1 h
        refine (hc _ _ _ hr).mono fun n hn => ?_
        simp only [ht, ha, cond_true, hg, hn, Option.bind_some]
        exact h
    · rename_i b hb
      refine Ev.of fun n => ?_
      (try simp only [hb])
      exact h
    · cases h

theorem evOps_ev (hc : ∀ g xs r, call g xs = some r → Ev fun n => cs n g xs = some r) {ops : Array Oper} {D : Option (List Nat)} :
    ∀ (m : Nat) {R : Type} (ctx : Option (Nat × Bool)) (l : List (Nat × Bool)) (st : St) (K : St → Option R) (Ks : Nat → St → Option R) (r : R), (∀ st r, K st = some r → Ev fun n => Ks n st = some r) →
      evOps C call f ops D m ctx l st K = some r → Ev fun n => evOps C (cs n) f ops D m ctx l st (Ks n) = some r
  | 0, R, ctx, l, st, K, Ks, r, hK, h => by cases h
  | m + 1, R, ctx, [], st, K, Ks, r, hK, h => hK st r h
  | m + 1, R, ctx, i :: l, st, K, Ks, r, hK, h => by
    simp only [evOps] at h ⊢
    cases hlt : Nat.blt i.1 ops.size with
    | false => rw [hlt] at h; cases h
    | true =>
      simp only [hlt, Bool.not_true, cond_false] at h ⊢
      cases hsg : sameG (opAt ops i.1).guard ctx with
      | true =>
        simp only [hsg, cond_true] at h ⊢
        cases hok : okOp C i.1 (opAt ops i.1) i.2 D st with
        | false => rw [hok] at h; cases h
        | true =>
          simp only [hok, cond_true] at h ⊢
          rw [evOp_bind] at h
          obtain ⟨st', h1, h2⟩ := Option.bind_eq_some_iff.1 h
          refine ((evOp_ev hc _ _ _ h1).and (evOps_ev hc m _ l st' K Ks r hK h2)).mono fun n hn => ?_
          rw [evOp_bind, hn.1]
          exact hn.2
      | false =>
        simp only [hsg, cond_false] at h ⊢
        split at h
        · cases h
        rename_i j want hg
        split at h
        · cases h
        rename_i d hjd
        split at h
        case h_2 => cases h
        rename_i seg p A B rest hcut
        cases hh : (hangs ops j want d seg [] && Nat.blt p.1 ops.size) with
        | false => rw [hh] at h; cases h
        | true =>
          rw [hh] at h
          simp only [cond_true] at h
          obtain ⟨v, hv, h⟩ := Option.bind_eq_some_iff.1 h
          have hsel : Ev fun n => selW (st.env d).pay want (evOps C (cs n) f ops D m (some (j, want)) seg st fun st => some (st.get C (bif want then A else B)).pay) (st.get C (bif want then B else A)).pay = some v := by
            unfold selW at hv ⊢
            split at hv
            · rename_i x hx
              (try simp only [hx])
              cases hxw : (x == want) with
              | true =>
                simp only [hxw, cond_true] at hv ⊢
                split at hv
                · rename_i y hy
                  refine (evOps_ev hc m _ seg st _ (fun _ st => some (st.get C (bif want then A else B)).pay) _ (fun st r h => Ev.of fun _ => h) hy).mono fun n hn => ?_
                  rw [hn]
                  exact hv
                · cases hv
              | false =>
                simp only [hxw, cond_false] at hv ⊢
                exact Ev.of fun _ => hv
            · cases hv
          refine (hsel.and (evOps_ev hc m _ rest _ K Ks r hK h)).mono fun n hn => ?_
          simp only [hjd, hcut, hh, cond_true, hn.1, Option.bind_some]
          exact hn.2

theorem agree_some {R : Type} {A B : Option R} {r : R} (h : agree A B = some r) : A = some r ∧ B = some r := by
  unfold agree at h
  split at h
  · rename_i e; exact ⟨h, e ▸ h⟩
  · cases h
theorem agree_of {R : Type} {A B : Option R} {r : R} (h1 : A = some r) (h2 : B = some r) : agree A B = some r := by
  unfold agree
  rw [h1, h2, if_pos rfl]
@[simp] theorem same_eq {R : Type} (A : Option R) : same A = A := by
  unfold same agree
  rw [if_pos rfl]

theorem evTree_ev (hc : ∀ g xs r, call g xs = some r → Ev fun n => cs n g xs = some r) {R : Type} {ops : Array Oper} {D : Option (List Nat)} {m : Nat} {K : St → Option R} {Ks : Nat → St → Option R} (hK : ∀ st r, K st = some r → Ev fun n => Ks n st = some r) :
    ∀ (T : Plan) {st : St} {r : R}, evTree C call f ops D m T st K = some r → Ev fun n => evTree C (cs n) f ops D m T st (Ks n) = some r
  | .done, st, r, h => hK st r h
  | .seq l t, st, r, h => evOps_ev hc m _ l st _ (fun n st => evTree C (cs n) f ops D m t st (Ks n)) r (fun st r h => evTree_ev hc hK t h) h
  | .fork i x j y, st, r, h => by
    simp only [evTree] at h ⊢
    obtain ⟨h1, h2⟩ := agree_some h
    have k1 := evOps_ev hc m _ [(i, false)] st _ (fun n st => evTree C (cs n) f ops D m x st (Ks n)) r (fun st r h => evTree_ev hc hK x h) h1
    have k2 := evOps_ev hc m _ [(j, false)] st _ (fun n st => evTree C (cs n) f ops D m y st (Ks n)) r (fun st r h => evTree_ev hc hK y h) h2
    exact (k1.and k2).mono fun n hn => agree_of hn.1 hn.2

theorem evRegion_ev (hc : ∀ g xs r, call g xs = some r → Ev fun n => cs n g xs = some r) {R : Type} {rid : Nat} {ops : Array Oper} {draw : Bool} {st : St} {K : St → Option R} {Ks : Nat → St → Option R} {r : R} (hK : ∀ st r, K st = some r → Ev fun n => Ks n st = some r)
    (h : evRegion C call f rid ops draw st K = some r) : Ev fun n => evRegion C (cs n) f rid ops draw st (Ks n) = some r := by
  unfold evRegion at h ⊢
  cases draw with
  | false =>
    simp only [cond_false] at h ⊢
    exact evOps_ev hc _ _ _ _ _ _ _ hK h
  | true =>
    simp only [cond_true] at h ⊢
    split at h
    · rename_i p hp
      (try simp only [hp])
      exact evTree_ev hc hK p.1 h
    · cases h

theorem step_ev (hc : ∀ g xs r, call g xs = some r → Ev fun n => cs n g xs = some r) {fn : Func} {go : List Item → St → Option AV} {gos : Nat → List Item → St → Option AV} (hgo : ∀ k st r, go k st = some r → Ev fun n => gos n k st = some r)
    {k : List Item} {st : St} {r : AV} (h : step C call f fn go k st = some r) : Ev fun n => step C (cs n) f fn (gos n) k st = some r := by
  cases k with
  | nil => exact Ev.of fun _ => h
  | cons it k =>
    cases it with
    | inBlock id => exact hgo _ _ _ h
    | inScope c => exact hgo _ _ _ h
    | inLoop c => exact hgo _ _ _ h
    | code c =>
      cases c with
      | skip => exact hgo _ _ _ h
      | label l => exact hgo _ _ _ h
      | loop c => exact hgo _ _ _ h
      | seq x y => exact hgo _ _ _ h
      | block id c => exact hgo _ _ _ h
      | scope c => exact hgo _ _ _ h
      | ret => exact Ev.of fun _ => h
      | exit id =>
        simp only [step] at h ⊢
        split at h
        · rename_i k' he; (try simp only [he]); exact hgo _ _ _ h
        · cases h
      | goto l =>
        simp only [step] at h ⊢
        split at h
        · rename_i k' he; (try simp only [he]); exact hgo _ _ _ h
        · cases h
      | cond c x y =>
        simp only [step, condM] at h ⊢
        split at h
        · rename_i q hq
          (try simp only [hq])
          cases q with
          | true => exact hgo _ _ _ h
          | false => exact hgo _ _ _ h
        · cases h
      | region id ops draw =>
        simp only [step] at h ⊢
        exact evRegion_ev hc (fun st r h => hgo k st r h) h
      | _ => cases h
    | _ => cases h

theorem arr_ev {go : List Item → St → Option AV} {gos : Nat → List Item → St → Option AV} (hgo : ∀ k st r, go k st = some r → Ev fun n => gos n k st = some r) {k : List Item} {st : St} {r : AV} (h : arr C f go k st = some r) : Ev fun n => arr C f (gos n) k st = some r := by
  unfold arr at h ⊢
  split at h
  · rename_i l s hl; (try simp only [hl]); exact hgo _ _ _ h
  · rename_i hl; (try simp only [hl]); exact hgo _ _ _ h
end

section
open Classical
/-- What a call answers. -/
noncomputable def semCall (C : Cfg) (P : Program) (g : Nat) (xs : List AV) : Option AV := if h : ∃ r, Ev fun n => (both C P n).1 g xs = some r then some (choose h) else none
/-- What the rest of a call answers. -/
noncomputable def semRun (C : Cfg) (P : Program) (f : Nat) (fn : Func) (k : List Item) (st : St) : Option AV := if h : ∃ r, Ev fun n => (both C P n).2 f fn k st = some r then some (choose h) else none

variable {C : Cfg} {P : Program}

theorem semCall_some {g : Nat} {xs : List AV} {r : AV} (h : semCall C P g xs = some r) : Ev fun n => (both C P n).1 g xs = some r := by
  unfold semCall at h
  split at h
  · rename_i hh
    have := choose_spec hh
    cases h
    exact this
  · cases h

theorem semRun_some {f : Nat} {fn : Func} {k : List Item} {st : St} {r : AV} (h : semRun C P f fn k st = some r) : Ev fun n => (both C P n).2 f fn k st = some r := by
  unfold semRun at h
  split at h
  · rename_i hh
    have := choose_spec hh
    cases h
    exact this
  · cases h

theorem semCall_of {g : Nat} {xs : List AV} {r : AV} (h : Ev fun n => (both C P n).1 g xs = some r) : semCall C P g xs = some r := by
  have hh : ∃ r, Ev fun n => (both C P n).1 g xs = some r := ⟨r, h⟩
  unfold semCall
  rw [dif_pos hh]
  obtain ⟨n, h1, h2⟩ := ((choose_spec hh).and h).ex
  rw [← h1]; exact h2

theorem semRun_of {f : Nat} {fn : Func} {k : List Item} {st : St} {r : AV} (h : Ev fun n => (both C P n).2 f fn k st = some r) : semRun C P f fn k st = some r := by
  have hh : ∃ r, Ev fun n => (both C P n).2 f fn k st = some r := ⟨r, h⟩
  unfold semRun
  rw [dif_pos hh]
  obtain ⟨n, h1, h2⟩ := ((choose_spec hh).and h).ex
  rw [← h1]; exact h2

theorem Ev.succ {p : Nat → Prop} (h : Ev fun n => p (n + 1)) : Ev p := by
  obtain ⟨n0, h⟩ := h
  refine ⟨n0 + 1, fun n hn => ?_⟩
  obtain ⟨m, rfl⟩ : ∃ m, n = m + 1 := ⟨n - 1, by omega⟩
  exact h m (by omega)

/-- One step of what is left. -/
theorem semRun_step {f : Nat} {fn : Func} {k : List Item} {st : St} {r : AV} (h : step C (semCall C P) f fn (arr C f (semRun C P f fn)) k st = some r) : semRun C P f fn k st = some r :=
  semRun_of (Ev.succ (step_ev (cs := fun n => (both C P n).1) (gos := fun n => arr C f ((both C P n).2 f fn)) (fun _ _ _ h => semCall_some h) (fun _ _ _ h => arr_ev (gos := fun n => (both C P n).2 f fn) (fun _ _ _ h => semRun_some h) h) h))

/-- A function's steps, up to where ways meet. -/
noncomputable def unr (C : Cfg) (call : Nat → List AV → Option AV) (run : List Item → St → Option AV) (f : Nat) (fn : Func) : Nat → List Item → St → Option AV
  | 0, _, _ => none
  | n + 1, k, st => match stopOf C f k with
    | some (l, s) => run k (st.canon l s)
    | none => step C call f fn (unr C call run f fn n) k st

theorem unr_ok {f : Nat} {fn : Func} : ∀ (n : Nat) {k : List Item} {st : St} {r : AV}, unr C (semCall C P) (semRun C P f fn) f fn n k st = some r → arr C f (semRun C P f fn) k st = some r
  | 0, k, st, r, h => by cases h
  | n + 1, k, st, r, h => by
    simp only [unr] at h
    unfold arr
    split at h
    · rename_i l s hl; simp only [hl]; exact h
    · rename_i hl
      simp only [hl]
      refine semRun_step ?_
      exact (step_ev (cs := fun _ => semCall C P) (gos := fun _ => arr C f (semRun C P f fn)) (fun _ _ _ h => Ev.of fun _ => h) (fun _ _ _ h => Ev.of fun _ => unr_ok n h) h).const

/-- From a place where ways meet on. -/
theorem semRun_unr {f : Nat} {fn : Func} (n : Nat) {k : List Item} {st : St} {r : AV} (h : step C (semCall C P) f fn (unr C (semCall C P) (semRun C P f fn) f fn n) k st = some r) : semRun C P f fn k st = some r :=
  semRun_step (step_ev (cs := fun _ => semCall C P) (gos := fun _ => arr C f (semRun C P f fn)) (fun _ _ _ h => Ev.of fun _ => h) (fun _ _ _ h => Ev.of fun _ => unr_ok n h) h).const

/-- A call. -/
theorem semCall_unr {g : Nat} {fn : Func} {c : Code} (hfn : P.funcs[g]? = some fn) (hb : fn.body = some c) (n : Nat) {xs : List AV} {r : AV} (hl : Nat.ble xs.length fn.ntmps = true) (h : unr C (semCall C P) (semRun C P g fn) g fn n [.code c] (initSt xs) = some r) : semCall C P g xs = some r := by
  refine semCall_of (Ev.succ ?_)
  have h1 := arr_ev (C := C) (f := g) (gos := fun n => (both C P n).2 g fn) (fun _ _ _ h => semRun_some h) (unr_ok n h)
  refine h1.mono fun n hn => ?_
  show (match P.funcs[g]? with
      | some fn => match fn.body with
        | some c => bif Nat.ble xs.length fn.ntmps then arr C g ((both C P n).2 g fn) [.code c] (initSt xs) else none
        | none => bif (C.own g).all Option.isNone then ext fn.name xs else none
      | none => none) = some r
  rw [hfn]
  simp only [hb, hl, cond_true]
  exact hn

/-- A function without a body. -/
theorem semCall_ext {g : Nat} {fn : Func} (hfn : P.funcs[g]? = some fn) (hb : fn.body = none) (ho : (C.own g).all Option.isNone = true) {xs : List AV} {r : AV} (h : ext fn.name xs = some r) : semCall C P g xs = some r := by
  refine semCall_of (Ev.succ (Ev.of fun n => ?_))
  show (match P.funcs[g]? with
      | some fn => match fn.body with
        | some c => bif Nat.ble xs.length fn.ntmps then arr C g ((both C P n).2 g fn) [.code c] (initSt xs) else none
        | none => bif (C.own g).all Option.isNone then ext fn.name xs else none
      | none => none) = some r
  rw [hfn]
  simp only [hb, ho, cond_true]
  exact h

/-- **What a call answers by the evaluator, it answers.** -/
theorem semCall_ok (hfit : Fit C P) : CallOk C P (semCall C P) := fun g xs r h => by
  obtain ⟨n, hn⟩ := (semCall_some h).ex
  exact (both_ok hfit n).1 g xs r hn
end
end Sx

/-
  SxTab: what is told ahead of a program's functions, in tables.
-/
namespace Sx
open Go

def tabGet {α : Type} : List (Nat × α) → Nat → Option α
  | [], _ => none
  | p :: r, t => bif Nat.beq p.1 t then some p.2 else tabGet r t
def tabGet2 {α : Type} : List ((Nat × Nat) × α) → Nat → Nat → Option α
  | [], _, _ => none
  | p :: r, f, t => bif Nat.beq p.1.1 f && Nat.beq p.1.2 t then some p.2 else tabGet2 r f t

def mkCfg (ty : List (Nat × Ty)) (plan : List ((Nat × Nat) × (Plan × List Nat))) (stops : List (Nat × List (Nat × List (Nat × Option (Nat × Nat)) × List Nat))) (own : List (Nat × List (Option (Nat × Nat))))
    (trunc : List (Nat × List Nat)) (glob : Nat → Option (Nat × AV)) : Cfg where
  ty := tabGet ty
  own := fun f => (tabGet own f).getD []
  stops := fun f => (tabGet stops f).getD []
  plan := tabGet2 plan
  trunc := fun f t => ((tabGet trunc f).getD []).any (Nat.beq t)
  glob := glob

/-- What is left to do where the region 'rid' of the code c begins. -/
def kAt (rid : Nat) : Code → List Item → Option (List Item)
  | .region id ops d, k => bif Nat.beq id rid then some (.code (.region id ops d) :: k) else none
  | .seq a b, k => match kAt rid a (.code b :: k) with
    | some r => some r
    | none => kAt rid b k
  | .cond _ a b, k => match kAt rid a k with
    | some r => some r
    | none => kAt rid b k
  | .block id c, k => kAt rid c (.inBlock id :: k)
  | .loop c, k => kAt rid c (.inLoop c :: k)
  | .scope c, k => kAt rid c (.inScope c :: k)
  | _, _ => none
end Sx

/-
  SxFit: that a program is fit, by a reckoning.
-/
namespace Sx
open Go

def avB : AV → AV → Bool
  | .un, .un => true
  | .b x, .b y => x == y
  | .u8 x, .u8 y => Nat.beq x.toNat y.toNat
  | .int x, .int y => decide (x = y)
  | .ik k x, .ik k' y => decide (k = k') && decide (x = y)
  | .s [], .s [] => true
  | .nils, .nils => true
  | .nilf, .nilf => true
  | .nilp, .nilp => true
  | _, _ => false

theorem avB_eq {a b : AV} (h : avB a b = true) : a = b := by
  unfold avB at h
  split at h
  · rfl
  · rename_i x y; have : x = y := by simpa using h
    rw [this]
  · rw [UInt8.toNat_inj.1 (Nat.eq_of_beq_eq_true h)]
  · rw [of_decide_eq_true h]
  · rw [Bool.and_eq_true] at h
    rw [of_decide_eq_true h.1, of_decide_eq_true h.2]
  · rfl
  · rfl
  · rfl
  · rfl
  · cases h

def avsB : List AV → List AV → Bool
  | [], [] => true
  | x :: xs, y :: ys => avB x y && avsB xs ys
  | _, _ => false

theorem avsB_eq : ∀ {l m : List AV}, avsB l m = true → l = m
  | [], [], _ => rfl
  | x :: xs, y :: ys, h => by
    simp only [avsB, Bool.and_eq_true] at h
    rw [avB_eq h.1, avsB_eq h.2]
  | [], y :: ys, h => by cases h
  | x :: xs, [], h => by cases h

def fieldsB : List Field → List (Nat × Nat) → Bool
  | [], [] => true
  | f :: fs, p :: ps => Nat.beq f.offset p.1 && Nat.beq f.type p.2 && fieldsB fs ps
  | _, _ => false

theorem fieldsB_eq : ∀ {l : List Field} {m : List (Nat × Nat)}, fieldsB l m = true → l.map (fun f => (f.offset, f.type)) = m
  | [], [], _ => rfl
  | f :: fs, p :: ps, h => by
    simp only [fieldsB, Bool.and_eq_true] at h
    simp only [List.map_cons]
    rw [fieldsB_eq h.2, Nat.eq_of_beq_eq_true h.1.1, Nat.eq_of_beq_eq_true h.1.2]
  | [], _ :: _, h => by cases h
  | _ :: _, [], h => by cases h

def ekB (P : Program) (t : TypeId) : EK → Bool
  | .b => match P.underlying t with | some .bool => true | _ => false
  | .i => match P.underlying t with | some (.int _) => true | _ => false
  | .s => match P.underlying t with | some .string => true | _ => false

theorem ekB_ok {P : Program} {t : TypeId} {k : EK} (h : ekB P t k = true) : EKOk P t k := by
  cases k <;> simp only [ekB] at h <;> split at h <;> first | (cases h; done) | skip
  · rename_i hu; exact hu
  · rename_i k hu; exact ⟨k, hu⟩
  · rename_i hu; exact hu

def eqFB (P : Program) : Nat → List Field → List EK → Bool
  | _, [], [] => true
  | n, f :: fs, k :: ks => Nat.beq f.offset n && !(f.name == "_") && ekB P f.type k && eqFB P (n + 1) fs ks
  | _, _, _ => false

theorem eqFB_ok {P : Program} : ∀ {n : Nat} {fs : List Field} {ks : List EK}, eqFB P n fs ks = true → fs.length = ks.length ∧ ∀ (j : Nat) (f : Field) (k : EK), fs[j]? = some f → ks[j]? = some k → f.offset = n + j ∧ f.name ≠ "_" ∧ EKOk P f.type k
  | n, [], [], _ => ⟨rfl, fun j f k h => by simp at h⟩
  | n, f :: fs, k :: ks, h => by
    simp only [eqFB, Bool.and_eq_true] at h
    obtain ⟨⟨⟨h1, h2⟩, h3⟩, h4⟩ := h
    obtain ⟨q1, q2⟩ := eqFB_ok h4
    refine ⟨by simp [q1], fun j f' k' hf hk => ?_⟩
    cases j with
    | zero =>
      simp at hf hk
      subst hf hk
      exact ⟨Nat.eq_of_beq_eq_true h1, by simpa using h2, ekB_ok h3⟩
    | succ j =>
      obtain ⟨a, b⟩ := q2 j f' k' (by simpa using hf) (by simpa using hk)
      exact ⟨by omega, b⟩
  | n, [], _ :: _, h => by simp [eqFB] at h
  | n, _ :: _, [], h => by simp [eqFB] at h

def kdB (P : Program) (t : TypeId) (i : Ty) : Bool :=
  match i.kd, P.underlying t with
  | .bool, some .bool => true
  | .int k, some (.int k') => decide (k = k')
  | .str, some .string => true
  | .slice, some (.slice e) => Nat.beq e i.elem
  | .struct, some (.struct fs) => fieldsB fs.toList i.fields && fs.toList.all fun f => match P.info? f.type with | some inf => !Nat.beq inf.size 0 | none => false
  | .ptr, some (.struct _) | .ptr, some (.array _ _) | .func, some (.struct _) | .func, some (.array _ _) | .other, some (.struct _) | .other, some (.array _ _) => false
  | .ptr, some _ | .func, some _ | .other, some _ => true
  | _, _ => false

/-- Is it so what is told of a type? -/
def tyB (P : Program) (t : TypeId) (i : Ty) : Bool :=
  (match P.info? t with
    | some inf => Nat.beq inf.size i.size && Nat.beq inf.bytes i.bytes && (match inf.zero with
      | some z => avsB (z.cells.toList.map ofV) i.zero && Nat.beq z.cells.size i.size && z.cells.toList.all Value.oneCell'
      | none => false)
    | none => false) && kdB P t i && Nat.blt 0 i.size && Nat.blt 0 i.bytes && (i.kd.agg || Nat.beq i.size 1) && (match i.kd with | .struct => true | _ => i.fields.isEmpty) &&
  (match i.eqk with
    | none => true
    | some ks => !P.stoodInHeld t && !P.eqGuardType P.depth t && (match P.underlying t with | some (.struct fs) => eqFB P 0 fs.toList ks | _ => false))

theorem tyB_ok {P : Program} {t : TypeId} {i : Ty} (h : tyB P t i = true) : TyOk P t i := by
  unfold tyB at h
  simp only [Bool.and_eq_true] at h
  obtain ⟨⟨⟨⟨⟨⟨h1, h2⟩, h3⟩, h4⟩, h5⟩, h6⟩, h7⟩ := h
  refine { info := ?_, und := ?_, pos := ⟨by unfold Nat.blt at h3; exact Nat.le_of_ble_eq_true h3, by unfold Nat.blt at h4; exact Nat.le_of_ble_eq_true h4⟩, one := fun hh => ?_, fieldsOnly := fun hh => ?_, eqOk := fun ks hk => ?_ }
  · split at h1
    · rename_i inf hinf
      simp only [Bool.and_eq_true] at h1
      obtain ⟨⟨q1, q2⟩, q3⟩ := h1
      split at q3
      · rename_i z hz
        simp only [Bool.and_eq_true] at q3
        exact ⟨inf, z, hinf, Nat.eq_of_beq_eq_true q1, Nat.eq_of_beq_eq_true q2, hz, avsB_eq q3.1.1, Nat.eq_of_beq_eq_true q3.1.2, fun v hv => List.all_eq_true.1 q3.2 v hv⟩
      · cases q3
    · cases h1
  · unfold kdB at h2
    cases hk : i.kd <;> rw [hk] at h2 <;> cases hu : P.underlying t <;> rw [hu] at h2 <;> simp only at h2 ⊢ <;> first | (cases h2; done) | skip
    all_goals rename_i d
    all_goals cases d <;> simp only at h2 <;> first | (cases h2; done) | skip
    all_goals first
      | rfl
      | (rw [of_decide_eq_true h2]; done)
      | (rw [Nat.eq_of_beq_eq_true h2]; done)
      | exact ⟨_, rfl, rfl⟩
      | skip
    rename_i fs
    rw [Bool.and_eq_true] at h2
    refine ⟨fs, rfl, fieldsB_eq h2.1, fun f hf => ?_⟩
    have := List.all_eq_true.1 h2.2 f hf
    split at this
    · rename_i inf hinf
      refine ⟨inf, hinf, fun e => ?_⟩
      rw [e] at this
      cases this
    · cases this
  · rw [hh, Bool.false_or] at h5
    exact Nat.eq_of_beq_eq_true h5
  · cases hk : i.kd <;> rw [hk] at h6 hh <;> first | exact absurd rfl hh | exact List.isEmpty_iff.1 h6
  · rw [hk] at h7
    simp only [Bool.and_eq_true, Bool.not_eq_true'] at h7
    obtain ⟨⟨q1, q2⟩, q3⟩ := h7
    split at q3
    · rename_i fs hu
      obtain ⟨z1, z2⟩ := eqFB_ok q3
      exact { stood := q1, guard := q2, fields := ⟨fs, hu, by simpa using z1, fun j f k h1 h2 => by have := z2 j f k h1 h2; simpa using this⟩ }
    · cases q3

theorem tab_ok {P : Program} {l : List (Nat × Ty)} (h : l.all (fun p => tyB P p.1 p.2) = true) : ∀ t i, tabGet l t = some i → TyOk P t i := by
  induction l with
  | nil => intro t i hi; cases hi
  | cons p r ih =>
    simp only [List.all_cons, Bool.and_eq_true] at h
    intro t i hi
    simp only [tabGet] at hi
    cases hb : Nat.beq p.1 t with
    | true =>
      rw [hb] at hi
      simp only [cond_true, Option.some.injEq] at hi
      rw [← Nat.eq_of_beq_eq_true hb, ← hi]
      exact tyB_ok h.1
    | false => rw [hb] at hi; exact ih h.2 t i hi

/-- Is all of a function's code fit? -/
def fnB (C : Cfg) (f : Nat) (fn : Func) : Bool :=
  match fn.body with
  | some c => codeB (regB C f fn.ntmps) c && !(fn.name == "runtime.NumGoroutine")
  | none => true
def fnsB (C : Cfg) : Nat → List Func → Bool
  | _, [] => true
  | n, fn :: r => fnB C n fn && fnsB C (n + 1) r

theorem fnsB_ok {C : Cfg} : ∀ {n : Nat} {l : List Func}, fnsB C n l = true → ∀ (j : Nat) (fn : Func), l[j]? = some fn → fnB C (n + j) fn = true
  | n, [], _, j, fn, h => by simp at h
  | n, g :: r, h, j, fn, hf => by
    simp only [fnsB, Bool.and_eq_true] at h
    cases j with
    | zero => simp at hf; subst hf; exact h.1
    | succ j =>
      have := fnsB_ok h.2 j fn (by simpa using hf)
      rw [show n + 1 + j = n + (j + 1) by omega] at this
      exact this

theorem Fit.of {C : Cfg} {P : Program} {tab : List (Nat × Ty)} (hC : C.ty = tabGet tab) (h1 : tab.all (fun p => tyB P p.1 p.2) = true) (h2 : fnsB C 0 P.funcs.toList = true) (h3 : P.follows .mixedOrders = true)
    (h4 : ∀ (f : Nat) (fn : Func), P.funcs[f]? = some fn → fn.body = none → (fn.name == "internal/bytealg.IndexByteString") = true → ∀ (s : ByteArray) (c : Int) (w : World), (callFunc f #[.string s, .int .u8 c]).run P w = .ok (.value (.int .i64 (Lib.indexByte s.data.toList c.toNat.toUInt8))) w) : Fit C P := by
  have hf : ∀ (f : Nat) (fn : Func) (c : Code), P.funcs[f]? = some fn → fn.body = some c → codeB (regB C f fn.ntmps) c = true ∧ (fn.name == "runtime.NumGoroutine") = false := by
    intro f fn c hfn hb
    have := fnsB_ok h2 f fn (by rw [Array.getElem?_toList]; exact hfn)
    rw [Nat.zero_add] at this
    unfold fnB at this
    rw [hb] at this
    simp only [Bool.and_eq_true, Bool.not_eq_true'] at this
    exact this
  exact { ty := fun t i hi => tab_ok h1 t i (by rw [← hC]; exact hi), code := fun f fn c h1 h2 => (hf f fn c h1 h2).1, mixed := h3, name := fun f fn c h1 h2 => (hf f fn c h1 h2).2, ext := h4 }

/-- Is the function n the only one without a body that looks for a byte? -/
def idxB (n : Nat) : Nat → List Func → Bool
  | _, [] => true
  | m, fn :: r => (fn.body.isSome || !(fn.name == "internal/bytealg.IndexByteString") || Nat.beq m n) && idxB n (m + 1) r

theorem idxB_ok {n : Nat} : ∀ {m : Nat} {l : List Func}, idxB n m l = true → ∀ (j : Nat) (fn : Func), l[j]? = some fn → fn.body = none → (fn.name == "internal/bytealg.IndexByteString") = true → m + j = n
  | m, [], _, j, fn, h, _, _ => by simp at h
  | m, g :: r, h, j, fn, hf, hb, hn => by
    simp only [idxB, Bool.and_eq_true] at h
    cases j with
    | zero =>
      simp at hf
      subst hf
      have := h.1
      rw [hb, hn] at this
      simp only [Option.isSome_none, Bool.not_true, Bool.or_self, Bool.false_or] at this
      exact Nat.eq_of_beq_eq_true this
    | succ j =>
      have := idxB_ok h.2 j fn (by simpa using hf) hb hn
      omega

theorem ext_of {P : Program} {n : Nat} (hall : idxB n 0 P.funcs.toList = true) (hrun : ∀ (s : ByteArray) (c : Int) (w : World), (callFunc n #[.string s, .int .u8 c]).run P w = .ok (.value (.int .i64 (Lib.indexByte s.data.toList c.toNat.toUInt8))) w) :
    ∀ (f : Nat) (fn : Func), P.funcs[f]? = some fn → fn.body = none → (fn.name == "internal/bytealg.IndexByteString") = true → ∀ (s : ByteArray) (c : Int) (w : World), (callFunc f #[.string s, .int .u8 c]).run P w = .ok (.value (.int .i64 (Lib.indexByte s.data.toList c.toNat.toUInt8))) w := by
  intro f fn hfn hb hn
  have := idxB_ok hall f fn (by rw [Array.getElem?_toList]; exact hfn) hb hn
  rw [Nat.zero_add] at this
  rw [this]
  exact hrun

theorem run_idx {P : Program} {n : Nat} {fn : Func} (h1 : P.funcs[n]? = some fn) (h2 : (fn.name == "runtime.NumGoroutine") = false) (h3 : fn.body = none) (h4 : (Extern.findNext fn).isNone = true) (h5 : Extern.find fn = some Extern.BytealgIndexByte.indexByte) (s : ByteArray) (c : Int) (w : World) :
    (callFunc n #[.string s, .int .u8 c]).run P w = .ok (.value (.int .i64 (Lib.indexByte s.data.toList c.toNat.toUInt8))) w := by
  have h2' : ¬ fn.name = "runtime.NumGoroutine" := by simpa using h2
  have h4' : Extern.findNext fn = none := by simpa using h4
  simp [callFunc, h1, h2', h3, h4', h5, Lib.run_indexByteString]
end Sx
