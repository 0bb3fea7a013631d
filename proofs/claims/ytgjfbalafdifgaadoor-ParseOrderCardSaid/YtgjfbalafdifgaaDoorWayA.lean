/-
  What a few of the library's functions and one of the program's answer, walked by hand.
-/
import Derived.RangeFuncNested
import Derived.RangeFuncBound
import Derived.RangeFuncCalls
import Derived.RangeFuncLeaves
import Derived.Shelf.Abstract
import Derived.Shelf.RegionOpen
import Derived.WalkKit
import Derived.OwnWalkIn
import Derived.TacticsInMore
import Derived.LoopNIn
import Derived.LoopIn
import Derived.Maps.AppendAt
import Derived.Test.YtgjfbalafdifgaaDoorProg
import Derived.Test.YtgjfbalafdifgaaDoorSxC
import Derived.Shelf.Strings.Search3
import Derived.Shelf.Vars
import Derived.Shelf.Strings.OnBuilder
import Derived.Lib.Join
set_option linter.unusedVariables false
set_option linter.unusedSimpArgs false
set_option linter.unusedSectionVars false
set_option linter.unnecessarySimpa false
namespace R3
open Go Go.Proofs Go.RowKit Go.Shelf
/-- How long the string in a box is. -/
def lenAt (B : Nat) (W : World) : Nat := match W.cell? ⟨B, 0, none⟩ with | some (.string s) => s.size | _ => 0
theorem lenAt_eq {B : Nat} {W : World} {s : ByteArray} (h : W.cell? ⟨B, 0, none⟩ = some (.string s)) : lenAt B W = s.size := by unfold lenAt; rw [h]
set_option maxRecDepth 100000 in
set_option maxHeartbeats 2000000 in
/-- The closure of strings.SplitSeq at a separator of one byte. -/
theorem split1_in (n : Nat) (hn : 1 ≤ n) (l B : Nat) (idx : ByteArray → Int) (hidx : ∀ s, idx s = -1 ∨ (0 ≤ idx s ∧ idx s + 1 ≤ s.size))
    (hI : ∀ (s : ByteArray) (w : World), s.size ≤ 9223372036854775807 → Calls Tryd.prog 79 #[.string s, .string ⟨#[46]⟩] w fun e w' => e = .returned (.int .i64 (idx s)) ∧ w' = w)
    (J J' : ByteArray → World → Prop) (Jx Je : World → Prop)
    (hJ : ∀ s W, J s W → W.cell? ⟨B, 0, none⟩ = some (.string s) ∧ W.cell? ⟨B + 1, 0, none⟩ = some (.string ⟨#[46]⟩) ∧ W.cell? ⟨B + 2, 0, none⟩ = some (.int .i64 0) ∧ s.size ≤ 9223372036854775807)
    (hJ' : ∀ s W, J' s W → W.cell? ⟨B, 0, none⟩ = some (.string s) ∧ W.frozen? ⟨B, 0, none⟩ = false ∧ W.cell? ⟨B + 1, 0, none⟩ = some (.string ⟨#[46]⟩))
    (hY : ∀ s W, J s W → 0 ≤ idx s → YieldAt Fence.wide (n - 1) Tryd.prog l #[.string (s.extract 0 (idx s).toNat)] W fun e W' => (e = .returned (.bool true) ∧ J' s W') ∨ (e = .returned (.bool false) ∧ Jx W'))
    (hS : ∀ s W, J' s W → 0 ≤ idx s → J (s.extract (idx s + 1).toNat s.size) (W.setCell ⟨B, 0, none⟩ (.string (s.extract (idx s + 1).toNat s.size))))
    (hE : ∀ s W, J s W → idx s = -1 → YieldAt Fence.wide (n - 1) Tryd.prog l #[.string s] W fun e W' => (e = .returned (.bool true) ∧ Je W') ∨ (e = .returned (.bool false) ∧ Jx W'))
    (W : World) (s : ByteArray) (h0 : J s W) :
    CallsIn Fence.wide n Tryd.prog 102 #[.func (.yield l) #[] #[], .pointer (some ⟨B + 1, 0, none⟩), .pointer (some ⟨B, 0, none⟩), .pointer (some ⟨B + 2, 0, none⟩)] W fun e W' => (∃ v, e = .returned v) ∧ (Je W' ∨ Jx W') := by
  refine callsIn_of_wp Tryd.func102 rfl trivial ?_ rfl
  simp only [Tryd.ntmps102, List.size_toArray, List.length_cons, List.length_nil, Nat.reduceAdd, Nat.reduceSub, Array.replicate_succ, Array.replicate_zero, List.push_toArray, List.append_toArray, List.nil_append, List.cons_append]
  obtain ⟨c1, c3, c4, c5⟩ := hJ s W h0
  gi_wp2
  gi_loopw [] (fun wr => ∃ s, J s wr) (fun wr => lenAt B wr)
  case atStart => exact ⟨s, h0⟩
  case round =>
    obtain ⟨s, hs⟩ := hrel
    obtain ⟨c1, c3, c4, c5⟩ := hJ s wr hs
    have hi := hidx s
    rcases hi with hi | ⟨hi1, hi2⟩
    · obtain ⟨fn, tmps, assign, body, hy, hR⟩ := hE s wr hs hi
      gi_wp2_with (refine ⟨trivial, ?_⟩; gi_at_call 79; refine (callsIn_wide.2 (hI _ _ c5)).mono ?_; rintro e w' ⟨rfl, hw⟩; rw [hw, hi])
      refine hR.mono ?_
      rintro e W3 (⟨rfl, hk⟩ | ⟨rfl, hk⟩)
      · gi_wp2
        go_end0
        exact ⟨⟨_, rfl⟩, .inl hk⟩
      · gi_wp2
        go_end0
        exact ⟨⟨_, rfl⟩, .inr hk⟩
    · obtain ⟨fn, tmps, assign, body, hy, hR⟩ := hY s wr hs hi1
      gi_wp2_with (refine ⟨trivial, ?_⟩; gi_at_call 79; refine (callsIn_wide.2 (hI _ _ c5)).mono ?_; rintro e w' ⟨rfl, hw⟩; rw [hw])
      refine hR.mono ?_
      rintro e W3 (⟨rfl, hk⟩ | ⟨rfl, hk⟩)
      · obtain ⟨d1, d2, d3⟩ := hJ' s W3 hk
        gi_wp2
        refine ⟨⟨_, hS s W3 hk hi1⟩, ?_⟩
        have hc : (W3.setCell ⟨B, 0, none⟩ (.string (s.extract (idx s + 1).toNat s.size))).cell? ⟨B, 0, none⟩ = some (.string (s.extract (idx s + 1).toNat s.size)) := World.cell?_setCell_same' _ _ _ (by rw [d1]; rfl)
        rw [lenAt_eq hc, lenAt_eq c1]
        simp only [ByteArray.size_extract]
        omega
      · gi_wp2
        refine bodyPost_ret (results_none rfl _ _ _) rfl ?_
        exact ⟨⟨_, rfl⟩, .inr hk⟩
end R3

namespace R3
open Go Go.Proofs Go.RowKit Go.Shelf
set_option maxRecDepth 100000
set_option maxHeartbeats 2000000
theorem split0_in (n : Nat) (s : ByteArray) (w : World) :
    CallsIn Fence.wide n Tryd.prog 84 #[.string s, .string ⟨#[46]⟩, .int .i64 0] w fun e w' => e = .returned (.func (.func 102) #[] #[.pointer (some ⟨w.heap.size + 1, 0, none⟩), .pointer (some ⟨w.heap.size, 0, none⟩), .pointer (some ⟨w.heap.size + 2, 0, none⟩)]) ∧
      w' = ((w.alloc (.cells #[.string s] 9)).alloc (.cells #[.string ⟨#[46]⟩] 9)).alloc (.cells #[.int .i64 0] 3) := by
  refine callsIn_of_wp Tryd.func84 rfl trivial ?_ rfl
  simp only [Tryd.ntmps84, List.size_toArray, List.length_cons, List.length_nil, Nat.reduceAdd, Nat.reduceSub, Array.replicate_succ, Array.replicate_zero, List.push_toArray, List.append_toArray, List.nil_append, List.cons_append]
  gi_wp2
  go_ret
  exact ⟨rfl, rfl⟩
theorem splitSeq_in (n : Nat) (hn : 1 ≤ n) (s : ByteArray) (w : World) :
    CallsIn Fence.wide n Tryd.prog 60 #[.string s, .string ⟨#[46]⟩] w fun e w' => e = .returned (.func (.func 102) #[] #[.pointer (some ⟨w.heap.size + 1, 0, none⟩), .pointer (some ⟨w.heap.size, 0, none⟩), .pointer (some ⟨w.heap.size + 2, 0, none⟩)]) ∧
      w' = ((w.alloc (.cells #[.string s] 9)).alloc (.cells #[.string ⟨#[46]⟩] 9)).alloc (.cells #[.int .i64 0] 3) := by
  refine callsIn_of_wp Tryd.func60 rfl trivial ?_ rfl
  simp only [Tryd.ntmps60, List.size_toArray, List.length_cons, List.length_nil, Nat.reduceAdd, Nat.reduceSub, Array.replicate_succ, Array.replicate_zero, List.push_toArray, List.append_toArray, List.nil_append, List.cons_append]
  gi_wp2_with (refine ⟨trivial, ?_⟩; gi_at_call 84; refine (split0_in _ _ _).mono ?_; rintro e w' ⟨rfl, hw⟩; rw [hw])
  go_ret
  exact ⟨rfl, rfl⟩
end R3

namespace R3
open Go Go.Proofs Go.RowKit Go.Shelf
/-- What a round owes, by the way in which its body is left. -/
def ownPostS (I' Ix : World → Prop) (W : World) : Exit → Act → World → Prop
  | .normal, _, W' => KeepsOthers W W' ∧ I' W'
  | .ret, _, W' => KeepsOthers W W' ∧ Ix W'
  | _, _, _ => False
theorem wpIn_rangeFunc_split {g : Operand} {p : Tmp} {assign body : Code} {Q : Exit → Act → World → Prop} {a : Act} {w : World} {n : Nat} (h1 : 1 ≤ n) (h2 : 1 ≤ n - 1) {B : Nat} (hB : B + 2 < w.heap.size)
    (hg : a.eval g = .func (.func 102) #[] #[.pointer (some ⟨B + 1, 0, none⟩), .pointer (some ⟨B, 0, none⟩), .pointer (some ⟨B + 2, 0, none⟩)])
    (idx : ByteArray → Int) (hidx : ∀ s, idx s = -1 ∨ (0 ≤ idx s ∧ idx s + 1 ≤ s.size))
    (hI : ∀ (s : ByteArray) (w : World), s.size ≤ 9223372036854775807 → Calls Tryd.prog 79 #[.string s, .string ⟨#[46]⟩] w fun e w' => e = .returned (.int .i64 (idx s)) ∧ w' = w)
    (I I' : ByteArray → World → Prop) (Ix Ie : World → Prop)
    (hput : ∀ (G : World → Prop), (G = Ix ∨ G = Ie ∨ ∃ s, G = I s ∨ G = I' s) → ∀ (W : World) (l : Nat) (o o' : Obj), w.heap.size ≤ l → W.heap[l]? = some o → o.isCells = false → G W → G (W.putObj l o'))
    (halloc : ∀ (s : ByteArray) (W : World) (o : Obj), I s W → I s (W.alloc o))
    (hJ : ∀ s W, I s W → W.cell? ⟨B, 0, none⟩ = some (.string s) ∧ W.cell? ⟨B + 1, 0, none⟩ = some (.string ⟨#[46]⟩) ∧ W.cell? ⟨B + 2, 0, none⟩ = some (.int .i64 0) ∧ s.size ≤ 9223372036854775807)
    (hJ' : ∀ s W, I' s W → W.cell? ⟨B, 0, none⟩ = some (.string s) ∧ W.frozen? ⟨B, 0, none⟩ = false ∧ W.cell? ⟨B + 1, 0, none⟩ = some (.string ⟨#[46]⟩))
    (hS : ∀ s W, I' s W → 0 ≤ idx s → I (s.extract (idx s + 1).toNat s.size) (W.setCell ⟨B, 0, none⟩ (.string (s.extract (idx s + 1).toNat s.size))))
    (a₁ : ByteArray → Act)
    (hassign : ∀ (l : Nat) (x : ByteArray) (W : World) (K : Act → World → Prop), K (a₁ x) W →
      assign.wpIn (Fence.wide.inRound l) (n - 1 - 1) Tryd.prog (Exit.then K (fun _ _ _ => False)) { tmps := ((#[p] : Array Tmp).zip #[.string x]).foldl (fun t (p, v) => t.setIfInBounds p v) a.tmps, defers := [] } W)
    (hbody : ∀ (l : Nat) (s : ByteArray) (W : World), I s W → 0 ≤ idx s → body.wpIn (Fence.wide.inRound l) (n - 1 - 1) Tryd.prog (ownPostS (I' s) Ix W) (a₁ (s.extract 0 (idx s).toNat)) W)
    (hlast : ∀ (l : Nat) (s : ByteArray) (W : World), I s W → idx s = -1 → body.wpIn (Fence.wide.inRound l) (n - 1 - 1) Tryd.prog (ownPostS Ie Ix W) (a₁ s) W)
    (s0 : ByteArray) (h0 : I s0 w)
    (hdone : ∀ (D : Nat) (W : World), w.heap.size ≤ D → Ie W → W.heap[D]? = some (.deferred (some [])) → Q .normal { a with defers := { target := .collected D, args := #[] } :: a.defers } W)
    (hstop : ∀ (D : Nat) (W : World), w.heap.size ≤ D → Ix W → W.heap[D]? = some (.deferred (some [])) → Code.ret.wpIn Fence.wide n Tryd.prog Q { a with defers := { target := .collected D, args := #[] } :: a.defers } W) :
    (Code.rangeFunc g #[p] assign body).wpIn Fence.wide n Tryd.prog Q a w := by
  refine wpIn_rangeFunc ?_
  intro fn hfn
  obtain ⟨rec, hrec⟩ : ∃ rec : LoopState → Option Code → Loop, rec = fun st pe => { state := st, pending := pe, fn, tmps := a.tmps, params := #[p], assign, body, defers := w.heap.size } := ⟨_, rfl⟩
  obtain ⟨W1, hW1⟩ : ∃ W1, (w.alloc (.deferred (some []))).alloc (.loop (rec .ready none)) = W1 := ⟨_, rfl⟩
  have hL1 : W1.heap[w.heap.size + 1]? = some (.loop (rec .ready none)) := by
    rw [← hW1]; have := World.alloc_heap_new (w.alloc (.deferred (some []))) (.loop (rec .ready none)); rwa [World.size_alloc] at this
  have hK1 : W1.heap[w.heap.size]? = some (.deferred (some [])) := by
    rw [← hW1]; exact (Below.heap_alloc _ _ _ (by simp)).trans (World.alloc_heap_new w _)
  have hI1 : I s0 W1 := by rw [← hW1]; exact halloc _ _ _ (halloc _ _ _ h0)
  refine ⟨w.heap.size + 1, [{ target := .collected w.heap.size, args := #[] }], W1, { target := .fn (.func 102) #[.pointer (some ⟨B + 1, 0, none⟩), .pointer (some ⟨B, 0, none⟩), .pointer (some ⟨B + 2, 0, none⟩)], args := #[.func (.yield (w.heap.size + 1)) #[] #[]] }, W1, 102,
    #[.func (.yield (w.heap.size + 1)) #[] #[]] ++ #[.pointer (some ⟨B + 1, 0, none⟩), .pointer (some ⟨B, 0, none⟩), .pointer (some ⟨B + 2, 0, none⟩)], W1, ?_, ?_, ?_, ?_, fun _ => h1, ?_⟩
  · rw [← hW1, hrec]; exact run_enterLoop_outer _ _ _ _ _
  · simp only [resolve, hg]
    simp [go_sem]
  · intro f' hf'; trivial
  · simp [invoke, go_sem, enters_of Tryd.func102 (by kernel_rfl) rfl]
  · -- a round
    have round : ∀ (x : ByteArray) (G G' : World → Prop) (W : World), G W → (∀ (l : Nat) (o o' : Obj), w.heap.size ≤ l → W.heap[l]? = some o → o.isCells = false → G (W.putObj l o')) →
        (∀ (W : World) (l : Nat) (o o' : Obj), w.heap.size ≤ l → W.heap[l]? = some o → o.isCells = false → G' W → G' (W.putObj l o')) →
        (∀ W, G W → body.wpIn (Fence.wide.inRound (w.heap.size + 1)) (n - 1 - 1) Tryd.prog (ownPostS G' Ix W) (a₁ x) W) →
        W.heap[w.heap.size + 1]? = some (.loop (rec .ready none)) → W.heap[w.heap.size]? = some (.deferred (some [])) →
        YieldAt Fence.wide (n - 1 - 1) Tryd.prog (w.heap.size + 1) #[.string x] W fun e W' =>
          (e = .returned (.bool true) ∧ G' W' ∧ W'.heap[w.heap.size + 1]? = some (.loop (rec .ready none)) ∧ W'.heap[w.heap.size]? = some (.deferred (some []))) ∨
          (e = .returned (.bool false) ∧ Ix W' ∧ W'.heap[w.heap.size + 1]? = some (.loop (rec .done (some .ret))) ∧ W'.heap[w.heap.size]? = some (.deferred (some []))) := by
      intro x G G' W hi hputG hputG' hb hl hk
      have hlt : w.heap.size + 1 < W.heap.size := (Array.getElem?_eq_some_iff.1 hl).1
      have hy := run_yield (P := Tryd.prog) (args := #[.string x]) hl (by rw [hrec]; rfl)
      rw [hrec] at hy
      refine ⟨fn, _, assign, body, hy, roundIn_of_wpIn hfn (hassign _ x W _ ⟨_, run_beginRound hl (by rw [hrec]), ?_⟩)⟩
      have hl2 : (W.putObj (w.heap.size + 1) (.loop { rec .ready none with state := .busy })).heap[w.heap.size + 1]? = some (.loop { rec .ready none with state := .busy }) := World.putObj_heap_same hlt
      have hk2 : (W.putObj (w.heap.size + 1) (.loop { rec .ready none with state := .busy })).heap[w.heap.size]? = some (.deferred (some [])) := (World.putObj_heap_other (by omega)).trans hk
      refine wpIn_mono (hb _ (hputG _ _ _ (by omega) hl rfl)) ?_
      have fin : ∀ (jump : Option Code) (W3 : World), KeepsOthers (W.putObj (w.heap.size + 1) (.loop { rec .ready none with state := .busy })) W3 →
          (Instr.endRound (w.heap.size + 1) jump).run Tryd.prog W3 = .ok (.bool jump.isNone) (W3.putObj (w.heap.size + 1) (.loop (rec (if jump.isNone then .ready else .done) jump))) ∧
          W3.heap[w.heap.size + 1]? = some (.loop { rec .ready none with state := .busy }) ∧
          (W3.putObj (w.heap.size + 1) (.loop (rec (if jump.isNone then .ready else .done) jump))).heap[w.heap.size + 1]? = some (.loop (rec (if jump.isNone then .ready else .done) jump)) ∧
          (W3.putObj (w.heap.size + 1) (.loop (rec (if jump.isNone then .ready else .done) jump))).heap[w.heap.size]? = some (.deferred (some [])) := fun jump W3 hk3 => by
        have hl3 := hk3.same _ _ hl2 rfl
        have := run_endRound (P := Tryd.prog) jump hl3
        rw [hrec] at this ⊢
        exact ⟨this, by rw [hrec] at hl3; exact hl3, World.putObj_heap_same (Array.getElem?_eq_some_iff.1 hl3).1, (World.putObj_heap_other (by omega)).trans (hk3.same _ _ hk2 rfl)⟩
      rintro e a3 W3 hp
      cases e with
      | normal =>
        obtain ⟨hk3, hi3⟩ := hp
        obtain ⟨hr, hl3, hl4, hk4⟩ := fin none W3 hk3
        exact ⟨_, _, hr, .inl ⟨rfl, hputG' _ _ _ _ (by omega) hl3 rfl hi3, hl4, hk4⟩⟩
      | ret =>
        obtain ⟨hk3, hi3⟩ := hp
        obtain ⟨hr, hl3, hl4, hk4⟩ := fin (some .ret) W3 hk3
        exact ⟨_, _, hr, .inr ⟨rfl, hput Ix (.inl rfl) _ _ _ _ (by omega) hl3 rfl hi3, hl4, hk4⟩⟩
      | exit id => exact hp.elim
      | goto t => exact hp.elim
      | panic ch => exact hp.elim
      | outgrown => exact hp.elim
    refine (split1_in (n - 1) h2 (w.heap.size + 1) B idx hidx hI
      (fun s W => I s W ∧ W.heap[w.heap.size + 1]? = some (.loop (rec .ready none)) ∧ W.heap[w.heap.size]? = some (.deferred (some [])))
      (fun s W => I' s W ∧ W.heap[w.heap.size + 1]? = some (.loop (rec .ready none)) ∧ W.heap[w.heap.size]? = some (.deferred (some [])))
      (fun W => Ix W ∧ W.heap[w.heap.size + 1]? = some (.loop (rec .done (some .ret))) ∧ W.heap[w.heap.size]? = some (.deferred (some [])))
      (fun W => Ie W ∧ W.heap[w.heap.size + 1]? = some (.loop (rec .ready none)) ∧ W.heap[w.heap.size]? = some (.deferred (some [])))
      (fun s W h => hJ s W h.1) (fun s W h => hJ' s W h.1) ?_ ?_ ?_ W1 s0 ⟨hI1, hL1, hK1⟩).mono ?_
    · rintro s W ⟨hi, hl, hk⟩ hx
      exact round _ (I s) (I' s) W hi (fun l o o' q1 q2 q3 => hput _ (.inr (.inr ⟨s, .inl rfl⟩)) W l o o' q1 q2 q3 hi) (hput _ (.inr (.inr ⟨s, .inr rfl⟩))) (fun W hi => hbody _ s W hi hx) hl hk
    · rintro s W ⟨hi, hl, hk⟩ hx
      refine ⟨hS s W hi hx, ?_, ?_⟩
      · rw [Below.heap_setCell _ _ _ _ (by show w.heap.size + 1 ≠ B; omega)]; exact hl
      · rw [Below.heap_setCell _ _ _ _ (by show w.heap.size ≠ B; omega)]; exact hk
    · rintro s W ⟨hi, hl, hk⟩ hx
      exact round _ (I s) Ie W hi (fun l o o' q1 q2 q3 => hput _ (.inr (.inr ⟨s, .inl rfl⟩)) W l o o' q1 q2 q3 hi) (hput _ (.inr (.inl rfl))) (fun W hi => hlast _ s W hi hx) hl hk
    · -- behind the iterator
      rintro e W2 ⟨⟨v, rfl⟩, (⟨hi, hl, hk⟩ | ⟨hi, hl, hk⟩)⟩
      · exact ⟨none, _, by have := run_endLoop (P := Tryd.prog) hl (by rw [hrec]; simp); rw [hrec] at this; exact this, hdone _ _ (Nat.le_refl _) (hput _ (.inr (.inl rfl)) _ _ _ _ (by omega) hl rfl hi) ((World.putObj_heap_other (by omega)).trans hk)⟩
      · exact ⟨some .ret, _, by have := run_endLoop (P := Tryd.prog) hl (by rw [hrec]; simp); rw [hrec] at this; exact this, hstop _ _ (Nat.le_refl _) (hput _ (.inl rfl) _ _ _ _ (by omega) hl rfl hi) ((World.putObj_heap_other (by omega)).trans hk)⟩
end R3

namespace R3
open Go Go.Proofs Go.RowKit Go.Shelf
set_option maxRecDepth 100000
set_option maxHeartbeats 4000000
/-- A text's parts. -/
inductive Sp (idx : ByteArray → Int) : ByteArray → List ByteArray → Prop
  | last (s : ByteArray) (h : idx s = -1) : Sp idx s [s]
  | more (s : ByteArray) (h : 0 ≤ idx s) (R : List ByteArray) (hR : Sp idx (s.extract (idx s + 1).toNat s.size) R) : Sp idx s (s.extract 0 (idx s).toNat :: R)
theorem Sp.total (idx : ByteArray → Int) (hidx : ∀ s, idx s = -1 ∨ (0 ≤ idx s ∧ idx s + 1 ≤ s.size)) (s : ByteArray) : ∃ L, Sp idx s L := by
  generalize hn : s.size = n
  induction n using Nat.strongRecOn generalizing s with
  | _ n ih =>
    rcases hidx s with h | ⟨h1, h2⟩
    · exact ⟨_, .last s h⟩
    · obtain ⟨R, hR⟩ := ih (s.extract (idx s + 1).toNat s.size).size (by simp only [ByteArray.size_extract]; omega) _ rfl
      exact ⟨_, .more s h1 R hR⟩
theorem Sp.cons {idx : ByteArray → Int} {s : ByteArray} {L : List ByteArray} (h : Sp idx s L) : ∃ x L', L = x :: L' := by cases h <;> exact ⟨_, _, rfl⟩
theorem Sp.len {idx : ByteArray → Int} (hidx : ∀ s, idx s = -1 ∨ (0 ≤ idx s ∧ idx s + 1 ≤ s.size)) {s : ByteArray} {L : List ByteArray} (h : Sp idx s L) : L.length ≤ s.size + 1 := by
  induction h with
  | last s h => simp
  | more s h R hR ih =>
    have := hidx s
    simp only [ByteArray.size_extract] at ih
    simp only [List.length_cons]
    omega
/-- What lies there while the parts come. -/
structure WayMem (N : Nat) (w : World) (root : Bool) (sv : Value) (pre : List ByteArray) (rest : ByteArray) (W : World) : Prop where
  below : Below N w W
  size : N + 6 ≤ W.heap.size
  r0 : W.heap[N]? = some (.cells #[.bool false, .slice none 0 0] 34)
  r1 : W.heap[N + 1]? = some (.cells #[.bool false] 4)
  wv : W.heap[N + 1 + 1]? = some (.cells #[.bool root, sv] 34)
  bs : W.heap[N + 1 + 1 + 1]? = some (.cells #[.string rest] 9)
  bp : W.heap[N + 1 + 1 + 1 + 1]? = some (.cells #[.string ⟨#[46]⟩] 9)
  bk : W.heap[N + 1 + 1 + 1 + 2]? = some (.cells #[.int .i64 0] 3)
  row : W.ownsRow (N + 6) 9 1 sv pre.length (pre.map .string)
theorem cell1 {W : World} {b : Nat} {x : Value} {t : TypeId} (h : W.heap[b]? = some (.cells #[x] t)) : W.cell? ⟨b, 0, none⟩ = some x ∧ W.frozen? ⟨b, 0, none⟩ = false := by simp [World.cell?, World.frozen?, h]
theorem cell2 {W : World} {b : Nat} {x y : Value} {t : TypeId} (h : W.heap[b]? = some (.cells #[x, y] t)) : W.cell? ⟨b, 0, none⟩ = some x ∧ W.cell? ⟨b, 1, none⟩ = some y ∧ W.frozen? ⟨b, 0, none⟩ = false ∧ W.frozen? ⟨b, 1, none⟩ = false := by simp [World.cell?, World.frozen?, h]
theorem al_new' {w : World} {o : Obj} {i : Nat} (h : i = w.heap.size) : (w.alloc o).heap[i]? = some o := by subst h; exact World.alloc_heap_new w o
theorem al_old' {w : World} {o : Obj} {i : Nat} (h : i < w.heap.size) : (w.alloc o).heap[i]? = w.heap[i]? := Below.heap_alloc w o i h
/-- A row's own block. -/
theorem own_ge {W : World} {base : Nat} {e : TypeId} {size : Nat} {v : Value} {k : Nat} {xs : List Value} (h : W.ownsRow base e size v k xs) {j : Nat} (hj : v.ownBlock = some j) : base ≤ j ∧ ∃ o : Obj, W.heap[j]? = some o ∧ o.isCells = true := by
  rcases h.2 with ⟨rfl, _⟩ | ⟨g, cap, cur, rfl, hb, hgb, _⟩
  · simp [Value.ownBlock] at hj
  · obtain rfl : g = j := by simpa [Value.ownBlock] using hj
    exact ⟨hb, _, hgb, rfl⟩
theorem set_other {W : World} {b k : Nat} {i : Nat} {v : Value} (h : k ≠ b) : (W.setCell ⟨b, i, none⟩ v).heap[k]? = W.heap[k]? := Below.heap_setCell W _ v k h
theorem grownBy_set (W : World) (b i : Nat) (v : Value) : W.grownBy (W.setCell ⟨b, i, none⟩ v) (some b) :=
  ⟨rfl, rfl, rfl, (KeepsWalks.setCell W _ v).size, fun k _ hk => set_other (fun e => hk (by rw [e]))⟩
theorem set_second {W : World} {b : Nat} {x y : Value} {t : TypeId} (v : Value) (h : W.heap[b]? = some (.cells #[x, y] t)) : (W.setCell ⟨b, 1, none⟩ v).heap[b]? = some (.cells #[x, v] t) := by
  obtain ⟨hlt, hk⟩ := Array.getElem?_eq_some_iff.1 h
  show (W.heap.modify b _)[b]? = _
  rw [Array.getElem?_eq_getElem (by rw [Array.size_modify]; exact hlt), Array.getElem_modify_self, hk]
  rfl
theorem set_only {W : World} {b : Nat} {x : Value} {t : TypeId} (v : Value) (h : W.heap[b]? = some (.cells #[x] t)) : (W.setCell ⟨b, 0, none⟩ v).heap[b]? = some (.cells #[v] t) := by
  obtain ⟨hlt, hk⟩ := Array.getElem?_eq_some_iff.1 h
  show (W.heap.modify b _)[b]? = _
  rw [Array.getElem?_eq_getElem (by rw [Array.size_modify]; exact hlt), Array.getElem_modify_self, hk]
  rfl
theorem set_size (W : World) (a : Addr) (v : Value) : (W.setCell a v).heap.size = W.heap.size := by show (W.heap.modify _ _).size = _; rw [Array.size_modify]
theorem WayMem.appended {N : Nat} {w : World} {root : Bool} {sv : Value} {pre : List ByteArray} {rest : ByteArray} {W w1 : World} (hm : WayMem N w root sv pre rest W) {tmp : Obj} {v' : Value} {x : ByteArray}
    (hown' : w1.ownsRow (N + 6) 9 1 v' (pre.length + 1) (pre.map .string ++ [.string x])) (hgrow : (W.alloc tmp).grownBy w1 sv.ownBlock) :
    w1.heap[N + 1 + 1]? = some (.cells #[.bool root, sv] 34) ∧ KeepsOthers W (w1.setCell ⟨N + 1 + 1, 1, none⟩ v') ∧ WayMem N w root v' (pre ++ [x]) rest (w1.setCell ⟨N + 1 + 1, 1, none⟩ v') := by
  have old : ∀ k, k < N + 6 → w1.heap[k]? = W.heap[k]? := fun k hk => by
    have hsz := hm.size
    rw [hgrow.block k (by simp; omega) (fun e => by have := (own_ge hm.row e.symm).1; omega)]
    exact al_old' (by omega)
  have old2 : ∀ k, k < N + 6 → k ≠ N + 1 + 1 → (w1.setCell ⟨N + 1 + 1, 1, none⟩ v').heap[k]? = W.heap[k]? := fun k hk hne => (set_other hne).trans (old k hk)
  have hwv : w1.heap[N + 1 + 1]? = some (.cells #[.bool root, sv] 34) := (old _ (by omega)).trans hm.wv
  refine ⟨hwv, ?_, ?_⟩
  · refine ((KeepsOthers.alloc W tmp).trans (KeepsOthers.of_grownBy hgrow fun j o ej hj => ?_)).trans (KeepsOthers.setCell _ _ _)
    obtain ⟨_, o', h1, h2⟩ := own_ge (hm.row.alloc tmp) ej
    rw [h1] at hj; cases hj; exact h2
  · have hb : Below N W (w1.setCell ⟨N + 1 + 1, 1, none⟩ v') := by
      refine (((Below.refl N W).alloc (by have := hm.size; omega) tmp).grown hgrow (by simp; have := hm.size; omega) fun j ej => ?_).setCell (p := ⟨N + 1 + 1, 1, none⟩) (by show N ≤ N + 1 + 1; omega) v'
      have := (own_ge hm.row ej).1; omega
    exact {
      below := hm.below.trans hb
      size := by have := hm.size; have := hb.size; omega
      r0 := (old2 _ (by omega) (by omega)).trans hm.r0
      r1 := (old2 _ (by omega) (by omega)).trans hm.r1
      wv := set_second v' hwv
      bs := (old2 _ (by omega) (by omega)).trans hm.bs
      bp := (old2 _ (by omega) (by omega)).trans hm.bp
      bk := (old2 _ (by omega) (by omega)).trans hm.bk
      row := by
        have := hown'.kept (grownBy_set w1 (N + 1 + 1) 1 v') (.inr fun e => by have := (own_ge hown' e).1; omega)
        simpa using this }
theorem WayMem.below_put {N : Nat} {w W : World} (hb : Below N w W) {l : Nat} {o : Obj} (o' : Obj) (hl : N ≤ l) (hlo : W.heap[l]? = some o) : Below N w (W.putObj l o') :=
  hb.trans ((Below.refl N W).grown (grownBy_putObj' W l o') (by have := (Array.getElem?_eq_some_iff.1 hlo).1; omega) fun j ej => by cases ej; exact hl)
theorem WayMem.put {N : Nat} {w : World} {root : Bool} {sv : Value} {pre : List ByteArray} {rest : ByteArray} {W : World} (hm : WayMem N w root sv pre rest W) {l : Nat} {o : Obj} (o' : Obj) (hl : N + 6 ≤ l) (hlo : W.heap[l]? = some o) (hoc : o.isCells = false) : WayMem N w root sv pre rest (W.putObj l o') where
  below := WayMem.below_put hm.below o' (by omega) hlo
  size := by simpa using hm.size
  r0 := (World.putObj_heap_other (by omega)).trans hm.r0
  r1 := (World.putObj_heap_other (by omega)).trans hm.r1
  wv := (World.putObj_heap_other (by omega)).trans hm.wv
  bs := (World.putObj_heap_other (by omega)).trans hm.bs
  bp := (World.putObj_heap_other (by omega)).trans hm.bp
  bk := (World.putObj_heap_other (by omega)).trans hm.bk
  row := ownsRow_putObj hm.row o' hlo hoc
theorem WayMem.alloc {N : Nat} {w : World} {root : Bool} {sv : Value} {pre : List ByteArray} {rest : ByteArray} {W : World} (hm : WayMem N w root sv pre rest W) (o : Obj) : WayMem N w root sv pre rest (W.alloc o) where
  below := hm.below.alloc (by have := hm.size; omega) _
  size := by have := hm.size; simp; omega
  r0 := (al_old' (by have := hm.size; omega)).trans hm.r0
  r1 := (al_old' (by have := hm.size; omega)).trans hm.r1
  wv := (al_old' (by have := hm.size; omega)).trans hm.wv
  bs := (al_old' (by have := hm.size; omega)).trans hm.bs
  bp := (al_old' (by have := hm.size; omega)).trans hm.bp
  bk := (al_old' (by have := hm.size; omega)).trans hm.bk
  row := hm.row.alloc o
theorem WayMem.set {N : Nat} {w : World} {root : Bool} {sv : Value} {pre : List ByteArray} {rest : ByteArray} {W : World} (hm : WayMem N w root sv pre rest W) (rest' : ByteArray) : WayMem N w root sv pre rest' (W.setCell ⟨N + 1 + 1 + 1, 0, none⟩ (.string rest')) where
  below := hm.below.trans ((Below.refl N W).setCell (p := ⟨N + 1 + 1 + 1, 0, none⟩) (by show N ≤ N + 1 + 1 + 1; omega) _)
  size := by rw [set_size]; exact hm.size
  r0 := (set_other (by omega)).trans hm.r0
  r1 := (set_other (by omega)).trans hm.r1
  wv := (set_other (by omega)).trans hm.wv
  bs := set_only _ hm.bs
  bp := (set_other (by omega)).trans hm.bp
  bk := (set_other (by omega)).trans hm.bk
  row := hm.row.kept (grownBy_set W (N + 1 + 1 + 1) 0 _) (.inr fun e => by have := (own_ge hm.row e).1; omega)
theorem set_both {W : World} {b : Nat} {x y : Value} {t : TypeId} (u v : Value) (h : W.heap[b]? = some (.cells #[x, y] t)) : ((W.setCell ⟨b, 0, none⟩ u).setCell ⟨b, 1, none⟩ v).heap[b]? = some (.cells #[u, v] t) := by
  refine set_second v (x := u) (y := y) ?_
  obtain ⟨hlt, hk⟩ := Array.getElem?_eq_some_iff.1 h
  show (W.heap.modify b _)[b]? = _
  rw [Array.getElem?_eq_getElem (by rw [Array.size_modify]; exact hlt), Array.getElem_modify_self, hk]
  rfl
theorem WayMem.failed {N : Nat} {w : World} {root : Bool} {sv : Value} {pre : List ByteArray} {rest : ByteArray} {W : World} (hm : WayMem N w root sv pre rest W) {A : Prop} (hA : A) :
    KeepsOthers W (((W.setCell ⟨N, 0, none⟩ (.bool false)).setCell ⟨N, 1, none⟩ (.slice none 0 0)).setCell ⟨N + 1, 0, none⟩ (.bool false)) ∧ A ∧ Below N w (((W.setCell ⟨N, 0, none⟩ (.bool false)).setCell ⟨N, 1, none⟩ (.slice none 0 0)).setCell ⟨N + 1, 0, none⟩ (.bool false)) ∧
      (((W.setCell ⟨N, 0, none⟩ (.bool false)).setCell ⟨N, 1, none⟩ (.slice none 0 0)).setCell ⟨N + 1, 0, none⟩ (.bool false)).heap[N]? = some (.cells #[.bool false, .slice none 0 0] 34) ∧
      (((W.setCell ⟨N, 0, none⟩ (.bool false)).setCell ⟨N, 1, none⟩ (.slice none 0 0)).setCell ⟨N + 1, 0, none⟩ (.bool false)).heap[N + 1]? = some (.cells #[.bool false] 4) :=
  ⟨((KeepsOthers.setCell _ _ _).trans (KeepsOthers.setCell _ _ _)).trans (KeepsOthers.setCell _ _ _), hA,
    hm.below.trans ((((Below.refl N W).setCell (p := ⟨N, 0, none⟩) (Nat.le_refl _) _).setCell (p := ⟨N, 1, none⟩) (Nat.le_refl _) _).setCell (p := ⟨N + 1, 0, none⟩) (by show N ≤ N + 1; omega) _),
    (set_other (by omega)).trans (set_both _ _ hm.r0), set_only _ ((set_other (by omega)).trans ((set_other (by omega)).trans hm.r1))⟩
theorem WayMem.stored {N : Nat} {w : World} {root : Bool} {sv : Value} {pre : List ByteArray} {rest : ByteArray} {W : World} (hm : WayMem N w root sv pre rest W) (u v b : Value) :
    KeepsOthers W (((W.setCell ⟨N, 0, none⟩ u).setCell ⟨N, 1, none⟩ v).setCell ⟨N + 1, 0, none⟩ b) ∧ Below N w (((W.setCell ⟨N, 0, none⟩ u).setCell ⟨N, 1, none⟩ v).setCell ⟨N + 1, 0, none⟩ b) ∧
      (((W.setCell ⟨N, 0, none⟩ u).setCell ⟨N, 1, none⟩ v).setCell ⟨N + 1, 0, none⟩ b).heap[N]? = some (.cells #[u, v] 34) ∧
      (((W.setCell ⟨N, 0, none⟩ u).setCell ⟨N, 1, none⟩ v).setCell ⟨N + 1, 0, none⟩ b).heap[N + 1]? = some (.cells #[b] 4) ∧
      (((W.setCell ⟨N, 0, none⟩ u).setCell ⟨N, 1, none⟩ v).setCell ⟨N + 1, 0, none⟩ b).ownsRow (N + 6) 9 1 sv pre.length (pre.map .string) := by
  have hne : ∀ k, k < N + 6 → some k ≠ sv.ownBlock := fun k hk e => by have := (own_ge hm.row e.symm).1; omega
  exact ⟨((KeepsOthers.setCell _ _ _).trans (KeepsOthers.setCell _ _ _)).trans (KeepsOthers.setCell _ _ _),
    hm.below.trans ((((Below.refl N W).setCell (p := ⟨N, 0, none⟩) (Nat.le_refl _) _).setCell (p := ⟨N, 1, none⟩) (Nat.le_refl _) _).setCell (p := ⟨N + 1, 0, none⟩) (by show N ≤ N + 1; omega) _),
    (set_other (by omega)).trans (set_both _ _ hm.r0), set_only _ ((set_other (by omega)).trans ((set_other (by omega)).trans hm.r1)),
    ((hm.row.kept (grownBy_set W N 0 u) (.inr (hne N (by omega)).symm)).kept (grownBy_set _ N 1 v) (.inr (hne N (by omega)).symm)).kept (grownBy_set _ (N + 1) 0 b) (.inr (hne (N + 1) (by omega)).symm)⟩
theorem row_base {W : World} {base base' : Nat} {e : TypeId} {size : Nat} {v : Value} {k : Nat} {xs : List Value} (h : W.ownsRow base e size v k xs) (hb : base' ≤ base) : W.ownsRow base' e size v k xs := by
  refine ⟨h.1, ?_⟩
  rcases h.2 with q | ⟨g, cap, cur, q1, q2, q3⟩
  · exact .inl q
  · exact .inr ⟨g, cap, cur, q1, Nat.le_trans hb q2, q3⟩
theorem results27 (T : Array Value) (W : World) (N : Nat) (x y b : Value) (t2 : T[2]?.getD undef = .pointer (some ⟨N, 0, none⟩)) (t3 : T[3]?.getD undef = .pointer (some ⟨N + 1, 0, none⟩))
    (h0 : W.heap[N]? = some (.cells #[x, y] 34)) (h1 : W.heap[N + 1]? = some (.cells #[b] 4)) :
    (results Tryd.f27 T).run Tryd.prog W = .ok (.tuple #[.agg #[x, y], b]) W := by
  have hr : Tryd.f27.results = #[.cell 2 34, .cell 3 4] := by kernel_rfl
  have l1 : (loadVar 34 ⟨N, 0, none⟩).run Tryd.prog W = .ok (.agg #[x, y]) W := by
    simp [loadVar, go_sem, (cell2 h0).1, (cell2 h0).2.1, Result.andThen]
  have l2 : (loadVar 4 ⟨N + 1, 0, none⟩).run Tryd.prog W = .ok b W := by
    simp [loadVar, go_sem, (cell1 h1).1]
  unfold results
  rw [hr]
  simp [t2, t3, Sem.run_bind, asAddr, l1, l2, Result.andThen]
theorem info9 : (Tryd.prog.info? 9).map (fun i => (i.zero, i.size, i.bytes)) = some (some (.string ⟨#[]⟩), 1, 16) := by kernel_rfl
/-- What Way answers. -/
def WayPost (idx : ByteArray → Int) (nm pfx : ByteArray → Bool) (N : Nat) (s : ByteArray) (v : Value) (W : World) : Prop :=
  ((s.toList == [46]) = true ∧ v = .tuple #[.agg #[.bool false, .slice none 0 0], .bool true]) ∨
  ((s.toList == [46]) = false ∧ (s.toList == [36]) = true ∧ v = .tuple #[.agg #[.bool true, .slice none 0 0], .bool true]) ∨
  ((s.toList == [46]) = false ∧ (s.toList == [36]) = false ∧ ∃ L, Sp idx (if pfx s then s.extract 2 s.size else s) L ∧
    (((L.all nm = false ∨ 8 < L.length) ∧ v = .tuple #[.agg #[.bool false, .slice none 0 0], .bool false]) ∨
      (L.all nm = true ∧ L.length ≤ 8 ∧ ∃ sv, v = .tuple #[.agg #[.bool (pfx s), sv], .bool true] ∧ W.ownsRow N 9 1 sv L.length (L.map .string))))
theorem way_in (n : Nat) (hn : 4 ≤ n) (idx : ByteArray → Int) (nm pfx : ByteArray → Bool) (hpfx : ∀ s, pfx s = true → 2 ≤ s.size) (hidx : ∀ s, idx s = -1 ∨ (0 ≤ idx s ∧ idx s + 1 ≤ s.size))
    (hP : ∀ (s : ByteArray) (w : World), Calls Tryd.prog 59 #[.string s, .string ⟨#[36, 46]⟩] w fun e w' => e = .returned (.bool (pfx s)) ∧ w' = w)
    (hI : ∀ (s : ByteArray) (w : World), s.size ≤ 9223372036854775807 → Calls Tryd.prog 79 #[.string s, .string ⟨#[46]⟩] w fun e w' => e = .returned (.int .i64 (idx s)) ∧ w' = w)
    (hN : ∀ (s : ByteArray) (w : World), s.size ≤ 9223372036854775807 → Calls Tryd.prog 29 #[.string s] w fun e w' => e = .returned (.bool (nm s)) ∧ w' = w)
    (s : ByteArray) (hs : s.size ≤ 1000000000) (w : World) :
    CallsIn Fence.wide n Tryd.prog 27 #[.string s] w fun e w' => ∃ v, e = .returned v ∧ Below w.heap.size w w' ∧ WayPost idx nm pfx w.heap.size s v w' := by
  have h1 : 1 ≤ n - 1 := by omega
  have h0 : 1 ≤ n := by omega
  have h2 : 1 ≤ n - 1 - 1 := by omega
  refine callsIn_of_wp_marks Tryd.func27 rfl trivial ?_ rfl
  simp only [Tryd.ntmps27, List.size_toArray, List.length_cons, List.length_nil, Nat.reduceAdd, Nat.reduceSub, Array.replicate_succ, Array.replicate_zero, List.push_toArray, List.append_toArray, List.nil_append, List.cons_append]
  cases hx : pfx s with
  | false =>
    gi_wp2_with (first | (refine ⟨trivial, ?_⟩; gi_at_call 59; refine (callsIn_wide.2 (hP _ _)).mono ?_; rintro e w' ⟨rfl, hw⟩; rw [hw, hx]) | (refine ⟨trivial, ?_⟩; gi_at_call 60; refine (splitSeq_in _ h1 _ _).mono ?_; rintro e w' ⟨rfl, hw⟩; rw [hw]))
    · refine ⟨_, results27 _ _ w.heap.size (.bool false) (.slice none 0 0) (.bool true) rfl rfl ?_ ?_, _, rfl, ?_, .inl ⟨by assumption, rfl⟩⟩
      · ((try simp only [World.size_alloc]); repeat (first | exact al_new' (by first | (simp only [World.size_alloc]; done) | (simp only [World.size_alloc]; omega) | omega) | rw [al_old' (by simp only [World.size_alloc]; omega)]))
      · ((try simp only [World.size_alloc]); repeat (first | exact al_new' (by first | (simp only [World.size_alloc]; done) | (simp only [World.size_alloc]; omega) | omega) | rw [al_old' (by simp only [World.size_alloc]; omega)]))
      · exact (((Below.refl _ w).alloc (Nat.le_refl _) _).alloc (by simp) _).alloc (by simp; omega) _
    · refine ⟨_, results27 _ _ w.heap.size (.bool true) (.slice none 0 0) (.bool true) rfl rfl ?_ ?_, _, rfl, ?_, .inr (.inl ⟨by assumption, by assumption, rfl⟩)⟩
      · ((try simp only [World.size_alloc]); repeat (first | exact al_new' (by first | (simp only [World.size_alloc]; done) | (simp only [World.size_alloc]; omega) | omega) | rw [al_old' (by simp only [World.size_alloc]; omega)]))
      · ((try simp only [World.size_alloc]); repeat (first | exact al_new' (by first | (simp only [World.size_alloc]; done) | (simp only [World.size_alloc]; omega) | omega) | rw [al_old' (by simp only [World.size_alloc]; omega)]))
      · exact (((Below.refl _ w).alloc (Nat.le_refl _) _).alloc (by simp) _).alloc (by simp; omega) _
    · obtain ⟨L, hLt⟩ := Sp.total idx hidx s
      have hLl := hLt.len hidx
      refine wpIn_rangeFunc_split h0 h1 (B := w.heap.size + 1 + 1 + 1) (by simp) rfl idx hidx hI
        (fun s W => ∃ pre R sv, L = pre ++ R ∧ Sp idx s R ∧ pre.all nm = true ∧ s.size ≤ 1000000000 ∧ WayMem w.heap.size w false sv pre s W)
        (fun s W => ∃ pre R sv, L = pre ++ R ∧ (0 ≤ idx s → Sp idx (s.extract (idx s + 1).toNat s.size) R) ∧ pre.all nm = true ∧ s.size ≤ 1000000000 ∧ WayMem w.heap.size w false sv pre s W)
        (fun W => L.all nm = false ∧ Below w.heap.size w W ∧ W.heap[w.heap.size]? = some (.cells #[.bool false, .slice none 0 0] 34) ∧ W.heap[w.heap.size + 1]? = some (.cells #[.bool false] 4))
        (fun W => L.all nm = true ∧ ∃ sv rest, WayMem w.heap.size w false sv L rest W)
        ?put ?alloc ?J ?J' ?S
        (fun x => { tmps := #[.string s, undef, .pointer (some ⟨w.heap.size, 0, none⟩), .pointer (some ⟨w.heap.size + 1, 0, none⟩), .pointer (some ⟨w.heap.size + 1 + 1, 0, none⟩), .string x, .bool false, .string s, .bool false, undef, .bool false, .string s, .bool false, undef, .bool false,
          .string s, .bool false, undef, undef, undef, .string s, .func (.func 102) #[] #[.pointer (some ⟨w.heap.size + 1 + 1 + 1 + 1, 0, none⟩), .pointer (some ⟨w.heap.size + 1 + 1 + 1, 0, none⟩), .pointer (some ⟨w.heap.size + 1 + 1 + 1 + 2, 0, none⟩)], .string x,
          undef, undef, undef, undef, undef, undef, undef, undef, undef, undef, undef, undef, undef, undef, undef, undef], defers := [] })
        ?assign ?body ?lst s ?start ?done ?stop
      case assign =>
        intro l x W K hK
        have hsem := @Oper.semAt_some
        gi_wp2
        exact hK
      case body =>
        rintro l s W ⟨pre, R, sv, hL, hSp, hall, hsz, hm⟩ hi
        have hsem := @Oper.semAt_some
        obtain ⟨v1, v2, v3, v4⟩ := cell2 hm.wv
        obtain ⟨r1, r2, r3, r4⟩ := cell2 hm.r0
        obtain ⟨q1, q2⟩ := cell1 hm.r1
        have hlen : pre.length ≤ 1000000001 := by rw [hL, List.length_append] at hLl; omega
        have hsx : (s.extract 0 (idx s).toNat).size ≤ 9223372036854775807 := by simp only [ByteArray.size_extract]; omega
        obtain ⟨R', rfl, hR'⟩ : ∃ R', R = s.extract 0 (idx s).toNat :: R' ∧ Sp idx (s.extract (idx s + 1).toNat s.size) R' := by
          cases hSp with
          | last _ h => omega
          | more _ h R hR => exact ⟨R, rfl, hR⟩
        cases hx : nm (s.extract 0 (idx s).toNat) with
        | false =>
          gi_wp2_with (refine ⟨trivial, ?_⟩; gi_at_call 29; refine (CallsIn.inRound l (callsIn_wide.2 (hN _ _ hsx))).mono ?_; rintro e w' ⟨rfl, hw⟩; rw [hw, hx])
          exact hm.failed (by rw [hL]; simp [hx])
        | true =>
          obtain ⟨i0, hi9, hz0, hz1, hz2⟩ := info_parts info9
          have hrow := hm.row
          gi_wp2_with (first
            | (refine ⟨trivial, ?_⟩; gi_at_call 29; refine (CallsIn.inRound l (callsIn_wide.2 (hN _ _ hsx))).mono ?_; rintro e w' ⟨rfl, hw⟩; rw [hw, hx])
            | (gi_at_builtin; refine wpListIn_append_own _ rfl _ _ 32 rfl (w.heap.size + 6) 9 i0 (.string ⟨#[]⟩) 1 16 Tryd.underlying32 hi9 hz0 hz1 hz2 rfl (by decide) _ _ _ rfl (hrow.alloc _) ⟨W.heap.size, 0, none⟩ 1 1 [.string (s.extract 0 (idx s).toNat)] rfl rfl (cell_one_new _ _ _) (by simp [Value.oneCell']) (by have : maxLen = 9223372036854775807 := rfl; omega) (by omega) (by have := hm.size; simp; omega) ?_; intro v' w1 hown' hgrow _; obtain ⟨g', cap', rfl⟩ := ownsRow_succ hown'; obtain ⟨hwv1, hkk, hmm⟩ := hm.appended hown' hgrow; obtain ⟨y1, y2, y3, y4⟩ := cell2 hwv1))
          exact ⟨hkk, pre ++ [s.extract 0 (idx s).toNat], R', _, by rw [hL]; simp, fun _ => hR', by simp [hall, hx], hsz, hmm⟩
      case lst =>
        rintro l s W ⟨pre, R, sv, hL, hSp, hall, hsz, hm⟩ hi
        have hsem := @Oper.semAt_some
        obtain ⟨v1, v2, v3, v4⟩ := cell2 hm.wv
        obtain ⟨r1, r2, r3, r4⟩ := cell2 hm.r0
        obtain ⟨q1, q2⟩ := cell1 hm.r1
        have hlen : pre.length ≤ 1000000001 := by rw [hL, List.length_append] at hLl; omega
        have hsx : s.size ≤ 9223372036854775807 := by omega
        obtain rfl : R = [s] := by
          cases hSp with
          | last _ h => rfl
          | more _ h R hR => omega
        cases hx : nm s with
        | false =>
          gi_wp2_with (refine ⟨trivial, ?_⟩; gi_at_call 29; refine (CallsIn.inRound l (callsIn_wide.2 (hN _ _ hsx))).mono ?_; rintro e w' ⟨rfl, hw⟩; rw [hw, hx])
          exact hm.failed (by rw [hL]; simp [hx])
        | true =>
          obtain ⟨i0, hi9, hz0, hz1, hz2⟩ := info_parts info9
          have hrow := hm.row
          gi_wp2_with (first
            | (refine ⟨trivial, ?_⟩; gi_at_call 29; refine (CallsIn.inRound l (callsIn_wide.2 (hN _ _ hsx))).mono ?_; rintro e w' ⟨rfl, hw⟩; rw [hw, hx])
            | (gi_at_builtin; refine wpListIn_append_own _ rfl _ _ 32 rfl (w.heap.size + 6) 9 i0 (.string ⟨#[]⟩) 1 16 Tryd.underlying32 hi9 hz0 hz1 hz2 rfl (by decide) _ _ _ rfl (hrow.alloc _) ⟨W.heap.size, 0, none⟩ 1 1 [.string s] rfl rfl (cell_one_new _ _ _) (by simp [Value.oneCell']) (by have : maxLen = 9223372036854775807 := rfl; omega) (by omega) (by have := hm.size; simp; omega) ?_; intro v' w1 hown' hgrow _; obtain ⟨g', cap', rfl⟩ := ownsRow_succ hown'; obtain ⟨hwv1, hkk, hmm⟩ := hm.appended hown' hgrow; obtain ⟨y1, y2, y3, y4⟩ := cell2 hwv1))
          exact ⟨hkk, by rw [hL]; simp [hall, hx], _, _, by rw [hL]; exact hmm⟩
      case put =>
        rintro G hG W l o o' hl hlo hoc hg
        rcases hG with rfl | rfl | ⟨s, rfl | rfl⟩
        · obtain ⟨g1, g2, g3, g4⟩ := hg
          exact ⟨g1, WayMem.below_put g2 o' (by simp at hl; omega) hlo, (World.putObj_heap_other (by simp at hl; omega)).trans g3, (World.putObj_heap_other (by simp at hl; omega)).trans g4⟩
        · obtain ⟨g1, sv, rest, hm⟩ := hg
          exact ⟨g1, sv, rest, hm.put o' (by simp at hl; omega) hlo hoc⟩
        · obtain ⟨pre, R, sv, g1, g2, g3, g4, hm⟩ := hg
          exact ⟨pre, R, sv, g1, g2, g3, g4, hm.put o' (by simp at hl; omega) hlo hoc⟩
        · obtain ⟨pre, R, sv, g1, g2, g3, g4, hm⟩ := hg
          exact ⟨pre, R, sv, g1, g2, g3, g4, hm.put o' (by simp at hl; omega) hlo hoc⟩
      case alloc =>
        rintro s W o ⟨pre, R, sv, g1, g2, g3, g4, hm⟩
        exact ⟨pre, R, sv, g1, g2, g3, g4, hm.alloc o⟩
      case J =>
        rintro s W ⟨pre, R, sv, g1, g2, g3, g4, hm⟩
        exact ⟨(cell1 hm.bs).1, (cell1 hm.bp).1, (cell1 hm.bk).1, by omega⟩
      case J' =>
        rintro s W ⟨pre, R, sv, g1, g2, g3, g4, hm⟩
        exact ⟨(cell1 hm.bs).1, (cell1 hm.bs).2, (cell1 hm.bp).1⟩
      case S =>
        rintro s W ⟨pre, R, sv, g1, g2, g3, g4, hm⟩ hi
        exact ⟨pre, R, sv, g1, g2 hi, g3, by simp only [ByteArray.size_extract]; omega, hm.set _⟩
      case start =>
        refine ⟨[], L, .slice none 0 0, rfl, hLt, rfl, hs, ?_⟩
        exact {
          below := ((((((Below.refl _ w).alloc (Nat.le_refl _) _).alloc (by simp) _).alloc (by simp; omega) _).alloc (by simp; omega) _).alloc (by simp; omega) _).alloc (by simp; omega) _
          size := by simp
          r0 := by ((try simp only [World.size_alloc]); repeat (first | exact al_new' (by first | (simp only [World.size_alloc]; done) | (simp only [World.size_alloc]; omega) | omega) | rw [al_old' (by simp only [World.size_alloc]; omega)]))
          r1 := by ((try simp only [World.size_alloc]); repeat (first | exact al_new' (by first | (simp only [World.size_alloc]; done) | (simp only [World.size_alloc]; omega) | omega) | rw [al_old' (by simp only [World.size_alloc]; omega)]))
          wv := by ((try simp only [World.size_alloc]); repeat (first | exact al_new' (by first | (simp only [World.size_alloc]; done) | (simp only [World.size_alloc]; omega) | omega) | rw [al_old' (by simp only [World.size_alloc]; omega)]))
          bs := by ((try simp only [World.size_alloc]); repeat (first | exact al_new' (by first | (simp only [World.size_alloc]; done) | (simp only [World.size_alloc]; omega) | omega) | rw [al_old' (by simp only [World.size_alloc]; omega)]))
          bp := by ((try simp only [World.size_alloc]); repeat (first | exact al_new' (by first | (simp only [World.size_alloc]; done) | (simp only [World.size_alloc]; omega) | omega) | rw [al_old' (by simp only [World.size_alloc]; omega)]))
          bk := by ((try simp only [World.size_alloc]); repeat (first | exact al_new' (by first | (simp only [World.size_alloc]; done) | (simp only [World.size_alloc]; omega) | omega) | rw [al_old' (by simp only [World.size_alloc]; omega)]))
          row := World.ownsRow_nil _ _ _ _ }
      case done =>
        rintro D W hD ⟨hall, sv, rest, hm⟩ hk
        obtain ⟨v1, v2, v3, v4⟩ := cell2 hm.wv
        obtain ⟨r1, r2, r3, r4⟩ := cell2 hm.r0
        obtain ⟨q1, q2⟩ := cell1 hm.r1
        have hrow := hm.row
        obtain ⟨x0, L', rfl⟩ := hLt.cons
        simp only [List.length_cons] at hrow
        obtain ⟨g, cap, rfl⟩ := ownsRow_succ hrow
        gi_wp2
        · obtain ⟨ko, kb, k0, k1, _⟩ := hm.stored (.bool false) (.slice none 0 0) (.bool false)
          refine ⟨by simp, .inl ⟨_, _, rfl, run_takeDeferred (ko.same D _ hk rfl), ?_⟩⟩
          exact ⟨_, results27 _ _ w.heap.size (.bool false) (.slice none 0 0) (.bool false) rfl rfl ((World.putObj_heap_other (by simp at hD; omega)).trans k0) ((World.putObj_heap_other (by simp at hD; omega)).trans k1), _, rfl, WayMem.below_put kb _ (by simp at hD; omega) (ko.same D _ hk rfl), .inr (.inr ⟨by assumption, by assumption, x0 :: L', by rw [hx]; exact hLt, .inl ⟨.inr (by simp only [List.length_cons]; omega), rfl⟩⟩)⟩
        · obtain ⟨ko, kb, k0, k1, kr⟩ := hm.stored (.bool false) (.slice (some ⟨g, 0, none⟩) (L'.length + 1) cap) (.bool true)
          refine ⟨by simp, .inl ⟨_, _, rfl, run_takeDeferred (ko.same D _ hk rfl), ?_⟩⟩
          exact ⟨_, results27 _ _ w.heap.size (.bool false) (.slice (some ⟨g, 0, none⟩) (L'.length + 1) cap) (.bool true) rfl rfl ((World.putObj_heap_other (by simp at hD; omega)).trans k0) ((World.putObj_heap_other (by simp at hD; omega)).trans k1), _, rfl, WayMem.below_put kb _ (by simp at hD; omega) (ko.same D _ hk rfl), .inr (.inr ⟨by assumption, by assumption, x0 :: L', by rw [hx]; exact hLt, .inr ⟨hall, by simp only [List.length_cons]; omega, _, by rw [hx], row_base (ownsRow_putObj kr _ (ko.same D _ hk rfl) rfl) (by omega)⟩⟩)⟩
      case stop =>
        rintro D W hD ⟨hall, hb, g1, g2⟩ hk
        gi_wp2
        refine ⟨by simp, .inl ⟨_, _, rfl, run_takeDeferred hk, ?_⟩⟩
        refine ⟨_, results27 _ _ w.heap.size (.bool false) (.slice none 0 0) (.bool false) rfl rfl ((World.putObj_heap_other (by simp at hD; omega)).trans g1) ((World.putObj_heap_other (by simp at hD; omega)).trans g2), _, rfl, WayMem.below_put hb _ (by simp at hD; omega) hk, .inr (.inr ⟨by assumption, by assumption, L, by rw [hx]; exact hLt, .inl ⟨.inl hall, rfl⟩⟩)⟩
  | true =>
    have hp2 := hpfx s hx
    gi_wp2_with (first | (refine ⟨trivial, ?_⟩; gi_at_call 59; refine (callsIn_wide.2 (hP _ _)).mono ?_; rintro e w' ⟨rfl, hw⟩; rw [hw, hx]) | (refine ⟨trivial, ?_⟩; gi_at_call 60; refine (splitSeq_in _ h1 _ _).mono ?_; rintro e w' ⟨rfl, hw⟩; rw [hw]))
    · refine ⟨_, results27 _ _ w.heap.size (.bool false) (.slice none 0 0) (.bool true) rfl rfl ?_ ?_, _, rfl, ?_, .inl ⟨by assumption, rfl⟩⟩
      · ((try simp only [World.size_alloc]); repeat (first | exact al_new' (by first | (simp only [World.size_alloc]; done) | (simp only [World.size_alloc]; omega) | omega) | rw [al_old' (by simp only [World.size_alloc]; omega)]))
      · ((try simp only [World.size_alloc]); repeat (first | exact al_new' (by first | (simp only [World.size_alloc]; done) | (simp only [World.size_alloc]; omega) | omega) | rw [al_old' (by simp only [World.size_alloc]; omega)]))
      · exact (((Below.refl _ w).alloc (Nat.le_refl _) _).alloc (by simp) _).alloc (by simp; omega) _
    · refine ⟨_, results27 _ _ w.heap.size (.bool true) (.slice none 0 0) (.bool true) rfl rfl ?_ ?_, _, rfl, ?_, .inr (.inl ⟨by assumption, by assumption, rfl⟩)⟩
      · ((try simp only [World.size_alloc]); repeat (first | exact al_new' (by first | (simp only [World.size_alloc]; done) | (simp only [World.size_alloc]; omega) | omega) | rw [al_old' (by simp only [World.size_alloc]; omega)]))
      · ((try simp only [World.size_alloc]); repeat (first | exact al_new' (by first | (simp only [World.size_alloc]; done) | (simp only [World.size_alloc]; omega) | omega) | rw [al_old' (by simp only [World.size_alloc]; omega)]))
      · exact (((Below.refl _ w).alloc (Nat.le_refl _) _).alloc (by simp) _).alloc (by simp; omega) _
    · obtain ⟨L, hLt⟩ := Sp.total idx hidx (s.extract 2 s.size)
      have hLl := hLt.len hidx
      simp only [ByteArray.size_extract] at hLl
      refine wpIn_rangeFunc_split h0 h1 (B := w.heap.size + 1 + 1 + 1) (by simp) rfl idx hidx hI
        (fun s W => ∃ pre R sv, L = pre ++ R ∧ Sp idx s R ∧ pre.all nm = true ∧ s.size ≤ 1000000000 ∧ WayMem w.heap.size w true sv pre s W)
        (fun s W => ∃ pre R sv, L = pre ++ R ∧ (0 ≤ idx s → Sp idx (s.extract (idx s + 1).toNat s.size) R) ∧ pre.all nm = true ∧ s.size ≤ 1000000000 ∧ WayMem w.heap.size w true sv pre s W)
        (fun W => L.all nm = false ∧ Below w.heap.size w W ∧ W.heap[w.heap.size]? = some (.cells #[.bool false, .slice none 0 0] 34) ∧ W.heap[w.heap.size + 1]? = some (.cells #[.bool false] 4))
        (fun W => L.all nm = true ∧ ∃ sv rest, WayMem w.heap.size w true sv L rest W)
        ?put2 ?alloc2 ?J2 ?J'2 ?S2
        (fun x => { tmps := #[.string (s.extract 2 s.size), undef, .pointer (some ⟨w.heap.size, 0, none⟩), .pointer (some ⟨w.heap.size + 1, 0, none⟩), .pointer (some ⟨w.heap.size + 1 + 1, 0, none⟩), .string x, .bool false, .string s, .bool false, undef, .bool false, .string s, .bool false, undef, .bool true,
          .string s, .bool true, .pointer (some ⟨w.heap.size + 1 + 1, 0, none⟩), .string s, .string (s.extract 2 s.size), .string (s.extract 2 s.size), .func (.func 102) #[] #[.pointer (some ⟨w.heap.size + 1 + 1 + 1 + 1, 0, none⟩), .pointer (some ⟨w.heap.size + 1 + 1 + 1, 0, none⟩), .pointer (some ⟨w.heap.size + 1 + 1 + 1 + 2, 0, none⟩)], .string x,
          undef, undef, undef, undef, undef, undef, undef, undef, undef, undef, undef, undef, undef, undef, undef, undef], defers := [] })
        ?assign2 ?body2 ?lst2 (s.extract 2 s.size) ?start2 ?done2 ?stop2
      case assign2 =>
        intro l x W K hK
        have hsem := @Oper.semAt_some
        gi_wp2
        exact hK
      case body2 =>
        rintro l s W ⟨pre, R, sv, hL, hSp, hall, hsz, hm⟩ hi
        have hsem := @Oper.semAt_some
        obtain ⟨v1, v2, v3, v4⟩ := cell2 hm.wv
        obtain ⟨r1, r2, r3, r4⟩ := cell2 hm.r0
        obtain ⟨q1, q2⟩ := cell1 hm.r1
        have hlen : pre.length ≤ 1000000001 := by rw [hL, List.length_append] at hLl; omega
        have hsx : (s.extract 0 (idx s).toNat).size ≤ 9223372036854775807 := by simp only [ByteArray.size_extract]; omega
        obtain ⟨R', rfl, hR'⟩ : ∃ R', R = s.extract 0 (idx s).toNat :: R' ∧ Sp idx (s.extract (idx s + 1).toNat s.size) R' := by
          cases hSp with
          | last _ h => omega
          | more _ h R hR => exact ⟨R, rfl, hR⟩
        cases hx : nm (s.extract 0 (idx s).toNat) with
        | false =>
          gi_wp2_with (refine ⟨trivial, ?_⟩; gi_at_call 29; refine (CallsIn.inRound l (callsIn_wide.2 (hN _ _ hsx))).mono ?_; rintro e w' ⟨rfl, hw⟩; rw [hw, hx])
          exact hm.failed (by rw [hL]; simp [hx])
        | true =>
          obtain ⟨i0, hi9, hz0, hz1, hz2⟩ := info_parts info9
          have hrow := hm.row
          gi_wp2_with (first
            | (refine ⟨trivial, ?_⟩; gi_at_call 29; refine (CallsIn.inRound l (callsIn_wide.2 (hN _ _ hsx))).mono ?_; rintro e w' ⟨rfl, hw⟩; rw [hw, hx])
            | (gi_at_builtin; refine wpListIn_append_own _ rfl _ _ 32 rfl (w.heap.size + 6) 9 i0 (.string ⟨#[]⟩) 1 16 Tryd.underlying32 hi9 hz0 hz1 hz2 rfl (by decide) _ _ _ rfl (hrow.alloc _) ⟨W.heap.size, 0, none⟩ 1 1 [.string (s.extract 0 (idx s).toNat)] rfl rfl (cell_one_new _ _ _) (by simp [Value.oneCell']) (by have : maxLen = 9223372036854775807 := rfl; omega) (by omega) (by have := hm.size; simp; omega) ?_; intro v' w1 hown' hgrow _; obtain ⟨g', cap', rfl⟩ := ownsRow_succ hown'; obtain ⟨hwv1, hkk, hmm⟩ := hm.appended hown' hgrow; obtain ⟨y1, y2, y3, y4⟩ := cell2 hwv1))
          exact ⟨hkk, pre ++ [s.extract 0 (idx s).toNat], R', _, by rw [hL]; simp, fun _ => hR', by simp [hall, hx], hsz, hmm⟩
      case lst2 =>
        rintro l s W ⟨pre, R, sv, hL, hSp, hall, hsz, hm⟩ hi
        have hsem := @Oper.semAt_some
        obtain ⟨v1, v2, v3, v4⟩ := cell2 hm.wv
        obtain ⟨r1, r2, r3, r4⟩ := cell2 hm.r0
        obtain ⟨q1, q2⟩ := cell1 hm.r1
        have hlen : pre.length ≤ 1000000001 := by rw [hL, List.length_append] at hLl; omega
        have hsx : s.size ≤ 9223372036854775807 := by omega
        obtain rfl : R = [s] := by
          cases hSp with
          | last _ h => rfl
          | more _ h R hR => omega
        cases hx : nm s with
        | false =>
          gi_wp2_with (refine ⟨trivial, ?_⟩; gi_at_call 29; refine (CallsIn.inRound l (callsIn_wide.2 (hN _ _ hsx))).mono ?_; rintro e w' ⟨rfl, hw⟩; rw [hw, hx])
          exact hm.failed (by rw [hL]; simp [hx])
        | true =>
          obtain ⟨i0, hi9, hz0, hz1, hz2⟩ := info_parts info9
          have hrow := hm.row
          gi_wp2_with (first
            | (refine ⟨trivial, ?_⟩; gi_at_call 29; refine (CallsIn.inRound l (callsIn_wide.2 (hN _ _ hsx))).mono ?_; rintro e w' ⟨rfl, hw⟩; rw [hw, hx])
            | (gi_at_builtin; refine wpListIn_append_own _ rfl _ _ 32 rfl (w.heap.size + 6) 9 i0 (.string ⟨#[]⟩) 1 16 Tryd.underlying32 hi9 hz0 hz1 hz2 rfl (by decide) _ _ _ rfl (hrow.alloc _) ⟨W.heap.size, 0, none⟩ 1 1 [.string s] rfl rfl (cell_one_new _ _ _) (by simp [Value.oneCell']) (by have : maxLen = 9223372036854775807 := rfl; omega) (by omega) (by have := hm.size; simp; omega) ?_; intro v' w1 hown' hgrow _; obtain ⟨g', cap', rfl⟩ := ownsRow_succ hown'; obtain ⟨hwv1, hkk, hmm⟩ := hm.appended hown' hgrow; obtain ⟨y1, y2, y3, y4⟩ := cell2 hwv1))
          exact ⟨hkk, by rw [hL]; simp [hall, hx], _, _, by rw [hL]; exact hmm⟩
      case put2 =>
        rintro G hG W l o o' hl hlo hoc hg
        rcases hG with rfl | rfl | ⟨s, rfl | rfl⟩
        · obtain ⟨g1, g2, g3, g4⟩ := hg
          exact ⟨g1, WayMem.below_put g2 o' (by simp at hl; omega) hlo, (World.putObj_heap_other (by simp at hl; omega)).trans g3, (World.putObj_heap_other (by simp at hl; omega)).trans g4⟩
        · obtain ⟨g1, sv, rest, hm⟩ := hg
          exact ⟨g1, sv, rest, hm.put o' (by simp at hl; omega) hlo hoc⟩
        · obtain ⟨pre, R, sv, g1, g2, g3, g4, hm⟩ := hg
          exact ⟨pre, R, sv, g1, g2, g3, g4, hm.put o' (by simp at hl; omega) hlo hoc⟩
        · obtain ⟨pre, R, sv, g1, g2, g3, g4, hm⟩ := hg
          exact ⟨pre, R, sv, g1, g2, g3, g4, hm.put o' (by simp at hl; omega) hlo hoc⟩
      case alloc2 =>
        rintro s W o ⟨pre, R, sv, g1, g2, g3, g4, hm⟩
        exact ⟨pre, R, sv, g1, g2, g3, g4, hm.alloc o⟩
      case J2 =>
        rintro s W ⟨pre, R, sv, g1, g2, g3, g4, hm⟩
        exact ⟨(cell1 hm.bs).1, (cell1 hm.bp).1, (cell1 hm.bk).1, by omega⟩
      case J'2 =>
        rintro s W ⟨pre, R, sv, g1, g2, g3, g4, hm⟩
        exact ⟨(cell1 hm.bs).1, (cell1 hm.bs).2, (cell1 hm.bp).1⟩
      case S2 =>
        rintro s W ⟨pre, R, sv, g1, g2, g3, g4, hm⟩ hi
        exact ⟨pre, R, sv, g1, g2 hi, g3, by simp only [ByteArray.size_extract]; omega, hm.set _⟩
      case start2 =>
        refine ⟨[], L, .slice none 0 0, rfl, hLt, rfl, by simp only [ByteArray.size_extract]; omega, ?_⟩
        exact {
          below := ((((((Below.refl _ w).alloc (Nat.le_refl _) _).alloc (by simp) _).alloc (by simp; omega) _).alloc (by simp; omega) _).alloc (by simp; omega) _).alloc (by simp; omega) _
          size := by simp
          r0 := by ((try simp only [World.size_alloc]); repeat (first | exact al_new' (by first | (simp only [World.size_alloc]; done) | (simp only [World.size_alloc]; omega) | omega) | rw [al_old' (by simp only [World.size_alloc]; omega)]))
          r1 := by ((try simp only [World.size_alloc]); repeat (first | exact al_new' (by first | (simp only [World.size_alloc]; done) | (simp only [World.size_alloc]; omega) | omega) | rw [al_old' (by simp only [World.size_alloc]; omega)]))
          wv := by ((try simp only [World.size_alloc]); repeat (first | exact al_new' (by first | (simp only [World.size_alloc]; done) | (simp only [World.size_alloc]; omega) | omega) | rw [al_old' (by simp only [World.size_alloc]; omega)]))
          bs := by ((try simp only [World.size_alloc]); repeat (first | exact al_new' (by first | (simp only [World.size_alloc]; done) | (simp only [World.size_alloc]; omega) | omega) | rw [al_old' (by simp only [World.size_alloc]; omega)]))
          bp := by ((try simp only [World.size_alloc]); repeat (first | exact al_new' (by first | (simp only [World.size_alloc]; done) | (simp only [World.size_alloc]; omega) | omega) | rw [al_old' (by simp only [World.size_alloc]; omega)]))
          bk := by ((try simp only [World.size_alloc]); repeat (first | exact al_new' (by first | (simp only [World.size_alloc]; done) | (simp only [World.size_alloc]; omega) | omega) | rw [al_old' (by simp only [World.size_alloc]; omega)]))
          row := World.ownsRow_nil _ _ _ _ }
      case done2 =>
        rintro D W hD ⟨hall, sv, rest, hm⟩ hk
        obtain ⟨v1, v2, v3, v4⟩ := cell2 hm.wv
        obtain ⟨r1, r2, r3, r4⟩ := cell2 hm.r0
        obtain ⟨q1, q2⟩ := cell1 hm.r1
        have hrow := hm.row
        obtain ⟨x0, L', rfl⟩ := hLt.cons
        simp only [List.length_cons] at hrow
        obtain ⟨g, cap, rfl⟩ := ownsRow_succ hrow
        gi_wp2
        · obtain ⟨ko, kb, k0, k1, _⟩ := hm.stored (.bool false) (.slice none 0 0) (.bool false)
          refine ⟨by simp, .inl ⟨_, _, rfl, run_takeDeferred (ko.same D _ hk rfl), ?_⟩⟩
          exact ⟨_, results27 _ _ w.heap.size (.bool false) (.slice none 0 0) (.bool false) rfl rfl ((World.putObj_heap_other (by simp at hD; omega)).trans k0) ((World.putObj_heap_other (by simp at hD; omega)).trans k1), _, rfl, WayMem.below_put kb _ (by simp at hD; omega) (ko.same D _ hk rfl), .inr (.inr ⟨by assumption, by assumption, x0 :: L', by rw [hx]; exact hLt, .inl ⟨.inr (by simp only [List.length_cons]; omega), rfl⟩⟩)⟩
        · obtain ⟨ko, kb, k0, k1, kr⟩ := hm.stored (.bool true) (.slice (some ⟨g, 0, none⟩) (L'.length + 1) cap) (.bool true)
          refine ⟨by simp, .inl ⟨_, _, rfl, run_takeDeferred (ko.same D _ hk rfl), ?_⟩⟩
          exact ⟨_, results27 _ _ w.heap.size (.bool true) (.slice (some ⟨g, 0, none⟩) (L'.length + 1) cap) (.bool true) rfl rfl ((World.putObj_heap_other (by simp at hD; omega)).trans k0) ((World.putObj_heap_other (by simp at hD; omega)).trans k1), _, rfl, WayMem.below_put kb _ (by simp at hD; omega) (ko.same D _ hk rfl), .inr (.inr ⟨by assumption, by assumption, x0 :: L', by rw [hx]; exact hLt, .inr ⟨hall, by simp only [List.length_cons]; omega, _, by rw [hx], row_base (ownsRow_putObj kr _ (ko.same D _ hk rfl) rfl) (by omega)⟩⟩)⟩
      case stop2 =>
        rintro D W hD ⟨hall, hb, g1, g2⟩ hk
        gi_wp2
        refine ⟨by simp, .inl ⟨_, _, rfl, run_takeDeferred hk, ?_⟩⟩
        refine ⟨_, results27 _ _ w.heap.size (.bool false) (.slice none 0 0) (.bool false) rfl rfl ((World.putObj_heap_other (by simp at hD; omega)).trans g1) ((World.putObj_heap_other (by simp at hD; omega)).trans g2), _, rfl, WayMem.below_put hb _ (by simp at hD; omega) hk, .inr (.inr ⟨by assumption, by assumption, L, by rw [hx]; exact hLt, .inl ⟨.inl hall, rfl⟩⟩)⟩
end R3

namespace R3
open Go Go.Proofs Go.RowKit Go.Shelf
set_option maxRecDepth 100000
set_option maxHeartbeats 4000000
def pfxA (s : ByteArray) : Bool := decide (2 ≤ s.size) && (s.extract 0 2).toList == [36, 46]
theorem pfx0_in (n : Nat) (s : ByteArray) (w : World) :
    CallsIn Fence.wide n Tryd.prog 83 #[.string s, .string ⟨#[36, 46]⟩] w fun e w' => e = .returned (.bool (pfxA s)) ∧ w' = w := by
  refine callsIn_of_wp Tryd.func83 rfl trivial ?_ rfl
  simp only [Tryd.ntmps83, List.size_toArray, List.length_cons, List.length_nil, Nat.reduceAdd, Nat.reduceSub, Array.replicate_succ, Array.replicate_zero, List.push_toArray, List.append_toArray, List.nil_append, List.cons_append]
  gi_wp2
  · go_ret
    refine ⟨?_, rfl⟩
    have : decide (2 ≤ s.size) = true := by simp; omega
    simp [pfxA, this]
  · go_ret
    refine ⟨?_, rfl⟩
    have : decide (2 ≤ s.size) = false := by simp; omega
    simp [pfxA, this]
theorem pfx_in (n : Nat) (hn : 1 ≤ n) (s : ByteArray) (w : World) :
    CallsIn Fence.wide n Tryd.prog 59 #[.string s, .string ⟨#[36, 46]⟩] w fun e w' => e = .returned (.bool (pfxA s)) ∧ w' = w := by
  refine callsIn_of_wp Tryd.func59 rfl trivial ?_ rfl
  simp only [Tryd.ntmps59, List.size_toArray, List.length_cons, List.length_nil, Nat.reduceAdd, Nat.reduceSub, Array.replicate_succ, Array.replicate_zero, List.push_toArray, List.append_toArray, List.nil_append, List.cons_append]
  gi_wp2_with (refine ⟨trivial, ?_⟩; gi_at_call 83; refine (pfx0_in _ _ _).mono ?_; rintro e w' ⟨rfl, hw⟩; rw [hw])
  go_ret
  exact ⟨rfl, rfl⟩
def okN (i : Nat) (b : UInt8) : Bool := (decide (97 ≤ b) && decide (b ≤ 122)) || (!(i == 0) && ((decide (48 ≤ b) && decide (b ≤ 57)) || b == 95))
def okAll : Nat → List UInt8 → Bool
  | _, [] => true
  | i, b :: r => okN i b && okAll (i + 1) r
def nameB (l : List UInt8) : Bool := okAll 0 l && (decide (1 ≤ l.length) && decide (l.length ≤ 32))
theorem okAll_app : ∀ (l m : List UInt8) (i : Nat), okAll i (l ++ m) = (okAll i l && okAll (i + l.length) m)
  | [], m, i => by simp [okAll]
  | b :: l, m, i => by
    simp only [List.cons_append, okAll, okAll_app l m (i + 1), List.length_cons, Bool.and_assoc]
    rw [show i + 1 + l.length = i + (l.length + 1) by omega]
theorem okAll_at (l : List UInt8) (k : Nat) (h : k < l.length) : okAll 0 l = (okAll 0 (l.take k) && (okN k l[k] && okAll (k + 1) (l.drop (k + 1)))) := by
  have e : l = l.take k ++ (l[k] :: l.drop (k + 1)) := by simp
  conv => lhs; rw [e]
  rw [okAll_app]
  have : (l.take k).length = k := by simp; omega
  rw [this, Nat.zero_add]
  rfl
theorem okAll_next (l : List UInt8) (k : Nat) (h : k < l.length) (h1 : okAll 0 (l.take k) = true) (h2 : okN k l[k] = true) : okAll 0 (l.take (k + 1)) = true := by
  rw [List.take_succ_eq_append_getElem h, okAll_app, h1]
  have : (l.take k).length = k := by simp; omega
  simp [okAll, this, h2]
def OkP (k : Nat) (x : Nat) : Prop := (97 ≤ x ∧ x ≤ 122) ∨ (k ≠ 0 ∧ ((48 ≤ x ∧ x ≤ 57) ∨ x = 95))
theorem okN_iff (k : Nat) (b : UInt8) : okN k b = true ↔ OkP k b.toNat := by
  unfold okN OkP
  have e : (b == 95) = decide (b.toNat = 95) := by
    rw [Bool.eq_iff_iff]
    simp only [beq_iff_eq, decide_eq_true_eq]
    exact ⟨fun h => by rw [h]; rfl, fun h => UInt8.toNat_inj.1 h⟩
  rw [e]
  simp only [Bool.or_eq_true, Bool.and_eq_true, decide_eq_true_eq, Bool.not_eq_true', beq_eq_false_iff_ne, UInt8.le_iff_toNat_le]
  rfl
theorem getE (s : ByteArray) (k : Nat) (h : k < s.size) : s.data.toList[k]'h = s[k] := rfl
theorem name_bad (s : ByteArray) (k : Nat) (h : k < s.size) (hb : ¬ OkP k s[k].toNat) : nameB s.data.toList = false := by
  unfold nameB
  have hl : k < s.data.toList.length := h
  rw [okAll_at _ k hl]
  have : okN k s.data.toList[k] = false := by
    rw [Bool.eq_false_iff]
    exact fun e => hb ((okN_iff _ _).1 e)
  rw [this]; simp
theorem name_step (s : ByteArray) (k : Nat) (h : k < s.size) (hok : okAll 0 (s.data.toList.take k) = true) (hb : OkP k s[k].toNat) : okAll 0 (s.data.toList.take (k + 1)) = true :=
  okAll_next _ k h hok ((okN_iff _ _).2 hb)
theorem name_end (s : ByteArray) (k : Nat) (hk : k ≤ s.size) (h : ¬ k < s.size) (hok : okAll 0 (s.data.toList.take k) = true) : nameB s.data.toList = (decide (1 ≤ s.size) && decide (s.size ≤ 32)) := by
  have : s.data.toList.take k = s.data.toList := List.take_of_length_le (by show s.size ≤ k; omega)
  rw [this] at hok
  unfold nameB
  rw [hok, Bool.true_and]
  rfl
theorem name_in (n : Nat) (s : ByteArray) (hs : s.size ≤ 9223372036854775807) (w : World) :
    CallsIn Fence.wide n Tryd.prog 29 #[.string s] w fun e w' => e = .returned (.bool (nameB s.data.toList)) ∧ w' = w := by
  refine callsIn_of_wp Tryd.func29 rfl trivial ?_ rfl
  simp only [Tryd.ntmps29, List.size_toArray, List.length_cons, List.length_nil, Nat.reduceAdd, Nat.reduceSub, Array.replicate_succ, Array.replicate_zero, List.push_toArray, List.append_toArray, List.nil_append, List.cons_append]
  have hl : s.data.toList.length = s.size := rfl
  gi_wp2
  gi_loop [7] (fun v => ∃ k : Nat, v = .int .i64 k ∧ k ≤ s.size ∧ okAll 0 (s.data.toList.take k) = true) (fun v => s.size - (intOf v).toNat)
  case atStart => exact ⟨0, rfl, by omega, rfl⟩
  case round =>
    obtain ⟨k, rfl, hk, hok⟩ := hrel
    by_cases hks : k < s.size
    · by_cases hP : OkP k s[k].toNat
      · have hstep := name_step s k hks hok hP
        unfold OkP at hP
        by_cases hk0 : k = 0
        · subst hk0
          gi_wp2 <;> first
            | exact ⟨⟨1, rfl, by omega, hstep⟩, by simp [intOf]; omega⟩
            | (exfalso; clear hstep hok; simp only [Bool.not_eq_true', Bool.not_eq_false', decide_eq_true_eq, decide_eq_false_iff_not, bne_iff_ne, ne_eq, beq_iff_eq, bne_eq_false_iff_eq, beq_eq_false_iff_ne] at *; omega)
        · gi_wp2 <;> first
            | exact ⟨⟨k + 1, rfl, by omega, hstep⟩, by simp [intOf]; omega⟩
            | (exfalso; clear hstep hok; simp only [Bool.not_eq_true', Bool.not_eq_false', decide_eq_true_eq, decide_eq_false_iff_not, bne_iff_ne, ne_eq, beq_iff_eq, bne_eq_false_iff_eq, beq_eq_false_iff_ne] at *; omega)
      · have hbad := name_bad s k hks hP
        unfold OkP at hP
        by_cases hk0 : k = 0
        · subst hk0
          gi_wp2 <;> first
            | (exfalso; clear hbad hok; simp only [Bool.not_eq_true', Bool.not_eq_false', decide_eq_true_eq, decide_eq_false_iff_not, bne_iff_ne, ne_eq, beq_iff_eq, bne_eq_false_iff_eq, beq_eq_false_iff_ne] at *; omega)
            | (go_ret; exact ⟨rfl, rfl⟩)
        · gi_wp2 <;> first
            | (exfalso; clear hbad hok; simp only [Bool.not_eq_true', Bool.not_eq_false', decide_eq_true_eq, decide_eq_false_iff_not, bne_iff_ne, ne_eq, beq_iff_eq, bne_eq_false_iff_eq, beq_eq_false_iff_ne] at *; omega)
            | (go_ret; exact ⟨rfl, rfl⟩)
    · have hend := name_end s k hk hks hok
      gi_wp2
      · go_ret
        refine ⟨?_, rfl⟩
        have h1 : decide (1 ≤ s.size) = true := by rw [decide_eq_true_eq]; omega
        have h2 : decide ((s.size : Int) ≤ 32) = decide (s.size ≤ 32) := by rw [decide_eq_decide]; omega
        rw [h1, ← h2]; rfl
      · go_ret
        refine ⟨?_, rfl⟩
        have h1 : decide (1 ≤ s.size) = false := by rw [decide_eq_false_iff_not]; omega
        rw [h1]; rfl
end R3

namespace R3
open Go Go.Proofs Go.RowKit Go.Shelf
set_option maxRecDepth 100000
set_option maxHeartbeats 4000000
theorem run145 (s : ByteArray) (c : Int) (w : World) : (callFunc 145 #[.string s, .int .u8 c]).run Tryd.prog w = .ok (.value (.int .i64 (Lib.indexByte s.data.toList c.toNat.toUInt8))) w :=
  Sx.run_idx (fn := Tryd.f145) (by kernel_rfl) (by kernel_rfl) (by kernel_rfl) (by kernel_rfl) (by kernel_rfl) s c w
theorem idxB_in (n : Nat) (s : ByteArray) (w : World) :
    CallsIn Fence.wide n Tryd.prog 116 #[.string s, .int .u8 46] w fun e w' => e = .returned (.int .i64 (Lib.indexByte s.data.toList 46)) ∧ w' = w := by
  refine callsIn_of_wp Tryd.func116 rfl trivial ?_ rfl
  simp only [Tryd.ntmps116, List.size_toArray, List.length_cons, List.length_nil, Nat.reduceAdd, Nat.reduceSub, Array.replicate_succ, Array.replicate_zero, List.push_toArray, List.append_toArray, List.nil_append, List.cons_append]
  have e := run145 s 46 w
  gi_wp2_with (refine ⟨trivial, ?_⟩)
  go_ret
  exact ⟨rfl, rfl⟩
theorem idx1_in (n : Nat) (hn : 1 ≤ n) (s : ByteArray) (hs : s.size ≤ 9223372036854775807) (w : World) :
    CallsIn Fence.wide n Tryd.prog 98 #[.string s, .string ⟨#[46]⟩] w fun e w' => e = .returned (.int .i64 (Lib.indexByte s.data.toList 46)) ∧ w' = w := by
  refine callsIn_of_wp Tryd.func98 rfl trivial ?_ rfl
  simp only [Tryd.ntmps98, List.size_toArray, List.length_cons, List.length_nil, Nat.reduceAdd, Nat.reduceSub, Array.replicate_succ, Array.replicate_zero, List.push_toArray, List.append_toArray, List.nil_append, List.cons_append]
  have e46 : ((⟨#[46]⟩ : ByteArray)[0]'(by decide)).toNat = 46 := rfl
  gi_wp2_with (refine ⟨trivial, ?_⟩; gi_at_call 116; refine (idxB_in _ _ _).mono ?_; rintro e w' ⟨rfl, hw⟩; rw [hw])
  · go_ret
    refine ⟨?_, rfl⟩
    have h : ([46] == s.toList) = true := by assumption
    rw [Lib.toList_data] at h
    rw [← eq_of_beq h]
    rfl
  · go_ret
    exact ⟨rfl, rfl⟩
theorem idx_in (n : Nat) (hn : 2 ≤ n) (s : ByteArray) (hs : s.size ≤ 9223372036854775807) (w : World) :
    CallsIn Fence.wide n Tryd.prog 79 #[.string s, .string ⟨#[46]⟩] w fun e w' => e = .returned (.int .i64 (Lib.indexByte s.data.toList 46)) ∧ w' = w := by
  refine callsIn_of_wp Tryd.func79 rfl trivial ?_ rfl
  simp only [Tryd.ntmps79, List.size_toArray, List.length_cons, List.length_nil, Nat.reduceAdd, Nat.reduceSub, Array.replicate_succ, Array.replicate_zero, List.push_toArray, List.append_toArray, List.nil_append, List.cons_append]
  have h1 : 1 ≤ n - 1 := by omega
  have h0 : 1 ≤ n := by omega
  gi_wp2_with (refine ⟨trivial, ?_⟩; gi_at_call 98; refine (idx1_in _ h1 _ hs _).mono ?_; rintro e w' ⟨rfl, hw⟩; rw [hw])
  go_ret
  exact ⟨rfl, rfl⟩

theorem indexByte_ge (l : List UInt8) (c : UInt8) : Lib.indexByte l c = -1 ∨ (0 ≤ Lib.indexByte l c ∧ Lib.indexByte l c + 1 ≤ l.length) := by
  induction l with
  | nil => exact .inl rfl
  | cons x l ih =>
    unfold Lib.indexByte
    split
    · right; simp; omega
    · simp only [List.length_cons]
      rcases ih with h | ⟨h1, h2⟩
      · rw [h]; left; rfl
      · right
        split
        · rename_i e; simp only [beq_iff_eq] at e; omega
        · omega
/-- **lex.Way.** -/
theorem way_calls (s : ByteArray) (hs : s.size ≤ 1000000000) (w : World) :
    Calls Tryd.prog 27 #[.string s] w fun e w' => ∃ v, e = .returned v ∧ Below w.heap.size w w' ∧ WayPost (fun s => Lib.indexByte s.data.toList 46) (fun s => nameB s.data.toList) pfxA w.heap.size s v w' :=
  callsIn_wide.1 (way_in 6 (by decide) _ _ _ (fun s h => by
      unfold pfxA at h
      rw [Bool.and_eq_true, decide_eq_true_eq] at h
      exact h.1) (fun s => by have := indexByte_ge s.data.toList 46; exact this)
    (fun s w => callsIn_wide.1 (pfx_in 3 (by decide) s w)) (fun s w h => callsIn_wide.1 (idx_in 3 (by decide) s h w)) (fun s w h => callsIn_wide.1 (name_in 3 s h w)) s hs w)
end R3

namespace R3
open Go Go.Proofs Go.RowKit Sx
/-- A text's parts between its dots. -/
def splitL : List UInt8 → List (List UInt8)
  | [] => [[]]
  | b :: r => if b == 46 then [] :: splitL r else match splitL r with
    | [] => [[b]]
    | h :: t => (b :: h) :: t
theorem splitL_eq (b : UInt8) (r : List UInt8) : splitL (b :: r) = if b == 46 then [] :: splitL r else match splitL r with | [] => [[b]] | h :: t => (b :: h) :: t := rfl
theorem splitL_cons (l : List UInt8) : ∃ h t, splitL l = h :: t := by
  cases l with
  | nil => exact ⟨_, _, rfl⟩
  | cons b r =>
    unfold splitL
    split
    · exact ⟨_, _, rfl⟩
    · split <;> exact ⟨_, _, rfl⟩
theorem splitL_none : ∀ (l : List UInt8), Lib.indexByte l 46 = -1 → splitL l = [l]
  | [], _ => rfl
  | b :: r, h => by
    unfold Lib.indexByte at h
    split at h
    · omega
    · rename_i hb
      have hr : Lib.indexByte r 46 = -1 := by
        split at h
        · rename_i e; simpa using e
        · have := indexByte_ge r 46; omega
      rw [splitL_eq, if_neg hb, splitL_none r hr]
theorem splitL_some : ∀ (l : List UInt8) (i : Nat), Lib.indexByte l 46 = (i : Int) → splitL l = l.take i :: splitL (l.drop (i + 1))
  | [], i, h => by exfalso; have : Lib.indexByte [] 46 = -1 := rfl; omega
  | b :: r, i, h => by
    unfold Lib.indexByte at h
    split at h
    · rename_i hb
      obtain rfl : i = 0 := by omega
      rw [splitL_eq, if_pos hb]
      rfl
    · rename_i hb
      split at h
      · omega
      · obtain ⟨j, rfl⟩ : ∃ j, i = j + 1 := ⟨i - 1, by have := indexByte_ge r 46; rename_i e; simp only [beq_iff_eq] at e; omega⟩
        have hr : Lib.indexByte r 46 = (j : Int) := by omega
        rw [splitL_eq, if_neg hb, splitL_some r j hr]
        rfl
theorem toL_extract (s : ByteArray) (a b : Nat) : (s.extract a b).data.toList = (s.data.toList.drop a).take (b - a) := by
  simp [ByteArray.data_extract, Array.toList_extract, List.extract]
theorem Sp_split {s : ByteArray} {L : List ByteArray} (h : Sp (fun s => Lib.indexByte s.data.toList 46) s L) : L.map (·.data.toList) = splitL s.data.toList := by
  induction h with
  | last s h => rw [splitL_none _ h]; rfl
  | more s h R hR ih =>
    obtain ⟨i, hi⟩ := Int.eq_ofNat_of_zero_le h
    rw [splitL_some s.data.toList i hi, List.map_cons, ih, toL_extract, toL_extract, hi]
    have hsz : s.size = s.data.toList.length := rfl
    congr 1
    rw [show ((i : Int) + 1).toNat = i + 1 by omega, List.take_of_length_le (by rw [List.length_drop]; omega)]
/-- Does it begin with a dollar and a dot? -/
def dollar (l : List UInt8) : Bool := decide (2 ≤ l.length) && l.take 2 == [36, 46]
def failW : AV := .tu [.ag [.b false, .nils], .b false]
/-- What lex.Way answers. -/
def wayAV (l : List UInt8) : AV :=
  if l == [46] then .tu [.ag [.b false, .nils], .b true]
  else if l == [36] then .tu [.ag [.b true, .nils], .b true]
  else if (splitL (if dollar l then l.drop 2 else l)).all nameB && decide ((splitL (if dollar l then l.drop 2 else l)).length ≤ 8) then .tu [.ag [.b (dollar l), .ro 1 ((splitL (if dollar l then l.drop 2 else l)).map .s)], .b true]
  else failW
def G27 (args : List AV) : Option AV :=
  match args with
  | [.s l] => if l.length ≤ 1000000000 then some (wayAV l) else none
  | _ => none
theorem rel_way {w : World} {F : Nat → Prop} {root ok : Bool} {x : AV} {v : Value} (h1 : v.oneCell' = true) (h : Rel w F x v) : Rel w F (.tu [.ag [.b root, x], .b ok]) (.tuple #[.agg #[.bool root, v], .bool ok]) := by
  refine .tu [.ag [.b root, x], .b ok] [.agg #[.bool root, v], .bool ok] rfl fun j u hu => ?_
  match j, hu with
  | 0, hu =>
    cases hu
    refine .ag [.b root, x] [.bool root, v] rfl (fun u hu => ?_) fun j u hu => ?_
    · simp only [List.mem_cons, List.not_mem_nil, or_false] at hu
      rcases hu with rfl | rfl
      · rfl
      · exact h1
    · match j, hu with
      | 0, hu => cases hu; exact .b root
      | 1, hu => cases hu; exact h
      | j + 2, hu => simp at hu
  | 1, hu => cases hu; exact .b ok
  | j + 2, hu => simp at hu
theorem rel_row {w : World} {F : Nat → Prop} {N : Nat} {sv : Value} {L : List ByteArray} (hF : ∀ b, N ≤ b → F b) (h : w.ownsRow N 9 1 sv L.length (L.map .string)) : sv.oneCell' = true ∧ (Rel w F (.ro 1 ((L.map (·.data.toList)).map .s)) sv ∨ L = []) := by
  rcases h.2 with ⟨rfl, h0⟩ | ⟨g, cap, cur, rfl, hb, hg, h4⟩
  · exact ⟨rfl, .inr (List.eq_nil_of_length_eq_zero h0)⟩
  · refine ⟨rfl, .inl ?_⟩
    obtain ⟨k1, k2, k3, k4⟩ := h4
    have hlen : ((L.map (·.data.toList)).map AV.s).length = L.length := by simp
    have key := Rel.ro (w := w) (F := F) 1 ((L.map (·.data.toList)).map .s) g 0 cap (L.map .string) (by decide) (by rw [hlen]; exact k1) (hF g hb) (by simp) (fun j v hv => ?_) (fun v hv => ?_) (fun i j v hi hj hv => ?_)
    · rw [hlen] at key; exact key
    · rw [← k4, Nat.mul_one] at hv
      have : cur[j]? = some v := by
        rw [List.getElem?_take] at hv
        split at hv
        · rw [Array.getElem?_toList] at hv; exact hv
        · cases hv
      simp [World.cell?, hg, this]
    · obtain ⟨x, _, rfl⟩ := List.mem_map.1 hv
      rfl
    · obtain rfl : j = 0 := by omega
      rw [Nat.mul_one, Nat.add_zero, List.getElem?_map, Option.map_eq_some_iff] at hv
      obtain ⟨x, hx, rfl⟩ := hv
      have : (((L.map (·.data.toList)).map AV.s).getD i .un) = .s x.data.toList := by
        rw [List.getD_eq_getElem?_getD, List.getElem?_map, List.getElem?_map, hx]; rfl
      rw [this]
      exact .s x
theorem dollar_eq (s : ByteArray) : pfxA s = dollar s.data.toList := by
  unfold pfxA dollar
  rw [Lib.toList_data, toL_extract]
  rfl
theorem gv27_ok {C : Cfg} (ho : (C.own 27).all Option.isNone = true) (args : List AV) (r : AV) (h : G27 args = some r) (w : World) (F : Nat → Prop) (vs : Array Value) (hl : vs.size = args.length)
    (hv : ∀ (j : Nat) (a : AV) (v : Value), args[j]? = some a → vs[j]? = some v → Rel w F a v) : CallRuns Tryd.prog 27 vs w (PostOk C 27 w F r) := by
  unfold G27 at h
  split at h
  · rename_i l
    split at h
    · rename_i hle
      cases h
      match vs, hl, hv with
      | ⟨[x]⟩, _, hv =>
        have hx := hv 0 _ x rfl rfl
        cases hx with
        | s q =>
          refine .inl ⟨Tryd.f27, (Tryd.f27.body).getD .skip, Tryd.func27, by kernel_rfl, by kernel_rfl, Calls.mono (way_calls q hle w) fun e w' he => ?_⟩
          obtain ⟨v, rfl, hb, hp⟩ := he
          refine ⟨v, rfl, ⟨hb.os, hb.tape, hb.output, hb.size, hb.block⟩, ?_⟩
          unfold ResOk
          rw [if_pos ho]
          have hF : ∀ b, w.heap.size ≤ b → (fun b => b < w.heap.size → F b) b := fun b hb hlt => by omega
          unfold wayAV
          rcases hp with ⟨c1, rfl⟩ | ⟨c1, c2, rfl⟩ | ⟨c1, c2, L, hL, hp⟩
          · rw [Lib.toList_data] at c1
            rw [if_pos c1]
            exact rel_way rfl .nils
          · rw [Lib.toList_data] at c1 c2
            rw [if_neg (by rw [c1]; decide), if_pos c2]
            exact rel_way rfl .nils
          · rw [Lib.toList_data] at c1 c2
            rw [if_neg (by rw [c1]; decide), if_neg (by rw [c2]; decide)]
            have hs := Sp_split hL
            have hs' : splitL (if dollar q.data.toList then q.data.toList.drop 2 else q.data.toList) = L.map (·.data.toList) := by
              rw [hs, ← dollar_eq]
              cases pfxA q with
              | true =>
                simp only [if_true]
                rw [toL_extract, List.take_of_length_le (by rw [List.length_drop]; exact Nat.le_refl _)]
              | false => rfl
            rw [hs']
            have hall : (L.map (·.data.toList)).all nameB = L.all fun s => nameB s.data.toList := by simp [List.all_map, Function.comp_def]
            rw [hall, List.length_map]
            rcases hp with ⟨hbad, rfl⟩ | ⟨h1, h2, sv, rfl, hrow⟩
            · rw [if_neg]
              · exact rel_way rfl .nils
              · rcases hbad with e | e
                · rw [e]; simp
                · simp only [Bool.and_eq_true, decide_eq_true_eq, not_and]; intro _; omega
            · rw [if_pos (by rw [h1]; simpa using h2), ← dollar_eq]
              obtain ⟨o1, o2⟩ := rel_row hF hrow
              rcases o2 with o2 | o2
              · exact rel_way o1 o2
              · exfalso
                obtain ⟨x0, L', e⟩ := hL.cons
                rw [e] at o2; cases o2
    · cases h
  · cases h
end R3

namespace R3
open Go Go.Proofs Go.RowKit Go.Shelf Sx
def ren143 : Ren := ⟨fun | 143 => 79 | 219 => 98 | 217 => 116 | 225 => 117 | 224 => 118 | 267 => 119 | 266 => 145 | 314 => 146 | n => n, fun | 46 => 173 | 146 => 190 | 51 => 56 | n => n, fun n => n⟩
theorem lay143 : Lays.n143 Tryd.prog ren143 := {
  mixed := by kernel_rfl
  f143 := Tryd.func79.trans (congrArg some (by kernel_rfl))
  f217 := Tryd.func116.trans (congrArg some (by kernel_rfl))
  f219 := Tryd.func98.trans (congrArg some (by kernel_rfl))
  f224 := Tryd.func118.trans (congrArg some (by kernel_rfl))
  f225 := Tryd.func117.trans (congrArg some (by kernel_rfl))
  f266 := Tryd.func145.trans (congrArg some (by kernel_rfl))
  f267 := Tryd.func119.trans (congrArg some (by kernel_rfl))
  f314 := Tryd.func146.trans (congrArg some (by kernel_rfl))
  t3 := Tryd.underlying3
  a3 := Tryd.isAgg3
  z3 := Tryd.sizeOf3
  v3 := Tryd.zeroValue3
  t4 := Tryd.underlying4
  a4 := Tryd.isAgg4
  z4 := Tryd.sizeOf4
  v4 := Tryd.zeroValue4
  t5 := Tryd.underlying5
  a5 := Tryd.isAgg5
  z5 := Tryd.sizeOf5
  v5 := Tryd.zeroValue5
  t9 := Tryd.underlying9
  a9 := Tryd.isAgg9
  z9 := Tryd.sizeOf9
  v9 := Tryd.zeroValue9
  t46 := Tryd.underlying173
  a46 := Tryd.isAgg173
  z46 := Tryd.sizeOf173
  v46 := Tryd.zeroValue173
  t51 := Tryd.underlying56
  a51 := Tryd.isAgg56
  z51 := Tryd.sizeOf56
  v51 := Tryd.zeroValue56
  t146 := Tryd.underlying190
  a146 := Tryd.isAgg190
  z146 := Tryd.sizeOf190
  v146 := Tryd.zeroValue190
  g1 := by kernel_rfl }
def G79 (args : List AV) : Option AV :=
  match args with
  | [.s l, .s sub] => if l.length ≤ 1000000000 then some (.int (Lib.index l sub)) else none
  | _ => none
/-- **strings.Index.** -/
theorem gv79_ok {C : Cfg} {mx : Int} (hgl : C.glob 1 = some (1, .int mx)) (ho : (C.own 79).all Option.isNone = true) (args : List AV) (r : AV) (h : G79 args = some r) (w : World) (F : Nat → Prop) (vs : Array Value) (hG : GlobOk C w F) (hl : vs.size = args.length)
    (hv : ∀ (j : Nat) (a : AV) (v : Value), args[j]? = some a → vs[j]? = some v → Rel w F a v) : CallRuns Tryd.prog 79 vs w (PostOk C 79 w F r) := by
  have hm : w.cell? ⟨1, 0, none⟩ = some (.int .i64 mx) := by
    obtain ⟨r, o, h1, h2, h3, h4⟩ := hG 1 1 _ hgl
    simp only [Value.pointer.injEq, Option.some.injEq, Addr.mk.injEq, Nat.add_zero] at h1
    obtain ⟨v, q1, q2, q3⟩ := h4 0 (by decide)
    obtain ⟨rfl, rfl, _⟩ := h1
    have q3 : Rel w F (.int mx) v := q3
    cases q3
    exact q1
  unfold G79 at h
  split at h
  · rename_i l sub
    split at h
    · rename_i hle
      cases h
      match vs, hl, hv with
      | ⟨[x, y]⟩, _, hv =>
        have hx := hv 0 _ x rfl rfl
        have hy := hv 1 _ y rfl rfl
        cases hx with
        | s p =>
          cases hy with
          | s q =>
            refine .inl ⟨Tryd.f79, (Tryd.f79.body).getD .skip, Tryd.func79, by kernel_rfl, by kernel_rfl, Calls.mono (Any.strings_Index lay143 p q mx w (by have : p.size = p.data.toList.length := rfl; omega) hm) fun e w' he => ?_⟩
            obtain ⟨rfl, rfl⟩ := he
            refine ⟨_, rfl, Ext.refl _, ?_⟩
            unfold ResOk
            rw [if_pos ho]
            exact .int _
    · cases h
  · cases h
end R3

namespace R3
open Go Go.Proofs Go.RowKit Go.Shelf Sx
def ren156 : Ren := ⟨fun | 156 => 61 | 165 => 85 | 166 => 86 | 169 => 87 | 240 => 104 | 241 => 105 | 276 => 129 | 277 => 130 | n => n, fun | 31 => 32 | 72 => 137 | 76 => 141 | 70 => 135 | 37 => 38 | 75 => 140 | 127 => 162 | 164 => 181 | 80 => 143 | n => n, fun n => n⟩
theorem lay156 : Lays.n156 Tryd.prog ren156 := {
  mixed := by kernel_rfl
  f156 := Tryd.func61.trans (congrArg some (by kernel_rfl))
  f165 := Tryd.func85.trans (congrArg some (by kernel_rfl))
  f166 := Tryd.func86.trans (congrArg some (by kernel_rfl))
  f169 := Tryd.func87.trans (congrArg some (by kernel_rfl))
  f240 := Tryd.func104.trans (congrArg some (by kernel_rfl))
  f241 := Tryd.func105.trans (congrArg some (by kernel_rfl))
  f276 := Tryd.func129.trans (congrArg some (by kernel_rfl))
  f277 := Tryd.func130.trans (congrArg some (by kernel_rfl))
  t0 := Tryd.underlying0
  a0 := Tryd.isAgg0
  z0 := Tryd.sizeOf0
  v0 := Tryd.zeroValue0
  t3 := Tryd.underlying3
  a3 := Tryd.isAgg3
  z3 := Tryd.sizeOf3
  v3 := Tryd.zeroValue3
  t4 := Tryd.underlying4
  a4 := Tryd.isAgg4
  z4 := Tryd.sizeOf4
  v4 := Tryd.zeroValue4
  t9 := Tryd.underlying9
  a9 := Tryd.isAgg9
  z9 := Tryd.sizeOf9
  v9 := Tryd.zeroValue9
  t20 := Tryd.underlying20
  a20 := Tryd.isAgg20
  z20 := Tryd.sizeOf20
  v20 := Tryd.zeroValue20
  t31 := Tryd.underlying32
  a31 := Tryd.isAgg32
  z31 := Tryd.sizeOf32
  v31 := Tryd.zeroValue32
  t37 := Tryd.underlying38
  a37 := Tryd.isAgg38
  z37 := Tryd.sizeOf38
  v37 := Tryd.zeroValue38
  t70 := Tryd.underlying135
  a70 := Tryd.isAgg135
  z70 := Tryd.sizeOf135
  v70 := Tryd.zeroValue135
  t72 := Tryd.underlying137
  a72 := Tryd.isAgg137
  z72 := Tryd.sizeOf137
  v72 := Tryd.zeroValue137
  t75 := Tryd.underlying140
  a75 := Tryd.isAgg140
  z75 := Tryd.sizeOf140
  v75 := Tryd.zeroValue140
  t76 := Tryd.underlying141
  a76 := Tryd.isAgg141
  z76 := Tryd.sizeOf141
  v76 := Tryd.zeroValue141
  t127 := Tryd.underlying162
  a127 := Tryd.isAgg162
  z127 := Tryd.sizeOf162
  v127 := Tryd.zeroValue162
  t164 := Tryd.underlying181
  a164 := Tryd.isAgg181
  z164 := Tryd.sizeOf181
  v164 := Tryd.zeroValue181 }
theorem extra156 : Builder.Extra Tryd.prog ren156 := {
  sizeBuilder := by kernel_rfl
  liesBuilder := by kernel_rfl
  t5 := Tryd.underlying5
  a5 := Tryd.isAgg5
  z5 := Tryd.sizeOf5
  v5 := Tryd.zeroValue5
  infoByte := by kernel_rfl
  cellsByte := by kernel_rfl
  sizeByte := by kernel_rfl
  neB5 := by decide }
end R3

namespace R3
open Go Go.Proofs Go.RowKit Go.Shelf Sx
/-- The bytes of a list of strings. -/
def strsA : List AV → Option (List (List UInt8))
  | [] => some []
  | .s x :: r => (strsA r).map (x :: ·)
  | _ :: _ => none
def G61 (args : List AV) : Option AV :=
  match args with
  | [.nils, .s _] => some (.s [])
  | [.ro k l, .s sep] => if k = 1 then (strsA l).bind fun xs => if xs.length ≤ 1000000000 ∧ (Lib.join xs sep).length ≤ 1000000000 then some (.s (Lib.join xs sep)) else none else none
  | _ => none
theorem strsA_eq : ∀ {l : List AV} {xs : List (List UInt8)}, strsA l = some xs → l = xs.map .s
  | [], xs, h => by cases h; rfl
  | a :: r, xs, h => by
    cases a with
    | s x =>
      unfold strsA at h
      cases hr : strsA r with
      | none => rw [hr] at h; cases h
      | some ys => rw [hr] at h; cases h; rw [strsA_eq hr]; rfl
    | _ => cases h
theorem vals_strs {w : World} {F : Nat → Prop} : ∀ (xs : List (List UInt8)) (vs : List Value), vs.length = xs.length → (∀ (i : Nat) v x, xs[i]? = some x → vs[i]? = some v → Rel w F (.s x) v) → ∃ bs : List ByteArray, vs = bs.map .string ∧ bs.map (·.data.toList) = xs
  | [], [], _, _ => ⟨[], rfl, rfl⟩
  | x :: r, v :: vs, hl, h => by
    obtain ⟨bs, e1, e2⟩ := vals_strs r vs (by simpa using hl) (fun i v x h1 h2 => h (i + 1) v x h1 h2)
    have h0 := h 0 v x rfl rfl
    cases h0 with
    | s b => exact ⟨b :: bs, by rw [e1]; rfl, by rw [← e2]; rfl⟩
/-- **strings.Join.** -/
theorem gv61_ok {C : Cfg} (ho : (C.own 61).all Option.isNone = true) (args : List AV) (r : AV) (h : G61 args = some r) (w : World) (F : Nat → Prop) (vs : Array Value) (hG : GlobOk C w F) (hl : vs.size = args.length)
    (hv : ∀ (j : Nat) (a : AV) (v : Value), args[j]? = some a → vs[j]? = some v → Rel w F a v) : CallRuns Tryd.prog 61 vs w (PostOk C 61 w F r) := by
  have none' : ∀ (a : Option Addr) (c : Nat) (q : ByteArray), CallRuns Tryd.prog 61 #[.slice a 0 c, .string q] w (PostOk C 61 w F (.s [])) := fun a c q =>
    .inl ⟨Tryd.f61, (Tryd.f61.body).getD .skip, Tryd.func61, by kernel_rfl, by kernel_rfl, Calls.mono (Any.strings_Join_none lay156 extra156 a c q w) fun e w' he => by
      obtain ⟨rfl, rfl⟩ := he
      refine ⟨_, rfl, Ext.refl _, ?_⟩
      unfold ResOk
      rw [if_pos ho]
      exact .s ⟨#[]⟩⟩
  unfold G61 at h
  split at h
  · rename_i sep
    cases h
    match vs, hl, hv with
    | ⟨[x, y]⟩, _, hv =>
      have hx := hv 0 _ x rfl rfl
      have hy := hv 1 _ y rfl rfl
      cases hx
      cases hy with
      | s q => exact none' none 0 q
  · rename_i k l sep
    split at h
    · rename_i hk
      subst hk
      cases hxs : strsA l with
      | none => rw [hxs] at h; cases h
      | some xs =>
        rw [hxs, Option.bind_some] at h
        split at h
        · rename_i hle
          cases h
          have hleq := strsA_eq hxs
          match vs, hl, hv with
          | ⟨[x, y]⟩, _, hv =>
            have hx := hv 0 _ x rfl rfl
            have hy := hv 1 _ y rfl rfl
            cases hy with
            | s q =>
              cases hx with
              | ro0 _ a c =>
                have : xs = [] := by cases xs with
                  | nil => rfl
                  | cons _ _ => cases hleq
                subst this
                exact none' a c q
              | ro _ _ b off c ys hk hc hF hl' hx' h1 hr =>
                subst hleq
                obtain ⟨bs, e1, e2⟩ := vals_strs (w := w) (F := F) xs ys (by simpa using hl') (fun i v x g1 g2 => by
                  have hi : i < xs.length := by
                    rw [List.getElem?_eq_some_iff] at g1
                    exact g1.1
                  have := hr i 0 v (by simpa using hi) (by decide) (by simpa using g2)
                  have e : ((xs.map AV.s).getD i .un).cell 0 = .s x := by
                    rw [List.getD_eq_getElem?_getD, List.getElem?_map, g1]; rfl
                  rw [e] at this
                  exact this)
                subst e1
                subst e2
                have el : ((bs.map (·.data.toList)).map AV.s).length = bs.length := by simp
                rw [el]
                rw [el] at hc
                cases bs with
                | nil => exact none' _ c q
                | cons b0 bs =>
                  have hcells : ∀ (j : Nat) x, (b0 :: bs)[j]? = some x → w.cell? ⟨b, off + j, none⟩ = some (.string x) := fun j x hj => hx' j (.string x) (by rw [List.getElem?_map, hj]; rfl)
                  have hbk : b < w.heap.size := cell_lt (hcells 0 b0 rfl)
                  have hle1 : (b0 :: bs).length ≤ 1000000000 := by simpa using hle.1
                  refine .inl ⟨Tryd.f61, (Tryd.f61.body).getD .skip, Tryd.func61, by kernel_rfl, by kernel_rfl, Calls.mono (Any.strings_Join lay156 extra156 b off c (b0 :: bs) q w hcells hbk (by omega) hc (by have := hle.2; omega)) fun e w' he => ?_⟩
                  obtain ⟨rfl, hb⟩ := he
                  refine ⟨_, rfl, ⟨hb.os, hb.tape, hb.output, hb.size, hb.block⟩, ?_⟩
                  unfold ResOk
                  rw [if_pos ho]
                  exact Rel.s ⟨(Lib.join ((b0 :: bs).map (·.data.toList)) q.data.toList).toArray⟩
        · cases h
    · cases h
  · cases h
end R3
