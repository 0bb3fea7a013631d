/-
  What functions of this seat compute, and laws on plain data.
-/
import Derived.Test.YtgjfbalafdifgaaDoorLawA
import Derived.Test.YtgjfbalafdifgaaDoorSxC
import Derived.Test.YtgjfbalafdifgaaDoorTab
import Derived.Test.YtgjfbalafdifgaaDoorProg
set_option linter.unusedVariables false
set_option linter.unusedSimpArgs false
set_option linter.unusedSectionVars false
set_option linter.unnecessarySimpa false
namespace R3
open Go Go.Proofs Sx
variable {mx : Int}
theorem modNd_len (l : List Nd) (i : Nat) (f : Nd → Nd) : (modNd l i f).length = l.length := by simp [modNd]
/-- The parser comes to an end. -/
theorem parse_tot (ws : List Wd) : ∀ n,
    (∀ d p out, p.at' ≤ ws.length → 3 * (ws.length - p.at') + 1 ≤ n → ∃ r q, pList ws n d p out = some (r, q) ∧ p.at' ≤ q.at' ∧ q.at' ≤ ws.length ∧ q.nodes.length + p.at' ≤ p.nodes.length + q.at') ∧
    (∀ d w p, p.at' ≤ ws.length → 3 * (ws.length - p.at') + 3 ≤ n → ∃ r q, pNode ws n d w p = some (r, q) ∧ p.at' ≤ q.at' ∧ q.at' ≤ ws.length ∧ q.nodes.length + p.at' ≤ p.nodes.length + 1 + q.at') ∧
    (∀ d i w p, p.at' ≤ ws.length → 3 * (ws.length - p.at') + 2 ≤ n → ∃ r q, pBody ws n d i w p = some (r, q) ∧ p.at' ≤ q.at' ∧ q.at' ≤ ws.length ∧ q.nodes.length + p.at' ≤ p.nodes.length + q.at')
  | 0 => ⟨fun d p out _ h => by omega, fun d w p _ h => by omega, fun d i w p _ h => by omega⟩
  | n + 1 => by
    obtain ⟨hL, hN, hB⟩ := parse_tot ws n
    refine ⟨fun d p out hp hn => ?_, fun d w p hp hn => ?_, fun d i w p hp hn => ?_⟩
    · unfold pList
      split
      · exact ⟨_, _, rfl, by omega, hp, by omega⟩
      · rename_i w hw
        have hlt : p.at' < ws.length := (List.getElem?_eq_some_iff.1 hw).1
        split
        · exact ⟨_, _, rfl, by omega, hp, by omega⟩
        · obtain ⟨r, q, e, h1, h2, h3⟩ := hN d w { p with at' := p.at' + 1 } hlt (by show 3 * (ws.length - (p.at' + 1)) + 3 ≤ n; omega)
          rw [e]
          simp only at h1 h2 h3
          cases r with
          | bad a er => exact ⟨_, _, rfl, by omega, h2, by omega⟩
          | ok i =>
            obtain ⟨r', q', e', g1, g2, g3⟩ := hL d q (out ++ [i]) h2 (by omega)
            exact ⟨r', q', e', by omega, g2, by omega⟩
    · unfold pNode
      simp only
      split
      · split
        · exact ⟨_, _, rfl, Nat.le_refl _, hp, by simp only [List.length_append, List.length_singleton]; omega⟩
        · obtain ⟨r, q, e, h1, h2, h3⟩ := hB d p.nodes.length w { p with nodes := p.nodes ++ [newNd w] } hp (by show 3 * (ws.length - p.at') + 2 ≤ n; omega)
          rw [e]
          simp only [List.length_append, List.length_singleton] at h1 h2 h3
          cases r with
          | bad a er => exact ⟨_, _, rfl, by omega, h2, by omega⟩
          | ok i => exact ⟨_, _, rfl, h1, h2, by simp only [modNd_len]; omega⟩
      · exact ⟨_, _, rfl, Nat.le_refl _, hp, by simp only [modNd_len, List.length_append, List.length_singleton]; omega⟩
    · unfold pBody
      obtain ⟨r, q, e, h1, h2, h3⟩ := hL (d + 1) p [] hp (by omega)
      rw [e]
      cases r with
      | bad a er => exact ⟨_, _, rfl, h1, h2, h3⟩
      | ok body =>
        simp only
        split
        · exact ⟨_, _, rfl, h1, h2, by simp only [modNd_len]; omega⟩
        · rename_i v hv
          have hlt : q.at' < ws.length := (List.getElem?_eq_some_iff.1 hv).1
          split
          · split
            · exact ⟨_, _, rfl, h1, h2, by simp only [modNd_len]; omega⟩
            · obtain ⟨r', q', e', g1, g2, g3⟩ := hL (d + 1) { at' := q.at' + 1, nodes := modNd q.nodes i fun x => { x with body := some body } } [] hlt (by show 3 * (ws.length - (q.at' + 1)) + 1 ≤ n; omega)
              rw [e']
              simp only [modNd_len] at g1 g2 g3
              cases r' with
              | bad a er => exact ⟨_, _, rfl, by omega, g2, by omega⟩
              | ok els =>
                simp only
                split
                · exact ⟨_, _, rfl, by show p.at' ≤ q'.at'; omega, g2, by show (modNd _ _ _).length + p.at' ≤ p.nodes.length + q'.at'; rw [modNd_len]; omega⟩
                · rename_i u hu
                  have hlu : q'.at' < ws.length := (List.getElem?_eq_some_iff.1 hu).1
                  split
                  · exact ⟨_, _, rfl, by show p.at' ≤ q'.at'; omega, g2, by show (modNd _ _ _).length + p.at' ≤ p.nodes.length + q'.at'; rw [modNd_len]; omega⟩
                  · exact ⟨_, _, rfl, Nat.le_trans h1 (Nat.le_succ_of_le (Nat.le_trans (Nat.le_succ _) g1)), hlu, by simp only [modNd_len]; omega⟩
          · exact ⟨_, _, rfl, Nat.le_succ_of_le h1, hlt, by simp only [modNd_len]; omega⟩
/-- A template's tree, or its fault. -/
def treeOf (ws : List Wd) : Tr := match pList ws (3 * ws.length + 1) 0 ⟨0, []⟩ [] with
  | some x => treeR ws x
  | none => .bad 0 0
set_option maxRecDepth 10000 in
/-- **parse.tree.** -/
theorem tree_in {w : World} {F : Nat → Prop} {ws : List Wd} {aw : Option Addr} {cw : Nat} (hG : GlobOk (C mx) w F) (hw : Rel w F (.ro 5 (ws.map Wd.av)) (.slice aw ws.length cw)) (hws : ws.length ≤ 100000) (hnm : ∀ x ∈ ws, NmOk2 x.names) :
    CallsIn Fence.wide 9 Tryd.prog 62 #[.slice aw ws.length cw] w (TreePost w F (treeOf ws)) := by
  obtain ⟨r, q, e, h1, h2, h3⟩ := (parse_tot ws (3 * ws.length + 1)).1 0 ⟨0, []⟩ [] (Nat.zero_le _) (by simp)
  unfold treeOf
  rw [e]
  simp only [List.length_nil, Nat.zero_add, Nat.add_zero] at h3
  cases r with
  | bad a er => exact tree_bad1 hG hw hws e
  | ok top =>
    simp only [treeR]
    split
    · rename_i v hv
      obtain ⟨hlt, rfl⟩ := List.getElem?_eq_some_iff.1 hv
      exact tree_bad2 hG hw hws e hlt
    · rename_i hv
      exact tree_ok hG hw hws hnm e hv (by omega)
end R3

namespace R3
open Go Go.Proofs Go.RowKit Go.Shelf Sx
variable {mx : Int}
theorem relt3 {w : World} {F : Nat → Prop} {a : AV} {p q : Int} {v : Value} (h : Rel w F (.tu [a, .int p, .int q]) v) : ∃ x, v = .tuple #[x, .int .i64 p, .int .i64 q] ∧ Rel w F a x := by
  cases h with
  | tu _ vs hl hj =>
    match vs, hl, hj with
    | [v0, v1, v2], _, hj =>
      have h0 := hj 0 v0 rfl
      have h1 := hj 1 v1 rfl
      have h2 := hj 2 v2 rfl
      simp only [List.getD_cons_zero, List.getD_cons_succ] at h0 h1 h2
      cases h1; cases h2
      exact ⟨v0, rfl, h0⟩
/-- **lex.All.** -/
theorem lexAll_calls (s : ByteArray) (W : World) (hm : W.cell? ⟨1, 0, none⟩ = some (.int .i64 mx)) : Calls Tryd.prog 23 #[.string s] W fun e W' => Ext W W' ∧ ∃ v, e = .returned v ∧ Rel W' (fun b => b < W.heap.size → b = 1) (allAV s.data.toList) v := by
  refine Calls.mono (calls_sem (fit mx) (c := Tryd.f23.body.getD .skip) Tryd.func23 (by kernel_rfl) (s23 (mx := mx) s.data.toList) (by kernel_rfl) W (fun b => b = 1) #[.string s] (globOk1 hm) rfl (arg1 (.s s))) fun e w' he => ?_
  obtain ⟨v, rfl, hx, hr⟩ := he
  unfold ResOk at hr
  rw [if_pos (by kernel_rfl)] at hr
  exact ⟨hx, v, rfl, hr⟩
theorem results35 (T : Array Value) (W : World) (N : Nat) (x y a b : Value) (t2 : T[2]?.getD undef = .pointer (some ⟨N, 0, none⟩)) (t3 : T[3]?.getD undef = a) (t4 : T[4]?.getD undef = b) (h0 : W.heap[N]? = some (.cells #[x, y] 50)) :
    (results Tryd.f35 T).run Tryd.prog W = .ok (.tuple #[.agg #[x, y], a, b]) W := by
  have hr : Tryd.f35.results = #[.cell 2 50, .tmp 3, .tmp 4] := by kernel_rfl
  have l1 : (loadVar 50 ⟨N, 0, none⟩).run Tryd.prog W = .ok (.agg #[x, y]) W := by
    simp [loadVar, go_sem, (cell2 h0).1, (cell2 h0).2.1, Result.andThen]
  unfold results
  rw [hr]
  simp [t2, t3, t4, Sem.run_bind, asAddr, l1, Result.andThen]
/-- A template's tree, or its fault. -/
def parseT (l : List UInt8) : Tr := if l.length > 65536 then .bad 0 2 else if 0 ≤ (wordsW l).2 then .bad (wordsW l).2.toNat 4 else treeOf (wordsW l).1
set_option maxRecDepth 100000 in
set_option maxHeartbeats 4000000 in
theorem parse_bad (s : ByteArray) (w : World) (hm : w.cell? ⟨1, 0, none⟩ = some (.int .i64 mx)) (a er : Nat) (he : 0 < er) (hall : allAV s.data.toList = .tu [.nils, .int (a : Int), .int (er : Int)]) :
    CallsIn Fence.wide 10 Tryd.prog 35 #[.string s] w (TreePost w (fun b => b = 1) (.bad a er)) := by
  have hx1 : Ext w (w.alloc (.cells #[.slice none 0 0, .slice none 0 0] 50)) := Ext.push w _
  have hlex := lexAll_calls (mx := mx) s (w.alloc (.cells #[.slice none 0 0, .slice none 0 0] 50)) (ext_cell hx1 hm)
  rw [hall] at hlex
  have h1 : (decide (0 = (er : Int))) = false := by simp; omega
  have h2 : (decide ((er : Int) = 0)) = false := by simp; omega
  refine callsIn_of_wp Tryd.func35 rfl trivial ?_ rfl
  simp only [Tryd.ntmps35, List.size_toArray, List.length_cons, List.length_nil, Nat.reduceAdd, Nat.reduceSub, Array.replicate_succ, Array.replicate_zero, List.push_toArray, List.append_toArray, List.nil_append, List.cons_append]
  gi_wp2_with (refine ⟨trivial, ?_⟩; gi_at_call 23; refine (callsIn_wide.2 hlex).mono ?_; clear hlex hall; rintro e w2 ⟨hx2, v, rfl, hrv⟩; obtain ⟨x, rfl, hx0⟩ := relt3 hrv; cases hx0; have hA2 := (hx2.block w.heap.size (by simp)).trans (World.alloc_heap_new w (.cells #[.slice none 0 0, .slice none 0 0] 50)); have hx3 := hx1.trans hx2; obtain ⟨a0, a1, a2, a3⟩ := cell2 hA2)
  exact bodyPost_ret (results35 _ _ w.heap.size (.slice none 0 0) (.slice none 0 0) (.int .i64 (a : Int)) (.int .i64 (er : Int)) rfl rfl rfl (set_both _ _ hA2)) rfl ⟨ext_set2 hx3 _ _, rfl⟩
theorem globOkF {W : World} {m : Int} {F : Nat → Prop} (h : W.cell? ⟨1, 0, none⟩ = some (.int .i64 m)) (hF : F 1) : GlobOk (C m) W F := by
  intro g k e hg
  have hg : (bif Nat.beq g 1 then some (1, AV.int m) else none) = some (k, e) := hg
  cases h1 : Nat.beq g 1 with
  | false => rw [h1] at hg; cases hg
  | true =>
    rw [h1] at hg; cases hg
    obtain rfl := Nat.eq_of_beq_eq_true h1
    refine ⟨1, 0, rfl, hF, cell_lt h, fun j hj => ?_⟩
    obtain rfl : j = 0 := by omega
    exact ⟨.int .i64 m, h, rfl, Rel.int m⟩
theorem TreePost.shape {w w' : World} {F : Nat → Prop} {tr : Tr} {e : Ending} (h : TreePost w F tr e w') : Ext w w' ∧ ∃ (p q : Option Addr) (m1 m2 c1 c2 : Nat) (a er : Int), e = .returned (.tuple #[.agg #[.slice p m1 c1, .slice q m2 c2], .int .i64 a, .int .i64 er]) := by
  obtain ⟨h0, h⟩ := h
  cases tr with
  | bad a er => exact ⟨h0, _, _, _, _, _, _, _, _, h⟩
  | ok nodes top =>
    obtain ⟨ad2, n2, c2, ad3, c3, he, _⟩ := h
    exact ⟨h0, _, _, _, _, _, _, _, _, he⟩
theorem TreePost.mono {w1 w2 w3 w4 : World} {F F' : Nat → Prop} {tr : Tr} {e : Ending} (h : TreePost w2 F tr e w3) (hx : Ext w1 w2) (hx4 : Ext w1 w4) (hs : w4.heap.size = w3.heap.size) (hF : ∀ b, b < w3.heap.size → (b < w2.heap.size → F b) → (b < w1.heap.size → F' b)) (hb : ∀ b, b < w3.heap.size → (b < w2.heap.size → F b) → w4.heap[b]? = w3.heap[b]?) (hg : ∀ b, w2.heap.size ≤ b → b < w3.heap.size → w4.heap[b]? = w3.heap[b]?) : TreePost w1 F' tr e w4 := by
  obtain ⟨h0, h⟩ := h
  refine ⟨hx4, ?_⟩
  cases tr with
  | bad a er => exact h
  | ok nodes top =>
    obtain ⟨ad2, n2, c2, ad3, c3, he, hown, hfr, hr⟩ := h
    refine ⟨ad2, n2, c2, ad3, c3, he, hown.mono (fun b hlt hf => ⟨⟨hF b hlt hf.1, hf.2⟩, hb b hlt hf.1⟩) (fun b hb' => hg b (hfr b hb').1 (hfr b hb').2), fun g hg' => ?_, hr.mono fun b hlt hf => ⟨⟨hF b hlt hf.1, hf.2⟩, hb b hlt hf.1⟩⟩
    have := hfr g hg'
    have := hx.size
    omega
set_option maxRecDepth 100000 in
set_option maxHeartbeats 4000000 in
theorem parse_ok (s : ByteArray) (w : World) (hm : w.cell? ⟨1, 0, none⟩ = some (.int .i64 mx)) (ws : List Wd) (hws : ws.length ≤ 100000) (hnm : ∀ x ∈ ws, NmOk2 x.names) (hall : allAV s.data.toList = .tu [.ro 5 (ws.map Wd.av), .int 0, .int 0]) :
    CallsIn Fence.wide 10 Tryd.prog 35 #[.string s] w (TreePost w (fun b => b = 1) (treeOf ws)) := by
  have hx1 : Ext w (w.alloc (.cells #[.slice none 0 0, .slice none 0 0] 50)) := Ext.push w _
  have hlex := lexAll_calls (mx := mx) s (w.alloc (.cells #[.slice none 0 0, .slice none 0 0] 50)) (ext_cell hx1 hm)
  rw [hall] at hlex
  have hlt1 := cell_lt hm
  refine callsIn_of_wp Tryd.func35 rfl trivial ?_ rfl
  simp only [Tryd.ntmps35, List.size_toArray, List.length_cons, List.length_nil, Nat.reduceAdd, Nat.reduceSub, Array.replicate_succ, Array.replicate_zero, List.push_toArray, List.append_toArray, List.nil_append, List.cons_append]
  gi_wp2_with (first
    | (refine ⟨trivial, ?_⟩; gi_at_call 23; refine (callsIn_wide.2 hlex).mono ?_; clear hlex hall; rintro e w2 ⟨hx2, v, rfl, hrv⟩; obtain ⟨x, rfl, hx0⟩ := relt3 hrv; obtain ⟨ad, c, rfl, hc⟩ := rel_ro_shape hx0; rw [List.length_map] at hx0; have hA2 := (hx2.block w.heap.size (by simp)).trans (World.alloc_heap_new w (.cells #[.slice none 0 0, .slice none 0 0] 50)); have hx3 := hx1.trans hx2; have hlen : (ws.map Wd.av).length = ws.length := List.length_map ..; rw [hlen]; clear hlen hrv hc)
    | (refine ⟨trivial, ?_⟩; gi_at_call 62; refine (tree_in (mx := mx) (globOkF (ext_cell hx3 hm) (fun _ => rfl)) hx0 hws hnm).mono ?_; rintro e w3 htp; obtain ⟨hx4, p, q, m1, m2, c1, c2, a, er, rfl⟩ := htp.shape; have hs2 := hx2.size; have hA4 := (hx4.block w.heap.size (by simp at hs2; omega)).trans hA2; obtain ⟨a0, a1, a2, a3⟩ := cell2 hA4; clear hx0))
  refine bodyPost_ret (results35 _ _ w.heap.size (.slice p m1 c1) (.slice q m2 c2) (.int .i64 a) (.int .i64 er) rfl rfl rfl (set_both _ _ hA4)) rfl ?_
  have hsz : ∀ o, (w.alloc o).heap.size = w.heap.size + 1 := fun o => by simp
  rw [hsz] at hs2
  refine htp.mono hx3 (ext_set2 (hx3.trans hx4) _ _) (by rw [set_size, set_size]) (fun b hlt hF hb => hF (by omega) (by rw [hsz]; omega)) (fun b hlt hF => ?_) (fun b h1 h2 => ?_)
  · have hne : b ≠ w.heap.size := fun e => by
      have := hF (by omega) (by rw [hsz]; omega)
      omega
    exact (set_other hne).trans (set_other hne)
  · have hne : b ≠ w.heap.size := by omega
    exact (set_other hne).trans (set_other hne)
/-- **parse.Parse.** -/
theorem parse_in (s : ByteArray) (w : World) (hm : w.cell? ⟨1, 0, none⟩ = some (.int .i64 mx)) : CallsIn Fence.wide 10 Tryd.prog 35 #[.string s] w (TreePost w (fun b => b = 1) (parseT s.data.toList)) := by
  unfold parseT
  by_cases h1 : s.data.toList.length > 65536
  · rw [if_pos h1]
    exact parse_bad (mx := mx) s w hm 0 2 (by decide) (by unfold allAV; rw [if_pos h1]; rfl)
  · rw [if_neg h1]
    by_cases h2 : 0 ≤ (wordsW s.data.toList).2
    · rw [if_pos h2]
      exact parse_bad (mx := mx) s w hm _ 4 (by decide) (by unfold allAV; rw [if_neg h1, if_pos h2, Int.toNat_of_nonneg h2]; rfl)
    · rw [if_neg h2]
      refine parse_ok (mx := mx) s w hm _ ?_ ?_ (by unfold allAV; rw [if_neg h1, if_neg h2])
      · have := wordsF_len (s.data.toList.length + 1) s.data.toList 0 []
        simp only [List.length_nil] at this
        unfold wordsW
        omega
      · exact wordsF_nm2 _ _ _ _ fun w hw => by simp at hw
end R3

namespace R3
open Go Go.Proofs Go.RowKit Go.Shelf Sx
variable {mx : Int}
/-- What parse.Parse answers. -/
def trAV : Tr → AV
  | .bad a e => .tu [.ag [.nils, .nils], .int (a : Int), .int (e : Int)]
  | .ok nodes top => .tu [.ag [.ro 9 (nodes.map Nd.av), .ro 1 (numsAV top)], .int 0, .int 0]
def G35 (args : List AV) : Option AV :=
  match args with
  | [.s l] => some (trAV (parseT l))
  | _ => none
def G23 (args : List AV) : Option AV :=
  match args with
  | [.s l] => some (allAV l)
  | _ => none
theorem cellOf1 {mx : Int} {C : Cfg} (hgl : C.glob 1 = some (1, .int mx)) {w : World} {F : Nat → Prop} (hG : GlobOk C w F) : w.cell? ⟨1, 0, none⟩ = some (.int .i64 mx) ∧ F 1 := by
  obtain ⟨r, o, h1, h2, h3, h4⟩ := hG 1 1 _ hgl
  simp only [Value.pointer.injEq, Option.some.injEq, Addr.mk.injEq, Nat.add_zero] at h1
  obtain ⟨v, q1, q2, q3⟩ := h4 0 (by decide)
  obtain ⟨rfl, rfl, _⟩ := h1
  have q3 : Rel w F (.int mx) v := q3
  cases q3
  exact ⟨q1, h2⟩
theorem rel_pair2 {w : World} {F : Nat → Prop} {a b : AV} {x y : Value} (hx : Rel w F a x) (hy : Rel w F b y) (h1 : x.oneCell' = true) (h2 : y.oneCell' = true) : Rel w F (.ag [a, b]) (.agg #[x, y]) := by
  refine Rel.ag [a, b] [x, y] rfl (fun v hv => ?_) (fun j v hv => ?_)
  · simp only [List.mem_cons, List.not_mem_nil, or_false] at hv
    rcases hv with rfl | rfl
    · exact h1
    · exact h2
  · match j, hv with
    | 0, hv => cases hv; exact hx
    | 1, hv => cases hv; exact hy
    | j + 2, hv => simp at hv
theorem rel_tri {w : World} {F : Nat → Prop} {a b c : AV} {x y z : Value} (hx : Rel w F a x) (hy : Rel w F b y) (hz : Rel w F c z) : Rel w F (.tu [a, b, c]) (.tuple #[x, y, z]) := by
  refine Rel.tu [a, b, c] [x, y, z] rfl (fun j v hv => ?_)
  match j, hv with
  | 0, hv => cases hv; exact hx
  | 1, hv => cases hv; exact hy
  | 2, hv => cases hv; exact hz
  | j + 3, hv => simp at hv
theorem gv23_ok {C : Cfg} {mx : Int} (hgl : C.glob 1 = some (1, .int mx)) (ho : (C.own 23).all Option.isNone = true) (args : List AV) (r : AV) (h : G23 args = some r) (w : World) (F : Nat → Prop) (vs : Array Value) (hG : GlobOk C w F) (hl : vs.size = args.length)
    (hv : ∀ (j : Nat) (a : AV) (v : Value), args[j]? = some a → vs[j]? = some v → Rel w F a v) : CallRuns Tryd.prog 23 vs w (PostOk C 23 w F r) := by
  obtain ⟨hm, hF1⟩ := cellOf1 hgl hG
  unfold G23 at h
  split at h
  · cases h
    match vs, hl, hv with
    | ⟨[x]⟩, _, hv =>
      have hx := hv 0 _ x rfl rfl
      cases hx with
      | s q =>
        refine .inl ⟨Tryd.f23, (Tryd.f23.body).getD .skip, Tryd.func23, by kernel_rfl, by kernel_rfl, Calls.mono (lexAll_calls (mx := mx) q w hm) fun e w' he => ?_⟩
        obtain ⟨hx, v, rfl, hr⟩ := he
        refine ⟨_, rfl, hx, ?_⟩
        unfold ResOk
        rw [if_pos ho]
        exact hr.mono fun b _ hb => ⟨fun hlt => by rw [hb hlt]; exact hF1, rfl⟩
  · cases h
theorem gv35_ok {C : Cfg} {mx : Int} (hgl : C.glob 1 = some (1, .int mx)) (ho : (C.own 35).all Option.isNone = true) (args : List AV) (r : AV) (h : G35 args = some r) (w : World) (F : Nat → Prop) (vs : Array Value) (hG : GlobOk C w F) (hl : vs.size = args.length)
    (hv : ∀ (j : Nat) (a : AV) (v : Value), args[j]? = some a → vs[j]? = some v → Rel w F a v) : CallRuns Tryd.prog 35 vs w (PostOk C 35 w F r) := by
  obtain ⟨hm, hF1⟩ := cellOf1 hgl hG
  unfold G35 at h
  split at h
  · cases h
    match vs, hl, hv with
    | ⟨[x]⟩, _, hv =>
      have hx := hv 0 _ x rfl rfl
      cases hx with
      | s q =>
        refine .inl ⟨Tryd.f35, (Tryd.f35.body).getD .skip, Tryd.func35, by kernel_rfl, by kernel_rfl, Calls.mono (callsIn_wide.1 (parse_in (mx := mx) q w hm)) fun e w' he => ?_⟩
        obtain ⟨hx, hp⟩ := he
        generalize parseT q.data.toList = tr at hp ⊢
        cases tr with
        | bad a er =>
          obtain rfl := hp
          refine ⟨_, rfl, hx, ?_⟩
          unfold ResOk
          rw [if_pos ho]
          exact rel_tri (rel_pair2 .nils .nils rfl rfl) (.int _) (.int _)
        | ok nodes top =>
          obtain ⟨ad2, n2, c2, ad3, c3, rfl, hown, hfr, hr⟩ := hp
          refine ⟨_, rfl, hx, ?_⟩
          unfold ResOk
          rw [if_pos ho]
          refine rel_tri (rel_pair2 (hown.rel (fun b _ hb hlt => by rw [hb.1 hlt]; exact hF1) (fun g hg hlt => by have := (hfr g hg).1; omega)) (hr.mono fun b _ hb => ⟨fun hlt => by rw [hb.1 hlt]; exact hF1, rfl⟩) rfl rfl) (.int _) (.int _)
  · cases h
end R3

namespace R3Q
open Go Sx
def tyTab : List (Nat × Ty) := [
  (3, { size := 1, bytes := 8, kd := .int .i64, elem := 0, zero := [.int 0], fields := [], eqk := none }),
  (4, { size := 1, bytes := 1, kd := .bool, elem := 0, zero := [.b false], fields := [], eqk := none }),
  (9, { size := 1, bytes := 16, kd := .str, elem := 0, zero := [.s []], fields := [], eqk := none }),
  (23, { size := 1, bytes := 24, kd := .slice, elem := 36, zero := [.nils], fields := [], eqk := none }),
  (24, { size := 1, bytes := 8, kd := .int .i64, elem := 0, zero := [.int 0], fields := [], eqk := none }),
  (31, { size := 1, bytes := 1, kd := .int .u8, elem := 0, zero := [.u8 0], fields := [], eqk := none }),
  (32, { size := 1, bytes := 24, kd := .slice, elem := 9, zero := [.nils], fields := [], eqk := none }),
  (34, { size := 2, bytes := 32, kd := .struct, elem := 0, zero := [.b false, .nils], fields := [(0, 4), (1, 32)], eqk := none }),
  (36, { size := 5, bytes := 64, kd := .struct, elem := 0, zero := [.u8 0, .int 0, .s [], .b false, .nils], fields := [(0, 31), (1, 3), (2, 9), (3, 34)], eqk := none }),
  (47, { size := 1, bytes := 24, kd := .slice, elem := 61, zero := [.nils], fields := [], eqk := none }),
  (48, { size := 1, bytes := 24, kd := .slice, elem := 3, zero := [.nils], fields := [], eqk := none }),
  (50, { size := 2, bytes := 48, kd := .struct, elem := 0, zero := [.nils, .nils], fields := [(0, 47), (1, 48)], eqk := none }),
  (58, { size := 1, bytes := 1, kd := .int .u8, elem := 0, zero := [.u8 0], fields := [], eqk := none }),
  (59, { size := 1, bytes := 1, kd := .int .u8, elem := 0, zero := [.u8 0], fields := [], eqk := none }),
  (61, { size := 9, bytes := 120, kd := .struct, elem := 0, zero := [.u8 0, .int 0, .s [], .b false, .nils, .nils, .nils, .b false, .u8 0], fields := [(0, 58), (1, 3), (2, 9), (3, 34), (5, 48), (6, 48), (7, 4), (8, 59)], eqk := none }),
  (62, { size := 1, bytes := 24, kd := .slice, elem := 48, zero := [.nils], fields := [], eqk := none })
]
def planTab : List ((Nat × Nat) × (Plan × List Nat)) := [((11, 12), (.seq [(0, true), (1, true), (2, true), (3, true), (4, true), (5, true), (6, true), (7, true), (8, true), (9, true), (10, true), (11, true), (12, true), (13, true), (14, true), (15, true), (16, true), (17, true), (18, true), (19, true), (20, true), (21, true), (22, true), (23, true), (24, true), (25, true), (26, true), (27, true), (28, true), (29, true), (30, true), (31, true), (32, true)] .done, [])),
  ((11, 20), (.seq [(0, true), (1, true), (2, true), (3, true), (4, true), (5, true), (6, true), (7, true), (8, true), (9, true), (10, true), (11, true), (12, true), (13, false), (14, false), (15, true)] .done, []))]
def stopTab : List (Nat × List (Nat × List (Nat × Option (Nat × Nat)) × List (Nat × List (Nat × Nat × Nat)))) := [(11, [(9, [(3, none), (6, none), (8, none), (9, none), (10, none)], [(3, [])]), (10, [(3, none), (6, none), (8, none), (9, none), (10, none)], [(3, [])]), (18, [(3, none), (8, none), (9, none), (11, none), (12, some (48, 1)), (13, none)], [(3, [])]), (22, [(3, none), (8, none), (9, none), (11, none), (12, some (48, 1)), (14, none)], [(3, [])]), (25, [(3, none), (8, none), (9, none), (11, none), (12, some (48, 1)), (14, none), (15, none)], [(3, [])]), (32, [(3, none), (8, none), (9, none), (11, none), (17, none)], [(3, [])])])]
def ownTab : List (Nat × List (Option (Nat × Nat))) := []
def sigTab : List (Nat × Sig) := []
def truncTab : List (Nat × List Nat) := []
def C (mx : Int) : Cfg := mkCfg tyTab planTab stopTab ownTab truncTab (fun g => bif Nat.beq g 1 then some (1, .int mx) else none) sigTab (fun g => bif Nat.beq g 23 then some R3.G23 else bif Nat.beq g 35 then some R3.G35 else none)
end R3Q

open Go Go.Proofs Sx
namespace R3Q
theorem tys : tyTab.all (fun p => tyB Tryd.prog p.1 p.2) = true := by kernel_rfl
theorem fns (mx : Int) : fnsB (C mx) 0 Tryd.prog.funcs.toList = true := by kernel_rfl
theorem gvs (mx : Int) : ∀ (g : Nat) (G : List AV → Option AV), (C mx).gv g = some G → ((C mx).own g).all Option.isNone = true → ∀ (args : List AV) (r : AV), G args = some r → ∀ (w : World) (F : Nat → Prop) (vs : Array Value), GlobOk (C mx) w F → vs.size = args.length →
      (∀ (j : Nat) (a : AV) (v : Value), args[j]? = some a → vs[j]? = some v → Rel w F a v) → CallRuns Tryd.prog g vs w (PostOk (C mx) g w F r) := by
  intro g G h ho args r hr w F vs hG hl hv
  have h : (bif Nat.beq g 23 then some R3.G23 else bif Nat.beq g 35 then some R3.G35 else none) = some G := h
  cases h1 : Nat.beq g 23 with
  | true =>
    rw [h1] at h; cases h
    obtain rfl := Nat.eq_of_beq_eq_true h1
    exact R3.gv23_ok (mx := mx) rfl ho args r hr w F vs hG hl hv
  | false =>
    rw [h1] at h
    cases h2 : Nat.beq g 35 with
    | true =>
      rw [h2] at h; cases h
      obtain rfl := Nat.eq_of_beq_eq_true h2
      exact R3.gv35_ok (mx := mx) rfl ho args r hr w F vs hG hl hv
    | false => rw [h2] at h; cases h
theorem fit (mx : Int) : Fit (C mx) Tryd.prog := Fit.of (tab := tyTab) rfl tys (fns mx) R3.mixed (ext_of R3.idxs R3.run145) (gvs mx)
theorem maxLen {W : World} (h : W.ShapedOpen Tryd.prog) : ∃ m, W.cell? ⟨1, 0, none⟩ = some (.int .i64 m) := R3.maxLen h
theorem globOk {W : World} {m : Int} (h : W.cell? ⟨1, 0, none⟩ = some (.int .i64 m)) : GlobOk (C m) W (fun _ => True) := by
  intro g k e hg
  have hg : (bif Nat.beq g 1 then some (1, AV.int m) else none) = some (k, e) := hg
  cases h1 : Nat.beq g 1 with
  | false => rw [h1] at hg; cases hg
  | true =>
    rw [h1] at hg; cases hg
    obtain rfl := Nat.eq_of_beq_eq_true h1
    refine ⟨1, 0, rfl, trivial, cell_lt h, fun j hj => ?_⟩
    obtain rfl : j = 0 := by omega
    exact ⟨.int .i64 m, h, rfl, Rel.int m⟩
def flatV := R3.flatV
end R3Q

namespace R3Q
open Go Go.Proofs Sx
variable {mx : Int}
noncomputable def body11 : Code := (Tryd.f11.body).getD .skip
section
variable (run : RunT) (a0 a1 : AV) (a2 a3 : Int) (a4 a5 : AV)
noncomputable def K11_9 : List Item := (kAt 9 body11 []).getD []
def S11_9 : St := St.ofL [(3, .cell (.ptr 3 0)), (6, .cell (.val (a0))), (8, .cell (.val (a1))), (9, .cell (.val (.int a2))), (10, .cell (.val (.int a3)))] [(3, some [.val (a4), .val (a5)])]
noncomputable def F11_9 : Option AV := run K11_9 (S11_9 a0 a1 a2 a3 a4 a5)
end
section
variable (run : RunT) (a0 a1 : AV) (a2 a3 : Int) (a4 a5 : AV)
noncomputable def K11_10 : List Item := (kAt 10 body11 []).getD []
def S11_10 : St := St.ofL [(3, .cell (.ptr 3 0)), (6, .cell (.val (a0))), (8, .cell (.val (a1))), (9, .cell (.val (.int a2))), (10, .cell (.val (.int a3)))] [(3, some [.val (a4), .val (a5)])]
noncomputable def F11_10 : Option AV := run K11_10 (S11_10 a0 a1 a2 a3 a4 a5)
end
section
variable (run : RunT) (a0 : AV) (a1 : Int) (a2 a3 : List AV) (a4 : Int) (a5 a6 : AV)
noncomputable def K11_18 : List Item := (kAt 18 body11 []).getD []
def S11_18 : St := St.ofL [(3, .cell (.ptr 3 0)), (8, .cell (.val (a0))), (9, .cell (.val (.int a1))), (11, .cell (.own 102 3 1 a2)), (12, .cell (.own 300012 48 1 a3)), (13, .cell (.val (.int a4)))] [(3, some [.val (a5), .val (a6)])]
noncomputable def F11_18 : Option AV := run K11_18 (S11_18 a0 a1 a2 a3 a4 a5 a6)
end
section
variable (run : RunT) (a0 : AV) (a1 : Int) (a2 a3 : List AV) (a4 : Int) (a5 a6 : AV)
noncomputable def K11_22 : List Item := (kAt 22 body11 []).getD []
def S11_22 : St := St.ofL [(3, .cell (.ptr 3 0)), (8, .cell (.val (a0))), (9, .cell (.val (.int a1))), (11, .cell (.own 102 3 1 a2)), (12, .cell (.own 300012 48 1 a3)), (14, .cell (.val (.int a4)))] [(3, some [.val (a5), .val (a6)])]
noncomputable def F11_22 : Option AV := run K11_22 (S11_22 a0 a1 a2 a3 a4 a5 a6)
end
section
variable (run : RunT) (a0 : AV) (a1 : Int) (a2 a3 : List AV) (a4 a5 : Int) (a6 a7 : AV)
noncomputable def K11_25 : List Item := (kAt 25 body11 []).getD []
def S11_25 : St := St.ofL [(3, .cell (.ptr 3 0)), (8, .cell (.val (a0))), (9, .cell (.val (.int a1))), (11, .cell (.own 102 3 1 a2)), (12, .cell (.own 300012 48 1 a3)), (14, .cell (.val (.int a4))), (15, .cell (.val (.int a5)))] [(3, some [.val (a6), .val (a7)])]
noncomputable def F11_25 : Option AV := run K11_25 (S11_25 a0 a1 a2 a3 a4 a5 a6 a7)
end
section
variable (run : RunT) (a0 : AV) (a1 : Int) (a2 : List AV) (a3 : Int) (a4 a5 : AV)
noncomputable def K11_32 : List Item := (kAt 32 body11 []).getD []
def S11_32 : St := St.ofL [(3, .cell (.ptr 3 0)), (8, .cell (.val (a0))), (9, .cell (.val (.int a1))), (11, .cell (.own 102 3 1 a2)), (17, .cell (.val (.int a3)))] [(3, some [.val (a4), .val (a5)])]
noncomputable def F11_32 : Option AV := run K11_32 (S11_32 a0 a1 a2 a3 a4 a5)
end
noncomputable def X11 (call : CallT) (run : RunT) (a0 : List UInt8) : Option AV :=
  (call 34 []).bind fun v1 => (unop .not (v1)).bind fun v2 => condM (v2)
  (some (.b false))
  ((call 35 [.s a0]).bind fun v3 => (tupI (v3) 0).bind fun v4 => (tupI (v3) 1).bind fun v5 => (tupI (v3) 2).bind fun v6 => (AV.asAg 2 (v4)).bind fun v7 => (binI .neq (v6) (.int 0)).bind fun v8 => condM (v8)
  ((lenR (v7.getD 0 .un)).bind fun v9 => (binI .eql (v9) (.int 0)).bind fun v10 => (selW (v10) true ((lenR (v7.getD 1 .un)).bind fun v11 => (binI .eql (v11) (.int 0)).bind fun v12 => some (v12)) (.b false)).bind fun v13 => some (v13))
  ((call 23 [.s a0]).bind fun v14 => (tupI (v14) 0).bind fun v15 => (tupI (v14) 1).bind fun v16 => (tupI (v14) 2).bind fun v17 => F11_9 run (v15) (v17) 0 0 (v7.getD 0 .un) (v7.getD 1 .un)))
section
variable (call : CallT) (run : RunT) (a0 : List UInt8)
theorem text11 : unr (C mx) call run 11 Tryd.f11 400 [.code body11] (initF (C mx) 11 Tryd.f11.ntmps [.s a0]) = X11 call run a0 := by
  kernel_rfl
theorem c11 {r : AV} (h : X11 (semCall (C mx) Tryd.prog) (semRun (C mx) Tryd.prog 11 Tryd.f11) a0 = some r) : semCall (C mx) Tryd.prog 11 [.s a0] = some r :=
  semCall_unr (fn := Tryd.f11) (c := body11) (by kernel_rfl) (by kernel_rfl) 400 (by kernel_rfl) ((text11 _ _ a0).trans h)
end
noncomputable def X11_9 (call : CallT) (run : RunT) (a0 a1 : AV) (a2 a3 : Int) (a4 a5 : AV) : Option AV :=
  (lenR (a0)).bind fun v1 => (binI .lss (.int a3) (v1)).bind fun v2 => condM (v2)
  ((idx 5 (a0) (.int a3)).bind fun v3 => (binI .eql (AV.cell (v3) 0) (.u8 3)).bind fun v4 => (selW (v4) false ((idx 5 (a0) (.int a3)).bind fun v5 => (binI .eql (AV.cell (v5) 0) (.u8 5)).bind fun v6 => some (v6)) (.b true)).bind fun v7 => condM (v7)
  (F11_10 run (a0) (a1) a2 a3 (a4) (a5))
  ((lenR (a4)).bind fun v8 => (binI .geq (.int a2) (v8)).bind fun v9 => (selW (v9) false ((idx 9 (a4) (.int a2)).bind fun v10 => (idx 5 (a0) (.int a3)).bind fun v11 => (binI .neq (AV.cell (v10) 1) (AV.cell (v11) 1)).bind fun v12 => some (v12)) (.b true)).bind fun v13 => (selW (v13) false ((idx 9 (a4) (.int a2)).bind fun v14 => (idx 5 (a0) (.int a3)).bind fun v15 => (binS .neq (AV.cell (v14) 2) (AV.cell (v15) 2)).bind fun v16 => some (v16)) (.b true)).bind fun v17 => condM (v17)
  (some (.b false))
  (F11_10 run (a0) (a1) (w64 (a2 + 1)) a3 (a4) (a5))))
  ((lenR (a4)).bind fun v18 => (mk 8 (.int 0) (v18) (v18)).bind fun v19 => (AV.one (a5)).bind fun v20 => F11_18 run (a1) a2 v19 (([v20] : List AV)) 0 (a4) (a5))
section
variable (call : CallT) (run : RunT) (a0 a1 : AV) (a2 a3 : Int) (a4 a5 : AV)
theorem text11_9 : step (C mx) call 11 Tryd.f11 (unr (C mx) call run 11 Tryd.f11 400) K11_9 (S11_9 a0 a1 a2 a3 a4 a5) = X11_9 call run a0 a1 a2 a3 a4 a5 := by
  kernel_rfl
end
noncomputable def X11_10 (call : CallT) (run : RunT) (a0 a1 : AV) (a2 a3 : Int) (a4 a5 : AV) : Option AV :=
  F11_9 run (a0) (a1) a2 (w64 (a3 + 1)) (a4) (a5)
section
variable (call : CallT) (run : RunT) (a0 a1 : AV) (a2 a3 : Int) (a4 a5 : AV)
theorem text11_10 : step (C mx) call 11 Tryd.f11 (unr (C mx) call run 11 Tryd.f11 400) K11_10 (S11_10 a0 a1 a2 a3 a4 a5) = X11_10 call run a0 a1 a2 a3 a4 a5 := by
  kernel_rfl
end
noncomputable def X11_18 (call : CallT) (run : RunT) (a0 : AV) (a1 : Int) (a2 a3 : List AV) (a4 : Int) (a5 a6 : AV) : Option AV :=
  (lenR (a5)).bind fun v1 => (binI .lss (.int a4) (v1)).bind fun v2 => condM (v2)
  ((idx 9 (a5) (.int a4)).bind fun v3 => (idx 9 (a5) (.int a4)).bind fun v4 => (AV.one (AV.cell (v3) 5)).bind fun v5 => (AV.one (AV.cell (v4) 6)).bind fun v6 => (app 24 1 a3 (.ro 1 (([v5, v6] : List AV)))).bind fun v7 => F11_18 run (a0) a1 a2 v7 (w64 (a4 + 1)) (a5) (a6))
  (F11_22 run (a0) a1 a2 a3 0 (a5) (a6))
section
variable (call : CallT) (run : RunT) (a0 : AV) (a1 : Int) (a2 a3 : List AV) (a4 : Int) (a5 a6 : AV)
theorem text11_18 : step (C mx) call 11 Tryd.f11 (unr (C mx) call run 11 Tryd.f11 400) K11_18 (S11_18 a0 a1 a2 a3 a4 a5 a6) = X11_18 call run a0 a1 a2 a3 a4 a5 a6 := by
  kernel_rfl
end
noncomputable def X11_22 (call : CallT) (run : RunT) (a0 : AV) (a1 : Int) (a2 a3 : List AV) (a4 : Int) (a5 a6 : AV) : Option AV :=
  condM (.b (decide (a4 < ((a3.length : Int)))))
  (F11_25 run (a0) a1 a2 a3 a4 0 (a5) (a6))
  (F11_32 run (a0) a1 a2 0 (a5) (a6))
section
variable (call : CallT) (run : RunT) (a0 : AV) (a1 : Int) (a2 a3 : List AV) (a4 : Int) (a5 a6 : AV)
theorem text11_22 : step (C mx) call 11 Tryd.f11 (unr (C mx) call run 11 Tryd.f11 400) K11_22 (S11_22 a0 a1 a2 a3 a4 a5 a6) = X11_22 call run a0 a1 a2 a3 a4 a5 a6 := by
  kernel_rfl
end
noncomputable def X11_25 (call : CallT) (run : RunT) (a0 : AV) (a1 : Int) (a2 a3 : List AV) (a4 a5 : Int) (a6 a7 : AV) : Option AV :=
  (inN a3.length (.int a4)).bind fun v1 => (lenR (AV.cell (a3.getD v1 .un) 0)).bind fun v2 => (binI .lss (.int a5) (v2)).bind fun v3 => condM (v3)
  ((inN a3.length (.int a4)).bind fun v4 => (idx 1 (AV.cell (a3.getD v4 .un) 0) (.int a5)).bind fun v5 => (binI .lss (AV.cell (v5) 0) (.int 0)).bind fun v6 => (selW (v6) false ((binI .geq (AV.cell (v5) 0) (.int ((a2.length : Int)))).bind fun v7 => some (v7)) (.b true)).bind fun v8 => (selW (v8) false ((selW (.b (decide (a5 > 0))) true ((inN a3.length (.int a4)).bind fun v9 => (idx 1 (AV.cell (a3.getD v9 .un) 0) (.int (w64 (a5 - 1)))).bind fun v10 => (binI .leq (AV.cell (v5) 0) (AV.cell (v10) 0)).bind fun v11 => some (v11)) (.b false)).bind fun v12 => some (v12)) (.b true)).bind fun v13 => (selW (v13) false ((selW (.b (decide (a4 > 0))) true ((binI .leq (AV.cell (v5) 0) (.int (w64 (Int.tdiv (w64 (a4 - 1)) 2)))).bind fun v14 => some (v14)) (.b false)).bind fun v15 => some (v15)) (.b true)).bind fun v16 => condM (v16)
  (some (.b false))
  ((inN a2.length (AV.cell (v5) 0)).bind fun v17 => (binI .add (AV.cell (a2.getD v17 .un) 0) (.int 1)).bind fun v18 => (inN a2.length (AV.cell (v5) 0)).bind fun v19 => (AV.one (v18)).bind fun v20 => F11_25 run (a0) a1 (a2.set v19 (v20)) a3 a4 (w64 (a5 + 1)) (a6) (a7)))
  (F11_22 run (a0) a1 a2 a3 (w64 (a4 + 1)) (a6) (a7))
section
variable (call : CallT) (run : RunT) (a0 : AV) (a1 : Int) (a2 a3 : List AV) (a4 a5 : Int) (a6 a7 : AV)
theorem text11_25 : step (C mx) call 11 Tryd.f11 (unr (C mx) call run 11 Tryd.f11 400) K11_25 (S11_25 a0 a1 a2 a3 a4 a5 a6 a7) = X11_25 call run a0 a1 a2 a3 a4 a5 a6 a7 := by
  kernel_rfl
end
noncomputable def X11_32 (call : CallT) (run : RunT) (a0 : AV) (a1 : Int) (a2 : List AV) (a3 : Int) (a4 a5 : AV) : Option AV :=
  condM (.b (decide (a3 < ((a2.length : Int)))))
  ((inN a2.length (.int a3)).bind fun v1 => (binI .neq (AV.cell (a2.getD v1 .un) 0) (.int 1)).bind fun v2 => condM (v2)
  (some (.b false))
  (F11_32 run (a0) a1 a2 (w64 (a3 + 1)) (a4) (a5)))
  ((binI .eql (a0) (.int 0)).bind fun v3 => (selW (v3) true ((lenR (a4)).bind fun v4 => (binI .eql (.int a1) (v4)).bind fun v5 => some (v5)) (.b false)).bind fun v6 => some (v6))
section
variable (call : CallT) (run : RunT) (a0 : AV) (a1 : Int) (a2 : List AV) (a3 : Int) (a4 a5 : AV)
theorem text11_32 : step (C mx) call 11 Tryd.f11 (unr (C mx) call run 11 Tryd.f11 400) K11_32 (S11_32 a0 a1 a2 a3 a4 a5) = X11_32 call run a0 a1 a2 a3 a4 a5 := by
  kernel_rfl
end
section
variable (a0 a1 : AV) (a2 a3 : Int) (a4 a5 : AV)
theorem r11_9 {r : AV} (h : X11_9 (semCall (C mx) Tryd.prog) (semRun (C mx) Tryd.prog 11 Tryd.f11) a0 a1 a2 a3 a4 a5 = some r) : F11_9 (semRun (C mx) Tryd.prog 11 Tryd.f11) a0 a1 a2 a3 a4 a5 = some r :=
  semRun_unr 400 ((text11_9 _ _ a0 a1 a2 a3 a4 a5).trans h)
end
section
variable (a0 a1 : AV) (a2 a3 : Int) (a4 a5 : AV)
theorem r11_10 {r : AV} (h : X11_10 (semCall (C mx) Tryd.prog) (semRun (C mx) Tryd.prog 11 Tryd.f11) a0 a1 a2 a3 a4 a5 = some r) : F11_10 (semRun (C mx) Tryd.prog 11 Tryd.f11) a0 a1 a2 a3 a4 a5 = some r :=
  semRun_unr 400 ((text11_10 _ _ a0 a1 a2 a3 a4 a5).trans h)
end
section
variable (a0 : AV) (a1 : Int) (a2 a3 : List AV) (a4 : Int) (a5 a6 : AV)
theorem r11_18 {r : AV} (h : X11_18 (semCall (C mx) Tryd.prog) (semRun (C mx) Tryd.prog 11 Tryd.f11) a0 a1 a2 a3 a4 a5 a6 = some r) : F11_18 (semRun (C mx) Tryd.prog 11 Tryd.f11) a0 a1 a2 a3 a4 a5 a6 = some r :=
  semRun_unr 400 ((text11_18 _ _ a0 a1 a2 a3 a4 a5 a6).trans h)
end
section
variable (a0 : AV) (a1 : Int) (a2 a3 : List AV) (a4 : Int) (a5 a6 : AV)
theorem r11_22 {r : AV} (h : X11_22 (semCall (C mx) Tryd.prog) (semRun (C mx) Tryd.prog 11 Tryd.f11) a0 a1 a2 a3 a4 a5 a6 = some r) : F11_22 (semRun (C mx) Tryd.prog 11 Tryd.f11) a0 a1 a2 a3 a4 a5 a6 = some r :=
  semRun_unr 400 ((text11_22 _ _ a0 a1 a2 a3 a4 a5 a6).trans h)
end
section
variable (a0 : AV) (a1 : Int) (a2 a3 : List AV) (a4 a5 : Int) (a6 a7 : AV)
theorem r11_25 {r : AV} (h : X11_25 (semCall (C mx) Tryd.prog) (semRun (C mx) Tryd.prog 11 Tryd.f11) a0 a1 a2 a3 a4 a5 a6 a7 = some r) : F11_25 (semRun (C mx) Tryd.prog 11 Tryd.f11) a0 a1 a2 a3 a4 a5 a6 a7 = some r :=
  semRun_unr 400 ((text11_25 _ _ a0 a1 a2 a3 a4 a5 a6 a7).trans h)
end
section
variable (a0 : AV) (a1 : Int) (a2 : List AV) (a3 : Int) (a4 a5 : AV)
theorem r11_32 {r : AV} (h : X11_32 (semCall (C mx) Tryd.prog) (semRun (C mx) Tryd.prog 11 Tryd.f11) a0 a1 a2 a3 a4 a5 = some r) : F11_32 (semRun (C mx) Tryd.prog 11 Tryd.f11) a0 a1 a2 a3 a4 a5 = some r :=
  semRun_unr 400 ((text11_32 _ _ a0 a1 a2 a3 a4 a5).trans h)
end
end R3Q

namespace R3Q
open Go Go.Proofs Sx
variable {mx : Int}
noncomputable def body34 : Code := (Tryd.f34.body).getD .skip
noncomputable def X34 (call : CallT) (run : RunT)  : Option AV :=
  (call 35 [.s [123, 123, 120, 125, 125]]).bind fun v1 => (tupI (v1) 0).bind fun v2 => (tupI (v1) 1).bind fun v3 => (tupI (v1) 2).bind fun v4 => (AV.asAg 2 (v2)).bind fun v5 => (binI .eql (v4) (.int 0)).bind fun v6 => (selW (v6) true ((lenR (v5.getD 0 .un)).bind fun v7 => (binI .eql (v7) (.int 1)).bind fun v8 => some (v8)) (.b false)).bind fun v9 => (selW (v9) true ((idx 9 (v5.getD 0 .un) (.int 0)).bind fun v10 => (binI .eql (AV.cell (v10) 0) (.u8 1)).bind fun v11 => some (v11)) (.b false)).bind fun v12 => (selW (v12) true ((lenR (v5.getD 1 .un)).bind fun v13 => (binI .eql (v13) (.int 1)).bind fun v14 => some (v14)) (.b false)).bind fun v15 => some (v15)
section
variable (call : CallT) (run : RunT) 
theorem text34 : unr (C mx) call run 34 Tryd.f34 400 [.code body34] (initF (C mx) 34 Tryd.f34.ntmps []) = X34 call run  := by
  kernel_rfl
theorem c34 {r : AV} (h : X34 (semCall (C mx) Tryd.prog) (semRun (C mx) Tryd.prog 34 Tryd.f34)  = some r) : semCall (C mx) Tryd.prog 34 [] = some r :=
  semCall_unr (fn := Tryd.f34) (c := body34) (by kernel_rfl) (by kernel_rfl) 400 (by kernel_rfl) ((text34 _ _ ).trans h)
end
end R3Q

namespace R3
open Go Go.Proofs Sx
/-- What stays of a word in its node. -/
def Nd.key (n : Nd) : Nat × List UInt8 := (n.at', n.text)
def Wd.key (w : Wd) : Nat × List UInt8 := (w.at', w.text)
def Wd.isN (w : Wd) : Bool := !(w.kind == 3 || w.kind == 5)
def KeyOk (ws : List Wd) (p : Ps) : Prop := p.nodes.map Nd.key = ((ws.take p.at').filter Wd.isN).map Wd.key
theorem modNd_key {l : List Nd} {i : Nat} {f : Nd → Nd} (hf : ∀ x, (f x).key = x.key) : (modNd l i f).map Nd.key = l.map Nd.key := by
  unfold modNd
  apply List.ext_getElem
  · simp
  · intro j h1 h2
    simp only [List.getElem_map, List.getElem_modify]
    split
    · exact hf _
    · rfl
theorem take_succ_key {ws : List Wd} {i : Nat} {w : Wd} (h : ws[i]? = some w) : ((ws.take (i + 1)).filter Wd.isN).map Wd.key = ((ws.take i).filter Wd.isN).map Wd.key ++ (if w.isN then [w.key] else []) := by
  rw [List.take_add_one, h]
  simp only [Option.toList_some, List.filter_append, List.map_append]
  congr 1
  cases h2 : w.isN <;> simp [h2]
theorem parse_key (ws : List Wd) : ∀ n,
    (∀ d p out x q, pList ws n d p out = some (.ok x, q) → KeyOk ws p → KeyOk ws q ∧ ∀ w, ws[q.at']? = some w → w.isN = false) ∧
    (∀ d w p x q, pNode ws n d w p = some (.ok x, q) → p.nodes.map Nd.key ++ [w.key] = ((ws.take p.at').filter Wd.isN).map Wd.key → KeyOk ws q) ∧
    (∀ d i w p x q, pBody ws n d i w p = some (.ok x, q) → KeyOk ws p → KeyOk ws q)
  | 0 => ⟨fun d p out x q h => by simp [pList] at h, fun d w p x q h => by simp [pNode] at h, fun d i w p x q h => by simp [pBody] at h⟩
  | n + 1 => by
    obtain ⟨hL, hN, hB⟩ := parse_key ws n
    refine ⟨fun d p out x q h hp => ?_, fun d w p x q h hp => ?_, fun d i w p x q h hp => ?_⟩
    · unfold pList at h
      split at h
      · rename_i hw
        cases h
        exact ⟨hp, fun w hw' => by rw [hw] at hw'; cases hw'⟩
      · rename_i w hw
        split at h
        · rename_i hk
          cases h
          exact ⟨hp, fun w' hw' => by rw [hw] at hw'; cases hw'; simp [Wd.isN, hk]⟩
        · rename_i hk
          split at h
          · cases h
          · cases h
          · rename_i i q1 e
            refine hL _ _ _ _ _ h (hN _ _ _ _ _ e ?_)
            have hi : w.isN = true := by simpa [Wd.isN] using hk
            show _ = ((ws.take (p.at' + 1)).filter Wd.isN).map Wd.key
            rw [take_succ_key hw, hi, if_pos rfl, ← hp]
    · unfold pNode at h
      simp only at h
      have h0 : KeyOk ws { p with nodes := p.nodes ++ [newNd w] } := by
        show (p.nodes ++ [newNd w]).map Nd.key = _
        rw [List.map_append, ← hp]
        rfl
      split at h
      · split at h
        · cases h
        · split at h
          · cases h
          · cases h
          · rename_i e; cases h
            have := hB _ _ _ _ _ _ e h0
            exact (modNd_key (by intro x; rfl)).trans this
      · cases h
        exact (modNd_key (by intro x; rfl)).trans h0
    · unfold pBody at h
      split at h
      · cases h
      · cases h
      · rename_i body q1 e
        obtain ⟨h1, hs1⟩ := hL _ _ _ _ _ e hp
        simp only at h
        have h2 : KeyOk ws { q1 with nodes := modNd q1.nodes i fun x => { x with body := some body } } := (modNd_key (by intro x; rfl)).trans h1
        have step : ∀ (q : Ps) (v : Wd), KeyOk ws q → ws[q.at']? = some v → v.isN = false → KeyOk ws { q with at' := q.at' + 1 } := fun q v hq hv hn => by
          show _ = ((ws.take (q.at' + 1)).filter Wd.isN).map Wd.key
          rw [take_succ_key hv, hn]
          exact hq.trans (by simp)
        split at h
        · cases h
        · rename_i v hv
          have hv' := hs1 v hv
          split at h
          · split at h
            · cases h
            · split at h
              · cases h
              · cases h
              · rename_i els r1 e2
                obtain ⟨h3, hs3⟩ := hL _ _ _ _ _ e2 (step _ v h2 hv hv')
                have h4 : KeyOk ws { r1 with nodes := modNd r1.nodes i fun x => { x with els := some els, has := true } } := (modNd_key (by intro x; rfl)).trans h3
                split at h
                · cases h
                · rename_i u hu
                  split at h
                  · cases h
                  · cases h
                    exact step _ u h4 hu (hs3 u hu)
          · cases h
            exact step _ v h2 hv hv'
end R3

namespace R3
open Go Go.Proofs Sx
/-- A list of numbers that go up. -/
def Asc (lo hi : Nat) (l : List Nat) : Prop := l.Pairwise (· < ·) ∧ ∀ x ∈ l, lo ≤ x ∧ x < hi
/-- How often a number stands in the nodes' lists. -/
def cntN (k : Nat) (x : Nd) : Nat := (x.body.getD []).count k + (x.els.getD []).count k
def cnt (k : Nat) (nn : List Nd) : Nat := (nn.map (cntN k)).sum
def UpN (m hi : Nat) (x : Nd) : Prop := Asc (m + 1) hi (x.body.getD []) ∧ Asc (m + 1) hi (x.els.getD [])
def Up (m hi : Nat) (nn : List Nd) : Prop := ∀ j x, nn[j]? = some x → UpN (m + j) hi x
theorem Asc.mono {lo hi lo' hi' : Nat} {l : List Nat} (h : Asc lo hi l) (h1 : lo' ≤ lo) (h2 : hi ≤ hi') : Asc lo' hi' l := ⟨h.1, fun x hx => by have := h.2 x hx; omega⟩
theorem Asc.nil (lo hi : Nat) : Asc lo hi [] := ⟨List.Pairwise.nil, fun x hx => by simp at hx⟩
theorem Asc.count0 {lo hi k : Nat} {l : List Nat} (h : Asc lo hi l) (hk : k < lo ∨ hi ≤ k) : l.count k = 0 := by
  rw [List.count_eq_zero]
  intro hm
  have := h.2 k hm
  omega
theorem Up.mono {m hi hi' : Nat} {nn : List Nd} (h : Up m hi nn) (h2 : hi ≤ hi') : Up m hi' nn := fun j x hx => ⟨(h j x hx).1.mono (Nat.le_refl _) h2, (h j x hx).2.mono (Nat.le_refl _) h2⟩
theorem Up.nil (m hi : Nat) : Up m hi [] := fun j x hx => by simp at hx
theorem Up.append {m hi : Nat} {a b : List Nd} (ha : Up m hi a) (hb : Up (m + a.length) hi b) : Up m hi (a ++ b) := fun j x hx => by
  by_cases h : j < a.length
  · rw [List.getElem?_append_left h] at hx; exact ha j x hx
  · rw [List.getElem?_append_right (by omega)] at hx
    have := hb _ x hx
    rwa [show m + a.length + (j - a.length) = m + j by omega] at this
theorem Up.one {m hi : Nat} {x : Nd} (h : UpN m hi x) : Up m hi [x] := fun j y hy => by
  match j, hy with
  | 0, hy => cases hy; exact h
  | j + 1, hy => simp at hy
theorem cnt_append (k : Nat) (a b : List Nd) : cnt k (a ++ b) = cnt k a + cnt k b := by simp [cnt]
theorem cnt_one (k : Nat) (x : Nd) : cnt k [x] = cntN k x := by simp [cnt]
theorem Up.cnt0 {m hi k : Nat} : ∀ {nn : List Nd}, Up m hi nn → (k ≤ m ∨ hi ≤ k) → cnt k nn = 0
  | [], _, _ => rfl
  | x :: nn, h, hk => by
    have h0 := h 0 x rfl
    have h1 : cntN k x = 0 := by
      unfold cntN
      rw [h0.1.count0 (by omega), h0.2.count0 (by omega)]
    have h2 : Up (m + 1) hi nn := fun j y hy => by
      have := h (j + 1) y hy
      rwa [show m + (j + 1) = m + 1 + j by omega] at this
    rw [show x :: nn = [x] ++ nn from rfl, cnt_append, cnt_one, h1, Up.cnt0 h2 (by omega)]
theorem modNd_at {a b : List Nd} {x : Nd} {f : Nd → Nd} {i : Nat} (hi : i = a.length) : modNd (a ++ x :: b) i f = a ++ f x :: b := by
  subst hi
  unfold modNd
  induction a with
  | nil => rfl
  | cons y a ih => simp only [List.length_cons, List.cons_append, List.modify_succ_cons]; rw [ih]
/-- What the parser lays: lists that go up, each number once. -/
theorem parse_up (ws : List Wd) : ∀ n,
    (∀ d p out x q, pList ws n d p out = some (.ok x, q) → ∃ new nn, x = out ++ new ∧ q.nodes = p.nodes ++ nn ∧ Asc p.nodes.length (p.nodes.length + nn.length) new ∧ Up p.nodes.length (p.nodes.length + nn.length) nn ∧
      ∀ k, p.nodes.length ≤ k → k < p.nodes.length + nn.length → new.count k + cnt k nn = 1) ∧
    (∀ d w p x q, pNode ws n d w p = some (.ok x, q) → x = p.nodes.length ∧ ∃ nn, q.nodes = p.nodes ++ nn ∧ 0 < nn.length ∧ Up p.nodes.length (p.nodes.length + nn.length) nn ∧
      ∀ k, p.nodes.length < k → k < p.nodes.length + nn.length → cnt k nn = 1) ∧
    (∀ d i w p x q a y, pBody ws n d i w p = some (.ok x, q) → p.nodes = a ++ [y] → a.length = i → y.els = none → ∃ y' nn, q.nodes = a ++ y' :: nn ∧ UpN i (i + 1 + nn.length) y' ∧ Up (i + 1) (i + 1 + nn.length) nn ∧
      ∀ k, i < k → k < i + 1 + nn.length → cntN k y' + cnt k nn = 1)
  | 0 => ⟨fun d p out x q h => by simp [pList] at h, fun d w p x q h => by simp [pNode] at h, fun d i w p x q a y h => by simp [pBody] at h⟩
  | n + 1 => by
    obtain ⟨hL, hN, hB⟩ := parse_up ws n
    refine ⟨fun d p out x q h => ?_, fun d w p x q h => ?_, fun d i w p x q a y h hp hi hy => ?_⟩
    · have none' : ∃ new nn, out = out ++ new ∧ p.nodes = p.nodes ++ nn ∧ Asc p.nodes.length (p.nodes.length + nn.length) new ∧ Up p.nodes.length (p.nodes.length + nn.length) nn ∧
          ∀ k, p.nodes.length ≤ k → k < p.nodes.length + nn.length → new.count k + cnt k nn = 1 :=
        ⟨[], [], by simp, by simp, Asc.nil _ _, Up.nil _ _, fun k h1 h2 => by simp at h2; omega⟩
      unfold pList at h
      split at h
      · cases h; exact none'
      · rename_i w hw
        split at h
        · cases h; exact none'
        · split at h
          · cases h
          · cases h
          · rename_i i q1 e
            obtain ⟨rfl, n1, e1, hpos, hu1, hc1⟩ := hN _ _ _ _ _ e
            obtain ⟨new, n2, rfl, e2, ha2, hu2, hc2⟩ := hL _ _ _ _ _ h
            simp only at e1 hu1 hc1
            have hl1 : q1.nodes.length = p.nodes.length + n1.length := by rw [e1, List.length_append]
            rw [hl1] at ha2 hu2 hc2
            refine ⟨p.nodes.length :: new, n1 ++ n2, by simp, by rw [e2, e1, List.append_assoc], ⟨?_, ?_⟩, ?_, fun k h1 h2 => ?_⟩
            · refine List.Pairwise.cons (fun x hx => ?_) ha2.1
              have := ha2.2 x hx
              omega
            · intro x hx
              rw [List.length_append]
              rcases List.mem_cons.1 hx with rfl | hx
              · omega
              · have := ha2.2 x hx; omega
            · rw [List.length_append]
              exact (hu1.mono (by omega)).append (by rw [show p.nodes.length + (n1.length + n2.length) = p.nodes.length + n1.length + n2.length by omega]; exact hu2)
            · rw [List.length_append] at h2
              rw [List.count_cons, cnt_append]
              by_cases k0 : k < p.nodes.length + n1.length
              · rw [ha2.count0 (.inl k0), hu2.cnt0 (.inl (by omega))]
                by_cases k1 : k = p.nodes.length
                · subst k1
                  rw [hu1.cnt0 (.inl (Nat.le_refl _))]
                  simp
                · rw [hc1 k (by omega) k0, if_neg (by simp; omega)]
              · have := hc2 k (by omega) (by omega)
                rw [hu1.cnt0 (.inr (by omega)), if_neg (by simp; omega)]
                omega
    · unfold pNode at h
      simp only at h
      split at h
      · split at h
        · cases h
        · split at h
          · cases h
          · cases h
          · rename_i r e
            cases h
            obtain ⟨y', nn, e1, hu0, hu1, hc1⟩ := hB _ _ _ _ _ _ p.nodes (newNd w) e rfl rfl rfl
            refine ⟨rfl, { y' with kind := ndKind w.kind } :: nn, ?_, by simp, ?_, fun k h1 h2 => ?_⟩
            · show modNd r.nodes _ _ = _
              rw [e1, modNd_at rfl]
            · rw [List.length_cons, show p.nodes.length + (nn.length + 1) = p.nodes.length + 1 + nn.length by omega]
              exact Up.append (a := [_]) (Up.one hu0) hu1
            · rw [List.length_cons] at h2
              have := hc1 k h1 (by omega)
              rw [show (({ y' with kind := ndKind w.kind } : Nd) :: nn) = [{ y' with kind := ndKind w.kind }] ++ nn from rfl, cnt_append, cnt_one]
              exact this
      · cases h
        refine ⟨rfl, [{ newNd w with kind := ndKind w.kind }], ?_, by simp, Up.one ⟨Asc.nil _ _, Asc.nil _ _⟩, fun k h1 h2 => by simp at h2; omega⟩
        show modNd _ _ _ = _
        rw [modNd_at rfl]
    · unfold pBody at h
      have hpl : p.nodes.length = i + 1 := by rw [hp, List.length_append, hi]; rfl
      split at h
      · cases h
      · cases h
      · rename_i body q1 e
        obtain ⟨new, n1, hb, e1, ha1, hu1, hc1⟩ := hL _ _ _ _ _ e
        rw [List.nil_append] at hb
        replace hb := hb.symm; subst hb
        rw [hpl] at ha1 hu1 hc1
        have hm : modNd q1.nodes i (fun x => { x with body := some new }) = a ++ { y with body := some new } :: n1 := by
          rw [e1, hp, List.append_assoc, List.singleton_append, modNd_at hi.symm]
        simp only at h
        rw [hm] at h
        have fin1 : ∃ y' nn, a ++ { y with body := some new } :: n1 = a ++ y' :: nn ∧ UpN i (i + 1 + nn.length) y' ∧ Up (i + 1) (i + 1 + nn.length) nn ∧ ∀ k, i < k → k < i + 1 + nn.length → cntN k y' + cnt k nn = 1 := by
          refine ⟨_, _, rfl, ⟨ha1, ?_⟩, hu1, fun k h1 h2 => ?_⟩
          · rw [hy]; exact Asc.nil _ _
          · have := hc1 k h1 h2
            unfold cntN
            rw [hy]
            simpa using this
        split at h
        · cases h
        · rename_i v hv
          split at h
          · split at h
            · cases h
            · split at h
              · cases h
              · cases h
              · rename_i els r1 e2
                obtain ⟨new2, n2, hb2, e3, ha2, hu2, hc2⟩ := hL _ _ _ _ _ e2
                rw [List.nil_append] at hb2
                replace hb2 := hb2.symm; subst hb2
                simp only at e3 ha2 hu2 hc2
                have hl2 : (a ++ { y with body := some new } :: n1).length = i + 1 + n1.length := by rw [List.length_append, List.length_cons, hi]; omega
                rw [hl2] at ha2 hu2 hc2
                have hm2 : modNd r1.nodes i (fun x => { x with els := some new2, has := true }) = a ++ { y with body := some new, els := some new2, has := true } :: (n1 ++ n2) := by
                  rw [e3, List.append_assoc, List.cons_append, modNd_at hi.symm]
                rw [hm2] at h
                have fin2 : ∃ y' nn, a ++ { y with body := some new, els := some new2, has := true } :: (n1 ++ n2) = a ++ y' :: nn ∧ UpN i (i + 1 + nn.length) y' ∧ Up (i + 1) (i + 1 + nn.length) nn ∧ ∀ k, i < k → k < i + 1 + nn.length → cntN k y' + cnt k nn = 1 := by
                  refine ⟨_, _, rfl, ⟨?_, ?_⟩, ?_, fun k h1 h2 => ?_⟩
                  · rw [List.length_append]; exact ha1.mono (Nat.le_refl _) (by omega)
                  · rw [List.length_append]; exact ha2.mono (by omega) (by omega)
                  · rw [List.length_append]
                    exact (hu1.mono (by omega)).append (by rw [show i + 1 + (n1.length + n2.length) = i + 1 + n1.length + n2.length by omega]; exact hu2)
                  · rw [List.length_append] at h2
                    rw [cnt_append]
                    show new.count k + new2.count k + _ = 1
                    by_cases k0 : k < i + 1 + n1.length
                    · have := hc1 k h1 k0
                      rw [ha2.count0 (.inl k0), hu2.cnt0 (.inl (by omega))]
                      omega
                    · have := hc2 k (by omega) (by omega)
                      rw [ha1.count0 (.inr (by omega)), hu1.cnt0 (.inr (by omega))]
                      omega
                split at h
                · cases h
                · split at h
                  · cases h
                  · cases h; exact fin2
          · cases h; exact fin1
/-- A fault has a number. -/
theorem parse_er (ws : List Wd) : ∀ n,
    (∀ d p out a e q, pList ws n d p out = some (.bad a e, q) → e = 3 ∨ e = 4) ∧ (∀ d w p a e q, pNode ws n d w p = some (.bad a e, q) → e = 3 ∨ e = 4) ∧ (∀ d i w p a e q, pBody ws n d i w p = some (.bad a e, q) → e = 3 ∨ e = 4)
  | 0 => ⟨fun d p out x e q h => by simp [pList] at h, fun d w p x e q h => by simp [pNode] at h, fun d i w p x e q h => by simp [pBody] at h⟩
  | n + 1 => by
    obtain ⟨hL, hN, hB⟩ := parse_er ws n
    refine ⟨fun d p out x e q h => ?_, fun d w p x e q h => ?_, fun d i w p x e q h => ?_⟩
    · unfold pList at h
      split at h
      · cases h
      · split at h
        · cases h
        · split at h
          · cases h
          · rename_i e1; cases h; exact hN _ _ _ _ _ _ e1
          · exact hL _ _ _ _ _ _ h
    · unfold pNode at h
      simp only at h
      split at h
      · split at h
        · cases h; exact .inl rfl
        · split at h
          · cases h
          · rename_i e1; cases h; exact hB _ _ _ _ _ _ _ e1
          · cases h
      · cases h
    · unfold pBody at h
      split at h
      · cases h
      · rename_i e1; cases h; exact hL _ _ _ _ _ _ e1
      · simp only at h
        split at h
        · cases h; exact .inr rfl
        · split at h
          · split at h
            · cases h; exact .inr rfl
            · split at h
              · cases h
              · rename_i e1; cases h; exact hL _ _ _ _ _ _ e1
              · split at h
                · cases h; exact .inr rfl
                · split at h
                  · cases h; exact .inr rfl
                  · cases h
          · cases h
end R3

namespace R3Q
open Go Go.Proofs Sx R3
variable {mx : Int}
theorem nd_idx {ns : List Nd} {i : Nat} {x : Nd} (h : ns[i]? = some x) : idx 9 (.ro 9 (ns.map Nd.av)) (.int (i : Int)) = some x.av := by
  have hi : i < ns.length := (List.getElem?_eq_some_iff.1 h).1
  rw [idx_get 9 (by rw [List.length_map]; exact hi)]
  rw [List.getElem_map, (List.getElem?_eq_some_iff.1 h).2]
theorem opt_len (o : Option (List Nat)) : lenR (optAV o) = some (.int ((o.getD []).length : Int)) := by
  cases o with
  | none => rfl
  | some l => simp [optAV, lenR, numsAV]
theorem opt_idx {o : Option (List Nat)} {j x : Nat} (h : (o.getD [])[j]? = some x) : idx 1 (optAV o) (.int (j : Int)) = some (.int (x : Int)) := by
  cases o with
  | none => simp at h
  | some l =>
    simp only [Option.getD_some] at h
    have hi : j < l.length := (List.getElem?_eq_some_iff.1 h).1
    show idx 1 (.ro 1 (numsAV l)) _ = _
    rw [idx_get 1 (by rw [numsAV, List.length_map]; exact hi)]
    simp only [numsAV, List.getElem_map, (List.getElem?_eq_some_iff.1 h).2]
theorem opt_cell (o : Option (List Nat)) : AV.cell (optAV o) 0 = optAV o := by cases o <;> rfl
theorem opt_one (o : Option (List Nat)) : AV.one (optAV o) = some (optAV o) := by cases o <;> rfl
theorem int_lss (x y : Int) : binI .lss (.int x) (.int y) = some (.b (decide (x < y))) := rfl
theorem int_leq (x y : Int) : binI .leq (.int x) (.int y) = some (.b (decide (x ≤ y))) := rfl
theorem int_geq (x y : Int) : binI .geq (.int x) (.int y) = some (.b (decide (x ≥ y))) := rfl
theorem int_neq (x y : Int) : binI .neq (.int x) (.int y) = some (.b (x != y)) := rfl
theorem int_eql (x y : Int) : binI .eql (.int x) (.int y) = some (.b (x == y)) := rfl
theorem nums_get (cs : List Nat) {k : Nat} (h : k < cs.length) : (numsAV cs).getD k .un = .int ((cs.getD k 0 : Nat) : Int) := by
  simp [numsAV, List.getD_eq_getElem?_getD, List.getElem?_map, List.getElem?_eq_getElem h]
theorem nums_set (cs : List Nat) (k c : Nat) : (numsAV cs).set k (.int (c : Int)) = numsAV (cs.set k c) := by
  simp [numsAV, List.map_set]
theorem nums_length (cs : List Nat) : (numsAV cs).length = cs.length := List.length_map ..
theorem asc_len {hi : Nat} : ∀ {l : List Nat} {lo : Nat}, Asc lo hi l → l.length ≤ hi - lo
  | [], _, _ => Nat.zero_le _
  | x :: l, lo, h => by
    have h1 := h.2 x List.mem_cons_self
    have := asc_len (hi := hi) (l := l) (lo := x + 1) ⟨(List.pairwise_cons.1 h.1).2, fun y hy => ⟨(List.pairwise_cons.1 h.1).1 y hy, (h.2 y (List.mem_cons_of_mem _ hy)).2⟩⟩
    rw [List.length_cons]
    omega
/-- The last loop. -/
theorem l32 {nodes : List Nd} {cs : List Nat} {top : AV} (h1 : ∀ k, k < cs.length → cs.getD k 0 = 1) (hb : cs.length ≤ 200000) : ∀ m i, cs.length = i + m →
    F11_32 (semRun (C mx) Tryd.prog 11 Tryd.f11) (.int 0) (nodes.length : Int) (numsAV cs) (i : Int) (.ro 9 (nodes.map Nd.av)) top = some (.b true)
  | 0, i, hi => by
    apply r11_32
    have e : decide ((i : Int) < ((numsAV cs).length : Int)) = false := by rw [nums_length, decide_eq_false_iff_not]; omega
    have e1 : lenR (.ro 9 (nodes.map Nd.av)) = some (.int (nodes.length : Int)) := by simp [lenR]
    simp only [X11_32, e, condM_b, Bool.false_eq_true, if_false, int_eql, Option.bind_some, e1, beq_self_eq_true, selW_tt]
  | m + 1, i, hi => by
    apply r11_32
    have hlt : i < cs.length := by omega
    have e : decide ((i : Int) < ((numsAV cs).length : Int)) = true := by rw [nums_length, decide_eq_true_eq]; omega
    have e1 : inN (numsAV cs).length (.int (i : Int)) = some i := by rw [nums_length]; exact inN_int hlt
    have e2 : w64 ((i : Int) + 1) = ((i + 1 : Nat) : Int) := by rw [w64_eq (by omega) (by omega)]; omega
    have ih := l32 (nodes := nodes) (top := top) h1 hb m (i + 1) (by omega)
    simp only [X11_32, e, condM_b, if_true, e1, Option.bind_some, nums_get cs hlt, cell_int, h1 i hlt, int_neq, e2]
    exact ih
/-- A list's numbers are counted. -/
theorem l25 {nodes : List Nd} {top : AV} {L : List (Option (List Nat))} {i N : Nat} {o : Option (List Nat)} {e : AV} {r : AV} {base : Nat → Nat} (hL : L[i]? = some o) (hN : N ≤ 200000) (hl : L.length ≤ 1000000)
    (hasc : Asc (if i = 0 then 0 else (i - 1) / 2 + 1) N (o.getD [])) (hcnt : ∀ k, k < N → base k + (o.getD []).count k ≤ 1)
    (hr : ∀ cs : List Nat, cs.length = N → (∀ k, k < N → cs.getD k 0 = base k + (o.getD []).count k) → F11_22 (semRun (C mx) Tryd.prog 11 Tryd.f11) e (nodes.length : Int) (numsAV cs) (L.map optAV) ((i + 1 : Nat) : Int) (.ro 9 (nodes.map Nd.av)) top = some r) : ∀ m j (cs : List Nat), (o.getD []).length = j + m → cs.length = N → (∀ k, k < N → cs.getD k 0 = base k + ((o.getD []).take j).count k) →
    F11_25 (semRun (C mx) Tryd.prog 11 Tryd.f11) e (nodes.length : Int) (numsAV cs) (L.map optAV) (i : Int) (j : Int) (.ro 9 (nodes.map Nd.av)) top = some r
  | m, j, cs, hj, hc, hs => by
    have hi : i < L.length := (List.getElem?_eq_some_iff.1 hL).1
    have hlen : (L.map optAV).length = L.length := List.length_map ..
    have g0 : inN (L.map optAV).length (.int (i : Int)) = some i := by rw [hlen]; exact inN_int hi
    have g1 : AV.cell ((L.map optAV).getD i .un) 0 = optAV o := by
      rw [List.getD_eq_getElem?_getD, List.getElem?_map, hL]
      exact opt_cell o
    have e2 : w64 ((i : Int) + 1) = ((i + 1 : Nat) : Int) := by rw [w64_eq (by omega) (by omega)]; omega
    have holen : (o.getD []).length ≤ N := by
      have := asc_len hasc
      omega
    match m, hj with
    | 0, hj =>
      apply r11_25
      have e : decide ((j : Int) < ((o.getD []).length : Int)) = false := by rw [decide_eq_false_iff_not]; omega
      simp only [X11_25, g0, g1, Option.bind_some, opt_len, int_lss, e, condM_b, Bool.false_eq_true, if_false, e2]
      refine hr cs hc fun k hk => ?_
      rw [hs k hk, List.take_of_length_le (by omega)]
    | m + 1, hj =>
      have hlt : j < (o.getD []).length := by omega
      obtain ⟨x, hx⟩ : ∃ x, (o.getD [])[j]? = some x := ⟨_, List.getElem?_eq_getElem hlt⟩
      have hxm := hasc.2 x (List.mem_of_getElem? hx)
      have hxN := hxm.2
      apply r11_25
      have e : decide ((j : Int) < ((o.getD []).length : Int)) = true := by rw [decide_eq_true_eq]; omega
      have e0 : decide ((x : Int) < 0) = false := by rw [decide_eq_false_iff_not]; omega
      have e1 : decide ((x : Int) ≥ ((numsAV cs).length : Int)) = false := by rw [nums_length, hc, decide_eq_false_iff_not]; omega
      have e3 : inN (numsAV cs).length (.int (x : Int)) = some x := by rw [nums_length, hc]; exact inN_int hxN
      have e4 : w64 ((j : Int) + 1) = ((j + 1 : Nat) : Int) := by rw [w64_eq (by omega) (by omega)]; omega
      have hb := hcnt x hxN
      have hsx := hs x hxN
      have hle : ((o.getD []).take j).count x ≤ (o.getD []).count x := (List.take_sublist j _).count_le x
      have e5 : binI .add (.int ((cs.getD x 0 : Nat) : Int)) (.int 1) = some (.int ((cs.getD x 0 + 1 : Nat) : Int)) := by rw [int_add (by omega) (by omega)]; rfl
      have sel1 : (selW (.b (decide ((j : Int) > 0))) true ((inN (L.map optAV).length (.int (i : Int))).bind fun v9 => (idx 1 (AV.cell ((L.map optAV).getD v9 .un) 0) (.int (w64 ((j : Int) - 1)))).bind fun v10 => (binI .leq (AV.cell (.int (x : Int)) 0) (AV.cell (v10) 0)).bind fun v11 => some (v11)) (.b false)) = some (.b false) := by
        cases j with
        | zero => rfl
        | succ j =>
          obtain ⟨y, hy⟩ : ∃ y, (o.getD [])[j]? = some y := ⟨_, List.getElem?_eq_getElem (by omega)⟩
          have ew : w64 (((j + 1 : Nat) : Int) - 1) = (j : Int) := by rw [w64_eq (by omega) (by omega)]; omega
          have hyx : y < x := by
            have := List.pairwise_iff_getElem.1 hasc.1 j (j + 1) (by omega) (by omega) (by omega)
            rw [(List.getElem?_eq_some_iff.1 hy).2, (List.getElem?_eq_some_iff.1 hx).2] at this
            exact this
          have d1 : decide (((j + 1 : Nat) : Int) > 0) = true := by rw [decide_eq_true_eq]; omega
          have d2 : decide ((x : Int) ≤ (y : Int)) = false := by rw [decide_eq_false_iff_not]; omega
          simp only [g0, g1, Option.bind_some, ew, opt_idx hy, cell_int, int_leq, d1, d2, selW_tt]
      have sel2 : (selW (.b (decide ((i : Int) > 0))) true ((binI .leq (AV.cell (.int (x : Int)) 0) (.int (w64 (Int.tdiv (w64 ((i : Int) - 1)) 2)))).bind fun v14 => some (v14)) (.b false)) = some (.b false) := by
        cases i with
        | zero => rfl
        | succ i =>
          have ew : w64 (((i + 1 : Nat) : Int) - 1) = (i : Int) := by rw [w64_eq (by omega) (by omega)]; omega
          have ew2 : w64 (Int.tdiv (i : Int) 2) = ((i / 2 : Nat) : Int) := by
            rw [show Int.tdiv (i : Int) 2 = ((i / 2 : Nat) : Int) from rfl, w64_eq (by omega) (by omega)]
          have d1 : decide (((i + 1 : Nat) : Int) > 0) = true := by rw [decide_eq_true_eq]; omega
          have hge := hxm.1
          simp only [Nat.add_one_ne_zero, if_false, Nat.add_sub_cancel] at hge
          have d2 : decide ((x : Int) ≤ ((i / 2 : Nat) : Int)) = false := by rw [decide_eq_false_iff_not]; omega
          simp only [Option.bind_some, ew, ew2, cell_int, int_leq, d1, d2, selW_tt]
      have ih := l25 (nodes := nodes) (top := top) hL hN hl hasc hcnt hr m (j + 1) (cs.set x (cs.getD x 0 + 1)) (by omega) (by rw [List.length_set]; exact hc) (fun k hk => by
        rw [List.take_add_one, hx, Option.toList_some, List.count_append, List.count_singleton]
        by_cases hkx : k = x
        · subst hkx
          rw [List.getD_eq_getElem?_getD, List.getElem?_set_self (by omega), Option.getD_some, hsx]
          simp; omega
        · rw [List.getD_eq_getElem?_getD, List.getElem?_set_ne (by omega), ← List.getD_eq_getElem?_getD, hs k hk, if_neg (by simp; omega)]
          rfl)
      simp only [X11_25, g0, g1, Option.bind_some, opt_len, int_lss, e, condM_b, if_true, opt_idx hx] at sel1 sel2 ⊢
      simp only [cell_int, int_lss, e0, Option.bind_some, int_geq, e1, selW_ff] at sel1 sel2 ⊢
      rw [sel1]
      simp only [Option.bind_some, selW_ff]
      rw [sel2]
      simp only [Option.bind_some, selW_ff, condM_b, Bool.false_eq_true, if_false, e3, nums_get cs (show x < cs.length by omega), cell_int, e5, one_int, nums_set, e4]
      exact ih
end R3Q

namespace R3Q
open Go Go.Proofs Sx R3
variable {mx : Int}
def flat (L : List (Option (List Nat))) : List Nat := L.flatMap (·.getD [])
theorem flat_snoc {L : List (Option (List Nat))} {i : Nat} {o : Option (List Nat)} (h : L[i]? = some o) (k : Nat) : (flat (L.take (i + 1))).count k = (flat (L.take i)).count k + (o.getD []).count k := by
  unfold flat
  rw [List.take_add_one, h, Option.toList_some, List.flatMap_append, List.count_append]
  simp
theorem flat_take_le (L : List (Option (List Nat))) (i k : Nat) : (flat (L.take i)).count k ≤ (flat L).count k := by
  have h : flat L = flat (L.take i) ++ flat (L.drop i) := by
    unfold flat
    rw [← List.flatMap_append, List.take_append_drop]
  rw [h, List.count_append]
  omega
/-- All lists. -/
theorem l22 {nodes : List Nd} {top : AV} {L : List (Option (List Nat))} {N : Nat} (hN : N ≤ 200000) (hl : L.length ≤ 1000000)
    (hasc : ∀ i o, L[i]? = some o → Asc (if i = 0 then 0 else (i - 1) / 2 + 1) N (o.getD [])) (hcnt : ∀ k, k < N → (flat L).count k = 1) : ∀ m i (cs : List Nat), L.length = i + m → cs.length = N → (∀ k, k < N → cs.getD k 0 = (flat (L.take i)).count k) →
    F11_22 (semRun (C mx) Tryd.prog 11 Tryd.f11) (.int 0) (nodes.length : Int) (numsAV cs) (L.map optAV) (i : Int) (.ro 9 (nodes.map Nd.av)) top = some (.b true)
  | 0, i, cs, hi, hc, hs => by
    apply r11_22
    have hlen : (L.map optAV).length = L.length := List.length_map ..
    have e : decide ((i : Int) < ((L.map optAV).length : Int)) = false := by rw [hlen, decide_eq_false_iff_not]; omega
    simp only [X11_22, e, condM_b, Bool.false_eq_true, if_false]
    refine l32 (fun k hk => ?_) (by omega) cs.length 0 (by omega)
    rw [hs k (by omega), List.take_of_length_le (by omega), hcnt k (by omega)]
  | m + 1, i, cs, hi, hc, hs => by
    apply r11_22
    have hlen : (L.map optAV).length = L.length := List.length_map ..
    have hlt : i < L.length := by omega
    have e : decide ((i : Int) < ((L.map optAV).length : Int)) = true := by rw [hlen, decide_eq_true_eq]; omega
    simp only [X11_22, e, condM_b, if_true]
    obtain ⟨o, ho⟩ : ∃ o, L[i]? = some o := ⟨_, List.getElem?_eq_getElem hlt⟩
    refine l25 (base := fun k => (flat (L.take i)).count k) ho hN hl (hasc i o ho) (fun k hk => ?_) (fun cs' hc' hs' => ?_) (o.getD []).length 0 cs (by omega) hc (fun k hk => by rw [hs k hk]; simp)
    · have := flat_take_le L (i + 1) k
      rw [flat_snoc ho, hcnt k hk] at this
      exact this
    · exact l22 hN hl hasc hcnt m (i + 1) cs' (by omega) hc' (fun k hk => by rw [hs' k hk, flat_snoc ho])
def listsOf (top : List Nat) (nodes : List Nd) : List (Option (List Nat)) := some top :: nodes.flatMap fun x => [x.body, x.els]
theorem listsOf_len (top : List Nat) (nodes : List Nd) : (listsOf top nodes).length = 1 + 2 * nodes.length := by
  unfold listsOf
  rw [List.length_cons]
  have : (nodes.flatMap fun x => [x.body, x.els]).length = 2 * nodes.length := by
    induction nodes with
    | nil => rfl
    | cons x l ih => simp only [List.flatMap_cons, List.length_append, List.length_cons, List.length_nil, ih]; omega
  omega
theorem listsOf_asc {top : List Nat} {nodes : List Nd} {N : Nat} (h0 : Asc 0 N top) (h : Up 0 N nodes) : ∀ i o, (listsOf top nodes)[i]? = some o → Asc (if i = 0 then 0 else (i - 1) / 2 + 1) N (o.getD []) := by
  intro i o ho
  cases i with
  | zero => cases ho; exact h0
  | succ i =>
    rw [if_neg (by omega), Nat.add_sub_cancel]
    have ho : (nodes.flatMap fun x => [x.body, x.els])[i]? = some o := ho
    have key : ∀ (m : Nat) (l : List Nd) (i : Nat), Up m N l → (l.flatMap fun x => [x.body, x.els])[i]? = some o → Asc (m + i / 2 + 1) N (o.getD []) := by
      intro m l
      induction l generalizing m with
      | nil => intro i _ h; simp at h
      | cons x l ih =>
        intro i hu hi
        have hx := hu 0 x rfl
        rw [List.flatMap_cons] at hi
        match i, hi with
        | 0, hi => cases hi; exact hx.1
        | 1, hi => cases hi; exact hx.2
        | i + 2, hi =>
          have := ih (m + 1) i (fun j y hy => by
            have := hu (j + 1) y hy
            rwa [show m + (j + 1) = m + 1 + j by omega] at this) hi
          rwa [show m + 1 + i / 2 + 1 = m + (i + 2) / 2 + 1 by omega] at this
    have := key 0 nodes i h ho
    rwa [Nat.zero_add] at this
theorem listsOf_cnt (top : List Nat) (nodes : List Nd) (k : Nat) : (flat (listsOf top nodes)).count k = top.count k + cnt k nodes := by
  unfold flat listsOf
  rw [List.flatMap_cons, List.count_append]
  congr 1
  induction nodes with
  | nil => rfl
  | cons x l ih =>
    rw [List.flatMap_cons, List.flatMap_append, List.count_append, ih, show x :: l = [x] ++ l from rfl, cnt_append, cnt_one]
    simp [cntN]
/-- The lists are laid together. -/
theorem l18 {nodes : List Nd} {top : List Nat} {e r : AV} {n : Int} {cs : List AV} (hb : nodes.length ≤ 100000)
    (hr : F11_22 (semRun (C mx) Tryd.prog 11 Tryd.f11) e n cs ((listsOf top nodes).map optAV) 0 (.ro 9 (nodes.map Nd.av)) (.ro 1 (numsAV top)) = some r) : ∀ m i, nodes.length = i + m →
    F11_18 (semRun (C mx) Tryd.prog 11 Tryd.f11) e n cs ((listsOf top (nodes.take i)).map optAV) (i : Int) (.ro 9 (nodes.map Nd.av)) (.ro 1 (numsAV top)) = some r
  | 0, i, hi => by
    apply r11_18
    have e1 : lenR (.ro 9 (nodes.map Nd.av)) = some (.int (nodes.length : Int)) := by simp [lenR]
    have e2 : decide ((i : Int) < (nodes.length : Int)) = false := by rw [decide_eq_false_iff_not]; omega
    simp only [X11_18, e1, Option.bind_some, int_lss, e2, condM_b, Bool.false_eq_true, if_false]
    rw [List.take_of_length_le (by omega)]
    exact hr
  | m + 1, i, hi => by
    apply r11_18
    have hlt : i < nodes.length := by omega
    obtain ⟨x, hx⟩ : ∃ x, nodes[i]? = some x := ⟨_, List.getElem?_eq_getElem hlt⟩
    have e1 : lenR (.ro 9 (nodes.map Nd.av)) = some (.int (nodes.length : Int)) := by simp [lenR]
    have e2 : decide ((i : Int) < (nodes.length : Int)) = true := by rw [decide_eq_true_eq]; omega
    have e3 : w64 ((i : Int) + 1) = ((i + 1 : Nat) : Int) := by rw [w64_eq (by omega) (by omega)]; omega
    have hl1 : ((listsOf top (nodes.take i)).map optAV).length ≤ 200001 := by
      rw [List.length_map, listsOf_len, List.length_take]; omega
    have e4 : app 24 1 ((listsOf top (nodes.take i)).map optAV) (.ro 1 [optAV x.body, optAV x.els]) = some ((listsOf top (nodes.take (i + 1))).map optAV) := by
      have h2 : (listsOf top (nodes.take (i + 1))).map optAV = (listsOf top (nodes.take i)).map optAV ++ [optAV x.body, optAV x.els] := by
        unfold listsOf
        rw [List.take_add_one, hx, Option.toList_some, List.flatMap_append]
        simp
      rw [h2]
      unfold app AV.items
      simp only [if_true, Option.bind_some]
      have hbig : big = 70368744177664 := by decide
      rw [if_pos (by rw [hbig]; simp only [List.length_cons, List.length_nil]; omega)]
    have ih := l18 hb hr m (i + 1) (by omega)
    simp only [X11_18, e1, Option.bind_some, int_lss, e2, condM_b, if_true, nd_idx hx, nc5, nc6, opt_one, e4, e3]
    exact ih
/-- The words are gone through. -/
theorem l9 {ws : List Wd} {nodes : List Nd} {top : List Nat} (hk : nodes.map Nd.key = (ws.filter Wd.isN).map Wd.key) (hw : ws.length ≤ 100000) (hb : nodes.length ≤ 100000)
    (h0 : Asc 0 nodes.length top) (hu : Up 0 nodes.length nodes) (hc : ∀ k, k < nodes.length → top.count k + cnt k nodes = 1) : ∀ m i, ws.length = i + m →
    F11_9 (semRun (C mx) Tryd.prog 11 Tryd.f11) (.ro 5 (ws.map Wd.av)) (.int 0) (((ws.take i).filter Wd.isN).length : Int) (i : Int) (.ro 9 (nodes.map Nd.av)) (.ro 1 (numsAV top)) = some (.b true)
  | 0, i, hi => by
    apply r11_9
    have e1 : lenR (.ro 5 (ws.map Wd.av)) = some (.int (ws.length : Int)) := by simp [lenR]
    have e1' : lenR (.ro 9 (nodes.map Nd.av)) = some (.int (nodes.length : Int)) := by simp [lenR]
    have e2 : decide ((i : Int) < (ws.length : Int)) = false := by rw [decide_eq_false_iff_not]; omega
    have hlen : nodes.length = (ws.filter Wd.isN).length := by
      have := congrArg List.length hk
      simpa using this
    have hbig : big = 70368744177664 := by decide
    have e3 : mk 8 (.int 0) (.int (nodes.length : Int)) (.int (nodes.length : Int)) = some (numsAV (List.replicate nodes.length 0)) := by
      simp only [mk]
      rw [if_pos ⟨trivial, by omega, by rw [hbig]; omega⟩]
      simp [numsAV]
    simp only [X11_9, e1, e1', Option.bind_some, int_lss, e2, condM_b, Bool.false_eq_true, if_false, e3, one_ro]
    rw [List.take_of_length_le (by omega), ← hlen]
    refine l18 (top := top) hb ?_ nodes.length 0 (by omega)
    refine l22 (N := nodes.length) (by omega) (by rw [listsOf_len]; omega) (listsOf_asc h0 hu) (fun k hk => by rw [listsOf_cnt]; exact hc k hk) (listsOf top nodes).length 0 _ (by omega) List.length_replicate (fun k hk => by simp [hk, flat])
  | m + 1, i, hi => by
    apply r11_9
    have hlt : i < ws.length := by omega
    obtain ⟨w, hx⟩ : ∃ w, ws[i]? = some w := ⟨_, List.getElem?_eq_getElem hlt⟩
    have e1 : lenR (.ro 5 (ws.map Wd.av)) = some (.int (ws.length : Int)) := by simp [lenR]
    have e1' : lenR (.ro 9 (nodes.map Nd.av)) = some (.int (nodes.length : Int)) := by simp [lenR]
    have e2 : decide ((i : Int) < (ws.length : Int)) = true := by rw [decide_eq_true_eq]; omega
    have e3 : w64 ((i : Int) + 1) = ((i + 1 : Nat) : Int) := by rw [w64_eq (by omega) (by omega)]; omega
    have ih := l9 hk hw hb h0 hu hc m (i + 1) (by omega)
    have hsel : (selW (.b (w.kind == 3)) false (some (.b (w.kind == 5))) (.b true)) = some (.b (!w.isN)) := by
      rw [selW_or]; simp [Wd.isN]
    have hstep : ((ws.take (i + 1)).filter Wd.isN) = (ws.take i).filter Wd.isN ++ (if w.isN then [w] else []) := by
      rw [List.take_add_one, hx]
      simp only [Option.toList_some, List.filter_append]
      congr 1
      cases h2 : w.isN <;> simp [h2]
    simp only [X11_9, e1, Option.bind_some, int_lss, e2, condM_b, if_true, ws_get hx, wc0, u8_eql, hsel]
    cases hn : w.isN with
    | false =>
      simp only [Bool.not_false, if_true]
      rw [hstep, hn] at ih
      simp only [Bool.false_eq_true, if_false, List.append_nil] at ih
      apply r11_10
      simp only [X11_10, e3]
      exact ih
    | true =>
      rw [hstep, hn] at ih
      simp only [if_true, List.length_append, List.length_singleton] at ih
      generalize hni : ((ws.take i).filter Wd.isN).length = ni at ih ⊢
      have hsplit : ws.filter Wd.isN = (ws.take i).filter Wd.isN ++ w :: (ws.drop (i + 1)).filter Wd.isN := by
        conv => lhs; rw [← List.take_append_drop (i + 1) ws]
        rw [List.filter_append, hstep, hn]
        simp
      have hget : (nodes.map Nd.key)[ni]? = some w.key := by
        rw [hk, hsplit, List.map_append, List.getElem?_append_right (by rw [List.length_map, hni]; exact Nat.le_refl _), List.length_map, hni]
        simp
      rw [List.getElem?_map] at hget
      obtain ⟨x, hx1, hx2⟩ := Option.map_eq_some_iff.1 hget
      have hnlt : ni < nodes.length := (List.getElem?_eq_some_iff.1 hx1).1
      have k1 : x.at' = w.at' := congrArg Prod.fst hx2
      have k2 : x.text = w.text := congrArg Prod.snd hx2
      have e4 : decide ((ni : Int) ≥ (nodes.length : Int)) = false := by rw [decide_eq_false_iff_not]; omega
      have e5 : w64 ((ni : Int) + 1) = ((ni + 1 : Nat) : Int) := by rw [w64_eq (by omega) (by omega)]; omega
      have wc2 (w : Wd) : AV.cell w.av 2 = .s w.text := rfl
      have s_neq (p q : List UInt8) : binS .neq (.s p) (.s q) = some (.b (p != q)) := rfl
      simp only [Bool.not_true, Bool.false_eq_true, if_false, e1', Option.bind_some, int_geq, e4, selW_ff, nd_idx hx1, nc1, nc2, wc1, wc2, int_neq, k1, k2, bne_self_eq_false, s_neq, condM_b, e5]
      apply r11_10
      simp only [X11_10, e3]
      exact ih
end R3Q

namespace R3Q
open Go Go.Proofs Sx R3
variable {mx : Int}
theorem treeOf_bad {ws : List Wd} {a e : Nat} (h : treeOf ws = .bad a e) : e = 3 ∨ e = 4 := by
  obtain ⟨r, q, e1, _⟩ := (parse_tot ws (3 * ws.length + 1)).1 0 ⟨0, []⟩ [] (Nat.zero_le _) (by simp)
  unfold treeOf at h
  rw [e1] at h
  cases r with
  | bad a' e' => simp only [treeR] at h; cases h; exact (parse_er ws _).1 _ _ _ _ _ _ e1
  | ok top =>
    simp only [treeR] at h
    split at h
    · cases h; exact .inr rfl
    · cases h
theorem treeOf_ok {ws : List Wd} {nodes : List Nd} {top : List Nat} (h : treeOf ws = .ok nodes top) : nodes.map Nd.key = (ws.filter Wd.isN).map Wd.key ∧ nodes.length ≤ ws.length ∧ Asc 0 nodes.length top ∧ Up 0 nodes.length nodes ∧ ∀ k, k < nodes.length → top.count k + cnt k nodes = 1 := by
  obtain ⟨r, q, e1, h1, h2, h3⟩ := (parse_tot ws (3 * ws.length + 1)).1 0 ⟨0, []⟩ [] (Nat.zero_le _) (by simp)
  unfold treeOf at h
  rw [e1] at h
  cases r with
  | bad a' e' => simp only [treeR] at h; cases h
  | ok top' =>
    simp only [treeR] at h
    split at h
    · cases h
    · rename_i hq
      cases h
      have hge : ws.length ≤ q.at' := List.getElem?_eq_none_iff.1 hq
      obtain ⟨k1, _⟩ := (parse_key ws _).1 _ _ _ _ _ e1 rfl
      obtain ⟨new, nn, rfl, g2, g3, g4, g5⟩ := (parse_up ws _).1 _ _ _ _ _ e1
      simp only [List.nil_append] at g2
      subst g2
      simp only [List.length_nil, Nat.zero_add] at g3 g4 g5 h3
      refine ⟨?_, by omega, by simpa using g3, g4, fun k hk => g5 k (Nat.zero_le _) hk⟩
      have k1 : q.nodes.map Nd.key = ((ws.take q.at').filter Wd.isN).map Wd.key := k1
      rw [List.take_of_length_le hge] at k1
      exact k1
theorem parseT_bad {l : List UInt8} {a e : Nat} (h : parseT l = .bad a e) : e ≠ 0 := by
  unfold parseT at h
  split at h
  · cases h; decide
  · split at h
    · cases h; decide
    · rcases treeOf_bad h with rfl | rfl <;> decide
theorem parseT_ok {l : List UInt8} {nodes : List Nd} {top : List Nat} (h : parseT l = .ok nodes top) : ∃ ws, allAV l = .tu [.ro 5 (ws.map Wd.av), .int 0, .int 0] ∧ ws.length ≤ 100000 ∧ treeOf ws = .ok nodes top := by
  unfold parseT at h
  split at h
  · cases h
  · rename_i h1
    split at h
    · cases h
    · rename_i h2
      refine ⟨_, by unfold allAV; rw [if_neg h1, if_neg h2], ?_, h⟩
      have := wordsF_len (l.length + 1) l 0 []
      simp only [List.length_nil] at this
      unfold wordsW
      omega
theorem s35 (l : List UInt8) : semCall (C mx) Tryd.prog 35 [.s l] = some (trAV (parseT l)) := semCall_gv (G := G35) rfl rfl rfl
theorem s23 (l : List UInt8) : semCall (C mx) Tryd.prog 23 [.s l] = some (allAV l) := semCall_gv (G := G23) rfl rfl rfl
theorem awakeT : trAV (parseT [123, 123, 120, 125, 125]) = .tu [.ag [.ro 9 [.ag [.u8 1, .int 0, .s [], .b false, .ro 1 [.s [120]], .nils, .nils, .b false, .u8 0]], .ro 1 [.int 0]], .int 0, .int 0] := by
  kernel_rfl
theorem tri0 (a b c : AV) : tupI (.tu [a, b, c]) 0 = some a := rfl
theorem tri1 (a b c : AV) : tupI (.tu [a, b, c]) 1 = some b := rfl
theorem tri2 (a b c : AV) : tupI (.tu [a, b, c]) 2 = some c := rfl
theorem asAg2 (a b : AV) : AV.asAg 2 (.ag [a, b]) = some [a, b] := rfl
theorem s34 : semCall (C mx) Tryd.prog 34 [] = some (.b true) := by
  apply c34
  simp only [X34, s35, awakeT, Option.bind_some, tri0, tri1, tri2, asAg2, int_eql]
  rfl
/-- **ParseOrder.** -/
theorem law11 (l : List UInt8) : semCall (C mx) Tryd.prog 11 [.s l] = some (.b true) := by
  apply c11
  have hun : unop .not (.b true) = some (.b false) := rfl
  cases h : parseT l with
  | bad a e =>
    have he := parseT_bad h
    have e1 : ((e : Int) != 0) = true := by simp; omega
    simp only [X11, s34 (mx := mx), Option.bind_some, hun, condM_b, Bool.false_eq_true, if_false, s35, h, trAV, tri0, tri1, tri2, asAg2, int_neq, e1, if_true, List.getD_cons_zero, List.getD_cons_succ]
    rfl
  | ok nodes top =>
    obtain ⟨ws, hall, hws, ht⟩ := parseT_ok h
    obtain ⟨k1, k2, k3, k4, k5⟩ := treeOf_ok ht
    have e1 : ((0 : Int) != 0) = false := rfl
    simp only [X11, s34 (mx := mx), Option.bind_some, hun, condM_b, Bool.false_eq_true, if_false, s35, h, trAV, tri0, tri1, tri2, asAg2, int_neq, e1, List.getD_cons_zero, List.getD_cons_succ, s23, hall]
    exact l9 k1 hws (by omega) k3 k4 k5 ws.length 0 (by omega)
end R3Q
