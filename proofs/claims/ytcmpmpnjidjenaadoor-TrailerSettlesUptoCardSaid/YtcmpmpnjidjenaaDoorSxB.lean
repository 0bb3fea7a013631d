/-
  What the evaluator tells of an operation, the operation does: for each kind of operation.
-/
import Derived.Test.YtcmpmpnjidjenaaDoorSxA
import Derived.Lib.ConvBytes
import Derived.Great.BuildSlice
set_option linter.unusedVariables false
set_option linter.unusedSimpArgs false
set_option linter.unusedSectionVars false
set_option linter.unnecessarySimpa false
/-
  SxTy: what is told of a program's types, and that it is so.
-/
namespace Sx
open Go Go.RowKit Go.Lib

def EKOk (P : Program) (t : TypeId) : EK → Prop
  | .b => P.underlying t = some .bool
  | .i => ∃ k, P.underlying t = some (.int k)
  | .s => P.underlying t = some .string

structure EqOk (P : Program) (t : TypeId) (ks : List EK) : Prop where
  stood : P.stoodInHeld t = false
  guard : P.eqGuardType P.depth t = false
  fields : ∃ fs : Array Field, P.underlying t = some (.struct fs) ∧ fs.size = ks.length ∧ ∀ (j : Nat) (f : Field) (k : EK), fs.toList[j]? = some f → ks[j]? = some k → f.offset = j ∧ f.name ≠ "_" ∧ EKOk P f.type k

structure TyOk (P : Program) (t : TypeId) (i : Ty) : Prop where
  info : ∃ inf z, P.info? t = some inf ∧ inf.size = i.size ∧ inf.bytes = i.bytes ∧ inf.zero = some z ∧ z.cells.toList.map ofV = i.zero ∧ z.cells.size = i.size ∧ ∀ v ∈ z.cells.toList, v.oneCell' = true
  und : match i.kd with
    | .bool => P.underlying t = some .bool
    | .int k => P.underlying t = some (.int k)
    | .str => P.underlying t = some .string
    | .slice => P.underlying t = some (.slice i.elem)
    | .struct => ∃ fs : Array Field, P.underlying t = some (.struct fs) ∧ fs.toList.map (fun f => (f.offset, f.type)) = i.fields ∧ ∀ f ∈ fs.toList, ∃ inf, P.info? f.type = some inf ∧ inf.size ≠ 0
    | _ => ∃ d, P.underlying t = some d ∧ (match d with | .struct _ | .array _ _ => false | _ => true) = true
  pos : 0 < i.size ∧ 0 < i.bytes
  one : i.kd.agg = false → i.size = 1
  fieldsOnly : i.kd ≠ .struct → i.fields = []
  eqOk : ∀ ks, i.eqk = some ks → EqOk P t ks

section
variable {P : Program} {t : TypeId} {i : Ty}

theorem TyOk.size (h : TyOk P t i) : (P.info? t).map (·.size) = some i.size := by
  obtain ⟨inf, z, h1, h2, _⟩ := h.info
  rw [h1]; simp [h2]

theorem TyOk.run_size (h : TyOk P t i) (w : World) : (Go.sizeOf t).run P w = .ok i.size w := by
  obtain ⟨inf, z, h1, h2, _⟩ := h.info
  simp [Go.sizeOf, typeInfo, h1, h2]

theorem TyOk.run_agg (h : TyOk P t i) (w : World) : (isAgg t).run P w = .ok i.kd.agg w := by
  have hu := h.und
  unfold isAgg
  cases hk : i.kd <;> rw [hk] at hu <;> simp only at hu
  case struct => obtain ⟨fs, h1, _⟩ := hu; simp [run_underlying h1, Kd.agg]
  case bool => simp [run_underlying hu, Kd.agg]
  case int => simp [run_underlying hu, Kd.agg]
  case str => simp [run_underlying hu, Kd.agg]
  case slice => simp [run_underlying hu, Kd.agg]
  all_goals
    obtain ⟨d, h1, h2⟩ := hu
    cases d <;> simp_all [run_underlying h1, Kd.agg]

/-- The cells of a variable, read. -/
theorem TyOk.run_load (h : TyOk P t i) (hk : i.kd.agg = true ∨ i.size = 1) (w : World) (r off : Nat) (vs : List Value) (hl : vs.length = i.size)
    (hc : ∀ j v, vs[j]? = some v → w.cell? ⟨r, off + j, none⟩ = some v) : (loadVar t ⟨r, off, none⟩).run P w = .ok (if i.kd.agg then .agg vs.toArray else vs.headD undef) w := by
  have hadd : ∀ n, (⟨r, off, none⟩ : Addr).add n = ⟨r, off + n, none⟩ := fun n => by unfold Addr.add; split <;> simp_all
  unfold loadVar
  rw [Sem.run_bind, h.run_agg w]
  simp only [Result.andThen_ok]
  cases ha : i.kd.agg with
  | true =>
    simp only [if_true]
    simp only [Sem.run_bind, h.run_size w, Result.andThen_ok]
    rw [← hl, run_loadCells_list w ⟨r, off, none⟩ vs (fun j v hv => by rw [hadd]; exact hc j v hv)]
    rfl
  | false =>
    have h1 : i.size = 1 := by rcases hk with h | h; · rw [ha] at h; cases h
                               · exact h
    rw [h1] at hl
    obtain ⟨v, rfl⟩ := List.length_eq_one_iff.1 hl
    have := hc 0 v rfl
    simp only [Nat.add_zero] at this
    simp [this]

/-- The cells of a variable, written. -/
theorem TyOk.run_store (h : TyOk P t i) (w : World) (g off : Nat) (e : TypeId) (cur : List Value) (x : Value) (news : List Value) (hg : w.heap[g]? = some (.cells cur.toArray e (0, 0)))
    (hx : x.cells.toList = news) (hl : news.length = i.size) (hfit : off + news.length ≤ cur.length) (h1 : ∀ v ∈ news, v.oneCell' = true) :
    (storeVar t ⟨g, off, none⟩ x).run P w = .ok () (w.setRow g (cur.take off ++ news ++ cur.drop (off + news.length)).toArray) := by
  have hst := run_storeCells_at P g off e news 0 cur.toArray w hg (by simpa using hfit) h1
  simp only [Nat.add_zero] at hst
  have hs : x.cells.size = i.size := by rw [← hl, ← hx]; simp
  unfold storeVar
  rw [Sem.run_bind, h.run_size w]
  simp only [Result.andThen_ok, hs]
  simp only [ne_eq, not_true_eq_false, if_false, hx]
  exact hst

theorem TyOk.run_zero (h : TyOk P t i) (w : World) : ∃ z, (zeroValue t).run P w = .ok z w ∧ z.cells.toList.map ofV = i.zero ∧ z.cells.size = i.size ∧ ∀ v ∈ z.cells.toList, v.oneCell' = true := by
  obtain ⟨inf, z, h1, h2, h3, h4, h5, h6, h7⟩ := h.info
  exact ⟨z, by simp [zeroValue, typeInfo, h1, h4], h5, h6, h7⟩

theorem TyOk.zero_len (h : TyOk P t i) : i.zero.length = i.size := by
  obtain ⟨inf, z, h1, h2, h3, h4, h5, h6, h7⟩ := h.info
  rw [← h5]; simp [h6]

theorem eq1_ok {w w1 w2 : World} {F1 F2 : Nat → Prop} {k : EK} {x y : AV} {vx vy : Value} {r : Bool} (h : eq1 k x y = some r) (hx : Rel w1 F1 x vx) (hy : Rel w2 F2 y vy) (hs : EKOk P t k) (d : Nat) :
    (Op.equalIn (d + 1) t vx vy).run P w = .ok r w := by
  unfold eq1 at h
  split at h
  · split at h
    · cases h; cases hx; cases hy
      exact run_equalIn_bool' w d t _ _ hs
    · cases h
  · obtain ⟨k', hk'⟩ := hs
    split at h
    · rename_i p q
      cases h; cases hx; cases hy
      rw [run_equalIn_int w d t .u8 k' _ _ hk']
      congr 1
      by_cases e : p = q
      · subst e; simp
      · have : ¬ ((p.toNat : Int) = (q.toNat : Int)) := fun e2 => e (UInt8.toNat_inj.1 (by omega))
        rw [beq_eq_false_iff_ne.2 this, beq_eq_false_iff_ne.2 e]
    · cases h; cases hx; cases hy
      exact run_equalIn_int w d t .i64 k' _ _ hk'
    · split at h
      · rename_i e
        subst e
        cases h; cases hx; cases hy
        exact run_equalIn_int w d t _ k' _ _ hk'
      · cases h
    · cases h
  · split at h
    · cases h
      cases hx with
      | s p => cases hy with
        | s q =>
          rw [run_equalIn_string w d t p q hs, toList_data, toList_data]
    · cases h

theorem eqFields_ok {w w1 w2 : World} {F1 F2 : Nat → Prop} (d : Nat) (xs ys : Array Value) (p q : List AV) (hx : ∀ j v, xs[j]? = some v → Rel w1 F1 (p.getD j .un) v) (hy : ∀ j v, ys[j]? = some v → Rel w2 F2 (q.getD j .un) v)
    (hp : p.length = xs.size) (hq : q.length = ys.size) : ∀ (fs : List Field) (ks : List EK) (n : Nat) (r : Bool), fs.length = ks.length →
      (∀ (j : Nat) (f : Field) (k : EK), fs[j]? = some f → ks[j]? = some k → f.offset = n + j ∧ f.name ≠ "_" ∧ EKOk P f.type k) → eqs ks (p.drop n) (q.drop n) = some r →
      (Op.eqFields (d + 1) xs ys fs).run P w = .ok r w
  | [], ks, n, r, hl, hf, h => by
    cases ks with
    | cons k ks => simp at hl
    | nil =>
      unfold eqs at h
      split at h <;> simp_all [Op.eqFields]
  | f :: fs, [], n, r, hl, hf, h => by simp at hl
  | f :: fs, k :: ks, n, r, hl, hf, h => by
    obtain ⟨h1, h2, h3⟩ := hf 0 f k rfl rfl
    cases hpd : p.drop n with
    | nil => rw [hpd] at h; cases q.drop n <;> simp [eqs] at h
    | cons a pr =>
      cases hqd : q.drop n with
      | nil => rw [hpd, hqd] at h; simp [eqs] at h
      | cons b qr =>
        rw [hpd, hqd] at h
        simp only [eqs] at h
        cases hr1 : eq1 k a b with
        | none => rw [hr1] at h; cases h
        | some r1 =>
          rw [hr1] at h
          simp only [Option.bind_some] at h
          cases hr2 : eqs ks pr qr with
          | none => rw [hr2] at h; cases h
          | some r2 =>
            rw [hr2] at h
            cases h
            have ha : p.getD n .un = a := by rw [List.getD_eq_getElem?_getD, show p[n]? = (p.drop n)[0]? by simp, hpd]; rfl
            have hb : q.getD n .un = b := by rw [List.getD_eq_getElem?_getD, show q[n]? = (q.drop n)[0]? by simp, hqd]; rfl
            have hnp : n < xs.size := by
              rw [← hp]
              rcases Nat.lt_or_ge n p.length with h | h
              · exact h
              · rw [List.drop_of_length_le h] at hpd; cases hpd
            have hnq : n < ys.size := by
              rw [← hq]
              rcases Nat.lt_or_ge n q.length with h | h
              · exact h
              · rw [List.drop_of_length_le h] at hqd; cases hqd
            have gx : xs[n]? = some xs[n] := by simp [hnp]
            have gy : ys[n]? = some ys[n] := by simp [hnq]
            have rx := hx n _ gx
            have ry := hy n _ gy
            rw [ha] at rx
            rw [hb] at ry
            have hagg : (isAgg f.type).run P w = .ok false w := by
              unfold isAgg
              cases k with
              | b => simp [run_underlying (show P.underlying f.type = some .bool from h3)]
              | i => obtain ⟨k', hk'⟩ := h3; simp [run_underlying hk']
              | s => simp [run_underlying (show P.underlying f.type = some .string from h3)]
            have e0 : f.offset = n := by simpa using h1
            have px : (part f.type xs f.offset).run P w = .ok xs[n] w := by simp [part, hagg, e0, gx]
            have py : (part f.type ys f.offset).run P w = .ok ys[n] w := by simp [part, hagg, e0, gy]
            have he := eq1_ok (w := w) hr1 rx ry h3 d
            have ih := eqFields_ok (w := w) d xs ys p q hx hy hp hq fs ks (n + 1) r2 (by simpa using hl) (fun j f' k' hj hk => by
              have := hf (j + 1) f' k' (by simpa using hj) (by simpa using hk)
              exact ⟨by omega, this.2⟩) (by
                have ep : p.drop (n + 1) = pr := by rw [← List.drop_drop, hpd]; rfl
                have eq : q.drop (n + 1) = qr := by rw [← List.drop_drop, hqd]; rfl
                rw [ep, eq]; exact hr2)
            simp only [Op.eqFields, ne_eq, h2, not_false_eq_true, if_true, Sem.run_bind, px, py, he, Result.andThen_ok]
            cases r1 with
            | true => simp [ih]
            | false => simp

theorem binAg_ok {w w1 w2 : World} {F1 F2 : Nat → Prop} {ks : List EK} {op : BinOp} {x y : AV} {vx vy : Value} {r : AV} (h : binAg ks op x y = some r) (hx : Rel w1 F1 x vx) (hy : Rel w2 F2 y vy) (hs : EqOk P t ks) (ox oy : Operand) :
    ∃ v, (∀ w : World, (do eqGuard op t ox oy vx vy; binOp op t vx vy : Sem Value).run P w = .ok v w) ∧ Pl r v := by
  unfold binAg at h
  split at h
  · rename_i p q
    cases hx with
    | ag _ xs hlx h1x hrx => cases hy with
      | ag _ ys hly h1y hry =>
        obtain ⟨fs, hu, hn, hf⟩ := hs.fields
        have hfo : P.fieldsOf t = fs := by simp [Program.fieldsOf, hu]
        have run : ∀ (w : World) r', eqs ks p q = some r' → (Op.equal t (.agg xs.toArray) (.agg ys.toArray)).run P w = .ok r' w := fun w r' hr' => by
          have := run_equalIn_struct (P := P) w 9999 t xs.toArray ys.toArray (by rw [hfo]; exact hu) hs.stood
          rw [show Op.equal t (.agg xs.toArray) (.agg ys.toArray) = Op.equalIn (9999 + 1) t (.agg xs.toArray) (.agg ys.toArray) from rfl, this, hfo]
          exact eqFields_ok (w1 := w1) (w2 := w2) (F1 := F1) (F2 := F2) 9998 xs.toArray ys.toArray p q (fun j v hv => hrx j v (by simpa using hv)) (fun j v hv => hry j v (by simpa using hv)) (by simpa using hlx) (by simpa using hly)
            fs.toList ks 0 r' (by simpa using hn) (fun j f k h1 h2 => by have := hf j f k h1 h2; simpa using this) (by simpa using hr')
        have gd : ∀ w : World, (eqGuard op t ox oy (.agg xs.toArray) (.agg ys.toArray)).run P w = .ok () w := fun w => by
          unfold eqGuard
          cases op <;> simp [hs.guard]
        simp only [Sem.run_bind, gd, Result.andThen_ok]
        split at h
        · cases hr : eqs ks p q with
          | none => rw [hr] at h; cases h
          | some r' => rw [hr] at h; cases h; exact ⟨_, fun w => by simp [binOp, run w _ hr], fun w F => .b _⟩
        · cases hr : eqs ks p q with
          | none => rw [hr] at h; cases h
          | some r' => rw [hr] at h; cases h; exact ⟨_, fun w => by simp [binOp, run w _ hr], fun w F => .b _⟩
        · cases h
  · cases h
end
end Sx

/-
  SxOps: what the evaluator does with an operation is what the machine does with it.
-/
namespace Sx
open Go Go.RowKit Go.Lib

def tupV : List Value → Value
  | [x] => x
  | vs => .tuple vs.toArray
def compOf (n : Nat) (r : AV) (j : Nat) : AV := if n = 1 then r else r.comp j

/-- What a call's results read as, in the world behind it. -/
def ResOk (ks : List (Option (Nat × Nat))) (w w' : World) (F : Nat → Prop) (r : AV) (v : Value) : Prop :=
  if ks.all Option.isNone = true then Rel w' (fun b => b < w.heap.size → F b) r v
  else ∃ vs : List Value, vs.length = ks.length ∧ v = tupV vs ∧
    (∀ (j : Nat) (x : Value) (o : Option (Nat × Nat)), vs[j]? = some x → ks[j]? = some o →
      match o with
      | some (e, k) => OwnOk w' (fun b => (b < w.heap.size → F b) ∧ ∀ (i : Nat) (y : Value) (p : Nat × Nat), vs[i]? = some y → ks[i]? = some (some p) → y.ownBlock ≠ some b) e k (compOf vs.length r j).elems x ∧ ∀ g, x.ownBlock = some g → w.heap.size ≤ g
      | none => Rel w' (fun b => (b < w.heap.size → F b) ∧ ∀ (i : Nat) (y : Value) (p : Nat × Nat), vs[i]? = some y → ks[i]? = some (some p) → y.ownBlock ≠ some b) (compOf vs.length r j) x) ∧
    ∀ (i j : Nat) (x y : Value) (p q : Nat × Nat) (g : Nat), i ≠ j → vs[i]? = some x → vs[j]? = some y → ks[i]? = some (some p) → ks[j]? = some (some q) → x.ownBlock = some g → y.ownBlock ≠ some g

def PostOk (C : Cfg) (g : Nat) (w : World) (F : Nat → Prop) (r : AV) (e : Ending) (w' : World) : Prop :=
  ∃ v, e = .returned v ∧ Ext w w' ∧ ResOk (C.own g) w w' F r v

/-- A call of a function comes to this. -/
def CallRuns (P : Program) (g : Nat) (vs : Array Value) (w : World) (R : Ending → World → Prop) : Prop :=
  (∃ fn c, P.funcs[g]? = some fn ∧ fn.body = some c ∧ (fn.name == "runtime.NumGoroutine") = false ∧ Calls P g vs w R) ∨ ∃ v, (callFunc g vs).run P w = .ok (.value v) w ∧ R (.returned v) w

/-- What is told of the package's variables is so. -/
def GlobOk (C : Cfg) (w : World) (F : Nat → Prop) : Prop := ∀ g k e, C.glob g = some (k, e) → REnt w F (fun _ => none) (fun _ => none) (.elv k e 0) (.pointer (some ⟨g, 0, none⟩))

/-- What the evaluator takes a call to answer, the call answers. -/
def CallOk (C : Cfg) (P : Program) (call : Nat → List AV → Option AV) : Prop :=
  ∀ (g : Nat) (args : List AV) (r : AV), call g args = some r → ∀ (w : World) (F : Nat → Prop) (vs : Array Value), GlobOk C w F → vs.size = args.length →
    (∀ (j : Nat) (a : AV) (v : Value), args[j]? = some a → vs[j]? = some v → Rel w F a v) → CallRuns P g vs w (PostOk C g w F r)

section
variable {C : Cfg} {P : Program} {w0 : World} {F0 : Nat → Prop} {nt : Nat} {st : St} {a : Act} {w : World} {H : Nat → Option Value} {σ : Nat → Option Nat} {R : Type} {K : St → Option R} {r : R}

/-- The temporaries but one are as they were. -/
def Only (d : Option Nat) (a a' : Act) : Prop := ∀ t, d ≠ some t → a'.tmps.getD t undef = a.tmps.getD t undef

theorem Only.put (a : Act) (d : Option Nat) (v : Value) : Only d a (a.put d v) := fun t ht => by
  cases d with
  | none => rfl
  | some d =>
    simp only [Act.put, Array.getD_eq_getD_getElem?]
    rw [Array.getElem?_setIfInBounds_ne (fun e => ht (by rw [e]))]

/-- An operation that yields a value may be taken in whatever world that has what it reads. -/
def Takes (P : Program) (o : Oper) (a : Act) (S : World → Prop) (v : Value) : Prop := ∀ w', S w' → (execOp a.eval o).run P w' = .ok (.value v) w'

theorem Inv.get (h : Inv C w0 F0 nt st a w H σ) (x : Operand) : REnt w (Fr w0.heap.size F0 H σ) H σ (st.get C x) (a.eval x) := by
  cases x with
  | tmp t => exact h.env t
  | const v =>
    show REnt w _ H σ (entV v) v
    unfold entV
    split
    · rename_i cs
      cases hb : cs.toList.all Value.oneCell' with
      | false => trivial
      | true =>
        have hall := List.all_eq_true.1 hb
        refine ⟨cs.toList, by simp, by simp, fun j c v h1 h2 => ?_⟩
        rw [List.getElem?_map, h2] at h1
        cases h1
        have := hall v (List.mem_of_getElem? h2)
        exact ⟨this, ofV_pl v this _ _⟩
    · trivial
    · rename_i h1 h2
      exact ofV_pl v (by cases v <;> first | rfl | exact absurd rfl (h1 _) | exact absurd rfl (h2 _)) _ _
  | func f => exact Rel.fn f
  | global g =>
    show REnt w _ H σ (match C.glob g with | some (k, e) => .elv k e 0 | none => .dead) (.pointer (some ⟨g, 0, none⟩))
    cases hg : C.glob g with
    | none => trivial
    | some p => exact h.glob g p.1 p.2 hg

/-- What is told of an entry, as plain data (slices of one's own count as read). -/
theorem REnt.pay {F : Nat → Prop} {e : Ent} {x : Value} (h : REnt w F H σ e x) : e.pay = .un ∨ Rel w T e.pay x := by
  have hT : ∀ b, b < w.heap.size → F b → T b ∧ w.heap[b]? = w.heap[b]? := fun _ _ _ => ⟨trivial, rfl⟩
  cases e with
  | cell c => cases c with
    | dead => exact .inl rfl
    | val v => exact .inr (Rel.mono hT h)
    | own i e k l => exact .inr (h.2.rel (fun _ _ _ => trivial) fun _ _ => trivial)
    | ptr s off => exact .inl rfl
  | agg cs =>
    obtain ⟨vs, rfl, hl, hv⟩ := h
    have hc : ∀ (j : Nat) (v : Value), vs[j]? = some v → v.oneCell' = true ∧ Rel w T ((cs.map Cell.pay).getD j .un) v := fun j v hj => by
      have hlt : j < cs.length := by rw [← hl]; exact (List.getElem?_eq_some_iff.1 hj).1
      have hcj := hv j cs[j] v (List.getElem?_eq_getElem hlt) hj
      have e : (cs.map Cell.pay).getD j .un = cs[j].pay := by rw [List.getD_eq_getElem?_getD, List.getElem?_map, List.getElem?_eq_getElem hlt]; rfl
      rw [e]
      cases hcc : cs[j] with
      | dead => rw [hcc] at hcj; exact ⟨hcj, .un hcj⟩
      | val u => rw [hcc] at hcj; exact ⟨hcj.1, Rel.mono hT hcj.2⟩
      | own i e k l => rw [hcc] at hcj; exact ⟨Value.oneCell_slice hcj.2, hcj.2.rel (fun _ _ _ => trivial) fun _ _ => trivial⟩
      | ptr s off => rw [hcc] at hcj; obtain ⟨r, _, rfl⟩ := hcj; exact ⟨rfl, .un rfl⟩
    exact .inr (.ag _ vs (by simp [hl]) (fun v hm => by obtain ⟨j, hj⟩ := List.getElem?_of_mem hm; exact (hc j v hj).1) fun j v hj => (hc j v hj).2)
  | elv k e off => exact .inl rfl
  | elo i e k l n off => exact .inl rfl
  | tup r ks => exact .inl rfl

theorem lift_some {dst : Option Nat} {o : Option AV} (h : lift st dst K o = some r) : ∃ v, o = some v ∧ K (st.put dst (.val v)) = some r := by
  unfold lift at h
  cases o with
  | none => cases h
  | some v => exact ⟨v, rfl, h⟩

/-- The conclusion for an operation that only yields a value. -/
def Yld (C : Cfg) (P : Program) (w0 : World) (F0 : Nat → Prop) (nt : Nat) (a : Act) (w : World) (σ : Nat → Option Nat) (K : St → Option R) (r : R) (o : Oper) (S : World → Prop) : Prop :=
  ∃ v, Takes P o a S v ∧ ∃ st' H', K st' = some r ∧ Inv C w0 F0 nt st' (a.put o.dst v) w H' σ

theorem pl_put (h : Inv C w0 F0 nt st a w H σ) {o : Oper} (hd : ∀ t, o.dst = some t → t < nt) {v : Value} {x : AV} {S : World → Prop} (hv : Takes P o a S v) (hx : Pl x v) (hK : K (st.put o.dst (.val x)) = some r) :
    Yld C P w0 F0 nt a w σ K r o S := ⟨v, hv, _, H, hK, h.put hd (hx _ _)⟩

/-- What is read: blocks that are only read, and all that are the function's own. -/
def Same (w w' : World) : Prop := ∀ b, b < w.heap.size → w'.heap[b]? = w.heap[b]?

theorem op_move {o : Oper} {x : Operand} (ho : o.op = .move x ∨ o.op = .assign x) (h : Inv C w0 F0 nt st a w H σ) (hd : ∀ t, o.dst = some t → t < nt) (hK : K (st.put o.dst (st.get C x)) = some r) (S : World → Prop) :
    Yld C P w0 F0 nt a w σ K r o S :=
  ⟨a.eval x, fun w' _ => by rcases ho with ho | ho <;> simp [execOp, ho], _, H, hK, h.put hd (h.get x)⟩

/-- The two operands of a binary operation. -/
theorem op_bin {o : Oper} {op : BinOp} {t u : TypeId} {x y : Operand} (ho : o.op = .binOp op t x y u) (h : Inv C w0 F0 nt st a w H σ) (hd : ∀ t, o.dst = some t → t < nt)
    {f : AV → AV → Option AV} (hf : ∀ (vx vy : Value) (p q z : AV) , f p q = some z → Rel w T p vx → Rel w T q vy → ∃ v, (∀ w' : World, (do eqGuard op t x y vx vy; binOp op t vx vy : Sem Value).run P w' = .ok v w') ∧ Pl z v)
    (hun1 : ∀ q, f .un q = none) (hun2 : ∀ p, f p .un = none) (hK : lift st o.dst K (f (st.get C x).pay (st.get C y).pay) = some r) (S : World → Prop) : Yld C P w0 F0 nt a w σ K r o S := by
  obtain ⟨z, hz, hK⟩ := lift_some hK
  have rx := (h.get x).pay
  have ry := (h.get y).pay
  rcases rx with e | rx
  · rw [e, hun1] at hz; cases hz
  · rcases ry with e | ry
    · rw [e, hun2] at hz; cases hz
    · obtain ⟨v, hv, hp⟩ := hf _ _ _ _ _ hz rx ry
      exact pl_put h hd (fun w' _ => by simp only [execOp, ho]; rw [Sem.run_bind, hv w']; rfl) hp hK

/-- Worlds in which nothing that the world w has has turned, but for the variables 'ws'. -/
def Keeps (ws : List Nat) (σ : Nat → Option Nat) (w : World) (S : World → Prop) : Prop := ∀ w', S w' → ∀ b, b < w.heap.size → (∀ s ∈ ws, σ s ≠ some b) → w'.heap[b]? = w.heap[b]?

theorem Keeps.self (ws : List Nat) (σ : Nat → Option Nat) (w : World) : Keeps ws σ w (· = w) := fun w' h _ _ _ => by rw [h]

theorem op_un {o : Oper} {op : UnOp} {t : TypeId} {x : Operand} (ho : o.op = .unOp op t x) (h : Inv C w0 F0 nt st a w H σ) (hd : ∀ t, o.dst = some t → t < nt)
    (hK : lift st o.dst K (unop op (st.get C x).pay) = some r) (S : World → Prop) : Yld C P w0 F0 nt a w σ K r o S := by
  obtain ⟨z, hz, hK⟩ := lift_some hK
  rcases (h.get x).pay with e | rx
  · rw [e] at hz; cases op <;> cases hz
  · obtain ⟨v, hv, hp⟩ := unop_ok (P := P) hz rx
    exact pl_put h hd (fun w' _ => by simp only [execOp, ho]; rw [Sem.run_bind, hv w']; rfl) hp hK

theorem op_fieldAddr {o : Oper} {t : TypeId} {x : Operand} {n : Nat} (ho : o.op = .fieldAddr t x n) (hT : ∀ t i, C.ty t = some i → TyOk P t i) (h : Inv C w0 F0 nt st a w H σ) (hd : ∀ t, o.dst = some t → t < nt)
    (hK : (match fieldOff C t n, st.get C x with
      | some (off, _), .cell (.ptr s o') => K (st.put o.dst (.cell (.ptr s (o' + off))))
      | some (off, _), .elv k e o' => K (st.put o.dst (.elv k e (o' + off)))
      | some (off, _), .elo id e k l n o' => K (st.put o.dst (.elo id e k l n (o' + off)))
      | _, _ => none) = some r) (S : World → Prop) : Yld C P w0 F0 nt a w σ K r o S := by
  cases hfo : fieldOff C t n with
  | none => rw [hfo] at hK; cases hK
  | some p =>
    obtain ⟨off, ft⟩ := p
    rw [hfo] at hK
    unfold fieldOff at hfo
    cases hi : C.ty t with
    | none => rw [hi] at hfo; cases hfo
    | some i =>
      rw [hi] at hfo
      simp only [Option.bind_some] at hfo
      have hu := (hT t i hi).und
      have hst : i.kd = .struct ∨ i.kd ≠ .struct := by cases i.kd <;> simp
      have hr := h.get x
      have main : ∀ (b q : Nat) (e : Ent), i.kd = .struct → a.eval x = .pointer (some ⟨b, q, none⟩) → REnt w (Fr w0.heap.size F0 H σ) H σ e (.pointer (some ⟨b, q + off, none⟩)) → K (st.put o.dst e) = some r → Yld C P w0 F0 nt a w σ K r o S := by
        intro b q e hk hq he hK
        rw [hk] at hu
        obtain ⟨fs, h1, h2, h3⟩ := hu
        have hfs : fs.toList[n]? ≠ none := fun e => by
          rw [← h2, List.getElem?_map, e] at hfo; cases hfo
        obtain ⟨fl, hfl⟩ := Option.ne_none_iff_exists'.1 hfs
        have hfoo : fl.offset = off := by rw [← h2, List.getElem?_map, hfl] at hfo; simp at hfo; exact hfo.1
        obtain ⟨inf, h4, h5⟩ := h3 fl (List.mem_of_getElem? hfl)
        have hfl' : fs[n]? = some fl := by rw [← Array.getElem?_toList]; exact hfl
        refine ⟨.pointer (some ⟨b, q + off, none⟩), fun w' _ => ?_, _, H, hK, h.put hd he⟩
        have hadd : (⟨b, q, none⟩ : Addr).add off = ⟨b, q + off, none⟩ := by unfold Addr.add; split <;> simp_all
        have hsz : (Go.sizeOf fl.type).run P w' = .ok inf.size w' := by simp [Go.sizeOf, typeInfo, h4]
        simp only [execOp, ho, hq]
        simp [Instr.fieldAt, run_underlying h1, hfl', Instr.sureAddr, fieldPlace, hsz, h5, hfoo, hadd]
      have hkd : i.kd = .struct := by
        rcases hst with h | h
        · exact h
        · exfalso
          have := (hT t i hi).fieldsOnly h
          rw [this] at hfo
          cases hfo
      cases hge : st.get C x with
      | cell c => cases c with
        | ptr s o' =>
          rw [hge] at hr hK
          obtain ⟨b, hb, hx⟩ := hr
          exact main b o' (.cell (.ptr s (o' + off))) hkd hx ⟨b, hb, rfl⟩ hK
        | _ => rw [hge] at hK; cases hK
      | elv k e o' =>
        rw [hge] at hr hK
        obtain ⟨b, q, hx, h1, h2, h3⟩ := hr
        exact main b (q + o') (.elv k e (o' + off)) hkd hx ⟨b, q, by rw [Nat.add_assoc], h1, h2, h3⟩ hK
      | elo id e k l m o' =>
        rw [hge] at hr hK
        obtain ⟨g, m', cap, h1, h2, h3, hx⟩ := hr
        exact main g (m * k + o') (.elo id e k l m (o' + off)) hkd hx ⟨g, m', cap, h1, h2, h3, by rw [Nat.add_assoc]⟩ hK
      | _ => rw [hge] at hK; cases hK

theorem op_index {o : Oper} {t : TypeId} {x y : Operand} (ho : o.op = .index t x y) (hT : ∀ t i, C.ty t = some i → TyOk P t i) (h : Inv C w0 F0 nt st a w H σ) (hd : ∀ t, o.dst = some t → t < nt) (hk : C.kd t = some .str)
    (hK : lift st o.dst K (idxS (st.get C x).pay (st.get C y).pay) = some r) (S : World → Prop) : Yld C P w0 F0 nt a w σ K r o S := by
  obtain ⟨z, hz, hK⟩ := lift_some hK
  unfold Cfg.kd at hk
  cases hi : C.ty t with
  | none => rw [hi] at hk; cases hk
  | some i =>
    rw [hi] at hk
    simp only [Option.map_some, Option.some.injEq] at hk
    have hu := (hT t i hi).und
    rw [hk] at hu
    rcases (h.get x).pay with e | rx
    · rw [e] at hz; cases hz
    · rcases (h.get y).pay with e | ry
      · rw [e] at hz
        unfold idxS inN at hz
        split at hz <;> simp [AV.toI] at hz
      · obtain ⟨v, hv, hp⟩ := idxS_ok (P := P) hz rx ry t hu
        exact pl_put h hd (fun w' _ => by simp only [execOp, ho]; rw [Sem.run_bind, hv w']; rfl) hp hK

theorem fromCells_agg {cs : List Cell} : fromCells true cs = .agg cs := rfl

/-- Reading a variable. -/
theorem op_load {o : Oper} {t : TypeId} {x : Operand} (ho : o.op = .load t x) (hT : ∀ t i, C.ty t = some i → TyOk P t i) (h : Inv C w0 F0 nt st a w H σ) (hd : ∀ t, o.dst = some t → t < nt)
    (hK : evLoad C t (st.get C x) o.dst st K = some r) {ws : List Nat} {S : World → Prop} (hS : Keeps ws σ w S) (hws : ∀ s off, st.get C x = .cell (.ptr s off) → s ∉ ws) : Yld C P w0 F0 nt a w σ K r o S := by
  have hr := h.get x
  unfold evLoad at hK
  cases hi : C.ty t with
  | none => rw [hi] at hK; cases hK
  | some i =>
    rw [hi] at hK
    simp only at hK
    have ht := hT t i hi
    -- what is common: cells at an address that stay
    have key : ∀ (b off : Nat) (vs : List Value) (e : Ent), a.eval x = .pointer (some ⟨b, off, none⟩) → vs.length = i.size → (∀ w', S w' → ∀ (j : Nat) (v : Value), vs[j]? = some v → w'.cell? ⟨b, off + j, none⟩ = some v) → (i.kd.agg = true ∨ i.size = 1) →
        REnt w (Fr w0.heap.size F0 H σ) H σ e (if i.kd.agg then .agg vs.toArray else vs.headD undef) → K (st.put o.dst e) = some r → Yld C P w0 F0 nt a w σ K r o S := by
      intro b off vs e hx hl hc hag he hK
      refine ⟨_, fun w' hw' => ?_, _, H, hK, h.put hd he⟩
      have := ht.run_load hag w' b off vs hl (hc w' hw')
      simp only [execOp, ho, hx]
      simp only [Instr.loadAt, Instr.sureAddr, Sem.run_bind, Sem.run_pure, Result.andThen_ok, this]
    have elemKey : ∀ {b q off : Nat} (e : AV), (∀ j, j < i.size → ∃ v, w.cell? ⟨b, q + (off + j), none⟩ = some v ∧ v.oneCell' = true ∧ Rel w (Fr w0.heap.size F0 H σ) (e.cell (off + j)) v) → a.eval x = .pointer (some ⟨b, q + off, none⟩) →
        (∀ w', S w' → w'.heap[b]? = w.heap[b]?) → K (st.put o.dst (fromCells i.kd.agg ((List.range i.size).map fun j => .val (e.cell (off + j))))) = some r → Yld C P w0 F0 nt a w σ K r o S := by
      intro b q off e hc hx hsame hK
      have hgetD : ∀ j, j < i.size → ∃ v, w.cell? ⟨b, q + off + j, none⟩ = some v ∧ v.oneCell' = true ∧ Rel w (Fr w0.heap.size F0 H σ) (e.cell (off + j)) v := fun j hj => by
        obtain ⟨v, h1, h2⟩ := hc j hj
        rw [← Nat.add_assoc] at h1
        exact ⟨v, h1, h2⟩
      have hvs : ∀ j v, ((List.range i.size).map fun j => (w.cell? ⟨b, q + off + j, none⟩).getD undef)[j]? = some v → j < i.size ∧ w.cell? ⟨b, q + off + j, none⟩ = some v ∧ v.oneCell' = true ∧ Rel w (Fr w0.heap.size F0 H σ) (e.cell (off + j)) v := fun j v hv => by
        rw [List.getElem?_map] at hv
        by_cases hj : j < i.size
        · rw [List.getElem?_range hj] at hv
          obtain ⟨u, h1, h2, h3⟩ := hgetD j hj
          simp only [Option.map_some, h1, Option.getD_some, Option.some.injEq] at hv
          subst hv
          exact ⟨hj, h1, h2, h3⟩
        · rw [List.getElem?_eq_none (by simp; omega)] at hv; cases hv
      have hl : ((List.range i.size).map fun j => (w.cell? ⟨b, q + off + j, none⟩).getD undef).length = i.size := by simp
      have hcw : ∀ w', S w' → ∀ (j : Nat) (v : Value), ((List.range i.size).map fun j => (w.cell? ⟨b, q + off + j, none⟩).getD undef)[j]? = some v → w'.cell? ⟨b, q + off + j, none⟩ = some v := fun w' hw' j v hv => by
        rw [← (hvs j v hv).2.1]
        exact World.cell?_of_block (w := w) (a := ⟨b, q + off + j, none⟩) (hsame w' hw')
      cases hag : i.kd.agg with
      | true =>
        refine key b (q + off) _ _ hx hl hcw (.inl hag) ?_ hK
        rw [hag]
        refine ⟨_, rfl, by simp, fun j c v hc' hv => ?_⟩
        obtain ⟨hj, h1, h2, h3⟩ := hvs j v hv
        rw [List.getElem?_map, List.getElem?_range hj] at hc'
        cases hc'
        exact ⟨h2, h3⟩
      | false =>
        have h1 := ht.one hag
        refine key b (q + off) _ _ hx hl hcw (.inr h1) ?_ hK
        rw [hag, h1]
        obtain ⟨v, g1, g2, g3⟩ := hgetD 0 (by omega)
        simp only [List.range_one, List.map_cons, List.map_nil, fromCells, cond_false, List.headD_cons, g1, Option.getD_some]
        exact g3
    split at hK
    · rename_i s off hge
      rw [hge] at hr
      obtain ⟨b, hb, hx⟩ := hr
      split at hK
      · rename_i cs hcs
        cases hle : Nat.ble (off + i.size) cs.length with
        | false => rw [hle] at hK; cases hK
        | true =>
          rw [hle] at hK
          have hle' := Nat.le_of_ble_eq_true hle
          obtain ⟨b', vs, e, h1, h2, h3, h4⟩ := h.mem s cs hcs
          have hbb : b' = b := by rw [hb] at h1; exact (Option.some.inj h1).symm
          subst hbb
          have hlt := (h.sown s b' hb).2
          have hl : ((vs.drop off).take i.size).length = i.size := by simp; omega
          have hsame : ∀ w', S w' → w'.heap[b']? = w.heap[b']? := fun w' hw' => hS w' hw' b' hlt fun s' hs' e' => by
            by_cases hss : s' = s
            · subst hss; exact hws _ _ hge hs'
            · exact h.ss s' s b' hss e' hb
          have hcell : ∀ j v, ((vs.drop off).take i.size)[j]? = some v → vs[off + j]? = some v := fun j v hv => by
            rw [List.getElem?_take, List.getElem?_drop] at hv
            split at hv
            · exact hv
            · cases hv
          have hvc : ∀ w', S w' → ∀ j v, ((vs.drop off).take i.size)[j]? = some v → w'.cell? ⟨b', off + j, none⟩ = some v := fun w' hw' j v hv => by
            rw [cell_of_row w' b' (off + j) vs.toArray e (0, 0) (by rw [hsame w' hw']; exact h2)]
            simpa using hcell j v hv
          cases hag : i.kd.agg with
          | true =>
            refine key b' off _ (.agg ((cs.drop off).take i.size)) hx hl hvc (.inl hag) ?_ (by rw [hag] at hK; exact hK)
            rw [hag]
            refine ⟨_, rfl, by simp; omega, fun j c v hc hv => ?_⟩
            have hc' : cs[off + j]? = some c := by
              rw [List.getElem?_take, List.getElem?_drop] at hc
              split at hc
              · exact hc
              · cases hc
            exact h4 (off + j) c v hc' (hcell j v hv)
          | false =>
            have h1' := ht.one hag
            have hcs0 : off < cs.length := by omega
            have hvs0 : off < vs.length := by omega
            have e1 : (vs.drop off).take i.size = [vs[off]] := by rw [h1']; rw [List.drop_eq_getElem_cons hvs0]; rfl
            have e2 : (cs.drop off).take i.size = [cs[off]] := by rw [h1']; rw [List.drop_eq_getElem_cons hcs0]; rfl
            refine key b' off _ (.cell cs[off]) hx hl hvc (.inr h1') ?_ (by rw [hag, e2] at hK; exact hK)
            rw [hag, e1]
            simp only [List.headD_cons]
            have := h4 off cs[off] vs[off] (List.getElem?_eq_getElem hcs0) (List.getElem?_eq_getElem hvs0)
            cases hcc : cs[off] with
            | dead => trivial
            | val u => rw [hcc] at this; exact this.2
            | own i e k l => rw [hcc] at this; exact this
            | ptr s o => rw [hcc] at this; exact this
      · cases hK
    · rename_i k e off hge
      rw [hge] at hr
      obtain ⟨b, q, hx, hF, hlt, hj⟩ := hr
      cases hle : Nat.ble (off + i.size) k with
      | false => rw [hle] at hK; cases hK
      | true =>
        rw [hle] at hK
        exact elemKey e (fun j hj' => hj (off + j) (by have := Nat.le_of_ble_eq_true hle; omega)) hx (fun w' hw' => hS w' hw' b hlt fun s _ e => hF.2.2 s e) hK
    · rename_i id e k l n off hge
      rw [hge] at hr
      obtain ⟨g, m, cap, hH, hown, hn, hx⟩ := hr
      cases hle : Nat.ble (off + i.size) k with
      | false => rw [hle] at hK; cases hK
      | true =>
        rw [hle] at hK
        have hle' := Nat.le_of_ble_eq_true hle
        have hg := h.hown id _ g hH rfl
        obtain ⟨hk0, xs, ⟨hxl, h2⟩, hc1, hrr⟩ := hown
        rcases h2 with ⟨h2, _⟩ | ⟨g', cap', cur, h2, _, hgg, _, _, _, htake⟩
        · cases h2
        · cases h2
          have hcell : ∀ j, j < i.size → ∃ v, w.cell? ⟨g, n * k + (off + j), none⟩ = some v ∧ v.oneCell' = true ∧ Rel w (Fr w0.heap.size F0 H σ) ((l.getD n .un).cell (off + j)) v := fun j hj => by
            have hlt : n * k + (off + j) < xs.length := by
              rw [hxl]
              calc n * k + (off + j) < n * k + k := by omega
                _ = (n + 1) * k := by rw [Nat.add_mul, Nat.one_mul]
                _ ≤ l.length * k := Nat.mul_le_mul_right _ hn
            obtain ⟨u, hgt⟩ : ∃ u, xs[n * k + (off + j)]? = some u := ⟨_, List.getElem?_eq_getElem hlt⟩
            refine ⟨u, ?_, hc1 _ (List.mem_of_getElem? hgt), hrr n (off + j) _ hn (by omega) hgt⟩
            rw [cell_of_row w g _ cur e (0, 0) hgg]
            rw [← htake, List.getElem?_take] at hgt
            split at hgt
            · simpa using hgt
            · cases hgt
          refine elemKey (q := n * k) (l.getD n .un) (fun j hj' => hcell j hj') hx (fun w' hw' => hS w' hw' g hg.2 fun s _ e => h.hs id s _ g hH e rfl) hK
    · cases hK

/-- What is known of a type by its kind. -/
theorem kd_some {t : Nat} {k : Kd} (h : C.kd t = some k) : ∃ i, C.ty t = some i ∧ i.kd = k := by
  unfold Cfg.kd at h
  cases hi : C.ty t with
  | none => rw [hi] at h; cases h
  | some i => rw [hi] at h; exact ⟨i, rfl, by simpa using h⟩

theorem und_some {t : TypeId} {i : Ty} (h : TyOk P t i) : (P.underlying t).isSome = true := by
  have hu := h.und
  cases hk : i.kd <;> rw [hk] at hu <;> simp only at hu
  case struct => obtain ⟨fs, h1, _⟩ := hu; rw [h1]; rfl
  case ptr => obtain ⟨d, h1, _⟩ := hu; rw [h1]; rfl
  case func => obtain ⟨d, h1, _⟩ := hu; rw [h1]; rfl
  case other => obtain ⟨d, h1, _⟩ := hu; rw [h1]; rfl
  all_goals rw [hu]; rfl

/-- What the entry of a slice or text reads as. -/
theorem pay_read (h : Inv C w0 F0 nt st a w H σ) (x : Operand) {z : AV} (f : AV → Option AV) (hf : f .un = none) (hz : f (st.get C x).pay = some z) : Rel w T (st.get C x).pay (a.eval x) := by
  rcases (h.get x).pay with e | rx
  · rw [e, hf] at hz; cases hz
  · exact rx

def Ent.fzs (e : Ent) (ids : List Nat) : Ent := ids.foldl (fun e i => e.fz i) e

theorem Cell.pay_fz (i : Nat) (c : Cell) : (c.fz i).pay = c.pay := by
  cases c with
  | own j e k l => simp only [Cell.fz, bif_beq]; split <;> rfl
  | _ => rfl
theorem Cell.told_fz (i : Nat) (c : Cell) : (c.fz i).told = c.told := by
  cases c with
  | own j e k l => simp only [Cell.fz, bif_beq]; split <;> rfl
  | _ => rfl
theorem Ent.pay_fz (i : Nat) (e : Ent) : (e.fz i).pay = e.pay := by
  cases e with
  | cell c => exact Cell.pay_fz i c
  | agg cs => simp only [Ent.fz, Ent.pay, List.map_map]; congr 1; exact List.map_congr_left fun c _ => Cell.pay_fz i c
  | elo j e k l n off => simp only [Ent.fz, bif_beq]; split <;> rfl
  | _ => rfl
theorem Ent.told_fz (i : Nat) (e : Ent) : (e.fz i).told = e.told := by
  cases e with
  | cell c => exact Cell.told_fz i c
  | agg cs =>
    simp only [Ent.fz, Ent.told, List.all_map]
    congr 1
    funext c
    exact Cell.told_fz i c
  | elo j e k l n off => simp only [Ent.fz, bif_beq]; split <;> rfl
  | _ => rfl
theorem Cell.ids_fz (i j : Nat) (c : Cell) (h : j ∈ (c.fz i).ids) : j ∈ c.ids ∧ j ≠ i := by
  cases c with
  | own k e m l =>
    by_cases hk : k = i
    · simp [Cell.fz, bif_beq, hk, Cell.ids] at h
    · simp [Cell.fz, bif_beq, hk, Cell.ids] at h
      subst h
      exact ⟨by simp [Cell.ids], hk⟩
  | _ => simp [Cell.fz, Cell.ids] at h
theorem Ent.ids_fz (i j : Nat) (e : Ent) (h : j ∈ (e.fz i).ids) : j ∈ e.ids ∧ j ≠ i := by
  cases e with
  | cell c => exact Cell.ids_fz i j c h
  | agg cs =>
    simp only [Ent.fz, Ent.ids, List.mem_flatMap, List.mem_map] at h
    obtain ⟨c', ⟨c, hc, rfl⟩, hj⟩ := h
    obtain ⟨h1, h2⟩ := Cell.ids_fz i j c hj
    exact ⟨List.mem_flatMap.2 ⟨c, hc, h1⟩, h2⟩
  | elo k e m l n off =>
    by_cases hk : k = i
    · simp [Ent.fz, bif_beq, hk, Ent.ids, Cell.ids] at h
    · simp [Ent.fz, bif_beq, hk, Ent.ids] at h
  | elv k e off => simp [Ent.fz, Ent.ids] at h
  | tup r ks => simp [Ent.fz, Ent.ids] at h

theorem Ent.pay_fzs (ids : List Nat) (e : Ent) : (e.fzs ids).pay = e.pay := by
  induction ids generalizing e with
  | nil => rfl
  | cons i r ih => simp only [Ent.fzs, List.foldl_cons]; rw [← Ent.pay_fz i e]; exact ih (e.fz i)
theorem Ent.told_fzs (ids : List Nat) (e : Ent) : (e.fzs ids).told = e.told := by
  induction ids generalizing e with
  | nil => rfl
  | cons i r ih => simp only [Ent.fzs, List.foldl_cons]; rw [← Ent.told_fz i e]; exact ih (e.fz i)
theorem Ent.ids_fzs (ids : List Nat) (e : Ent) (j : Nat) (h : j ∈ (e.fzs ids).ids) : j ∈ e.ids ∧ j ∉ ids := by
  induction ids generalizing e with
  | nil => exact ⟨h, by simp⟩
  | cons i r ih =>
    simp only [Ent.fzs, List.foldl_cons] at h
    obtain ⟨h1, h2⟩ := ih (e.fz i) h
    obtain ⟨h3, h4⟩ := Ent.ids_fz i j e h1
    exact ⟨h3, by simp [h4, h2]⟩

/-- Slices are only read from now on; entries go on with it. -/
theorem Inv.fzs2 (h : Inv C w0 F0 nt st a w H σ) (ids : List Nat) : ∃ H', Inv C w0 F0 nt (st.fzs ids) a w H' σ ∧
    (∀ e x, REnt w (Fr w0.heap.size F0 H σ) H σ e x → REnt w (Fr w0.heap.size F0 H' σ) H' σ (e.fzs ids) x) ∧ (∀ i x, H' i = some x → H i = some x) ∧ (∀ i x, i ∉ ids → H i = some x → H' i = some x) := by
  induction ids generalizing st H with
  | nil => exact ⟨H, h, fun _ _ he => he, fun _ _ hx => hx, fun _ _ _ hx => hx⟩
  | cons i r ih =>
    have hid : ∀ x g, H i = some x → x.ownBlock = some g → Fr w0.heap.size F0 (Sx.erase H i) σ g := fun x g hx hg =>
      Fr.freed (fun j y hj hy hyg => h.hh j i y x g hj hy hx hyg hg) (fun s hs => h.hs i s x g hx hs hg) (h.hown i x g hx hg).1
    obtain ⟨H', h', h1, h2, h3⟩ := ih (h.fz i)
    refine ⟨H', h', fun e x he => ?_, fun j x hj => (erase_some (h2 j x hj)).2, fun j x hj hx => ?_⟩
    · exact h1 (e.fz i) x (fz_ent i (fun _ _ hb => hb.erase) hid e x he)
    · exact h3 j x (fun hm => hj (List.mem_cons_of_mem _ hm)) (erase_of hx fun e => hj (e ▸ List.mem_cons_self ..))

/-- What is told of an entry without slices of one's own. -/
theorem REnt.told {F : Nat → Prop} {e : Ent} {x : Value} (h : REnt w F H σ e x) (ht : e.told = true) (hi : e.ids = []) : Rel w F e.pay x := by
  cases e with
  | cell c => cases c with
    | dead => cases ht
    | val v => exact h
    | own i e k l => simp [Ent.ids, Cell.ids] at hi
    | ptr s off => cases ht
  | agg cs =>
    obtain ⟨vs, rfl, hl, hv⟩ := h
    simp only [Ent.told, List.all_eq_true] at ht
    simp only [Ent.ids, List.flatMap_eq_nil_iff] at hi
    have hc : ∀ (j : Nat) (v : Value), vs[j]? = some v → v.oneCell' = true ∧ Rel w F ((cs.map Cell.pay).getD j .un) v := fun j v hj => by
      have hlt : j < cs.length := by rw [← hl]; exact (List.getElem?_eq_some_iff.1 hj).1
      have hcj := hv j cs[j] v (List.getElem?_eq_getElem hlt) hj
      have e : (cs.map Cell.pay).getD j .un = cs[j].pay := by rw [List.getD_eq_getElem?_getD, List.getElem?_map, List.getElem?_eq_getElem hlt]; rfl
      rw [e]
      have h1 := ht cs[j] (List.getElem_mem hlt)
      have h2 := hi cs[j] (List.getElem_mem hlt)
      cases hcc : cs[j] with
      | dead => rw [hcc] at h1; cases h1
      | val u => rw [hcc] at hcj; exact hcj
      | own i e k l => rw [hcc] at h2; simp [Cell.ids] at h2
      | ptr s off => rw [hcc] at h1; cases h1
    exact .ag _ vs (by simp [hl]) (fun v hm => by obtain ⟨j, hj⟩ := List.getElem?_of_mem hm; exact (hc j v hj).1) fun j v hj => (hc j v hj).2
  | elv k e off => cases ht
  | elo i e k l n off => cases ht
  | tup r ks => cases ht

/-- An entry as plain data, its slices being only read from now on. -/
theorem told_fzs {F : Nat → Prop} {e : Ent} {x : Value} {ids : List Nat} (h : REnt w F H σ (e.fzs ids) x) (ht : e.told = true) (hi : ∀ i ∈ e.ids, i ∈ ids) : Rel w F e.pay x := by
  have := REnt.told (e := e.fzs ids) h (by rw [Ent.told_fzs]; exact ht) (by
    apply List.eq_nil_iff_forall_not_mem.2
    intro j hj
    obtain ⟨h1, h2⟩ := Ent.ids_fzs ids e j hj
    exact h2 (hi j h1))
  rwa [Ent.pay_fzs] at this

theorem op_convert {o : Oper} {t u : TypeId} {x : Operand} (ho : o.op = .convert t u x) (hT : ∀ t i, C.ty t = some i → TyOk P t i) (h : Inv C w0 F0 nt st a w H σ) (hd : ∀ t, o.dst = some t → t < nt)
    (hns : ¬ (C.kd t = some .str ∧ C.kd u = some .slice)) (hns2 : ¬ (C.kd t = some .slice ∧ C.kd u = some .slice)) (hK : evConv C t u (st.get C x) o.dst st K = some r) {ws : List Nat} {S : World → Prop} (hS : Keeps ws σ w S) :
    Yld C P w0 F0 nt a w σ K r o S := by
  unfold evConv at hK
  have run1 : ∀ {v : Value}, (∀ w' : World, (convert t u (a.eval x)).run P w' = .ok v w') → Takes P o a S v := fun hv w' _ => by simp only [execOp, ho]; rw [Sem.run_bind, hv w']; rfl
  split at hK
  · rename_i k1 k2 h1 h2
    obtain ⟨i1, e1, f1⟩ := kd_some h1
    obtain ⟨i2, e2, f2⟩ := kd_some h2
    obtain ⟨z, hz, hK⟩ := lift_some hK
    have hu := (hT u i2 e2).und
    rw [f2] at hu
    obtain ⟨v, hv, hp⟩ := conv_ok (P := P) hz (pay_read h x (conv k2) rfl hz) t u (und_some (hT t i1 e1)) hu
    exact pl_put h hd (run1 hv) hp hK
  · rename_i h1 h2
    obtain ⟨i1, e1, f1⟩ := kd_some h1
    obtain ⟨i2, e2, f2⟩ := kd_some h2
    obtain ⟨z, hz, hK⟩ := lift_some hK
    have hu := (hT u i2 e2).und
    rw [f2] at hu
    have hu1 := (hT t i1 e1).und
    rw [f1] at hu1
    obtain ⟨v, hv, hp⟩ := asStr_ok (P := P) hz (pay_read h x asStr rfl hz) t u hu1 hu
    exact pl_put h hd (run1 hv) hp hK
  · rename_i h1 h2
    obtain ⟨i1, e1, f1⟩ := kd_some h1
    obtain ⟨i2, e2, f2⟩ := kd_some h2
    rw [e1] at hK
    simp only [Option.bind_some] at hK
    split at hK
    · rename_i h3
      obtain ⟨i3, e3, f3⟩ := kd_some h3
      obtain ⟨z, hz, hK⟩ := lift_some hK
      have hu := (hT u i2 e2).und
      rw [f2] at hu
      have hu1 := (hT t i1 e1).und
      rw [f1] at hu1
      have hu3 := (hT i1.elem i3 e3).und
      rw [f3] at hu3
      -- read with the blocks that are read or owned
      have rx : Rel w (fun b => Fr w0.heap.size F0 H σ b ∨ ∃ i y, H i = some y ∧ y.ownBlock = some b) (st.get C x).pay (a.eval x) := by
        have hr := h.get x
        cases hge : st.get C x with
        | cell c => cases c with
          | val v => rw [hge] at hr; exact Rel.mono (fun _ _ hf => ⟨.inl hf, rfl⟩) hr
          | own i e k l =>
            rw [hge] at hr
            exact hr.2.rel (fun _ _ hf => .inl hf) fun g hg => .inr ⟨i, _, hr.1, hg⟩
          | _ => rw [hge] at hz; cases hz
        | _ => rw [hge] at hz; cases hz
      obtain ⟨v, hv, hp⟩ := b2s_ok (P := P) hz rx t u i1.elem hu1 hu3 hu
      refine pl_put h hd (fun w' hw' => ?_) hp hK
      simp only [execOp, ho]
      rw [Sem.run_bind, hv w' (fun b hb hf => hS w' hw' b hb ?_)]
      · rfl
      · intro s hs e
        rcases hf with hf | ⟨i, y, hi, hy⟩
        · exact hf.2.2 s e
        · exact h.hs i s y b hi e hy
    · cases hK
  · rename_i h1 h2
    exact absurd ⟨h1, h2⟩ hns
  · rename_i h1 h2
    exact absurd ⟨h1, h2⟩ hns2
  · cases hK

end
end Sx

/-
  SxOps2: the other operations that only yield a value.
-/
namespace Sx
open Go Go.RowKit Go.Lib

/-- Cells, one by one. -/
def CR (w : World) (F : Nat → Prop) (H : Nat → Option Value) (σ : Nat → Option Nat) (cs : List Cell) (vs : List Value) : Prop :=
  vs.length = cs.length ∧ ∀ (j : Nat) (c : Cell) (v : Value), cs[j]? = some c → vs[j]? = some v → RCell w F H σ c v

section cells
variable {w : World} {F : Nat → Prop} {H : Nat → Option Value} {σ : Nat → Option Nat}

theorem RCell.one {c : Cell} {x : Value} (h : RCell w F H σ c x) : x.oneCell' = true := by
  cases c with
  | dead => exact h
  | val v => exact h.1
  | own i e k l => exact Value.oneCell_slice h.2
  | ptr s off => obtain ⟨r, _, rfl⟩ := h; rfl

theorem oneCell_cells {v : Value} (h : v.oneCell' = true) : v.cells = #[v] := by
  cases v <;> first | rfl | simp [Value.oneCell'] at h

theorem CR.one {cs : List Cell} {vs : List Value} (h : CR w F H σ cs vs) : ∀ v ∈ vs, v.oneCell' = true := fun v hm => by
  obtain ⟨j, hj⟩ := List.getElem?_of_mem hm
  have hlt : j < cs.length := by rw [← h.1]; exact (List.getElem?_eq_some_iff.1 hj).1
  exact (h.2 j cs[j] v (List.getElem?_eq_getElem hlt) hj).one

theorem CR.take {cs : List Cell} {vs : List Value} (h : CR w F H σ cs vs) (n : Nat) : CR w F H σ (cs.take n) (vs.take n) := by
  refine ⟨by simp [h.1], fun j c v hc hv => ?_⟩
  rw [List.getElem?_take] at hc hv
  split at hc
  · rename_i hj; rw [if_pos hj] at hv; exact h.2 j c v hc hv
  · cases hc

theorem CR.drop {cs : List Cell} {vs : List Value} (h : CR w F H σ cs vs) (n : Nat) : CR w F H σ (cs.drop n) (vs.drop n) := by
  refine ⟨by simp [h.1], fun j c v hc hv => ?_⟩
  rw [List.getElem?_drop] at hc hv
  exact h.2 _ c v hc hv

theorem CR.append {cs ds : List Cell} {vs us : List Value} (h : CR w F H σ cs vs) (k : CR w F H σ ds us) : CR w F H σ (cs ++ ds) (vs ++ us) := by
  refine ⟨by simp [h.1, k.1], fun j c v hc hv => ?_⟩
  by_cases hj : j < cs.length
  · rw [List.getElem?_append_left hj] at hc
    rw [List.getElem?_append_left (by rw [h.1]; exact hj)] at hv
    exact h.2 j c v hc hv
  · rw [List.getElem?_append_right (by omega)] at hc
    rw [List.getElem?_append_right (by rw [h.1]; omega), h.1] at hv
    exact k.2 _ c v hc hv

theorem CR.splice {cs new : List Cell} {vs news : List Value} (h : CR w F H σ cs vs) (k : CR w F H σ new news) (off : Nat) :
    CR w F H σ (Sx.splice cs new off) (vs.take off ++ news ++ vs.drop (off + news.length)) := by
  rw [k.1]
  exact ((h.take off).append k).append (h.drop _)

theorem fromCells_ok {cs : List Cell} {vs : List Value} (h : CR w F H σ cs vs) (agg : Bool) (h1 : agg = true ∨ cs.length = 1) : REnt w F H σ (fromCells agg cs) (if agg then .agg vs.toArray else vs.headD undef) := by
  cases agg with
  | true => exact ⟨vs, rfl, h.1, h.2⟩
  | false =>
    have h1' : cs.length = 1 := by rcases h1 with h | h; · cases h
                                   · exact h
    obtain ⟨c, rfl⟩ := List.length_eq_one_iff.1 h1'
    have hv : vs.length = 1 := by rw [h.1]; rfl
    obtain ⟨v, rfl⟩ := List.length_eq_one_iff.1 hv
    have := h.2 0 c v rfl rfl
    simp only [fromCells, cond_false, List.headD_cons, Bool.false_eq_true, if_false]
    cases c with
    | dead => trivial
    | val u => exact this.2
    | own i e k l => exact this
    | ptr s o => exact this

theorem Rel.one {a : AV} {x : Value} (h : Rel w F a x) (h1 : AV.one a = some a) : x.oneCell' = true := by
  cases h <;> first | rfl | assumption | cases h1

theorem AV.one_some {a b : AV} (h : AV.one a = some b) : b = a := by
  cases a <;> simp [AV.one] at h <;> exact h.symm

/-- The cells of a value. -/
theorem cellsOf_ok {C : Cfg} {P : Program} {R : Type} {t : Nat} {e : Ent} {x : Value} {K : List Cell → Option R} {r : R} (hT : ∀ t i, C.ty t = some i → TyOk P t i) (hr : REnt w F H σ e x) (h : cellsOf C t e K = some r) :
    ∃ i cs, C.ty t = some i ∧ K cs = some r ∧ cs.length = i.size ∧ CR w F H σ cs x.cells.toList ∧ (i.kd.agg = true ∨ i.size = 1) ∧ ((i.kd.agg = true → x = .agg x.cells) ∧ (i.kd.agg = false → x.oneCell' = true)) ∧ (∀ c ∈ cs, ∀ j ∈ c.ids, j ∈ e.ids) ∧
      (e.told = true → (bif i.kd.agg then AV.ag (cs.map Cell.pay) else (cs.headD .dead).pay) = e.pay) := by
  unfold cellsOf at h
  cases hi : C.ty t with
  | none => rw [hi] at h; cases h
  | some i =>
    rw [hi] at h
    simp only at h
    cases hag : i.kd.agg with
    | true =>
      rw [hag] at h
      simp only [cond_true] at h
      cases e with
      | agg cs =>
        simp only at h
        cases hb : Nat.beq cs.length i.size with
        | false => rw [hb] at h; cases h
        | true =>
          rw [hb] at h
          obtain ⟨vs, rfl, hl, hv⟩ := hr
          exact ⟨i, cs, rfl, h, Nat.eq_of_beq_eq_true hb, ⟨by simpa [Value.cells] using hl, by simpa [Value.cells] using hv⟩, .inl hag, ⟨fun _ => rfl, fun hh => (by rw [hag] at hh; cases hh)⟩, fun c hc j hj => List.mem_flatMap.2 ⟨c, hc, hj⟩, fun _ => by rw [hag]; rfl⟩
      | cell c => cases c with
        | val v =>
          simp only at h
          cases hv : AV.asAg i.size v with
          | none => rw [hv] at h; cases h
          | some l =>
            rw [hv] at h
            simp only [Option.bind_some] at h
            cases v with
            | ag l' =>
              simp only [AV.asAg] at hv
              split at hv
              · rename_i hl'
                simp only [Option.some.injEq] at hv
                subst hv
                cases hr with
                | ag _ vs hl h1 hrr =>
                  refine ⟨i, _, rfl, h, by simp, ⟨by simp [Value.cells, ← hl, hl'], fun j c v hc hv => ?_⟩, .inl hag, ⟨fun _ => rfl, fun hh => (by rw [hag] at hh; cases hh)⟩, fun c hc j hj => ?_, fun _ => ?_⟩
                  · simp only [Value.cells] at hv
                    rw [List.getElem?_map] at hc
                    have hj : j < i.size := by rw [← hl', hl]; exact (List.getElem?_eq_some_iff.1 hv).1
                    rw [List.getElem?_range hj] at hc
                    cases hc
                    exact ⟨h1 v (List.mem_of_getElem? hv), hrr j v hv⟩
                  · obtain ⟨a, _, rfl⟩ := List.mem_map.1 hc
                    cases hj
                  · rw [hag]
                    simp only [cond_true, Ent.pay, Cell.pay, List.map_map]
                    congr 1
                    apply List.ext_getElem?
                    intro j
                    rw [List.getElem?_map]
                    by_cases hj : j < l'.length
                    · rw [List.getElem?_range (by omega)]
                      simp [Cell.pay, hj]
                    · rw [List.getElem?_eq_none (by simp; omega), List.getElem?_eq_none (by omega)]; rfl
              · cases hv
            | _ => simp [AV.asAg] at hv
        | _ => cases h
      | _ => cases h
    | false =>
      rw [hag] at h
      simp only [cond_false] at h
      cases hb : Nat.beq i.size 1 with
      | false => rw [hb] at h; cases h
      | true =>
        rw [hb] at h
        simp only [cond_true] at h
        have hs := Nat.eq_of_beq_eq_true hb
        cases e with
        | cell c =>
          have fin : ∀ c', RCell w F H σ c' x → K [c'] = some r → (∀ j ∈ c'.ids, j ∈ (Ent.cell c).ids) → c'.pay = (Ent.cell c).pay → ∃ j cs, some i = some j ∧ K cs = some r ∧ cs.length = j.size ∧ CR w F H σ cs x.cells.toList ∧ (j.kd.agg = true ∨ j.size = 1) ∧ ((j.kd.agg = true → x = .agg x.cells) ∧ (j.kd.agg = false → x.oneCell' = true)) ∧ (∀ c'' ∈ cs, ∀ j ∈ c''.ids, j ∈ (Ent.cell c).ids) ∧
              ((Ent.cell c).told = true → (bif j.kd.agg then AV.ag (cs.map Cell.pay) else (cs.headD .dead).pay) = (Ent.cell c).pay) := by
            intro c' hc' hK hids hpay
            refine ⟨i, [c'], rfl, hK, by simp [hs], ⟨by simp [oneCell_cells hc'.one], fun j c v h1 h2 => ?_⟩, .inr hs, ⟨fun hh => (by rw [hag] at hh; cases hh), fun _ => hc'.one⟩, fun c'' hc'' => by simp at hc''; subst hc''; exact hids, fun _ => by simp [hag, hpay]⟩
            rw [oneCell_cells hc'.one] at h2
            match j, h1, h2 with
            | 0, h1, h2 => cases h1; cases h2; exact hc'
            | j + 1, h1, h2 => cases h1
          cases c with
          | dead => cases h
          | val v =>
            simp only at h
            cases ho : AV.one v with
            | none => rw [ho] at h; cases h
            | some u =>
              rw [ho] at h
              have := AV.one_some ho
              subst this
              exact fin (.val u) ⟨Rel.one hr ho, hr⟩ h (fun j hj => hj) rfl
          | own id e k l => exact fin (.own id e k l) hr h (fun j hj => hj) rfl
          | ptr s o => exact fin (.ptr s o) hr h (fun j hj => hj) rfl
        | _ => cases h

end cells

section
variable {C : Cfg} {P : Program} {w0 : World} {F0 : Nat → Prop} {nt : Nat} {st : St} {a : Act} {w : World} {H : Nat → Option Value} {σ : Nat → Option Nat} {R : Type} {K : St → Option R} {r : R}

/-- A part of a struct. -/
theorem TyOk.run_part {t : TypeId} {i : Ty} (h : TyOk P t i) (hk : i.kd.agg = true ∨ i.size = 1) (w : World) (vs : List Value) (off : Nat) (hl : off + i.size ≤ vs.length) :
    (part t vs.toArray off).run P w = .ok (if i.kd.agg then .agg ((vs.drop off).take i.size).toArray else ((vs.drop off).take i.size).headD undef) w := by
  unfold part
  rw [Sem.run_bind, h.run_agg w]
  simp only [Result.andThen_ok]
  cases ha : i.kd.agg with
  | true =>
    simp only [if_true, Sem.run_bind, h.run_size w, Result.andThen_ok]
    simp
  | false =>
    have h1 : i.size = 1 := by rcases hk with h | h; · rw [ha] at h; cases h
                               · exact h
    have hlt : off < vs.length := by omega
    simp only [Bool.false_eq_true, if_false, h1, List.getElem?_toArray, List.getElem?_eq_getElem hlt]
    rw [List.drop_eq_getElem_cons hlt]
    rfl

theorem op_field {o : Oper} {t : TypeId} {x : Operand} {n : Nat} (ho : o.op = .field t x n) (hT : ∀ t i, C.ty t = some i → TyOk P t i) (h : Inv C w0 F0 nt st a w H σ) (hd : ∀ t, o.dst = some t → t < nt)
    (hK : (match fieldOff C t n with
      | some (off, ft) => cellsOf C t (st.get C x) fun cs => match C.ty ft with
        | some i => bif Nat.ble (off + i.size) cs.length then K (st.put o.dst (fromCells i.kd.agg ((cs.drop off).take i.size))) else none
        | none => none
      | none => none) = some r) (S : World → Prop) : Yld C P w0 F0 nt a w σ K r o S := by
  cases hfo : fieldOff C t n with
  | none => rw [hfo] at hK; cases hK
  | some p =>
    obtain ⟨off, ft⟩ := p
    rw [hfo] at hK
    obtain ⟨i, cs, hi, hK, hlen, hcr, hag, hagg, _, _⟩ := cellsOf_ok hT (h.get x) hK
    unfold fieldOff at hfo
    rw [hi] at hfo
    simp only [Option.bind_some] at hfo
    have hu := (hT t i hi).und
    by_cases hst : i.kd = .struct
    · rw [hst] at hu
      obtain ⟨fs, h1, h2, h3⟩ := hu
      have hfs : fs.toList[n]? ≠ none := fun e => by
        rw [← h2, List.getElem?_map, e] at hfo; cases hfo
      obtain ⟨fl, hfl⟩ := Option.ne_none_iff_exists'.1 hfs
      have hfoo : fl.offset = off ∧ fl.type = ft := by rw [← h2, List.getElem?_map, hfl] at hfo; simpa using hfo
      have hfl' : fs[n]? = some fl := by rw [← Array.getElem?_toList]; exact hfl
      cases hj : C.ty ft with
      | none => rw [hj] at hK; cases hK
      | some j =>
        rw [hj] at hK
        simp only at hK
        cases hle : Nat.ble (off + j.size) cs.length with
        | false => rw [hle] at hK; cases hK
        | true =>
          rw [hle] at hK
          have hle' := Nat.le_of_ble_eq_true hle
          have hx := hagg.1 (by rw [hst]; rfl)
          have htj := hT ft j hj
          have hcase : j.kd.agg = true ∨ j.size = 1 := by
            cases hh : j.kd.agg with
            | true => exact .inl rfl
            | false => exact .inr (htj.one hh)
          have hcr' : CR w (Fr w0.heap.size F0 H σ) H σ ((cs.drop off).take j.size) (((a.eval x).cells.toList.drop off).take j.size) := (hcr.drop off).take j.size
          refine ⟨_, fun w' _ => ?_, _, H, hK, h.put hd (fromCells_ok hcr' j.kd.agg (hcase.imp id fun e => by simp; omega))⟩
          have hp := htj.run_part hcase w' (a.eval x).cells.toList off (by rw [hcr.1]; exact hle')
          simp only [execOp, ho]
          simp only [Array.toArray_toList] at hp
          obtain ⟨X, hX⟩ : ∃ X, X = (a.eval x).cells := ⟨_, rfl⟩
          rw [← hX] at hp hx
          rw [hx]
          simp only [Instr.field, Sem.run_bind, run_underlying h1, Result.andThen_ok, hfl', asAgg, Sem.run_pure, hfoo.1, hfoo.2, hp]
          rfl
    · exfalso
      have := (hT t i hi).fieldsOnly hst
      rw [this] at hfo
      cases hfo

theorem op_extract {o : Oper} {x : Operand} {n : Nat} (ho : o.op = .extract x n) (h : Inv C w0 F0 nt st a w H σ) (hd : ∀ t, o.dst = some t → t < nt)
    (hK : (match (generalizing := false) x with
    | .tmp t => match st.env t with
      | .tup r ks => match ks[n]? with
        | some (some none) => K (st.put o.dst (.val (r.comp n)))
        | some (some (some (id, e, k))) => K (st.put o.dst (.cell (.own id e k (r.comp n).elems)))
        | _ => none
      | .cell (.val r) => lift st o.dst K (tupI r n)
      | _ => none
    | _ => none) = some r) (S : World → Prop) : Yld C P w0 F0 nt a w σ K r o S := by
  have run : ∀ (vs : List Value) (v : Value), a.eval x = .tuple vs.toArray → vs[n]? = some v → Takes P o a S v := fun vs v hx hv w' _ => by
    simp only [execOp, ho, hx]
    simp [Instr.extract, hv]
  cases x with
  | tmp t =>
    simp only at hK
    have ht := h.env t
    split at hK
    · rename_i r' ks hge
      rw [hge] at ht
      obtain ⟨vs, hx, hl, hv⟩ := ht
      split at hK
      · rename_i hk
        have hlt : n < vs.length := by rw [hl]; exact (List.getElem?_eq_some_iff.1 hk).1
        have := hv n _ vs[n] hk (List.getElem?_eq_getElem hlt)
        exact ⟨_, run vs _ hx (List.getElem?_eq_getElem hlt), _, H, hK, h.put hd this⟩
      · rename_i id e k hk
        have hlt : n < vs.length := by rw [hl]; exact (List.getElem?_eq_some_iff.1 hk).1
        have := hv n _ vs[n] hk (List.getElem?_eq_getElem hlt)
        exact ⟨_, run vs _ hx (List.getElem?_eq_getElem hlt), _, H, hK, h.put hd this⟩
      · cases hK
    · rename_i r' hge
      rw [hge] at ht
      obtain ⟨z, hz, hK2⟩ := lift_some hK
      clear hK
      unfold tupI at hz
      split at hz
      · rename_i l
        generalize htv : a.tmps.getD t undef = V at *
        cases ht with
        | tu _ vs hl hr =>
          have hlt : n < vs.length := by rw [← hl]; exact (List.getElem?_eq_some_iff.1 hz).1
          refine ⟨vs[n], run vs _ (by show a.tmps.getD t undef = _; exact htv) (List.getElem?_eq_getElem hlt), _, H, hK2, h.put hd ?_⟩
          have := hr n vs[n] (List.getElem?_eq_getElem hlt)
          rw [List.getD_eq_getElem?_getD, hz] at this
          exact this
      · cases hz
    · cases hK
  | _ => cases hK

theorem op_makeFunc {o : Oper} {fn : Fn} {fi ca : Array Operand} (ho : o.op = .makeFunc fn fi ca) (h : Inv C w0 F0 nt st a w H σ) (hd : ∀ t, o.dst = some t → t < nt)
    (hK : (match (generalizing := false) fn, fi.toList, ca.toList with
    | .func g, [], [] => K (st.put o.dst (.val (.fn g)))
    | _, _, _ => none) = some r) (S : World → Prop) : Yld C P w0 F0 nt a w σ K r o S := by
  generalize hl1 : fi.toList = l1 at hK
  generalize hl2 : ca.toList = l2 at hK
  cases fn with
  | func g =>
    cases l1 with
    | cons _ _ => cases hK
    | nil => cases l2 with
    | cons _ _ => cases hK
    | nil =>
    have h1 := hl1
    have h2 := hl2
    have e1 : fi = #[] := by rw [← Array.toArray_toList (xs := fi), h1]
    have e2 : ca = #[] := by rw [← Array.toArray_toList (xs := ca), h2]
    subst e1 e2
    exact ⟨_, fun w' _ => by simp only [execOp, ho]; simp [Instr.makeFunc], _, H, hK, h.put hd (Rel.fn _)⟩
  | _ => cases hK

theorem op_pick {o : Oper} {c x y : Operand} (ho : o.op = .pick c x y) (h : Inv C w0 F0 nt st a w H σ) (hd : ∀ t, o.dst = some t → t < nt)
    (hK : lift st o.dst K (selW (st.get C c).pay true (some (st.get C x).pay) (st.get C y).pay) = some r) (S : World → Prop) : Yld C P w0 F0 nt a w σ K r o S := by
  obtain ⟨z, hz, hK⟩ := lift_some hK
  unfold selW at hz
  split at hz
  · rename_i b hb
    have rc := (h.get c).pay
    rw [hb] at rc
    rcases rc with rc | rc
    · cases rc
    · generalize hcv : a.eval c = V at rc
      cases rc
      have run : ∀ v, (if b = true then a.eval x else a.eval y) = v → Takes P o a S v := fun v hv w' _ => by
        simp only [execOp, ho, hcv]
        simp [asBool, ← hv]
      cases b with
      | true =>
        simp only [BEq.rfl, cond_true] at hz
        split at hz
        · rename_i y' hy'
          cases hz
          rcases (h.get x).pay with e | rx
          · rw [e] at hy'; cases hy'
          · rw [Option.some.inj hy'] at rx
            generalize hxv : a.eval x = X at rx run
            cases rx
            exact pl_put h hd (run _ (by simp)) (fun _ _ => .b _) hK
        · cases hz
      | false =>
        simp only [show (false == true) = false from rfl, cond_false] at hz
        split at hz
        · rename_i y' hy'
          cases hz
          rcases (h.get y).pay with e | rx
          · rw [e] at hy'; cases hy'
          · rw [hy'] at rx
            generalize hxv : a.eval y = X at rx run
            cases rx
            exact pl_put h hd (run _ (by simp)) (fun _ _ => .b _) hK
        · cases hz
  · cases hz

theorem op_indexAddr {o : Oper} {t : TypeId} {x ix : Operand} (ho : o.op = .indexAddr t x ix) (hT : ∀ t i, C.ty t = some i → TyOk P t i) (h : Inv C w0 F0 nt st a w H σ) (hd : ∀ t, o.dst = some t → t < nt)
    (hK : (match C.ty t, (C.ty t).bind fun y => C.ty y.elem with
    | some s, some y =>
      match s.kd, st.get C x with
      | .slice, .cell (.own id e k l) => bif Nat.beq k y.size then (inN l.length (st.get C ix).pay).bind fun n => K (st.put o.dst (.elo id e k l n 0)) else none
      | .slice, x => (idx y.size x.pay (st.get C ix).pay).bind fun e => K (st.put o.dst (.elv y.size e 0))
      | _, _ => none
    | _, _ => none) = some r) (S : World → Prop) : Yld C P w0 F0 nt a w σ K r o S := by
  split at hK
  · rename_i s y hs hy
    rw [hs] at hy
    simp only [Option.bind_some] at hy
    have hty := hT s.elem y hy
    have hsz := hty.size
    have hr := h.get x
    split at hK
    · rename_i id e k l hk hge
      rw [hge] at hr
      have hu := (hT t s hs).und
      rw [hk] at hu
      cases hb : Nat.beq k y.size with
      | false => rw [hb] at hK; cases hK
      | true =>
        rw [hb] at hK
        have hky := Nat.eq_of_beq_eq_true hb
        simp only [cond_true] at hK
        cases hn : inN l.length (st.get C ix).pay with
        | none => rw [hn] at hK; cases hK
        | some n =>
          rw [hn] at hK
          simp only [Option.bind_some] at hK
          have hix : Rel w T (st.get C ix).pay (a.eval ix) := by
            rcases (h.get ix).pay with e' | r'
            · rw [e'] at hn; cases hn
            · exact r'
          obtain ⟨kk, z, hz, h0, h1, h2, h3⟩ := inN_ok hn hix
          obtain ⟨hH, hown⟩ := hr
          have hown' := hown
          obtain ⟨hk0, xs, ⟨hxl, h4⟩, hc1, hrr⟩ := hown'
          rcases h4 with ⟨_, h4⟩ | ⟨g, cap, cur, hxv, _⟩
          · omega
          · refine ⟨.pointer (some ⟨g, n * k, none⟩), fun w' _ => ?_, _, H, hK, h.put hd ⟨g, l.length, cap, by rw [← hxv]; exact hH, by rw [← hxv]; exact hown, h3, rfl⟩⟩
            have hq : ∃ i, P.info? s.elem = some i ∧ i.size = k := by
              obtain ⟨inf, z, q1, q2, _⟩ := hty.info
              exact ⟨inf, q1, by rw [q2, hky]⟩
            obtain ⟨inf, q1, q2⟩ := hq
            simp only [execOp, ho, hxv, hz]
            simp [Instr.indexAt, asIntOf, run_underlying hu, h0, h1, Go.sizeOf, typeInfo, q1, q2, h2, Addr.add_lit]
    · rename_i hk hge
      have hu := (hT t s hs).und
      rw [hk] at hu
      cases hn : idx y.size (st.get C x).pay (st.get C ix).pay with
      | none => rw [hn] at hK; cases hK
      | some e =>
        rw [hn] at hK
        simp only [Option.bind_some] at hK
        have hix : Rel w T (st.get C ix).pay (a.eval ix) := by
          rcases (h.get ix).pay with e' | r'
          · exfalso
            rw [e'] at hn
            unfold idx inN at hn
            split at hn
            · split at hn <;> simp [AV.toI] at hn
            · cases hn
          · exact r'
        have hx : Rel w (Fr w0.heap.size F0 H σ) (st.get C x).pay (a.eval x) := by
          cases hgx : st.get C x with
          | cell c => cases c with
            | val v => rw [hgx] at hr; exact hr
            | own i e k l => exact absurd hgx (hge i e k l)
            | _ => rw [hgx] at hn; cases hn
          | agg cs => rw [hgx] at hn; cases hn
          | _ => rw [hgx] at hn; cases hn
        obtain ⟨v, hv, b, off, rfl, hF, hlt, hj⟩ := idx_ok (P := P) hn hx hix t s.elem hu hsz hty.pos.1
        exact ⟨_, fun w' _ => by simp only [execOp, ho]; rw [Sem.run_bind, hv w']; rfl, _, H, hK, h.put hd ⟨b, off, by simp, hF, hlt, hj⟩⟩
    · cases hK
  · cases hK
end
end Sx

/-
  SxOps3: slicing, len, min, max, a struct's parts put together; all that only yields a value.
-/
namespace Sx
open Go Go.RowKit Go.Lib

section
variable {C : Cfg} {P : Program} {w0 : World} {F0 : Nat → Prop} {nt : Nat} {st : St} {a : Act} {w : World} {H : Nat → Option Value} {σ : Nat → Option Nat} {R : Type} {K : St → Option R} {r : R}

theorem upN_un (n : Nat) : upN n .un = none := rfl

/-- The bounds of a slicing, read. -/
theorem bounds_read (h : Inv C w0 F0 nt st a w H σ) {n : Nat} {lo hi : Option Operand} {p : Nat × Nat} (hp : lohi n (lo.map fun o => (st.get C o).pay) (hi.map fun o => (st.get C o).pay) = some p) :
    (∀ b v, (lo.map fun o => (st.get C o).pay) = some b → lo.map a.eval = some v → Rel w T b v) ∧ (∀ b v, (hi.map fun o => (st.get C o).pay) = some b → hi.map a.eval = some v → Rel w T b v) := by
  unfold lohi at hp
  constructor
  · intro b v hb hv
    cases lo with
    | none => cases hb
    | some o =>
      cases hb; cases hv
      rcases (h.get o).pay with e | e
      · simp only [Option.map_some, e] at hp
        exfalso
        obtain ⟨_, _, h2⟩ := Option.bind_eq_some_iff.1 hp
        simp [upN_un] at h2
      · exact e
  · intro b v hb hv
    cases hi with
    | none => cases hb
    | some o =>
      cases hb; cases hv
      rcases (h.get o).pay with e | e
      · simp only [Option.map_some, e] at hp
        exfalso
        simp [upN_un] at hp
      · exact e

theorem slice_lohi_s {x : AV} {lo hi : Option AV} {z : AV} (h : slS x lo hi = some z) : ∃ n p, lohi n lo hi = some p := by
  unfold slS at h
  split at h
  · rename_i l
    cases hp : lohi l.length lo hi with
    | none => rw [hp] at h; cases h
    | some p => exact ⟨_, p, hp⟩
  · cases h

theorem slice_lohi_r {k : Nat} {x : AV} {lo hi : Option AV} {z : AV} (h : slR k x lo hi = some z) : ∃ n p, lohi n lo hi = some p := by
  unfold slR at h
  split at h
  · rename_i k' l
    split at h
    · cases hp : lohi l.length lo hi with
      | none => rw [hp] at h; cases h
      | some p => exact ⟨_, p, hp⟩
    · cases h
  · cases hp : lohi 0 lo hi with
    | none => rw [hp] at h; cases h
    | some p => exact ⟨_, p, hp⟩
  · cases h

theorem OwnOk.take {F : Nat → Prop} {e k : Nat} {l : List AV} {g n cap : Nat} (h : OwnOk w F e k l (.slice (some ⟨g, 0, none⟩) n cap)) (m : Nat) (hm : m ≤ l.length) : OwnOk w F e k (l.take m) (.slice (some ⟨g, 0, none⟩) m cap) := by
  obtain ⟨hk, xs, ⟨hl, h2⟩, h1, hr⟩ := h
  rcases h2 with ⟨h2, _⟩ | ⟨g', cap', cur, h2, hg0, hgg, hc, hmx, hs, ht⟩
  · cases h2
  · cases h2
    have hlen : (l.take m).length = m := by simp; omega
    have hmul : m * k ≤ l.length * k := Nat.mul_le_mul_right _ hm
    refine ⟨hk, xs.take (m * k), ⟨by rw [hlen, List.length_take, hl]; exact Nat.min_eq_left hmul, .inr ⟨g, cap, cur, by rw [hlen], hg0, hgg, by rw [hlen]; omega, hmx, hs, by rw [hlen, ← ht, List.take_take, Nat.min_eq_left hmul]⟩⟩, fun v hv => h1 v (List.mem_of_mem_take hv), fun i j v hi hj hv => ?_⟩
    rw [hlen] at hi
    rw [List.getElem?_take] at hv
    split at hv
    · have := hr i j v (by omega) hj hv
      have e2 : (l.take m).getD i .un = l.getD i .un := by
        simp only [List.getD_eq_getElem?_getD, List.getElem?_take]
        rw [if_pos hi]
      rw [e2]; exact this
    · cases hv

theorem op_slice {o : Oper} {f : Nat} {t : TypeId} {x : Operand} {lo hi mx : Option Operand} (ho : o.op = .slice t x lo hi mx) (hT : ∀ t i, C.ty t = some i → TyOk P t i) (h : Inv C w0 F0 nt st a w H σ) (hd : ∀ t, o.dst = some t → t < nt)
    (hK : evSlice C f t (st.get C x) lo hi mx o.dst st K = some r) (S : World → Prop) : Yld C P w0 F0 nt a w σ K r o S := by
  cases mx with
  | some m => cases hK
  | none =>
    simp only [evSlice] at hK
    have run1 : ∀ {v : Value}, (∀ w' : World, (Instr.sliceAt t (a.eval x) (lo.map a.eval) (hi.map a.eval) none).run P w' = .ok v w') → Takes P o a S v := fun hv w' _ => by
      simp only [execOp, ho, Option.map_none]; rw [Sem.run_bind, hv w']; rfl
    split at hK
    · rename_i hk
      obtain ⟨i, hi', hik⟩ := kd_some hk
      have hu := (hT t i hi').und
      rw [hik] at hu
      obtain ⟨z, hz, hK⟩ := lift_some hK
      obtain ⟨n, p, hp⟩ := slice_lohi_s hz
      obtain ⟨b1, b2⟩ := bounds_read h hp
      have hx := pay_read h x (fun y => slS y (lo.map fun o => (st.get C o).pay) (hi.map fun o => (st.get C o).pay)) rfl hz
      obtain ⟨v, hv, hpl⟩ := slS_ok (P := P) (w1 := w) (w2 := w) (F1 := T) (F2 := T) hz hx (vlo := lo.map a.eval) (vhi := hi.map a.eval) b1 b2 (by cases lo <;> rfl) (by cases hi <;> rfl) t hu
      exact pl_put h hd (run1 hv) hpl hK
    · rename_i hk
      obtain ⟨i, hi', hik⟩ := kd_some hk
      have hu := (hT t i hi').und
      rw [hik] at hu
      rw [hi'] at hK
      simp only [Option.bind_some] at hK
      split at hK
      · cases hK
      rename_i ij hij
      obtain ⟨j, _, hj, _⟩ := (hT i.elem ij hij).info
      cases htr : (o.dst.map (C.trunc f)).getD false with
      | true =>
        rw [htr] at hK
        simp only [cond_true] at hK
        have hr := h.get x
        split at hK
        · rename_i id e k c hh hge
          rw [hge] at hr
          cases hn : upN c.length (st.get C hh).pay with
          | none => rw [hn] at hK; cases hK
          | some n =>
            rw [hn] at hK
            simp only [Option.bind_some] at hK
            cases hdst : o.dst with
            | none => rw [hdst] at hK; cases hK
            | some d =>
              rw [hdst] at hK
              simp only [Option.bind_some] at hK
              obtain ⟨hH, hown⟩ := hr
              have hb : Rel w T (st.get C hh).pay (a.eval hh) := by
                rcases (h.get hh).pay with e' | r'
                · rw [e'] at hn; cases hn
                · exact r'
              obtain ⟨kk, z, hz, h0, h1, h2, h3⟩ := upN_ok hn hb
              have hlohi : lohi c.length none (some (st.get C hh).pay) = some (0, n) := by
                show (upN c.length _).bind _ = _
                rw [hn]; rfl
              have finish : ∀ {y : Value}, (∀ w' : World, (Instr.sliceAt t (a.eval x) none (some (a.eval hh)) none).run P w' = .ok y w') → (∀ g, y.ownBlock = some g → (a.eval x).ownBlock = some g) → (∀ F : Nat → Prop, OwnOk w F e k c (a.eval x) → OwnOk w F e k (c.take n) y) →
                  Yld C P w0 F0 nt a w σ K r o S := by
                intro y hy hblk hok
                have hreg := h.regrow id d (a.eval x).ownBlock (w' := w) (x := y) rfl rfl rfl (Nat.le_refl _) (fun _ _ _ => rfl) (fun g hg => ⟨_, hH, hg⟩) (fun g hg => ⟨.inl (hblk g hg), (h.hown id _ g hH (hblk g hg)).2⟩)
                refine ⟨y, run1 hy, _, upd (Sx.erase (Sx.erase H id) d) d y, hK, ?_⟩
                rw [hdst]
                refine hreg.put (d := some d) (fun t ht => by cases ht; exact hd _ hdst) ⟨by unfold upd; simp, ?_⟩
                refine (hok _ hown).mono (fun b hb hf => ⟨⟨hf.1, fun i v hv => ?_, hf.2.2⟩, rfl⟩) fun _ _ => rfl
                rcases upd_some hv with ⟨_, rfl⟩ | ⟨_, hv⟩
                · intro e'; exact hf.2.1 id _ hH (hblk _ e')
                · exact hf.2.1 i v (erase_some (erase_some hv).2).2
              have hown' := hown
              obtain ⟨hk0, xs, ⟨hxl, h4⟩, hc1, hrr⟩ := hown'
              have hq := hlohi
              rcases h4 with ⟨hxv, h4⟩ | ⟨g, cap, cur, hxv, hg0, hgg, hcap, _⟩
              · have hb2 := fun w' => (lohi_ok (P := P) (w := w') (vlo := none) (vhi := some (a.eval hh)) hq 0 (by omega) true (w1 := w) (w2 := w) (F1 := T) (F2 := T) (fun _ _ h1 _ => by cases h1) (fun b v h1 h2 => by cases h1; cases h2; exact hb) rfl rfl).1
                have hn0 : n = 0 := by omega
                subst hn0
                refine finish (y := .slice none 0 0) (fun w' => ?_) (fun g hg => by cases hg) (fun F hF => ?_)
                · have := hb2 w'
                  rw [h4] at this
                  rw [hxv]
                  simp [Instr.sliceAt, Instr.slice, run_underlying hu, this, Go.sizeOf, typeInfo, hj]
                · have : c = [] := List.eq_nil_of_length_eq_zero h4
                  subst this
                  rw [hxv] at hF
                  exact hF
              · have hb2 := fun w' => (lohi_ok (P := P) (w := w') (vlo := none) (vhi := some (a.eval hh)) hq cap hcap true (w1 := w) (w2 := w) (F1 := T) (F2 := T) (fun _ _ h1 _ => by cases h1) (fun b v h1 h2 => by cases h1; cases h2; exact hb) rfl rfl).1
                refine finish (y := .slice (some ⟨g, 0, none⟩) n cap) (fun w' => ?_) (fun g' hg => by rw [hxv]; exact hg) (fun F hF => ?_)
                · have := hb2 w'
                  rw [hxv]
                  simp [Instr.sliceAt, Instr.slice, run_underlying hu, this, Go.sizeOf, typeInfo, hj, Addr.add_lit]
                · rw [hxv] at hF
                  exact hF.take n (by omega)
        · cases hK
      | false =>
        rw [htr] at hK
        simp only [cond_false] at hK
        obtain ⟨z, hz, hK⟩ := lift_some hK
        obtain ⟨n, p, hp⟩ := slice_lohi_r hz
        obtain ⟨b1, b2⟩ := bounds_read h hp
        obtain ⟨H', h', he, _, _⟩ := h.fzs2 (st.get C x).ids
        have hx : Rel w (Fr w0.heap.size F0 H' σ) (st.get C x).pay (a.eval x) := by
          refine told_fzs (he _ _ (h.get x)) ?_ (fun i hi => hi)
          cases hge : st.get C x with
          | cell c => cases c with
            | val v => rfl
            | own i e k l => rfl
            | _ => rw [hge] at hz; cases hz
          | agg cs => rw [hge] at hz; cases hz
          | _ => rw [hge] at hz; cases hz
        obtain ⟨v, hv, hpl⟩ := slR_ok (P := P) (w1 := w) (w2 := w) (F1 := Fr w0.heap.size F0 H' σ) (F2 := T) hz hx (vlo := lo.map a.eval) (vhi := hi.map a.eval) (fun b v h1 h2 => b1 b v h1 h2) b2 (by cases lo <;> rfl) (by cases hi <;> rfl) t i.elem hu (hT i.elem ij hij).size
        exact ⟨v, run1 hv, _, H', hK, h'.put hd hpl⟩
    · cases hK

theorem op_len {o : Oper} {c : Call} {x : Operand} {t : TypeId} {ts : List TypeId} (ho : o.op = .call c) (hc : c.callee = .builtin .len) (ha : c.args.toList = [x]) (hts : c.argTypes.toList = t :: ts)
    (hT : ∀ t i, C.ty t = some i → TyOk P t i) (h : Inv C w0 F0 nt st a w H σ) (hd : ∀ t, o.dst = some t → t < nt)
    (hK : (match C.kd t with
    | some .str => lift st o.dst K (lenS (st.get C x).pay)
    | some .slice => lift st o.dst K (lenR (st.get C x).pay)
    | _ => none) = some r) (S : World → Prop) : Yld C P w0 F0 nt a w σ K r o S := by
  have e1 : c.args = #[x] := by rw [← Array.toArray_toList (xs := c.args), ha]
  have e0 : c.argTypes[0]? = some t := by rw [← Array.getElem?_toList, hts]; rfl
  have run1 : ∀ {v : Value}, (∀ w' : World, (Builtin.len_ c.argTypes o.type #[a.eval x]).run P w' = .ok v w') → Takes P o a S v := fun hv w' _ => by
    simp only [execOp, ho, resolve, hc, e1]
    simp [invoke, builtin, hv w']
  split at hK
  · rename_i hk
    obtain ⟨i, hi, hik⟩ := kd_some hk
    have hu := (hT t i hi).und
    rw [hik] at hu
    obtain ⟨z, hz, hK⟩ := lift_some hK
    obtain ⟨v, hv, hp⟩ := lenS_ok (P := P) hz (pay_read h x lenS rfl hz) t o.type hu c.argTypes e0
    exact pl_put h hd (run1 hv) hp hK
  · rename_i hk
    obtain ⟨i, hi, hik⟩ := kd_some hk
    have hu := (hT t i hi).und
    rw [hik] at hu
    obtain ⟨z, hz, hK⟩ := lift_some hK
    obtain ⟨v, hv, hp⟩ := lenR_ok (P := P) hz (pay_read h x lenR rfl hz) t o.type i.elem hu c.argTypes e0
    exact pl_put h hd (run1 hv) hp hK
  · cases hK

theorem op_mm {o : Oper} {c : Call} {x y : Operand} (mn : Bool) (ho : o.op = .call c) (hc : c.callee = .builtin (if mn then .min else .max)) (ha : c.args.toList = [x, y])
    (h : Inv C w0 F0 nt st a w H σ) (hd : ∀ t, o.dst = some t → t < nt)
    (hK : lift st o.dst K (mm mn (st.get C x).pay (st.get C y).pay) = some r) (S : World → Prop) : Yld C P w0 F0 nt a w σ K r o S := by
  have e1 : c.args = #[x, y] := by rw [← Array.toArray_toList (xs := c.args), ha]
  obtain ⟨z, hz, hK⟩ := lift_some hK
  have hx : Rel w T (st.get C x).pay (a.eval x) := by
    rcases (h.get x).pay with e | e
    · rw [e] at hz; cases hz
    · exact e
  have hy : Rel w T (st.get C y).pay (a.eval y) := by
    rcases (h.get y).pay with e | e
    · rw [e] at hz
      cases hp : (st.get C x).pay <;> rw [hp] at hz <;> cases hz
    · exact e
  obtain ⟨v, hv, hp⟩ := mm_ok (P := P) hz hx hy
  refine pl_put h hd (fun w' _ => ?_) hp hK
  have := hv w'
  cases mn with
  | true =>
    simp only [if_true] at this hc
    simp only [execOp, ho, resolve, hc, e1]
    simp [invoke, builtin, Builtin.min_, this]
  | false =>
    simp only [Bool.false_eq_true, if_false] at this hc
    simp only [execOp, ho, resolve, hc, e1]
    simp [invoke, builtin, Builtin.max_, this]

theorem foldl_set (off : Nat) : ∀ (vs : List Value) (k : Nat) (cells : Array Value), off + k + vs.length ≤ cells.size →
    ((vs.zipIdx k).foldl (fun (cs : Array Value) p => cs.setIfInBounds (off + p.2) p.1) cells).toList = cells.toList.take (off + k) ++ vs ++ cells.toList.drop (off + k + vs.length)
  | [], k, cells, _ => by simp
  | v :: vs, k, cells, hl => by
    simp only [List.length_cons] at hl
    simp only [List.zipIdx_cons, List.foldl_cons]
    rw [foldl_set off vs (k + 1) _ (by simp; omega)]
    apply List.ext_getElem?
    intro j
    simp only [Array.toList_setIfInBounds, List.getElem?_append, List.length_append, List.length_take, List.length_set, Array.length_toList, List.getElem?_take, List.getElem?_drop, List.getElem?_set, List.length_cons]
    have m1 : min (off + (k + 1)) cells.size = off + k + 1 := by omega
    have m2 : min (off + k) cells.size = off + k := by omega
    rw [m1, m2]
    by_cases h1 : j < off + k
    · simp [h1, show j < off + k + 1 + vs.length by omega, show j < off + k + 1 by omega, show j < off + (k + 1) by omega, show ¬ off + k = j by omega, show j < off + k + (vs.length + 1) by omega]
    · by_cases h2 : j = off + k
      · subst h2
        have hlt : off + k < cells.size := by omega
        simp [hlt, show off + k < off + (k + 1) by omega, show ¬ off + k + 1 + vs.length ≤ off + k by omega]
      · by_cases h3 : j < off + k + 1 + vs.length
        · have e : j - (off + k) = (j - (off + k + 1)) + 1 := by omega
          simp [h3, h1, show ¬ j < off + k + 1 by omega, show j < off + k + (vs.length + 1) by omega, e]
        · simp [h3, show ¬ j < off + k + (vs.length + 1) by omega, show off + (k + 1) + vs.length + (j - (off + k + 1 + vs.length)) = j by omega, show off + k + (vs.length + 1) + (j - (off + k + (vs.length + 1))) = j by omega, show ¬ off + k = j by omega]

theorem fillC_ok (hT : ∀ t i, C.ty t = some i → TyOk P t i) (h : Inv C w0 F0 nt st a w H σ) {fields : List (Nat × Nat)} {place : Nat → Option (Nat × Nat)} {Kc : List Cell → Option R}
    (hplace : ∀ (n off t : Nat) (i : Ty), fields[n]? = some (off, t) → C.ty t = some i → place n = some (off, i.size)) : ∀ (ps : List (Nat × Operand)) (cs : List Cell) (cur : Array Value),
      CR w (Fr w0.heap.size F0 H σ) H σ cs cur.toList → fillC C fields st ps cs Kc = some r →
      ∃ cs' cur', Instr.fill place cur (ps.map fun p => (p.1, a.eval p.2)) = some cur' ∧ CR w (Fr w0.heap.size F0 H σ) H σ cs' cur'.toList ∧ cs'.length = cs.length ∧ Kc cs' = some r
  | [], cs, cur, hcr, hK => ⟨cs, cur, rfl, hcr, rfl, hK⟩
  | (n, x) :: ps, cs, cur, hcr, hK => by
    simp only [fillC] at hK
    split at hK
    · rename_i off t hf
      obtain ⟨i, new, hi, hK, hlen, hnew, hag, hagg, _, _⟩ := cellsOf_ok hT (h.get x) hK
      cases hle : Nat.ble (off + new.length) cs.length with
      | false => rw [hle] at hK; cases hK
      | true =>
        rw [hle] at hK
        have hle' := Nat.le_of_ble_eq_true hle
        simp only [cond_true] at hK
        have hsz : (a.eval x).cells.toList.length = i.size := by rw [hnew.1, hlen]
        have hcur : cur.toList.length = cs.length := hcr.1
        have hset := foldl_set off (a.eval x).cells.toList 0 cur (by rw [hsz, Nat.add_zero, ← Array.length_toList, hcur]; omega)
        have hs2 : (a.eval x).cells.zipIdx.foldl (fun cs (c, j) => cs.setIfInBounds (off + j) c) cur = ((a.eval x).cells.toList.zipIdx 0).foldl (fun (cs : Array Value) p => cs.setIfInBounds (off + p.2) p.1) cur := by
          rw [← Array.foldl_toList, Array.toList_zipIdx]
        obtain ⟨cs', cur', h1, h2, h3, h4⟩ := fillC_ok hT h hplace ps (splice cs new off) ((a.eval x).cells.zipIdx.foldl (fun cs (c, j) => cs.setIfInBounds (off + j) c) cur) (by
          rw [hs2, hset]
          have := hcr.splice hnew off
          simpa using this) hK
        refine ⟨cs', cur', ?_, h2, ?_, h4⟩
        · simp only [List.map_cons, Instr.fill, hplace n off t i hf hi]
          have n1 : ¬ ((a.eval x).cells.size ≠ i.size) := by rw [← Array.length_toList, hsz]; simp
          have n2 : ¬ (off + (a.eval x).cells.size > cur.size) := by rw [← Array.length_toList, hsz, ← Array.length_toList (xs := cur), hcur]; omega
          simp only [ne_eq, n1, n2, or_self, if_false, decide_false, Bool.or_self, Bool.false_eq_true]
          exact h1
        · rw [h3]
          simp [splice]
          omega
    · cases hK

theorem op_build {o : Oper} {t : TypeId} {ps : Array (Nat × Operand)} (ho : o.op = .build t ps) (hT : ∀ t i, C.ty t = some i → TyOk P t i) (h : Inv C w0 F0 nt st a w H σ) (hd : ∀ t, o.dst = some t → t < nt)
    (hK : (match C.ty t with
    | some i => bif i.kd.agg then fillC C i.fields st ps.toList (i.zero.map .val) fun cs => K (st.put o.dst (.agg cs)) else none
    | none => none) = some r) (S : World → Prop) : Yld C P w0 F0 nt a w σ K r o S := by
  split at hK
  · rename_i i hi
    cases hag : i.kd.agg with
    | false => rw [hag] at hK; cases hK
    | true =>
      rw [hag] at hK
      simp only [cond_true] at hK
      have hst : i.kd = .struct := by cases hk : i.kd <;> rw [hk] at hag <;> first | rfl | cases hag
      have ht := hT t i hi
      have hu := ht.und
      rw [hst] at hu
      obtain ⟨fs, h1, h2, h3⟩ := hu
      obtain ⟨inf, z, q1, q2, q3, q4, q5, q6, q7⟩ := ht.info
      -- the places of the fields
      have places : ∀ l : List Field, (∀ f ∈ l, ∃ inf, P.info? f.type = some inf ∧ inf.size ≠ 0) → ∃ pl, l.mapM (fun f => (P.info? f.type).map fun i => (f.offset, i.size)) = some pl ∧ ∀ n : Nat, pl[n]? = (l[n]?).bind fun f => (P.info? f.type).map fun i => (f.offset, i.size) := by
        intro l
        induction l with
        | nil => exact fun _ => ⟨[], rfl, fun n => rfl⟩
        | cons f l ih =>
          intro hl
          obtain ⟨inf, g1, _⟩ := hl f (List.mem_cons_self ..)
          obtain ⟨pl, g2, g3⟩ := ih fun f hf => hl f (List.mem_cons_of_mem _ hf)
          refine ⟨(f.offset, inf.size) :: pl, by simp [List.mapM_cons, g1, g2], fun n => ?_⟩
          cases n with
          | zero => simp [g1]
          | succ n => simpa using g3 n
      obtain ⟨pl, p1, p2⟩ := places fs.toList h3
      have hz : CR w (Fr w0.heap.size F0 H σ) H σ (i.zero.map .val) z.cells.toList := by
        rw [← q5]
        refine ⟨by simp, fun j c v hc hv => ?_⟩
        rw [List.map_map, List.getElem?_map, hv] at hc
        cases hc
        have h1 := q7 v (List.mem_of_getElem? hv)
        exact ⟨h1, ofV_pl v h1 _ _⟩
      obtain ⟨cs', cur', g1, g2, g3, g4⟩ := fillC_ok (a := a) (place := (pl.toArray[·]?)) hT h (fun n off ft j hf hj => by
        rw [← h2, List.getElem?_map] at hf
        cases hff : fs.toList[n]? with
        | none => rw [hff] at hf; cases hf
        | some fl =>
          rw [hff] at hf
          simp only [Option.map_some, Option.some.injEq, Prod.mk.injEq] at hf
          have := (hT ft j hj).size
          simp only [List.getElem?_toArray, p2, hff, Option.bind_some]
          rw [hf.2]
          cases hh : P.info? ft with
          | none => rw [hh] at this; cases this
          | some q => rw [hh] at this; simp only [Option.map_some, Option.some.injEq] at this; simp [this, hf.1]) ps.toList _ _ hz hK
      have hb : P.built t (ps.map fun (i, x) => (i, a.eval x)).toList = some cur' := by
        unfold Program.built
        simp only [q1, h1, q4, p1, Array.toList_map]
        exact g1
      refine ⟨.agg cur', fun w' _ => ?_, _, H, g4, h.put hd ⟨cur'.toList, by simp, g2.1, g2.2⟩⟩
      simp only [execOp, ho]
      rw [Sem.run_bind, run_build w' t _ cur' hb]
      rfl
  · cases hK
end
end Sx

/-
  SxOps4: all operations that only yield a value; what the others do.
-/
namespace Sx
open Go Go.RowKit Go.Lib

section
variable {C : Cfg} {P : Program} {w0 : World} {F0 : Nat → Prop} {nt : Nat} {st : St} {a : Act} {w : World} {H : Nat → Option Value} {σ : Nat → Option Nat} {R : Type} {K : St → Option R} {r : R} {call : Nat → List AV → Option AV} {f : Nat}

theorem evPure_ok {o : Oper} (hp : C.pure o.op = true) (hT : ∀ t i, C.ty t = some i → TyOk P t i) (h : Inv C w0 F0 nt st a w H σ) (hd : ∀ t, o.dst = some t → t < nt) (hK : evOp C call f o st K = some r) {ws : List Nat} {S : World → Prop}
    (hS : Keeps ws σ w S) (hws : ∀ t x s off, o.op = .load t x → st.get C x = .cell (.ptr s off) → s ∉ ws) : Yld C P w0 F0 nt a w σ K r o S := by
  cases hop : o.op with
  | move x => simp only [evOp, hop] at hK; exact op_move (.inl hop) h hd hK S
  | assign x => simp only [evOp, hop] at hK; exact op_move (.inr hop) h hd hK S
  | pick c x y => simp only [evOp, hop] at hK; exact op_pick hop h hd hK S
  | unOp op t x => simp only [evOp, hop] at hK; exact op_un hop h hd hK S
  | load t x =>
    simp only [evOp, hop] at hK
    exact op_load hop hT h hd hK hS (fun s off e => hws t x s off hop e)
  | fieldAddr t x n => simp only [evOp, hop] at hK; exact op_fieldAddr hop hT h hd hK S
  | field t x n => simp only [evOp, hop] at hK; exact op_field hop hT h hd hK S
  | indexAddr t x n => simp only [evOp, hop] at hK; exact op_indexAddr hop hT h hd hK S
  | extract x n => simp only [evOp, hop] at hK; exact op_extract hop h hd hK S
  | makeFunc fn fi ca => simp only [evOp, hop] at hK; exact op_makeFunc hop h hd hK S
  | build t ps => simp only [evOp, hop] at hK; exact op_build hop hT h hd hK S
  | slice t x lo hi mx => simp only [evOp, hop] at hK; exact op_slice hop hT h hd hK S
  | index t x y =>
    simp only [evOp, hop] at hK
    split at hK
    · rename_i hk; exact op_index hop hT h hd hk hK S
    · cases hK
  | convert t u x =>
    simp only [evOp, hop] at hK
    rw [hop] at hp
    refine op_convert hop hT h hd (fun hh => ?_) (fun hh => ?_) hK hS <;>
    · simp only [Cfg.pure, hh.1, hh.2] at hp
      cases hp
  | binOp op t x y u =>
    simp only [evOp, hop] at hK
    cases hi : C.ty t with
    | none => rw [hi] at hK; cases hK
    | some i =>
      rw [hi] at hK
      simp only at hK
      have ht := hT t i hi
      have hu := ht.und
      cases hag : i.kd.agg with
      | true =>
        rw [hag] at hK
        simp only [cond_true] at hK
        cases hq : i.eqk with
        | none => rw [hq] at hK; cases hK
        | some ks =>
          rw [hq] at hK
          exact op_bin hop h hd (f := binAg ks op) (fun vx vy p q z hz hx hy => binAg_ok (w := w) hz hx hy (ht.eqOk ks hq) x y) (fun q => rfl) (fun p => by unfold binAg; cases p <;> rfl) hK S
      | false =>
        rw [hag] at hK
        simp only [cond_false] at hK
        cases hk : i.kd <;> rw [hk] at hK hu <;> simp only at hK hu
        case bool => exact op_bin hop h hd (f := binB op) (fun vx vy p q z hz hx hy => binB_ok hz hx hy t hu x y) (fun q => rfl) (fun p => by unfold binB; cases p <;> rfl) hK S
        case int k => exact op_bin hop h hd (f := binI op) (fun vx vy p q z hz hx hy => binI_ok hz hx hy t x y) (fun q => by cases op <;> rfl) (fun p => by cases op <;> simp [binI, AV.toI]) hK S
        case str => exact op_bin hop h hd (f := binS op) (fun vx vy p q z hz hx hy => binS_ok hz hx hy t x y) (fun q => rfl) (fun p => by unfold binS; cases p <;> rfl) hK S
        case slice => exact op_bin hop h hd (f := binN op) (fun vx vy p q z hz hx hy => binN_ok hz hx hy t hu x y) (fun q => by unfold binN; cases q <;> rfl) (fun p => by unfold binN; cases p <;> first | rfl | (rename_i l; cases l <;> rfl)) hK S
        all_goals cases hK
  | call c =>
    simp only [evOp, hop, evCall] at hK
    rw [hop] at hp
    obtain ⟨callee, args, argTypes⟩ := c
    cases callee with
    | builtin b =>
      simp only [evBuiltin] at hK
      cases b <;> first | (cases hp; done) | skip
      case len =>
        split at hK <;> first | (cases hK; done) | skip
        rename_i x t ts hb ha hts
        exact op_len hop rfl ha hts hT h hd hK S
        all_goals contradiction
      case min =>
        split at hK <;> first | (cases hK; done) | skip
        all_goals first | contradiction | skip
        rename_i x y hb ha
        exact op_mm true hop rfl ha h hd hK S
      case max =>
        split at hK <;> first | (cases hK; done) | skip
        all_goals first | contradiction | skip
        rename_i x y hb ha
        exact op_mm false hop rfl ha h hd hK S
    | value x => cases hp
    | invoke x n => cases hp
  | _ => rw [hop] at hp; cases hp

/-- What becomes of the memory. -/
def Keep2 (C : Cfg) (st : St) (o : Oper) (σ : Nat → Option Nat) (w w' : World) : Prop :=
  match o.op with
  | .store _ x _ => match st.get C x with
    | .cell (.ptr s _) => w.heap.size ≤ w'.heap.size ∧ ∀ b, b < w.heap.size → σ s ≠ some b → w'.heap[b]? = w.heap[b]?
    | _ => True
  | .call { callee := .builtin .append, .. } => True
  | .convert s t _ => if Nat.beq s t = true ∧ C.pure o.op = false then True else Ext w w'
  | _ => Ext w w'

/-- What an operation does, as the evaluator has it. -/
def Goes (C : Cfg) (P : Program) (w0 : World) (F0 : Nat → Prop) (nt : Nat) (st : St) (a : Act) (w : World) (σ : Nat → Option Nat) (K : St → Option R) (r : R) (o : Oper) : Prop :=
  ∀ (next : Act → World → Prop) (Q : Exit → Act → World → Prop), (∀ (a' : Act) (w' : World) (st' : St) (H' : Nat → Option Value) (σ' : Nat → Option Nat), K st' = some r → Inv C w0 F0 nt st' a' w' H' σ' → Keep2 C st o σ w w' →
    ((∀ s, o.dst ≠ some s → σ' s = σ s) ∧ ((∃ t, o.op = .alloc t) ∨ (∃ t x, o.op = .box t x) ∨ σ' = σ)) → Only o.dst a a' → next a' w') → o.wp P a w next Q

theorem Yld.goes {o : Oper} (hp : C.pure o.op = true) (h : Yld C P w0 F0 nt a w σ K r o (· = w)) : Goes C P w0 F0 nt st a w σ K r o := by
  obtain ⟨v, hv, st', H', hK, hI⟩ := h
  intro next Q hn
  unfold Oper.wp
  rw [hv w rfl]
  refine hn _ w st' H' σ hK hI ?_ ⟨fun s _ => rfl, .inr (.inr rfl)⟩ (Only.put a o.dst v)
  unfold Keep2
  cases hop : o.op with
  | store t x y => rw [hop] at hp; cases hp
  | call c =>
    rw [hop] at hp
    obtain ⟨callee, args, argTypes⟩ := c
    cases callee with
    | builtin b => cases b <;> first | exact Ext.refl w | cases hp
    | value x => cases hp
    | invoke x n => cases hp
  | convert s t x =>
    rw [hop] at hp
    simp only [hp]
    rw [if_neg (by simp)]
    exact Ext.refl w
  | _ => exact Ext.refl w

/-- An operation that yields a value and makes the world another. -/
theorem goes_of {o : Oper} {v : Value} {w' : World} (hrun : (execOp a.eval o).run P w = .ok (.value v) w') {st' : St} {H' : Nat → Option Value} {σ' : Nat → Option Nat} (hK : K st' = some r) (hI : Inv C w0 F0 nt st' (a.put o.dst v) w' H' σ')
    (hk : Keep2 C st o σ w w') (hσ : (∀ s, o.dst ≠ some s → σ' s = σ s) ∧ ((∃ t, o.op = .alloc t) ∨ (∃ t x, o.op = .box t x) ∨ σ' = σ)) : Goes C P w0 F0 nt st a w σ K r o := by
  intro next Q hn
  unfold Oper.wp
  rw [hrun]
  exact hn _ w' st' H' σ' hK hI hk hσ (Only.put a o.dst v)

theorem op_alloc {o : Oper} {t : TypeId} (ho : o.op = .alloc t) (hT : ∀ t i, C.ty t = some i → TyOk P t i) (h : Inv C w0 F0 nt st a w H σ) (hd : ∀ t, o.dst = some t → t < nt)
    (hK : (match C.ty t with
    | some i => o.dst.bind fun d => K (newVar st d (i.zero.map .val))
    | none => none) = some r) : Goes C P w0 F0 nt st a w σ K r o := by
  split at hK
  · rename_i i hi
    cases hdst : o.dst with
    | none => rw [hdst] at hK; cases hK
    | some d =>
      rw [hdst] at hK
      simp only [Option.bind_some] at hK
      obtain ⟨z, hz, hz1, hz2, hz3⟩ := (hT t i hi).run_zero w
      obtain ⟨σ', hI, hσ⟩ : ∃ σ', Inv C w0 F0 nt (newVar st d (i.zero.map .val)) (a.put (some d) (.pointer (some ⟨w.heap.size, 0, none⟩))) { w with heap := w.heap.push (.cells z.cells.toList.toArray t) } H σ' ∧ ∀ s, s ≠ d → σ' s = σ s := by
        refine h.newVar d (hd d hdst) t (by rw [← hz1]; simp) fun j c v hc hv => ?_
        rw [← hz1, List.map_map, List.getElem?_map, hv] at hc
        cases hc
        have h1 := hz3 v (List.mem_of_getElem? hv)
        exact ⟨h1, ofV_pl v h1 _ _⟩
      refine goes_of (v := .pointer (some ⟨w.heap.size, 0, none⟩)) (w' := { w with heap := w.heap.push (.cells z.cells.toList.toArray t) }) ?_ hK (by rw [hdst]; exact hI) (by unfold Keep2; rw [ho]; exact Ext.push w _) ⟨fun s hs => hσ s fun e => hs (by rw [hdst, e]), by rw [ho]; simp⟩
      simp only [execOp, ho, Instr.alloc, Sem.run_bind, hz, Result.andThen_ok]
      simp [Go.newVar, newRow]
  · cases hK

theorem op_box {o : Oper} {t : TypeId} {x : Operand} (ho : o.op = .box t x) (hT : ∀ t i, C.ty t = some i → TyOk P t i) (h : Inv C w0 F0 nt st a w H σ) (hd : ∀ t, o.dst = some t → t < nt)
    (hK : cellsOf C t (st.get C x) (fun cs => o.dst.bind fun d => K (newVar st d cs)) = some r) : Goes C P w0 F0 nt st a w σ K r o := by
  obtain ⟨i, cs, hi, hK, hlen, hcr, _, _, _, _⟩ := cellsOf_ok hT (h.get x) hK
  cases hdst : o.dst with
  | none => rw [hdst] at hK; cases hK
  | some d =>
    rw [hdst] at hK
    simp only [Option.bind_some] at hK
    obtain ⟨σ', hI, hσ⟩ := h.newVar d (hd d hdst) t hcr.1 hcr.2
    refine goes_of (v := .pointer (some ⟨w.heap.size, 0, none⟩)) (w' := { w with heap := w.heap.push (.cells (a.eval x).cells.toList.toArray t) }) ?_ hK (by rw [hdst]; exact hI) (by unfold Keep2; rw [ho]; exact Ext.push w _) ⟨fun s hs => hσ s fun e => hs (by rw [hdst, e]), by rw [ho]; simp⟩
    simp [execOp, ho, Instr.box, Go.newVar, newRow]
end
end Sx

/-
  SxOps5: what is made anew: slices, bytes.
-/
namespace Sx
open Go Go.RowKit Go.Lib

/-- Elements, cell by cell. -/
def RR (w : World) (F : Nat → Prop) (k : Nat) (l : List AV) (xs : List Value) : Prop :=
  xs.length = l.length * k ∧ (∀ v ∈ xs, v.oneCell' = true) ∧ ∀ i j v, i < l.length → j < k → xs[i * k + j]? = some v → Rel w F ((l.getD i .un).cell j) v

theorem RR.mono {w w' : World} {F F' : Nat → Prop} {k : Nat} {l : List AV} {xs : List Value} (h : RR w F k l xs) (hw : ∀ b, b < w.heap.size → F b → F' b ∧ w'.heap[b]? = w.heap[b]?) : RR w' F' k l xs :=
  ⟨h.1, h.2.1, fun i j v hi hj hv => (h.2.2 i j v hi hj hv).mono hw⟩

section
variable {C : Cfg} {P : Program} {w0 : World} {F0 : Nat → Prop} {nt : Nat} {st : St} {a : Act} {w : World} {H : Nat → Option Value} {σ : Nat → Option Nat} {R : Type} {K : St → Option R} {r : R} {call : Nat → List AV → Option AV} {f : Nat}

theorem madeCells_get (z : List Value) (n j : Nat) (hz : 0 < z.length) (hj : j < n) : (madeCells z.toArray n).toList[j]? = z[j % z.length]? := by
  have hm : j % z.length < z.length := Nat.mod_lt _ hz
  simp [madeCells, hj, hm]

/-- Zero elements. -/
theorem zero_rows {t : TypeId} {i : Ty} (ht : TyOk P t i) (F : Nat → Prop) (n : Nat) {z : Value} (h1 : z.cells.toList.map ofV = i.zero) (h2 : z.cells.size = i.size) (h3 : ∀ v ∈ z.cells.toList, v.oneCell' = true) :
    RR w F i.size (List.replicate n (zeroE i)) (madeCells z.cells (n * i.size)).toList := by
  have hz : 0 < z.cells.toList.length := by simpa [h2] using ht.pos.1
  have hget : ∀ j v, (madeCells z.cells (n * i.size)).toList[j]? = some v → z.cells.toList[j % i.size]? = some v := fun j v hv => by
    have hj : j < n * i.size := by
      have := (List.getElem?_eq_some_iff.1 hv).1
      simpa [size_madeCells] using this
    have := madeCells_get z.cells.toList (n * i.size) j hz hj
    simp only [Array.toArray_toList, Array.length_toList, h2] at this
    rw [← this]; exact hv
  refine ⟨by simp [size_madeCells], fun v hv => ?_, fun a b v ha hb hv => ?_⟩
  · obtain ⟨j, hj⟩ := List.getElem?_of_mem hv
    exact h3 v (List.mem_of_getElem? (hget j v hj))
  · have hv2 := hget _ v hv
    have e1 : (a * i.size + b) % i.size = b := by rw [Nat.mul_comm, Nat.mul_add_mod]; exact Nat.mod_eq_of_lt hb
    rw [e1] at hv2
    have ha' : a < n := by simpa using ha
    have e2 : (List.replicate n (zeroE i)).getD a .un = zeroE i := by simp [List.getD, ha']
    rw [e2]
    have hone := h3 v (List.mem_of_getElem? hv2)
    have hzb : i.zero[b]? = some (ofV v) := by rw [← h1, List.getElem?_map, hv2]; rfl
    unfold zeroE
    cases hag : i.kd.agg with
    | true =>
      simp only [cond_true, AV.cell, List.getD_eq_getElem?_getD, hzb, Option.getD_some]
      exact ofV_pl v hone _ _
    | false =>
      have hs := ht.one hag
      have hb0 : b = 0 := by omega
      subst hb0
      have : i.zero.headD .un = ofV v := by
        cases hzz : i.zero with
        | nil => rw [hzz] at hzb; cases hzb
        | cons q qs => rw [hzz] at hzb; cases hzb; rfl
      simp only [cond_false, this]
      have hp := ofV_pl v hone w F
      cases hvv : ofV v with
      | ag l => rw [hvv] at hp; cases hp; cases hone
      | _ => rw [hvv] at hp; exact hp

theorem maxLen_big {n : Nat} (h : n ≤ big) : n ≤ maxLen := by unfold big at h; unfold maxLen; omega

theorem op_makeSlice {o : Oper} {t : TypeId} {n c : Operand} (ho : o.op = .makeSlice t n c) (hT : ∀ t i, C.ty t = some i → TyOk P t i) (h : Inv C w0 F0 nt st a w H σ) (hd : ∀ t, o.dst = some t → t < nt)
    (hK : (match C.ty t, (C.ty t).bind fun i => C.ty i.elem with
    | some s, some i => (bif s.kd.isSl then mk i.bytes (zeroE i) (st.get C n).pay (st.get C c).pay else none).bind fun l => o.dst.bind fun d => K (newOwn st d s.elem i.size l)
    | _, _ => none) = some r) : Goes C P w0 F0 nt st a w σ K r o := by
  split at hK
  · rename_i s i hs hi
    rw [hs] at hi
    simp only [Option.bind_some] at hi
    have hti := hT s.elem i hi
    have hu := (hT t s hs).und
    cases hkd : s.kd <;> rw [hkd] at hK hu <;> simp only [Kd.isSl, cond_false, Option.bind_none] at hK <;> first | (cases hK; done) | skip
    simp only at hu
    simp only [cond_true] at hK
    cases hm : mk i.bytes (zeroE i) (st.get C n).pay (st.get C c).pay with
    | none => rw [hm] at hK; cases hK
    | some l =>
      rw [hm] at hK
      simp only [Option.bind_some] at hK
      cases hdst : o.dst with
      | none => rw [hdst] at hK; cases hK
      | some d =>
        rw [hdst] at hK
        simp only [Option.bind_some] at hK
        unfold mk at hm
        split at hm
        · rename_i x y hx hy
          split at hm
          · rename_i hc
            cases hm
            obtain ⟨rfl, h0, hb⟩ := hc
            have rn : a.eval n = .int .i64 x := by
              rcases (h.get n).pay with e | e
              · rw [hx] at e; cases e
              · rw [hx] at e; exact e.toI rfl
            have rc : a.eval c = .int .i64 x := by
              rcases (h.get c).pay with e | e
              · rw [hy] at e; cases e
              · rw [hy] at e; exact e.toI rfl
            obtain ⟨inf, z, q1, q2, q3, q4, q5, q6, q7⟩ := hti.info
            have hxn : x = (x.toNat : Int) := by omega
            have hb2 : i.bytes * x.toNat ≤ big := by
              have : ((i.bytes * x.toNat : Nat) : Int) ≤ (big : Int) := by
                rw [Int.natCast_mul, ← hxn]; exact hb
              omega
            have hxle : x.toNat ≤ big := Nat.le_trans (Nat.le_mul_of_pos_left _ hti.pos.2) hb2
            have hrun := run_make (P := P) w t s.elem inf z hu q1 q4 .i64 .i64 x x h0 (Int.le_refl _) (by rw [q3]; unfold big at hb; omega) (by unfold big at hxle; omega)
            rw [q2] at hrun
            have hrow := World.ownsRow_lit (base := 0) (size := i.size) (e := s.elem) w (madeCells z.cells (x.toNat * i.size)) x.toNat (Nat.zero_le _) (maxLen_big hxle) (size_madeCells _ _)
            have hext : Ext w (w.alloc (.cells (madeCells z.cells (x.toNat * i.size)) s.elem)) := Ext.push w _
            obtain ⟨H', hI⟩ := h.newOwn hext d (hd d hdst) (e := s.elem) (k := i.size) (l := List.replicate x.toNat (zeroE i)) (x := .slice (some ⟨w.heap.size, 0, none⟩) x.toNat x.toNat)
              (fun g hg => by simp [Value.ownBlock] at hg; subst hg; simp [World.alloc, -World.alloc_eq]) (fun F _ => by
                have hrr := zero_rows (w := w.alloc (.cells (madeCells z.cells (x.toNat * i.size)) s.elem)) hti F x.toNat q5 q6 q7
                exact ⟨hti.pos.1, _, by simpa using hrow, hrr.2.1, hrr.2.2⟩)
            refine goes_of ?_ hK (by rw [hdst]; exact hI) (by unfold Keep2; rw [ho]; exact hext) ⟨fun s _ => rfl, .inr (.inr rfl)⟩
            simp only [execOp, ho, rn, rc, Sem.run_bind, hrun, Result.andThen_ok]
            rfl
          · cases hm
        · cases hm
  · cases hK

/-- The bytes of a text, anew. -/
theorem op_s2b {o : Oper} {t u : TypeId} {x : Operand} (ho : o.op = .convert t u x) (hT : ∀ t i, C.ty t = some i → TyOk P t i) (h : Inv C w0 F0 nt st a w H σ) (hd : ∀ t, o.dst = some t → t < nt)
    (hs : C.kd t = some .str) (hl : C.kd u = some .slice) (hK : evConv C t u (st.get C x) o.dst st K = some r) : Goes C P w0 F0 nt st a w σ K r o := by
  unfold evConv at hK
  rw [hs, hl] at hK
  simp only at hK
  obtain ⟨i1, e1, f1⟩ := kd_some hs
  obtain ⟨i2, e2, f2⟩ := kd_some hl
  rw [e2] at hK
  simp only [Option.bind_some] at hK
  split at hK
  · rename_i h3
    obtain ⟨i3, e3, f3⟩ := kd_some h3
    have hu1 := (hT t i1 e1).und
    rw [f1] at hu1
    have hu2 := (hT u i2 e2).und
    rw [f2] at hu2
    have hu3 := (hT i2.elem i3 e3).und
    rw [f3] at hu3
    obtain ⟨z, hz, hK⟩ := lift_some hK
    have rx := pay_read h x s2b rfl hz
    unfold s2b at hz
    split at hz
    · rename_i l hl2
      cases hz
      rw [hl2] at rx
      generalize hxv : a.eval x = X at rx
      cases rx with
      | s q =>
        have hrun := run_convert_string_bytes w t u i2.elem q hu1 hu2 hu3
        have hext : Ext w (bytesWorld w i2.elem q) := ⟨rfl, rfl, rfl, by rw [bytesWorld_size]; omega, fun b hb => bytesWorld_at_old w _ _ b hb⟩
        refine goes_of ?_ hK ((h.ext hext).put hd (v := .slice (some ⟨w.heap.size, 0, none⟩) q.size (grownCap w q.size 0 i2.elem)) ?_) (by
          unfold Keep2
          rw [ho]
          simp only
          split
          · trivial
          · exact hext) ⟨fun s _ => rfl, .inr (.inr rfl)⟩
        · simp only [execOp, ho, hxv, Sem.run_bind, hrun, Result.andThen_ok]
          rfl
        · show Rel _ _ _ _
          have hlen : (q.data.toList.map AV.u8).length = q.size := by simp
          rw [← hlen]
          refine .ro 1 _ _ 0 _ (strCells q) (by omega) (by rw [hlen]; exact grownCap_ge w q.size 0 i2.elem) ⟨fun hh => ?_, fun i v hv => ?_, fun s hs => ?_⟩ (by rw [strCells_length, hlen]; omega) (fun j v hv => ?_) (strCells_oneCell q) (fun i j v hi hj hv => ?_)
          · have := h.below.size; omega
          · intro e; have := (h.hown i v _ hv e).2; omega
          · have := (h.sown s _ hs).2; omega
          · have hj : j < q.size := by have := (List.getElem?_eq_some_iff.1 hv).1; rwa [strCells_length] at this
            rw [Nat.zero_add, bytesWorld_cell w i2.elem q j hj]
            unfold strCells at hv
            rw [List.getElem?_map] at hv
            have hj' : j < q.data.toList.length := by simpa using hj
            rw [List.getElem?_eq_getElem hj'] at hv
            cases hv
            rw [List.getD_eq_getElem?_getD, List.getElem?_eq_getElem hj']
            rfl
          · have hj0 : j = 0 := by omega
            subst hj0
            rw [hlen] at hi
            have hi' : i < q.data.toList.length := by simpa using hi
            simp only [strCells, Nat.mul_one, Nat.add_zero] at hv
            rw [List.getElem?_map, List.getElem?_eq_getElem hi'] at hv
            cases hv
            have : (List.map AV.u8 q.data.toList).getD i .un = .u8 q.data.toList[i] := by rw [List.getD_eq_getElem?_getD, List.getElem?_map, List.getElem?_eq_getElem hi']; rfl
            rw [this]
            exact .u8 _
    · cases hz
  · cases hK

theorem app_len {bytes k : Nat} {l m : List AV} {x : AV} (h : app bytes k l x = some m) : x ≠ .un := by
  intro e; subst e; cases h

/-- append. -/
theorem op_append {o : Oper} {c : Call} {x y : Operand} {t u : TypeId} {ts : List TypeId} (ho : o.op = .call c) (hc : c.callee = .builtin .append) (ha : c.args.toList = [x, y]) (hts : c.argTypes.toList = t :: u :: ts)
    (hT : ∀ t i, C.ty t = some i → TyOk P t i) (h : Inv C w0 F0 nt st a w H σ) (hd : ∀ t, o.dst = some t → t < nt)
    (hK : (match C.ty t, (C.ty t).bind fun i => C.ty i.elem, C.kd u with
    | some s, some i, some kd =>
      match kd with
      | .slice | .str => bif s.kd.isSl then
        match st.get C x with
        | .cell (.own id e k l) => bif Nat.beq e s.elem && Nat.beq k i.size && !((st.get C y).ids.any (Nat.beq id)) then (app i.bytes i.size l (st.get C y).pay).bind fun m => o.dst.bind fun d => K (newOwn ((st.fzs (st.get C y).ids).kl id) d e k m) else none
        | .cell (.val .nils) => (app i.bytes i.size [] (st.get C y).pay).bind fun m => o.dst.bind fun d => K (newOwn (st.fzs (st.get C y).ids) d s.elem i.size m)
        | _ => none
        else none
      | _ => none
    | _, _, _ => none) = some r) : Goes C P w0 F0 nt st a w σ K r o := by
  have e1 : c.args = #[x, y] := by rw [← Array.toArray_toList (xs := c.args), ha]
  have e0 : c.argTypes[0]? = some t := by rw [← Array.getElem?_toList, hts]; rfl
  have e01 : c.argTypes[1]? = some u := by rw [← Array.getElem?_toList, hts]; rfl
  split at hK
  case h_2 => cases hK
  rename_i s i kd hs hi hkd
  rw [hs] at hi
  simp only [Option.bind_some] at hi
  have hti := hT s.elem i hi
  have hut := (hT t s hs).und
  obtain ⟨iu, hiu, hiuk⟩ := kd_some hkd
  have huu := (hT u iu hiu).und
  rw [hiuk] at huu
  have hu : P.underlying u = some .string ∨ ∃ e', P.underlying u = some (.slice e') := by
    cases kd <;> first | exact .inl huu | exact .inr ⟨_, huu⟩ | cases hK
  obtain ⟨inf, z, q1, q2, q3, q4, q5, q6, q7⟩ := hti.info
  have hK : (bif s.kd.isSl then
        match st.get C x with
        | .cell (.own id e k l) => bif Nat.beq e s.elem && Nat.beq k i.size && !((st.get C y).ids.any (Nat.beq id)) then (app i.bytes i.size l (st.get C y).pay).bind fun m => o.dst.bind fun d => K (newOwn ((st.fzs (st.get C y).ids).kl id) d e k m) else none
        | .cell (.val .nils) => (app i.bytes i.size [] (st.get C y).pay).bind fun m => o.dst.bind fun d => K (newOwn (st.fzs (st.get C y).ids) d s.elem i.size m)
        | _ => none
        else none) = some r := by
    cases kd <;> first | exact hK | cases hK
  cases hskd : s.kd <;> rw [hskd] at hK hut <;> simp only [Kd.isSl, cond_false] at hK <;> first | (cases hK; done) | skip
  simp only [cond_true] at hK
  simp only at hut
  have key : ∀ (F1 F2 : Nat → Prop) (l m : List AV) (v : Value), a.eval x = v → app i.bytes i.size l (st.get C y).pay = some m → OwnOk w F2 s.elem i.size l v → Rel w F1 (st.get C y).pay (a.eval y) →
      ∃ v' w', (execOp a.eval o).run P w = .ok (.value v') w' ∧ w.grownBy w' v.ownBlock ∧ (∀ g, v'.ownBlock = some g → (v.ownBlock = some g ∨ w.heap.size ≤ g) ∧ g < w'.heap.size) ∧
        ∀ F : Nat → Prop, (∀ b, b < w.heap.size → F2 b → F b ∧ v.ownBlock ≠ some b) → (∀ b, b < w.heap.size → F1 b → F b ∧ v.ownBlock ≠ some b) → OwnOk w' F s.elem i.size m v' := by
    intro F1 F2 l m v hv hm hown hy
    obtain ⟨v', w', r1, r2, r3, r4⟩ := app_ok (P := P) t u o.type s.elem inf z hut q1 q4 (by rw [q2]; exact q6) (by rw [q2]; exact hti.pos.1) hu c.argTypes e0 e01 (by rw [q3]; exact hti.pos.2) (l := l) (l' := m) (by rw [q2, q3]; exact hm) (by rw [q2]; exact hown) hy
    refine ⟨v', w', ?_, r2, r3, fun F h1 h2 => by have := r4 F h1 h2; rwa [q2] at this⟩
    simp only [execOp, ho, resolve, hc, e1]
    simp [invoke, builtin, hv, r1]
  have hkeep : ∀ w', Keep2 C st o σ w w' := fun w' => by
    unfold Keep2
    rw [ho]
    obtain ⟨ce, ar, aty⟩ := c
    simp only at hc
    subst hc
    trivial
  have htold : ∀ m l, app i.bytes i.size l (st.get C y).pay = some m → (st.get C y).told = true := fun m l hm => by
    cases hge : st.get C y with
    | cell c => cases c with
      | val v => rfl
      | own i e k l => rfl
      | _ => rw [hge] at hm; cases hm
    | agg cs => rw [hge] at hm; cases hm
    | _ => rw [hge] at hm; cases hm
  split at hK
  · rename_i id e k l hge
    cases hb : (Nat.beq e s.elem && Nat.beq k i.size && !((st.get C y).ids.any (Nat.beq id))) with
    | false => rw [hb] at hK; cases hK
    | true =>
      rw [hb] at hK
      simp only [cond_true] at hK
      rw [Bool.and_eq_true, Bool.and_eq_true] at hb
      have he := Nat.eq_of_beq_eq_true hb.1.1
      have hk := Nat.eq_of_beq_eq_true hb.1.2
      have hidn : id ∉ (st.get C y).ids := fun hm => by
        have h2 := hb.2
        simp only [Bool.not_eq_true', List.any_eq_false] at h2
        exact h2 id hm (Nat.beq_refl id)
      subst he hk
      cases hm : app i.bytes i.size l (st.get C y).pay with
      | none => rw [hm] at hK; cases hK
      | some m =>
        rw [hm] at hK
        simp only [Option.bind_some] at hK
        cases hdst : o.dst with
        | none => rw [hdst] at hK; cases hK
        | some d =>
          rw [hdst] at hK
          simp only [Option.bind_some] at hK
          have hr := h.get x
          rw [hge] at hr
          obtain ⟨hHid, hown0⟩ := hr
          obtain ⟨H1, h1, hent, hsub, hsup⟩ := h.fzs2 (st.get C y).ids
          have hH1 := hsup id _ hidn hHid
          have hsame : ∀ (ids : List Nat) (e k : Nat) (l : List AV), id ∉ ids → Ent.fzs (.cell (.own id e k l)) ids = .cell (.own id e k l) := by
            intro ids e k l hn
            induction ids with
            | nil => rfl
            | cons j r ih =>
              have hji : id ≠ j := fun e => hn (e ▸ List.mem_cons_self ..)
              have : Ent.fz j (.cell (.own id e k l)) = .cell (.own id e k l) := by simp [Ent.fz, Cell.fz, bif_beq, hji]
              simp only [Ent.fzs, List.foldl_cons, this]
              exact ih fun hm => hn (List.mem_cons_of_mem _ hm)
          have hx1 := hent _ _ (by rw [← hge]; exact h.get x : REnt w (Fr w0.heap.size F0 H σ) H σ (.cell (.own id s.elem i.size l)) (a.eval x))
          rw [hsame _ _ _ _ hidn] at hx1
          have hy := told_fzs (hent _ _ (h.get y)) (htold m l hm) (fun i hi => hi)
          obtain ⟨v', w', r1, r2, r3, r4⟩ := key _ _ l m _ rfl hm hx1.2 hy
          have hreg := h1.regrow id d (a.eval x).ownBlock (w' := w') (x := v') r2.os r2.tape r2.output r2.size r2.block (fun g hg => ⟨_, hH1, hg⟩) r3
          have hF : ∀ b, b < w.heap.size → Fr w0.heap.size F0 H1 σ b → Fr w0.heap.size F0 (upd (Sx.erase (Sx.erase H1 id) d) d v') σ b ∧ (a.eval x).ownBlock ≠ some b := fun b hb hf => by
            refine ⟨⟨hf.1, fun i v hv => ?_, hf.2.2⟩, hf.2.1 id _ hH1⟩
            rcases upd_some hv with ⟨_, rfl⟩ | ⟨_, hv⟩
            · intro e
              rcases (r3 b e).1 with h | h
              · exact hf.2.1 id _ hH1 h
              · omega
            · exact hf.2.1 i v (erase_some (erase_some hv).2).2
          refine goes_of r1 hK (H' := upd (Sx.erase (Sx.erase H1 id) d) d v') (σ' := σ) ?_ (hkeep w') ⟨fun s _ => rfl, .inr (.inr rfl)⟩
          rw [hdst]
          exact hreg.put (d := some d) (fun t ht => by cases ht; exact hd _ hdst) ⟨by unfold upd; simp, r4 _ hF hF⟩
  · rename_i hge
    cases hm : app i.bytes i.size [] (st.get C y).pay with
    | none => rw [hm] at hK; cases hK
    | some m =>
      rw [hm] at hK
      simp only [Option.bind_some] at hK
      cases hdst : o.dst with
      | none => rw [hdst] at hK; cases hK
      | some d =>
        rw [hdst] at hK
        simp only [Option.bind_some] at hK
        have hr := h.get x
        rw [hge] at hr
        have hxv : a.eval x = .slice none 0 0 := by
          generalize a.eval x = X at hr
          cases hr; rfl
        obtain ⟨H1, h1, hent, hsub, hsup⟩ := h.fzs2 (st.get C y).ids
        have hy := told_fzs (hent _ _ (h.get y)) (htold m [] hm) (fun i hi => hi)
        obtain ⟨v', w', r1, r2, r3, r4⟩ := key _ (Fr w0.heap.size F0 H1 σ) [] m _ hxv hm ⟨hti.pos.1, [], World.ownsRow_nil w 0 _ _, by simp, fun i j v hi => by simp at hi⟩ hy
        have hext : Ext w w' := ⟨r2.os, r2.tape, r2.output, r2.size, fun b hb => r2.block b hb (by simp [Value.ownBlock])⟩
        obtain ⟨H', hI⟩ := h1.newOwn hext d (hd d hdst) (e := s.elem) (k := i.size) (l := m) (x := v')
          (fun g hg => ⟨by rcases (r3 g hg).1 with h | h
                           · simp [Value.ownBlock] at h
                           · exact h, (r3 g hg).2⟩)
          (fun F hF => r4 F (fun b hb hf => ⟨hF b hb hf, by simp [Value.ownBlock]⟩) (fun b hb hf => ⟨hF b hb hf, by simp [Value.ownBlock]⟩))
        exact goes_of r1 hK (by rw [hdst]; exact hI) (hkeep w') ⟨fun s _ => rfl, .inr (.inr rfl)⟩
  · cases hK
end
end Sx

/-
  SxOps6: a slice of given elements; what is written.
-/
namespace Sx
open Go Go.RowKit Go.Lib

theorem splice_get {α : Type} (xs news : List α) (p q : Nat) (h : p + news.length ≤ xs.length) :
    (xs.take p ++ news ++ xs.drop (p + news.length))[q]? = if p ≤ q ∧ q < p + news.length then news[q - p]? else xs[q]? := by
  simp only [List.getElem?_append, List.length_append, List.length_take, List.getElem?_take, List.getElem?_drop]
  have m : min p xs.length = p := by omega
  rw [m]
  by_cases h1 : q < p
  · simp [h1, show q < p + news.length by omega, show ¬ p ≤ q by omega]
  · by_cases h2 : q < p + news.length
    · simp [h1, h2, show p ≤ q by omega]
    · simp [h2, show p + news.length + (q - (p + news.length)) = q by omega]

/-- One element with other cells. -/
theorem RR.upd {w : World} {F : Nat → Prop} {k : Nat} {l : List AV} {xs : List Value} (h : RR w F k l xs) (n : Nat) (hn : n < l.length) (ev : AV) (off : Nat) (news : List Value) (hfit : off + news.length ≤ k) (h1 : ∀ v ∈ news, v.oneCell' = true)
    (hr : ∀ j v, j < k → (if off ≤ j ∧ j < off + news.length then news[j - off]? else xs[n * k + j]?) = some v → Rel w F (ev.cell j) v) :
    RR w F k (l.set n ev) (xs.take (n * k + off) ++ news ++ xs.drop (n * k + off + news.length)) := by
  have hle : (n + 1) * k ≤ l.length * k := Nat.mul_le_mul_right _ hn
  rw [Nat.add_mul, Nat.one_mul] at hle
  have hx : n * k + off + news.length ≤ xs.length := by rw [h.1]; omega
  refine ⟨by simp [h.1]; omega, fun v hv => ?_, fun i j v hi hj hv => ?_⟩
  · rcases List.mem_append.1 hv with hv | hv
    · rcases List.mem_append.1 hv with hv | hv
      · exact h.2.1 v (List.mem_of_mem_take hv)
      · exact h1 v hv
    · exact h.2.1 v (List.mem_of_mem_drop hv)
  · rw [splice_get _ _ _ _ hx] at hv
    rw [List.length_set] at hi
    by_cases hin : i = n
    · subst hin
      have e : (l.set i ev).getD i .un = ev := by simp [List.getD, hn]
      rw [e]
      refine hr j v hj ?_
      by_cases hc : off ≤ j ∧ j < off + news.length
      · rw [if_pos hc]
        rw [if_pos (by omega)] at hv
        rw [show i * k + j - (i * k + off) = j - off by omega] at hv
        exact hv
      · rw [if_neg hc]
        rw [if_neg (by omega)] at hv
        exact hv
    · have e : (l.set n ev).getD i .un = l.getD i .un := by simp [List.getD, List.getElem?_set, Ne.symm hin]
      rw [e]
      refine h.2.2 i j v hi hj ?_
      rw [if_neg ?_] at hv
      · exact hv
      · rcases Nat.lt_or_gt_of_ne hin with hlt | hgt
        · have : (i + 1) * k ≤ n * k := Nat.mul_le_mul_right _ hlt
          rw [Nat.add_mul, Nat.one_mul] at this
          omega
        · have : (n + 1) * k ≤ i * k := Nat.mul_le_mul_right _ hgt
          rw [Nat.add_mul, Nat.one_mul] at this
          omega

section
variable {C : Cfg} {P : Program} {w0 : World} {F0 : Nat → Prop} {nt : Nat} {st : St} {a : Act} {w : World} {H : Nat → Option Value} {σ : Nat → Option Nat} {R : Type} {K : St → Option R} {r : R} {call : Nat → List AV → Option AV} {f : Nat}

/-- A value's cells, one by one. -/
theorem Rel.cells {F : Nat → Prop} {e : AV} {x : Value} (h : Rel w F e x) {t : TypeId} {i : Ty} (ht : TyOk P t i) (hag : i.kd.agg = true → x = .agg x.cells) (hna : i.kd.agg = false → x.oneCell' = true) (hl : x.cells.toList.length = i.size) (j : Nat) (v : Value) (hj : j < i.size) (hv : x.cells.toList[j]? = some v) :
    Rel w F (e.cell j) v := by
  cases hh : i.kd.agg with
  | true =>
    have hx := hag hh
    cases h with
    | ag l vs hl2 h1 hr =>
      simp only [Value.cells] at hv
      exact hr j v hv
    | _ => first | cases hx | (rename_i h1; rw [hx] at h1; cases h1)
  | false =>
    have h1 := hna hh
    have hs := ht.one hh
    have hj0 : j = 0 := by omega
    subst hj0
    rw [oneCell_cells h1] at hv
    cases hv
    cases e with
    | ag l => cases h; cases h1
    | _ => exact h

theorem fillE_ok (hT : ∀ t i, C.ty t = some i → TyOk P t i) (h : Inv C w0 F0 nt st a w H σ) {t : TypeId} {i : Ty} (hi : C.ty t = some i) {F : Nat → Prop} {Kc : List AV → Option R} : ∀ (ps : List (Nat × Operand)),
      (∀ p ∈ ps, (st.get C p.2).told = true → Rel w F (st.get C p.2).pay (a.eval p.2)) → ∀ (l : List AV) (cur : Array Value), RR w F i.size l cur.toList → fillE C t i.kd.agg st ps l Kc = some r →
      ∃ l' cur', Instr.fill (fun n => some (n * i.size, i.size)) cur (ps.map fun p => (p.1, a.eval p.2)) = some cur' ∧ RR w F i.size l' cur'.toList ∧ l'.length = l.length ∧ Kc l' = some r
  | [], _, l, cur, hrr, hK => ⟨l, cur, rfl, hrr, rfl, hK⟩
  | (n, x) :: ps, hrel, l, cur, hrr, hK => by
    simp only [fillE] at hK
    cases hb : (Nat.blt n l.length && (st.get C x).told) with
    | false => rw [hb] at hK; cases hK
    | true =>
      rw [hb] at hK
      simp only [cond_true] at hK
      rw [Bool.and_eq_true] at hb
      have hn : n < l.length := by have := hb.1; unfold Nat.blt at this; exact Nat.le_of_ble_eq_true this
      obtain ⟨i', new, hi', hK, hlen, hnew, hag, hagg, _, hpay⟩ := cellsOf_ok hT (h.get x) hK
      have : i' = i := by rw [hi] at hi'; exact (Option.some.inj hi').symm
      subst this
      rw [hpay hb.2] at hK
      have hx := hrel (n, x) (List.mem_cons_self ..) hb.2
      have ht := hT t i' hi
      have hsz : (a.eval x).cells.toList.length = i'.size := by rw [hnew.1, hlen]
      have hle : (n + 1) * i'.size ≤ l.length * i'.size := Nat.mul_le_mul_right _ hn
      rw [Nat.add_mul, Nat.one_mul] at hle
      have hcur : cur.toList.length = l.length * i'.size := hrr.1
      have hone := hagg.2
      have hset := foldl_set (n * i'.size) (a.eval x).cells.toList 0 cur (by rw [hsz, Nat.add_zero, ← Array.length_toList, hcur]; omega)
      have hs2 : (a.eval x).cells.zipIdx.foldl (fun cs (c, j) => cs.setIfInBounds (n * i'.size + j) c) cur = ((a.eval x).cells.toList.zipIdx 0).foldl (fun (cs : Array Value) p => cs.setIfInBounds (n * i'.size + p.2) p.1) cur := by
        rw [← Array.foldl_toList, Array.toList_zipIdx]
      have hupd := hrr.upd n hn (st.get C x).pay 0 (a.eval x).cells.toList (by rw [hsz]; omega) hnew.one (fun j v hj hv => by
        rw [if_pos ⟨Nat.zero_le _, by rw [hsz]; omega⟩] at hv
        exact hx.cells ht hagg.1 hone hsz j v hj hv)
      obtain ⟨l', cur', h1, h2, h3, h4⟩ := fillE_ok hT h hi ps (fun p hp => hrel p (List.mem_cons_of_mem _ hp)) (l.set n (st.get C x).pay) ((a.eval x).cells.zipIdx.foldl (fun cs (c, j) => cs.setIfInBounds (n * i'.size + j) c) cur) (by
        rw [hs2, hset]
        simpa using hupd) hK
      refine ⟨l', cur', ?_, h2, by rw [h3]; simp, h4⟩
      simp only [List.map_cons, Instr.fill]
      have n1 : ¬ ((a.eval x).cells.size ≠ i'.size) := by rw [← Array.length_toList, hsz]; simp
      have n2 : ¬ (n * i'.size + (a.eval x).cells.size > cur.size) := by rw [← Array.length_toList, hsz, ← Array.length_toList (xs := cur), hcur]; omega
      simp only [ne_eq, n1, n2, or_self, if_false, decide_false, Bool.or_self, Bool.false_eq_true]
      exact h1

theorem fill_len (hT : ∀ t i, C.ty t = some i → TyOk P t i) {t : TypeId} {agg : Bool} {Kc : List AV → Option R} : ∀ (ps : List (Nat × Operand)) (l : List AV), fillE C t agg st ps l Kc = some r → l = [] → ps = []
  | [], _, _, _ => rfl
  | (n, x) :: ps, l, hK, hl => by
    subst hl
    have : Nat.blt n 0 = false := rfl
    simp [fillE, this] at hK

theorem op_buildSlice {o : Oper} {t : TypeId} {n : Nat} {ps : Array (Nat × Operand)} (ho : o.op = .buildSlice t n ps) (hT : ∀ t i, C.ty t = some i → TyOk P t i) (h : Inv C w0 F0 nt st a w H σ) (hd : ∀ t, o.dst = some t → t < nt)
    (hK : (match C.ty t, (C.ty t).bind fun i => C.ty i.elem with
    | some s, some i => bif s.kd.isSl && Nat.ble (n * i.size) 16777216 then fillE C s.elem i.kd.agg st ps.toList (List.replicate n (zeroE i)) fun l =>
        o.dst.bind fun d => K (newOwn (st.fzs (ps.toList.flatMap fun p => (st.get C p.2).ids)) d s.elem i.size l) else none
    | _, _ => none) = some r) : Goes C P w0 F0 nt st a w σ K r o := by
  split at hK
  · rename_i s i hs hi
    rw [hs] at hi
    simp only [Option.bind_some] at hi
    have hti := hT s.elem i hi
    have hu := (hT t s hs).und
    cases hkd : s.kd <;> rw [hkd] at hK hu <;> simp only [Kd.isSl, Bool.false_and, cond_false] at hK <;> first | (cases hK; done) | skip
    simp only at hu
    simp only [Bool.true_and] at hK
    cases hle : Nat.ble (n * i.size) 16777216 with
    | false => rw [hle] at hK; cases hK
    | true =>
      rw [hle] at hK
      simp only [cond_true] at hK
      have hle' := Nat.le_of_ble_eq_true hle
      obtain ⟨inf, z, q1, q2, q3, q4, q5, q6, q7⟩ := hti.info
      obtain ⟨H1, h1, hent, hsub, hsup⟩ := h.fzs2 (ps.toList.flatMap fun p => (st.get C p.2).ids)
      have hzr := zero_rows (w := w) hti (Fr w0.heap.size F0 H1 σ) n q5 q6 q7
      obtain ⟨l', cur', g1, g2, g3, g4⟩ := fillE_ok (F := Fr w0.heap.size F0 H1 σ) (a := a) hT h hi ps.toList (fun p hp ht => told_fzs (hent _ _ (h.get p.2)) ht fun i hi => List.mem_flatMap.2 ⟨p, hp, hi⟩) _ _ hzr hK
      have hl' : l'.length = n := by rw [g3]; simp
      cases hdst : o.dst with
      | none => rw [hdst] at g4; cases g4
      | some d =>
        rw [hdst] at g4
        simp only [Option.bind_some] at g4
        have hext : Ext w (w.alloc (.cells cur' s.elem)) := Ext.push w _
        have hcs : cur'.size = n * i.size := by rw [← Array.length_toList, g2.1, hl']
        have hrow := World.ownsRow_lit (base := 0) (size := i.size) (e := s.elem) w cur' n (Nat.zero_le _) (by
          have := hti.pos.1
          have : n * 1 ≤ n * i.size := Nat.mul_le_mul_left _ this
          unfold maxLen; omega) hcs
        have hrun : (Instr.buildSlice t n (ps.map fun (i, x) => (i, a.eval x))).run P w = .ok (.slice (some ⟨w.heap.size, 0, none⟩) n n) (w.alloc (.cells cur' s.elem)) := by
          by_cases h0 : n * i.size = 0
          · have hn0 : n = 0 := by
              rcases Nat.mul_eq_zero.1 h0 with h | h
              · exact h
              · have := hti.pos.1; omega
            subst hn0
            have hps := fill_len hT ps.toList _ hK rfl
            have hps' : ps = #[] := by rw [← Array.toArray_toList (xs := ps), hps]
            subst hps'
            have hc0 : cur' = #[] := Array.eq_empty_of_size_eq_zero (by simpa using hcs)
            subst hc0
            simp [Instr.buildSlice, run_underlying hu, Go.sizeOf, typeInfo, q1, Instr.fill, newRow, Array.range_zero']
          · refine run_buildSlice w t s.elem n _ cur' inf z hu q1 q4 (by rw [q2]; omega) (by rw [q2]; exact h0) ?_
            rw [q2, Array.toList_map]
            exact g1
        obtain ⟨H', hI⟩ := h1.newOwn hext d (hd d hdst) (e := s.elem) (k := i.size) (l := l') (x := .slice (some ⟨w.heap.size, 0, none⟩) n n)
          (fun g hg => by simp [Value.ownBlock] at hg; subst hg; simp [World.alloc, -World.alloc_eq])
          (fun F hF => by
            have h3 := g2.mono (w' := w.alloc (.cells cur' s.elem)) (F' := F) fun b hb hf => ⟨hF b hb hf, hext.block b hb⟩
            exact ⟨hti.pos.1, cur'.toList, by rw [hl']; exact hrow, h3.2.1, h3.2.2⟩)
        refine goes_of ?_ g4 (by rw [hdst]; exact hI) (by unfold Keep2; rw [ho]; exact hext) ⟨fun s _ => rfl, .inr (.inr rfl)⟩
        simp only [execOp, ho, Sem.run_bind, hrun, Result.andThen_ok]
        rfl
  · cases hK

/-- A variable of the function's own with other cells. -/
theorem Inv.setMem (h : Inv C w0 F0 nt st a w H σ) {s g : Nat} (hs : σ s = some g) {w' : World} (hos : w'.os = w.os) (htape : w'.tape = w.tape) (hout : w'.output = w.output) (hsz : w'.heap.size = w.heap.size)
    (hblk : ∀ b, b ≠ g → w'.heap[b]? = w.heap[b]?) {cs : List Cell} {vs : List Value} {e : Nat} (hg : w'.heap[g]? = some (.cells vs.toArray e (0, 0))) (hcr : CR w (Fr w0.heap.size F0 H σ) H σ cs vs) :
    Inv C w0 F0 nt (st.setMem s cs) a w' H σ := by
  have hF : ∀ b, b < w.heap.size → Fr w0.heap.size F0 H σ b → Fr w0.heap.size F0 H σ b ∧ w'.heap[b]? = w.heap[b]? := fun b _ hf => ⟨hf, hblk b fun e => hf.2.2 s (by rw [e]; exact hs)⟩
  have hH : ∀ i y, H i = some y → H i = some y ∧ ∀ b, y.ownBlock = some b → w'.heap[b]? = w.heap[b]? := fun i y hi => ⟨hi, fun b hb => hblk b fun e => h.hs i s y g hi hs (e ▸ hb)⟩
  refine { h with env := fun t => (h.env t).mono hF hH fun _ _ hs => hs, mem := fun s' cs' hcs => ?_, hown := fun i x b hi hx => ?_, sown := fun s' r hs' => ?_, glob := fun g k e hg => ?_, below := ?_ }
  · simp only [St.setMem, bif_beq] at hcs
    split at hcs
    · rename_i e'
      subst e'
      cases hcs
      exact ⟨g, vs, e, hs, hg, hcr.1, fun j c v hc hv => (hcr.2 j c v hc hv).mono hF (fun i y hi _ => hH i y hi) fun _ _ hs _ => hs⟩
    · rename_i hne
      obtain ⟨r, us, e', h1, h2, h3, h4⟩ := h.mem s' cs' hcs
      refine ⟨r, us, e', h1, ?_, h3, fun j c v hc hv => (h4 j c v hc hv).mono hF (fun i y hi _ => hH i y hi) fun _ _ hs _ => hs⟩
      rw [hblk r (fun e => h.ss s' s r hne h1 (by rw [e]; exact hs))]
      exact h2
  · rw [hsz]; exact h.hown i x b hi hx
  · rw [hsz]; exact h.sown s' r hs'
  · exact (h.glob g k e hg).mono hF hH fun _ _ hs => hs
  · have base := h.below
    refine ⟨hos.trans base.os, htape.trans base.tape, hout.trans base.output, by rw [hsz]; exact base.size, fun k hk => ?_⟩
    rw [hblk k (fun e => by have := (h.sown s g hs).1; omega)]
    exact base.block k hk
end
end Sx

/-
  SxOps7: what is written; calls.
-/
namespace Sx
open Go Go.RowKit Go.Lib

section
variable {C : Cfg} {P : Program} {w0 : World} {F0 : Nat → Prop} {nt : Nat} {st : St} {a : Act} {w : World} {H : Nat → Option Value} {σ : Nat → Option Nat} {R : Type} {K : St → Option R} {r : R} {call : Nat → List AV → Option AV} {f : Nat}

theorem OwnOk.rr {F : Nat → Prop} {e k : Nat} {l : List AV} {x : Value} (h : OwnOk w F e k l x) (hl : 0 < l.length) :
    ∃ g cap cur, x = .slice (some ⟨g, 0, none⟩) l.length cap ∧ w.heap[g]? = some (.cells cur e (0, 0)) ∧ l.length ≤ cap ∧ cap ≤ maxLen ∧ cur.size = cap * k ∧ 0 < k ∧ RR w F k l (cur.toList.take (l.length * k)) := by
  obtain ⟨hk, xs, ⟨hxl, h2⟩, h1, hr⟩ := h
  rcases h2 with ⟨_, h2⟩ | ⟨g, cap, cur, hx, _, hg, hc, hm, hs, ht⟩
  · omega
  · subst ht
    exact ⟨g, cap, cur, hx, hg, hc, hm, hs, hk, hxl, h1, hr⟩

/-- A slice of the function's own with other elements. -/
theorem Inv.upOwn (h : Inv C w0 F0 nt st a w H σ) {id : Nat} {x : Value} (hx : H id = some x) {w' : World} (hos : w'.os = w.os) (htape : w'.tape = w.tape) (hout : w'.output = w.output) (hsz : w'.heap.size = w.heap.size)
    (hblk : ∀ b, x.ownBlock ≠ some b → w'.heap[b]? = w.heap[b]?) (l' : List AV) (hok : ∀ e k l, OwnOk w (Fr w0.heap.size F0 H σ) e k l x → l'.length = l.length ∧ OwnOk w' (Fr w0.heap.size F0 H σ) e k l' x) :
    Inv C w0 F0 nt (st.up id l') a w' H σ := by
  have hF : ∀ b, b < w.heap.size → Fr w0.heap.size F0 H σ b → Fr w0.heap.size F0 H σ b ∧ w'.heap[b]? = w.heap[b]? := fun b _ hf => ⟨hf, hblk b (hf.2.1 id x hx)⟩
  have hH : ∀ i y, i ≠ id → H i = some y → H i = some y ∧ ∀ b, y.ownBlock = some b → w'.heap[b]? = w.heap[b]? := fun i y hne hi => ⟨hi, fun b hb => hblk b fun e => h.hh i id y x b hne hi hx hb e⟩
  have hS : ∀ s r, σ s = some r → w'.heap[r]? = w.heap[r]? := fun s r hs => hblk r (h.hs id s x r hx hs)
  have hc : ∀ c y, RCell w (Fr w0.heap.size F0 H σ) H σ c y → RCell w' (Fr w0.heap.size F0 H σ) H σ (c.up id l') y := by
    intro c y hy
    cases c with
    | own i e k l =>
      obtain ⟨h1, h2⟩ := hy
      simp only [Cell.up, bif_beq]
      by_cases hi : i = id
      · subst hi
        rw [if_pos rfl]
        have : y = x := by rw [h1] at hx; exact Option.some.inj hx
        subst this
        exact ⟨h1, (hok e k l h2).2⟩
      · rw [if_neg hi]
        exact ⟨h1, h2.mono hF (hH i y hi h1).2⟩
    | dead => exact hy
    | val v => exact ⟨hy.1, hy.2.mono hF⟩
    | ptr s o => exact hy
  have he : ∀ e y, REnt w (Fr w0.heap.size F0 H σ) H σ e y → REnt w' (Fr w0.heap.size F0 H σ) H σ (e.up id l') y := by
    intro e y hy
    cases e with
    | cell c => cases c with
      | dead => trivial
      | val v => exact Rel.mono hF hy
      | own i e k l =>
        have := hc (.own i e k l) y hy
        simp only [Ent.up, Cell.up, bif_beq] at this ⊢
        split
        · rename_i hi; rw [if_pos hi] at this; exact this
        · rename_i hi; rw [if_neg hi] at this; exact this
      | ptr s o => exact hy
    | agg cs =>
      obtain ⟨vs, rfl, hl, hv⟩ := hy
      refine ⟨vs, rfl, by simpa using hl, fun j c v h1 h2 => ?_⟩
      rw [List.getElem?_map] at h1
      cases hc0 : cs[j]? with
      | none => rw [hc0] at h1; cases h1
      | some c0 =>
        rw [hc0] at h1
        simp only [Option.map_some, Option.some.injEq] at h1
        subst h1
        exact hc c0 v (hv j c0 v hc0 h2)
    | elv k e off =>
      obtain ⟨b, o, rfl, a2, a3, a4⟩ := hy
      obtain ⟨b1, b2⟩ := hF b a3 a2
      refine ⟨b, o, rfl, b1, by rw [hsz]; exact a3, fun j hj => ?_⟩
      obtain ⟨v, c1, c2, c3⟩ := a4 j hj
      exact ⟨v, by rw [← c1]; exact World.cell?_of_block (w := w) b2, c2, c3.mono hF⟩
    | elo i e k l n off =>
      obtain ⟨g, m, cap, a1, a2, a3, rfl⟩ := hy
      simp only [Ent.up, bif_beq]
      by_cases hi : i = id
      · subst hi
        rw [if_pos rfl]
        have : x = .slice (some ⟨g, 0, none⟩) m cap := by rw [a1] at hx; exact (Option.some.inj hx).symm
        subst this
        obtain ⟨b1, b2⟩ := hok e k l a2
        exact ⟨g, m, cap, a1, b2, by rw [b1]; exact a3, rfl⟩
      · rw [if_neg hi]
        exact ⟨g, m, cap, a1, a2.mono hF (hH i _ hi a1).2, a3, rfl⟩
    | tup rr ks =>
      obtain ⟨vs, rfl, hl, hv⟩ := hy
      refine ⟨vs, rfl, by simpa using hl, fun j o v h1 h2 => ?_⟩
      rw [List.getElem?_map] at h1
      cases ho : ks[j]? with
      | none => rw [ho] at h1; cases h1
      | some o' =>
        rw [ho] at h1
        have h3 := hv j o' v ho h2
        simp only [Option.map_some, Option.some.injEq] at h1
        subst h1
        match o', h3 with
        | none, _ => trivial
        | some none, h3 => exact Rel.mono hF h3
        | some (some (i, e, k)), h3 =>
          simp only [bif_beq]
          by_cases hi : i = id
          · rw [if_pos hi]; trivial
          · rw [if_neg hi]
            exact ⟨h3.1, h3.2.mono hF (hH i v hi h3.1).2⟩
  refine { h with env := fun t => he _ _ (h.env t), mem := fun s cs hcs => ?_, hown := fun i x b hi hx => ?_, sown := fun s' r hs' => ?_, glob := fun g k e hg => ?_, below := ?_ }
  · simp only [St.up, St.map, Option.map_eq_some_iff] at hcs
    obtain ⟨cs0, h0, rfl⟩ := hcs
    obtain ⟨r, us, e', h1, h2, h3, h4⟩ := h.mem s cs0 h0
    refine ⟨r, us, e', h1, by rw [hS s r h1]; exact h2, by simpa using h3, fun j c v hc' hv => ?_⟩
    rw [List.getElem?_map] at hc'
    cases hc0 : cs0[j]? with
    | none => rw [hc0] at hc'; cases hc'
    | some c0 =>
      rw [hc0] at hc'
      simp only [Option.map_some, Option.some.injEq] at hc'
      subst hc'
      exact hc c0 v (h4 j c0 v hc0 hv)
  · rw [hsz]; exact h.hown i x b hi hx
  · rw [hsz]; exact h.sown s' r hs'
  · exact he (.elv k e 0) _ (h.glob g k e hg)
  · have base := h.below
    refine ⟨hos.trans base.os, htape.trans base.tape, hout.trans base.output, by rw [hsz]; exact base.size, fun k hk => ?_⟩
    rw [hblk k (fun e => by have := (h.hown id x k hx e).1; omega)]
    exact base.block k hk

theorem fzs_ptr (ids : List Nat) (s o : Nat) : Ent.fzs (.cell (.ptr s o)) ids = .cell (.ptr s o) := by
  induction ids with
  | nil => rfl
  | cons i r ih => simpa [Ent.fzs, Ent.fz, Cell.fz] using ih

theorem fzs_elo (ids : List Nat) (i e k : Nat) (l : List AV) (n off : Nat) (hi : i ∉ ids) : Ent.fzs (.elo i e k l n off) ids = .elo i e k l n off := by
  induction ids with
  | nil => rfl
  | cons j r ih =>
    have hji : i ≠ j := fun e => hi (e ▸ List.mem_cons_self ..)
    have : Ent.fz j (.elo i e k l n off) = .elo i e k l n off := by simp [Ent.fz, bif_beq, hji]
    simp only [Ent.fzs, List.foldl_cons, this]
    exact ih fun hm => hi (List.mem_cons_of_mem _ hm)

theorem op_store {o : Oper} {t : TypeId} {x y : Operand} (ho : o.op = .store t x y) (hT : ∀ t i, C.ty t = some i → TyOk P t i) (h : Inv C w0 F0 nt st a w H σ)
    (hK : (match o.dst with | none => evStore C t (st.get C x) (st.get C y) st K | some _ => none) = some r) : Goes C P w0 F0 nt st a w σ K r o := by
  cases hdst : o.dst with
  | some d => rw [hdst] at hK; cases hK
  | none =>
    rw [hdst] at hK
    simp only [evStore] at hK
    have hr := h.get x
    have goes : ∀ {w' : World} {st' : St} {H' : Nat → Option Value}, (storeVar t (match a.eval x with | .pointer (some q) => q | _ => ⟨0, 0, none⟩) (a.eval y)).run P w = .ok () w' → (∃ q, a.eval x = .pointer (some q)) → K st' = some r → Inv C w0 F0 nt st' a w' H' σ → Keep2 C st o σ w w' → Goes C P w0 F0 nt st a w σ K r o := by
      intro w' st' H' hrun ⟨q, hq⟩ hK hI hk
      intro next Q hn
      unfold Oper.wp
      rw [hq] at hrun
      simp only at hrun
      have : (execOp a.eval o).run P w = .ok .skip w' := by
        simp only [execOp, ho, hq]
        simp [Instr.storeAt, Instr.sureAddr, hrun]
      rw [this]
      refine hn _ w' st' H' σ hK ?_ hk ⟨fun s _ => rfl, .inr (.inr rfl)⟩ (Only.put a o.dst undef)
      rw [hdst]; exact hI
    split at hK
    · rename_i s off hge
      obtain ⟨i, new, hi, hK, hlen, hnew, hag, hagg, hids, hpay⟩ := cellsOf_ok hT (h.get y) hK
      have ht := hT t i hi
      rw [hge] at hr
      obtain ⟨g, hg, hx⟩ := hr
      split at hK
      · rename_i cs hcs
        cases hle : Nat.ble (off + new.length) cs.length with
        | false => rw [hle] at hK; cases hK
        | true =>
          rw [hle] at hK
          have hle' := Nat.le_of_ble_eq_true hle
          obtain ⟨g', vs, e, h1, h2, h3, h4⟩ := h.mem s cs hcs
          have hgg : g' = g := by rw [hg] at h1; exact (Option.some.inj h1).symm
          subst hgg
          have hsz : (a.eval y).cells.toList.length = i.size := by rw [hnew.1, hlen]
          have hst := ht.run_store w g' off e vs (a.eval y) _ h2 rfl hsz (by rw [hsz, h3, ← hlen]; exact hle') hnew.one
          have hcr : CR w (Fr w0.heap.size F0 H σ) H σ (splice cs new off) (vs.take off ++ (a.eval y).cells.toList ++ vs.drop (off + (a.eval y).cells.toList.length)) := CR.splice ⟨h3, h4⟩ hnew off
          refine goes (w' := w.setRow g' (vs.take off ++ (a.eval y).cells.toList ++ vs.drop (off + (a.eval y).cells.toList.length)).toArray) (by rw [hx]; exact hst) ⟨_, hx⟩ hK (h.setMem (w' := w.setRow g' (vs.take off ++ (a.eval y).cells.toList ++ vs.drop (off + (a.eval y).cells.toList.length)).toArray) hg rfl rfl rfl (setRow_size ..) (fun b hb => setRow_other w g' b _ hb) (setRow_heap w g' _ _ e _ h2) hcr) ?_
          unfold Keep2
          rw [ho]
          simp only [hge]
          exact ⟨by simp, fun b hb hne => setRow_other w g' b _ fun e => hne (by rw [e]; exact hg)⟩
      · cases hK
    · rename_i id e k l n off hge
      obtain ⟨i, new, hi, hK, hlen, hnew, hag, hagg, hids, hpay⟩ := cellsOf_ok hT (h.get y) hK
      have ht := hT t i hi
      split at hK
      case h_2 => cases hK
      rename_i ie hie
      have hte := hT e ie hie
      cases hk0b : Nat.beq k ie.size with
      | false => rw [hk0b] at hK; cases hK
      | true =>
      have hk0 := Nat.eq_of_beq_eq_true hk0b
      rw [hk0b, Bool.true_and] at hK
      cases hb : (Nat.ble (off + new.length) k && (st.get C y).told && !((st.get C y).ids.any (Nat.beq id))) with
      | false => rw [hb] at hK; cases hK
      | true =>
        rw [hb] at hK
        simp only [cond_true] at hK
        rw [Bool.and_eq_true, Bool.and_eq_true] at hb
        have hfit := Nat.le_of_ble_eq_true hb.1.1
        have hidn : id ∉ (st.get C y).ids := fun hm => by
          have h2 := hb.2
          simp only [Bool.not_eq_true', List.any_eq_false] at h2
          exact h2 id hm (Nat.beq_refl id)
        obtain ⟨H1, h1, hent, hsub, hsup⟩ := h.fzs2 (st.get C y).ids
        have hr1 := hent _ _ hr
        rw [hge, fzs_elo _ _ _ _ _ _ _ hidn] at hr1
        obtain ⟨g, m, cap, hHid, hown, hn, hx⟩ := hr1
        have hy := told_fzs (hent _ _ (h.get y)) hb.1.2 (fun i hi => hi)
        have hsz : (a.eval y).cells.toList.length = i.size := by rw [hnew.1, hlen]
        have hcells := fun j v hj hv => hy.cells ht hagg.1 hagg.2 hsz j v hj hv
        have hnl : new.length = (a.eval y).cells.toList.length := by rw [hlen, hsz]
        have hpay' := hpay hb.1.2
        -- the element, changed
        have hev : ∀ (old : AV) (xo : List Value), (∀ j v, j < k → xo[j]? = some v → Rel w (Fr w0.heap.size F0 H1 σ) (old.cell j) v) → (ie.kd.agg = false → k = 1) → ∀ j v, j < k →
            (if off ≤ j ∧ j < off + (a.eval y).cells.toList.length then (a.eval y).cells.toList[j - off]? else xo[j]?) = some v →
            Rel w (Fr w0.heap.size F0 H1 σ) ((setCells ie.kd.agg k old off (new.map Cell.pay)).cell j) v := by
          intro old xo ho hk1 j v hj hv
          have hcp : ∀ q, q < new.length → (a.eval y).cells.toList[q]? = some v → Rel w (Fr w0.heap.size F0 H1 σ) ((new.map Cell.pay).getD q .un) v := by
            intro q hq hvq
            have h3 := hcells q v (by rw [← hlen]; exact hq) hvq
            cases hia : i.kd.agg with
            | true =>
              rw [hia] at hpay'
              simp only [cond_true] at hpay'
              rw [← hpay'] at h3
              exact h3
            | false =>
              rw [hia] at hpay'
              simp only [cond_false] at hpay'
              have hi1 := ht.one hia
              have hq0 : q = 0 := by omega
              subst hq0
              obtain ⟨c, hc⟩ := List.length_eq_one_iff.1 (hlen.trans hi1)
              subst hc
              simp only [List.headD_cons] at hpay'
              rw [← hpay'] at h3
              simp only [List.map_cons, List.map_nil, List.getD_cons_zero]
              have hone := hnew.one v (List.mem_of_getElem? hvq)
              cases hcp : c.pay with
              | ag l2 =>
                exfalso
                rw [hpay'] at hcp
                rw [hcp] at hy
                have := hagg.2 hia
                generalize a.eval y = Y at hy this
                cases hy
                cases this
              | _ => rw [hcp] at h3; exact h3
          unfold setCells
          cases hea : ie.kd.agg with
          | true =>
            simp only [cond_true]
            have e : ((List.range k).map fun j => bif Nat.ble off j && Nat.blt j (off + (new.map Cell.pay).length) then (new.map Cell.pay).getD (j - off) .un else old.cell j).getD j .un = bif Nat.ble off j && Nat.blt j (off + (new.map Cell.pay).length) then (new.map Cell.pay).getD (j - off) .un else old.cell j := by
              simp [List.getD, hj]
            show Rel w _ (List.getD _ j .un) v
            rw [e]
            by_cases hc : off ≤ j ∧ j < off + (a.eval y).cells.toList.length
            · rw [if_pos hc] at hv
              have e1 : Nat.ble off j = true := Nat.ble_eq_true_of_le hc.1
              have e2 : Nat.blt j (off + (new.map Cell.pay).length) = true := by unfold Nat.blt; exact Nat.ble_eq_true_of_le (by rw [List.length_map, hnl]; exact hc.2)
              simp only [e1, e2, Bool.and_self, cond_true]
              exact hcp _ (by rw [hnl]; omega) hv
            · rw [if_neg hc] at hv
              have e1 : (Nat.ble off j && Nat.blt j (off + (new.map Cell.pay).length)) = false := by
                rw [Bool.eq_false_iff]
                intro hh
                rw [Bool.and_eq_true] at hh
                have q1 := Nat.le_of_ble_eq_true hh.1
                have q2 := hh.2
                unfold Nat.blt at q2
                have q3 := Nat.le_of_ble_eq_true q2
                rw [List.length_map, hnl] at q3
                exact hc ⟨q1, q3⟩
              simp only [e1, cond_false]
              exact ho j v hj hv
          | false =>
            have hk := hk1 hea
            have hi0 : 0 < new.length := by rw [hlen]; exact ht.pos.1
            have hj0 : j = 0 := by omega
            have hoff : off = 0 := by omega
            subst hj0 hoff
            rw [if_pos ⟨Nat.le_refl _, by rw [← hnl]; omega⟩] at hv
            have h4 := hcp 0 hi0 hv
            simp only [cond_false]
            have e : (new.map Cell.pay).headD .un = (new.map Cell.pay).getD 0 .un := by cases new <;> rfl
            rw [e]
            have hone := hnew.one v (List.mem_of_getElem? hv)
            cases hcp2 : (new.map Cell.pay).getD 0 .un with
            | ag l2 => rw [hcp2] at h4; cases h4; cases hone
            | _ => rw [hcp2] at h4; exact h4
        have hnsz : off + (a.eval y).cells.toList.length ≤ k := by rw [← hnl]; exact hfit
        obtain ⟨g', cap', cur, q1, q2, q3, q4, q5, q6, q7⟩ := hown.rr (by omega)
        cases q1
        have hmulc : l.length * k ≤ cur.size := by rw [q5]; exact Nat.mul_le_mul_right _ q3
        have hle1 : (n + 1) * k ≤ l.length * k := Nat.mul_le_mul_right _ hn
        rw [Nat.add_mul, Nat.one_mul] at hle1
        have hst := ht.run_store w g (n * k + off) e cur.toList (a.eval y) _ (by simpa using q2) rfl hsz (by have : cur.toList.length = cur.size := Array.length_toList; omega) hnew.one
        have hkk : ie.kd.agg = false → k = 1 := by
          intro hea
          rw [hk0]; exact hte.one hea
        have hup := q7.upd n hn (setCells ie.kd.agg k (l.getD n .un) off (new.map Cell.pay)) off (a.eval y).cells.toList hnsz hnew.one (fun j v hj hv => by
          refine hev (l.getD n .un) ((cur.toList.take (l.length * k)).drop (n * k)) (fun j v hj hv => ?_) hkk j v hj ?_
          · rw [List.getElem?_drop] at hv
            exact q7.2.2 n j v hn hj hv
          · rw [List.getElem?_drop]; exact hv)
        have htk : ((cur.toList.take (l.length * k)).take (n * k + off) ++ (a.eval y).cells.toList ++ (cur.toList.take (l.length * k)).drop (n * k + off + (a.eval y).cells.toList.length)) =
            (cur.toList.take (n * k + off) ++ (a.eval y).cells.toList ++ cur.toList.drop (n * k + off + (a.eval y).cells.toList.length)).take (l.length * k) := by
          apply List.ext_getElem?
          intro j
          have hcl : cur.toList.length = cur.size := Array.length_toList
          have htl : (cur.toList.take (l.length * k)).length = l.length * k := by simp; omega
          have x1 := splice_get (cur.toList.take (l.length * k)) (a.eval y).cells.toList (n * k + off) j (by rw [htl]; omega)
          have x2 := splice_get cur.toList (a.eval y).cells.toList (n * k + off) j (by rw [hcl]; omega)
          have x3 : ((cur.toList.take (n * k + off) ++ (a.eval y).cells.toList ++ cur.toList.drop (n * k + off + (a.eval y).cells.toList.length)).take (l.length * k))[j]? = if j < l.length * k then (cur.toList.take (n * k + off) ++ (a.eval y).cells.toList ++ cur.toList.drop (n * k + off + (a.eval y).cells.toList.length))[j]? else none := List.getElem?_take
          rw [x1, x3, x2, List.getElem?_take]
          by_cases h5 : n * k + off ≤ j ∧ j < n * k + off + (a.eval y).cells.toList.length
          · rw [if_pos h5, if_pos (by omega), if_pos h5]
          · rw [if_neg h5, if_neg h5]
        refine goes (w' := w.setRow g (cur.toList.take (n * k + off) ++ (a.eval y).cells.toList ++ cur.toList.drop (n * k + off + (a.eval y).cells.toList.length)).toArray) (by rw [hx]; exact hst) ⟨_, hx⟩ hK (h1.upOwn (w' := w.setRow g (cur.toList.take (n * k + off) ++ (a.eval y).cells.toList ++ cur.toList.drop (n * k + off + (a.eval y).cells.toList.length)).toArray) hHid rfl rfl rfl (setRow_size ..) (fun b hb => setRow_other w g b _ fun e => hb (by rw [e]; rfl)) _ (fun e2 k2 l2 hok2 => ?_)) ?_
        · obtain ⟨g2, cap2, cur2, p1, p2, p3, p4, p5, p6, p7⟩ := hok2.rr (by
            obtain ⟨_, xs2, ⟨_, o2⟩, _⟩ := hok2
            rcases o2 with ⟨o2, _⟩ | ⟨_, _, _, o2, _⟩
            · cases o2
            · have := congrArg (fun v => match v with | Value.slice _ n _ => n | _ => 0) o2
              simp only at this
              omega)
          have hll : l.length = l2.length := by
            have := congrArg (fun v => match v with | Value.slice _ n _ => n | _ => 0) p1
            exact this
          have hgg : g = g2 := by
            have := congrArg (fun v => match v with | Value.slice (some a) _ _ => a.block | _ => 0) p1
            exact this
          have hcc : cap = cap2 := by
            have := congrArg (fun v => match v with | Value.slice _ _ n => n | _ => 0) p1
            exact this
          subst hgg hcc
          rw [q2] at p2
          have hcur : cur = cur2 ∧ e = e2 := by
            have := Option.some.inj p2
            injection this with i1 i2 i3
            exact ⟨i1, i2⟩
          obtain ⟨hcur1, rfl⟩ := hcur
          subst hcur1
          have hkk2 : k = k2 := Nat.eq_of_mul_eq_mul_left (show 0 < cap by omega) (by rw [← q5, p5])
          subst hkk2
          refine ⟨by rw [List.length_set, hll], q6, _, ⟨hup.1, .inr ⟨g, cap, _, by rw [List.length_set], Nat.zero_le _, setRow_heap w g _ _ e _ q2, by rw [List.length_set]; exact q3, q4, ?_, ?_⟩⟩, hup.2.1, ?_⟩
          · have z1 : (a.eval y).cells.toList.length = (a.eval y).cells.size := Array.length_toList
            simp only [List.size_toArray, List.length_append, List.length_take, List.length_drop, Array.length_toList]
            rw [← q5]
            omega
          · rw [List.length_set, htk]
          · exact (RR.mono (w' := w.setRow g _) hup fun b hb hf => ⟨hf, setRow_other w g b _ fun e => hf.2.1 id _ hHid (by rw [e]; rfl)⟩).2.2
        · unfold Keep2
          rw [ho]
          simp only [hge]
    · cases hK
end
end Sx

/-
  SxOps8: calls; any operation.
-/
namespace Sx
open Go Go.RowKit Go.Lib

section
variable {C : Cfg} {P : Program} {w0 : World} {F0 : Nat → Prop} {nt : Nat} {st : St} {a : Act} {w : World} {H : Nat → Option Value} {σ : Nat → Option Nat} {R : Type} {K : St → Option R} {r : R} {call : Nat → List AV → Option AV} {f : Nat}

def addN (N H : Nat → Option Value) : Nat → Option Value := fun i => match N i with | some x => some x | none => H i

theorem addN_some {N : Nat → Option Value} {i : Nat} {x : Value} (h : addN N H i = some x) : N i = some x ∨ (N i = none ∧ H i = some x) := by
  unfold addN at h
  cases hn : N i with
  | none => rw [hn] at h; exact .inr ⟨rfl, h⟩
  | some y => rw [hn] at h; exact .inl h

/-- More names, of new blocks. -/
theorem Inv.names (h : Inv C w0 F0 nt st a w H σ) {w' : World} (hw : Ext w w') {N : Nat → Option Value} (hN : ∀ i x, N i = some x → H i = none) (hb : ∀ i x g, N i = some x → x.ownBlock = some g → w.heap.size ≤ g ∧ g < w'.heap.size)
    (hd : ∀ i j x y g, i ≠ j → N i = some x → N j = some y → x.ownBlock = some g → y.ownBlock ≠ some g) : Inv C w0 F0 nt st a w' (addN N H) σ := by
  have hF : ∀ b, b < w.heap.size → Fr w0.heap.size F0 H σ b → Fr w0.heap.size F0 (addN N H) σ b ∧ w'.heap[b]? = w.heap[b]? := fun b hb' hf => by
    refine ⟨⟨hf.1, fun i v hv => ?_, hf.2.2⟩, hw.block b hb'⟩
    rcases addN_some hv with hv | ⟨_, hv⟩
    · intro e; have := (hb i v b hv e).1; omega
    · exact hf.2.1 i v hv
  have hH : ∀ i y, H i = some y → addN N H i = some y ∧ ∀ b, y.ownBlock = some b → w'.heap[b]? = w.heap[b]? := fun i y hi => by
    refine ⟨?_, fun b hb' => hw.block b (h.hown i y b hi hb').2⟩
    unfold addN
    cases hn : N i with
    | none => exact hi
    | some x => have := hN i x hn; rw [hi] at this; cases this
  refine { h with env := fun t => (h.env t).mono hF hH fun _ _ hs => hs, mem := fun s cs hcs => ?_, hown := fun i x g hi hx => ?_, sown := fun s r hs => ?_, hh := ?_, hs := ?_, glob := fun g k e hg => ?_, below := hw.below h.below }
  · obtain ⟨r, vs, e, h1, h2, h3, h4⟩ := h.mem s cs hcs
    exact ⟨r, vs, e, h1, by rw [hw.block r (h.sown s r h1).2]; exact h2, h3, fun j c v hc hv => (h4 j c v hc hv).mono hF (fun i y hi _ => hH i y hi) fun _ _ hs _ => hs⟩
  · rcases addN_some hi with hi | ⟨_, hi⟩
    · obtain ⟨h1, h2⟩ := hb i x g hi hx; exact ⟨Nat.le_trans h.below.size h1, h2⟩
    · obtain ⟨h1, h2⟩ := h.hown i x g hi hx; exact ⟨h1, Nat.lt_of_lt_of_le h2 hw.size⟩
  · obtain ⟨h1, h2⟩ := h.sown s r hs; exact ⟨h1, Nat.lt_of_lt_of_le h2 hw.size⟩
  · intro i j x y g hij hi hj hx hy
    rcases addN_some hi with hi | ⟨_, hi⟩ <;> rcases addN_some hj with hj | ⟨_, hj⟩
    · exact hd i j x y g hij hi hj hx hy
    · have := (hb i x g hi hx).1; have := (h.hown j y g hj hy).2; omega
    · have := (hb j y g hj hy).1; have := (h.hown i x g hi hx).2; omega
    · exact h.hh i j x y g hij hi hj hx hy
  · intro i s x r hi hs hx
    rcases addN_some hi with hi | ⟨_, hi⟩
    · have := (hb i x r hi hx).1; have := (h.sown s r hs).2; omega
    · exact h.hs i s x r hi hs hx
  · exact (h.glob g k e hg).mono hF hH fun _ _ hs => hs

/-- Several names are dropped. -/
theorem Inv.kls (h : Inv C w0 F0 nt st a w H σ) (ids : List Nat) : ∃ H', Inv C w0 F0 nt (ids.foldl St.kl st) a w H' σ ∧ (∀ i x, H' i = some x → H i = some x) ∧ ∀ i ∈ ids, H' i = none := by
  induction ids generalizing st H with
  | nil => exact ⟨H, h, fun _ _ hx => hx, by simp⟩
  | cons i r ih =>
    obtain ⟨H', h', h1, h2⟩ := ih (h.kl i)
    refine ⟨H', h', fun j x hj => (erase_some (h1 j x hj)).2, fun j hj => ?_⟩
    rcases List.mem_cons.1 hj with rfl | hj
    · cases hx : H' j with
      | none => rfl
      | some x => exact absurd rfl (erase_some (h1 j x hx)).1
    · exact h2 j hj

theorem idT_inj {d i j : Nat} (h : idT d i = idT d j) : i = j := by unfold idT at h; omega

/-- What a call's results are known as. -/
theorem putRes_ok {st' : St} {o : Oper} {ks : List (Option (Nat × Nat))} {res : AV} {w' : World} {v : Value} (hd : ∀ t, o.dst = some t → t < nt) (h : Inv C w0 F0 nt st a w H σ) (hw : Ext w w') (hr : ResOk ks w w' (Fr w0.heap.size F0 H σ) res v)
    (hp : putRes st o.dst ks res = some st') : ∃ H', Inv C w0 F0 nt st' (a.put o.dst v) w' H' σ := by
  unfold putRes at hp
  unfold ResOk at hr
  cases hall : ks.all Option.isNone with
  | true =>
    rw [hall] at hp
    rw [if_pos hall] at hr
    simp only [cond_true, Option.some.injEq] at hp
    subst hp
    refine ⟨H, (h.ext hw).put hd ?_⟩
    refine Rel.mono (fun b hb hf => ⟨?_, rfl⟩) hr
    by_cases hlt : b < w.heap.size
    · exact hf hlt
    · exact ⟨fun hh => by have := h.below.size; omega, fun i v hv e => by have := (h.hown i v b hv e).2; omega, fun s e => by have := (h.sown s b e).2; omega⟩
  | false =>
    rw [hall] at hp
    rw [if_neg (by rw [hall]; simp)] at hr
    simp only [cond_false] at hp
    obtain ⟨vs, hl, hv, hrel, hdis⟩ := hr
    -- all cases: names out of the results, then the state with them
    have main : ∀ (d : Nat) (id : Nat → Nat) (e : Ent), o.dst = some d → (∀ i j, id i = id j → i = j) →
        (∀ (N H' : Nat → Option Value), (∀ (j : Nat) (x : Value) (p : Nat × Nat), vs[j]? = some x → ks[j]? = some (some p) → N (id j) = some x) → (∀ i x, N i = some x → ∃ j p, i = id j ∧ vs[j]? = some x ∧ ks[j]? = some (some p)) →
          (∀ i x, H' i = some x → H i = some x) →
          (∀ (F : Nat → Prop), (∀ b, b < w'.heap.size → ((b < w.heap.size → Fr w0.heap.size F0 H σ b) ∧ ∀ (i : Nat) (y : Value) (p : Nat × Nat), vs[i]? = some y → ks[i]? = some (some p) → y.ownBlock ≠ some b) → F b) → F = Fr w0.heap.size F0 (addN N H') σ → REnt w' F (addN N H') σ e v)) →
        ∃ H', Inv C w0 F0 nt ((((List.range ks.length).map id).foldl St.kl st).set d e) (a.put o.dst v) w' H' σ := by
      intro d id e hdst hinj he
      obtain ⟨H1, h1, hsub, hnone⟩ := h.kls ((List.range ks.length).map id)
      let N : Nat → Option Value := fun i => match (List.range ks.length).find? (fun j => id j == i) with
        | some j => match ks[j]? with | some (some _) => vs[j]? | _ => none
        | none => none
      have hfind : ∀ j, j < ks.length → (List.range ks.length).find? (fun q => id q == id j) = some j := by
        intro j hj
        cases hf : (List.range ks.length).find? (fun q => id q == id j) with
        | none =>
          have := List.find?_eq_none.1 hf j (List.mem_range.2 hj)
          simp at this
        | some q =>
          have := List.find?_some hf
          rw [hinj q j (by simpa using this)]
      have hN1 : ∀ (j : Nat) (x : Value) (p : Nat × Nat), vs[j]? = some x → ks[j]? = some (some p) → N (id j) = some x := by
        intro j x p hx hk
        have hj : j < ks.length := (List.getElem?_eq_some_iff.1 hk).1
        show (match (List.range ks.length).find? (fun q => id q == id j) with
        | some j => match ks[j]? with | some (some _) => vs[j]? | _ => none
        | none => none) = some x
        rw [hfind j hj]
        simp only [hk]
        exact hx
      have hN2 : ∀ i x, N i = some x → ∃ j p, i = id j ∧ vs[j]? = some x ∧ ks[j]? = some (some p) := by
        intro i x hi
        have hi' : (match (List.range ks.length).find? (fun q => id q == i) with
        | some j => match ks[j]? with | some (some _) => vs[j]? | _ => none
        | none => none) = some x := hi
        cases hf : (List.range ks.length).find? (fun q => id q == i) with
        | none => rw [hf] at hi'; cases hi'
        | some j =>
          rw [hf] at hi'
          have hj : id j = i := by simpa using List.find?_some hf
          cases hk : ks[j]? with
          | none => simp only [hk] at hi'; cases hi'
          | some o => cases o with
            | none => simp only [hk] at hi'; cases hi'
            | some p => simp only [hk] at hi'; exact ⟨j, p, hj.symm, hi', hk⟩
      have hInv := h1.names hw (N := N) (fun i x hi => by
          obtain ⟨j, p, rfl, hx, hk⟩ := hN2 i x hi
          exact hnone _ (List.mem_map.2 ⟨j, List.mem_range.2 (List.getElem?_eq_some_iff.1 hk).1, rfl⟩))
        (fun i x g hi hg => by
          obtain ⟨j, p, rfl, hx, hk⟩ := hN2 i x hi
          have := hrel j x (some p) hx hk
          exact ⟨this.2 g hg, this.1.lt hg⟩)
        (fun i i' x y g hne hi hi' hg => by
          obtain ⟨j, p, rfl, hx, hk⟩ := hN2 i x hi
          obtain ⟨j', p', rfl, hx', hk'⟩ := hN2 i' y hi'
          exact hdis j j' x y p p' g (fun e => hne (by rw [e])) hx hx' hk hk' hg)
      refine ⟨addN N H1, ?_⟩
      rw [hdst]
      refine hInv.put (d := some d) (fun t ht => by cases ht; exact hd _ hdst) (he N H1 hN1 hN2 hsub _ (fun b hb hf => ?_) rfl)
      refine ⟨fun hh => (hf.1 (Nat.lt_of_lt_of_le hh h.below.size)).1 hh, fun i x hi => ?_, fun s e => ?_⟩
      · rcases addN_some hi with hi | ⟨_, hi⟩
        · obtain ⟨j, p, rfl, hx, hk⟩ := hN2 i x hi
          exact hf.2 j x p hx hk
        · intro e
          have h3 := hsub i x hi
          have hlt := (h.hown i x b h3 e).2
          exact (hf.1 hlt).2.1 i x h3 e
      · have hlt := (h.sown s b e).2
        exact (hf.1 hlt).2.2 s e
    have single : ∀ e k d, ks = [some (e, k)] → o.dst = some d → some (newOwn st d e k res.elems) = some st' → ∃ H', Inv C w0 F0 nt st' (a.put o.dst v) w' H' σ := by
      intro e k d hks hdst hst
      subst hks
      cases hst
      obtain ⟨x, rfl⟩ := List.length_eq_one_iff.1 (by simpa using hl : vs.length = 1)
      have hvx : v = x := hv
      subst hvx
      have h0 := hrel 0 v (some (e, k)) rfl rfl
      have hm := main d (fun j => d + j) (.cell (.own d e k res.elems)) hdst (fun i j hij => by omega) (fun N H' hN1 hN2 hsub F hF hFe => by
        refine ⟨?_, ?_⟩
        · have hh := hN1 0 v (e, k) rfl rfl
          show addN N H' d = some v
          unfold addN
          rw [show d = d + 0 from rfl, hh]
        · have := h0.1
          have hco : compOf [v].length res 0 = res := by simp [compOf]
          rw [hco] at this
          subst hFe
          exact this.mono (fun b hb hf => ⟨hF b hb hf, rfl⟩) (fun _ _ => rfl))
      simpa [newOwn] using hm
    have several : ∀ d, o.dst = some d → 2 ≤ ks.length → some (((List.range ks.length).foldl (fun st j => st.kl (idT d j)) st).set d (.tup res (ks.zipIdx.map fun (o, j) => some (o.map fun (e, k) => (idT d j, e, k))))) = some st' → ∃ H', Inv C w0 F0 nt st' (a.put o.dst v) w' H' σ := by
      intro d hdst h2 hst
      cases hst
      have hm := main d (idT d) (.tup res (ks.zipIdx.map fun (o, j) => some (o.map fun (e, k) => (idT d j, e, k)))) hdst (fun i j hij => idT_inj hij) (fun N H' hN1 hN2 hsub F hF hFe => by
        have hvv : v = .tuple vs.toArray := by
          rw [hv]
          match vs, hl with
          | [], hl => rfl
          | [x], hl => simp at hl; omega
          | x :: y :: r, hl => rfl
        have hlen : vs.length ≠ 1 := by omega
        refine ⟨vs, hvv, by simp [hl], fun j q x hq hx => ?_⟩
        rw [List.getElem?_map, List.getElem?_zipIdx] at hq
        cases hk : ks[j]? with
        | none => rw [hk] at hq; cases hq
        | some p =>
          rw [hk] at hq
          simp only [Option.map_some, Nat.zero_add, Option.some.injEq] at hq
          subst hq
          have h3 := hrel j x p hx hk
          unfold compOf at h3
          rw [if_neg hlen] at h3
          cases p with
          | none => exact Rel.mono (fun b hb hf => ⟨hF b hb hf, rfl⟩) h3
          | some p =>
            obtain ⟨e, k⟩ := p
            refine ⟨?_, h3.1.mono (fun b hb hf => ⟨hF b hb hf, rfl⟩) (fun _ _ => rfl)⟩
            unfold addN
            rw [hN1 j x (e, k) hx hk])
      rw [List.foldl_map] at hm
      exact hm
    cases hod : o.dst with
    | none =>
      rw [hod] at hp
      rcases ks with _ | ⟨x, _ | ⟨y, rest⟩⟩
      · simp at hall
      · cases x with
        | none => simp at hall
        | some p => cases hp
      · cases x <;> cases hp
    | some d =>
      rw [hod] at hp
      rw [← hod]
      rcases ks with _ | ⟨x, _ | ⟨y, rest⟩⟩
      · simp at hall
      · cases x with
        | none => simp at hall
        | some p => exact single p.1 p.2 d rfl hod hp
      · exact several d hod (by simp) (by cases x <;> exact hp)

theorem args_rel {F : Nat → Prop} {xs : List Operand} {ids : List Nat} {H' : Nat → Option Value} (h : Inv C w0 F0 nt st a w H σ) (hent : ∀ e x, REnt w (Fr w0.heap.size F0 H σ) H σ e x → REnt w F H' σ (e.fzs ids) x)
    (hids : ∀ x ∈ xs, ∀ i ∈ (st.get C x).ids, i ∈ ids) (ht : xs.all (fun x => (st.get C x).told) = true) (j : Nat) (b : AV) (v : Value) (hb : (xs.map fun x => (st.get C x).pay)[j]? = some b) (hv : (xs.map a.eval)[j]? = some v) : Rel w F b v := by
  rw [List.getElem?_map] at hb hv
  cases hx : xs[j]? with
  | none => rw [hx] at hb; cases hb
  | some x =>
    rw [hx] at hb hv
    cases hb; cases hv
    have hm := List.mem_of_getElem? hx
    exact told_fzs (hent _ _ (h.get x)) (List.all_eq_true.1 ht x hm) (hids x hm)

theorem op_callV {o : Oper} {c : Call} {g : Nat} {X : Operand} (ho : o.op = .call c) (hc : c.callee = .value X) (hg : a.eval X = .func (.func g) #[] #[]) (hC : CallOk C P call) (h : Inv C w0 F0 nt st a w H σ) (hd : ∀ t, o.dst = some t → t < nt)
    (ht : (c.args.toList.map (st.get C)).all Ent.told = true) {res : AV} (hres : call g ((c.args.toList.map (st.get C)).map Ent.pay) = some res) {st' : St} (hp : putRes (st.fzs ((c.args.toList.map (st.get C)).flatMap Ent.ids)) o.dst (C.own g) res = some st') (hK : K st' = some r) : Goes C P w0 F0 nt st a w σ K r o := by
  obtain ⟨H1, h1, hent, hsub, hsup⟩ := h.fzs2 ((c.args.toList.map (st.get C)).flatMap Ent.ids)
  intro next Q hn
  have hkeep : ∀ w', Ext w w' → Keep2 C st o σ w w' := fun w' hw => by
    unfold Keep2
    rw [ho]
    obtain ⟨ce, ar, aty⟩ := c
    simp only at hc
    subst hc
    exact hw
  have hrun := hC g _ res hres w (Fr w0.heap.size F0 H1 σ) (c.args.map a.eval) (fun g k e hg => h1.glob g k e hg) (by simp) (fun j b v hb hv => by
    rw [List.map_map] at hb
    refine args_rel (xs := c.args.toList) h hent (fun x hx i hi => ?_) ?_ j b v hb (by simpa using hv)
    · exact List.mem_flatMap.2 ⟨_, List.mem_map.2 ⟨x, hx, rfl⟩, hi⟩
    · simpa [List.all_map] using ht)
  have post : ∀ v w', Ext w w' → ResOk (C.own g) w w' (Fr w0.heap.size F0 H1 σ) res v → next (a.put o.dst v) w' := by
    intro v w' hw hr
    obtain ⟨H', hI⟩ := putRes_ok (o := o) hd h1 hw hr hp
    exact hn _ w' _ H' σ hK hI (hkeep w' hw) ⟨fun s _ => rfl, .inr (.inr rfl)⟩ (Only.put a o.dst v)
  have hres' : ∀ w : World, (execOp a.eval o).run P w = (callFunc g (c.args.map a.eval)).run P w := fun w => by
    simp only [execOp, ho, resolve, hc, hg]
    simp [Deferred.ofValue, invoke]
  unfold Oper.wp
  rw [hres' w]
  rcases hrun with ⟨fn, cb, hfn, hbody, hname, hcalls⟩ | ⟨v, hv, hpost⟩
  · have : (callFunc g (c.args.map a.eval)).run P w = .ok (.enter g (c.args.map a.eval)) w := by
      have hname' : ¬ fn.name = "runtime.NumGoroutine" := by simpa using hname
      simp [callFunc, hfn, hbody, hname']
    rw [this, Oper.upon_enter]
    refine Calls.mono hcalls fun e w' he => ?_
    obtain ⟨v, rfl, hw, hr⟩ := he
    exact post v w' hw hr
  · rw [hv, Oper.upon_value]
    obtain ⟨v', he, hw, hr⟩ := hpost
    cases he
    exact post v w hw hr

theorem op_call {o : Oper} {c : Call} (ho : o.op = .call c) (hC : CallOk C P call) (hT : ∀ t i, C.ty t = some i → TyOk P t i) (h : Inv C w0 F0 nt st a w H σ) (hd : ∀ t, o.dst = some t → t < nt)
    (hK : evCall C call c o.dst st K = some r) (hnp : C.pure o.op = false) : Goes C P w0 F0 nt st a w σ K r o := by
  unfold evCall at hK
  cases hc : c.callee with
  | invoke x n => rw [hc] at hK; cases hK
  | builtin b =>
    rw [hc] at hK
    simp only [evBuiltin] at hK
    rw [ho] at hnp
    obtain ⟨ce, ar, aty⟩ := c
    simp only at hc
    subst hc
    split at hK <;> first | (cases hK; done) | (exfalso; cases hnp; done) | skip
    rename_i x y t u ts ha hts
    exact op_append ho rfl ha hts hT h hd hK
  | value X =>
    rw [hc] at hK
    cases X with
    | func g =>
      simp only at hK
      cases ht : (c.args.toList.map (st.get C)).all Ent.told with
      | false => rw [ht] at hK; cases hK
      | true =>
        rw [ht] at hK
        simp only [cond_true] at hK
        cases hr : call g ((c.args.toList.map (st.get C)).map Ent.pay) with
        | none => rw [hr] at hK; cases hK
        | some res =>
          rw [hr] at hK
          simp only [Option.bind_some] at hK
          cases hp : putRes (st.fzs ((c.args.toList.map (st.get C)).flatMap Ent.ids)) o.dst (C.own g) res with
          | none => rw [hp] at hK; cases hK
          | some st' =>
            rw [hp] at hK
            exact op_callV ho hc rfl hC h hd ht hr hp hK
    | tmp t =>
      simp only at hK
      cases ht : (c.args.toList.map (st.get C)).all Ent.told with
      | false => rw [ht] at hK; cases hK
      | true =>
        rw [ht] at hK
        simp only [cond_true] at hK
        cases hf : AV.fnId (st.env t).pay with
        | none => rw [hf] at hK; cases hK
        | some g =>
          rw [hf] at hK
          simp only [Option.bind_some] at hK
          have hg : a.eval (.tmp t) = .func (.func g) #[] #[] := by
            have := (h.get (.tmp t)).pay
            rcases this with e | e
            · have e' : (st.env t).pay = .un := e
              rw [e'] at hf; cases hf
            · have e' : Rel w T (st.env t).pay (a.eval (.tmp t)) := e
              generalize (st.env t).pay = Y at hf e'
              generalize a.eval (.tmp t) = V at e'
              cases Y <;> first | cases hf | skip
              cases e'
              rfl
          cases hr : call g ((c.args.toList.map (st.get C)).map Ent.pay) with
          | none => rw [hr] at hK; cases hK
          | some res =>
            rw [hr] at hK
            simp only [Option.bind_some] at hK
            cases hall : (C.own g).all Option.isNone with
            | false => rw [hall] at hK; cases hK
            | true =>
              rw [hall] at hK
              exact op_callV (st' := (st.fzs ((c.args.toList.map (st.get C)).flatMap Ent.ids)).put o.dst (.val res)) ho hc hg hC h hd ht hr (by unfold putRes; rw [hall]; rfl) hK
    | const v => cases hK
    | global g => cases hK

/-- The bytes of a constant text: a slice of one's own, only read from now on. -/
theorem op_r2r {o : Oper} {t u : TypeId} {x : Operand} (ho : o.op = .convert t u x) (hT : ∀ t i, C.ty t = some i → TyOk P t i) (h : Inv C w0 F0 nt st a w H σ) (hd : ∀ t, o.dst = some t → t < nt)
    (hs : C.kd t = some .slice) (hl : C.kd u = some .slice) (hK : evConv C t u (st.get C x) o.dst st K = some r) : Goes C P w0 F0 nt st a w σ K r o := by
  unfold evConv at hK
  rw [hs, hl] at hK
  simp only at hK
  split at hK
  · rename_i id e k v l hge
    cases hb : (Nat.beq t u && Nat.beq k 1) with
    | false => rw [hb] at hK; cases hK
    | true =>
      rw [hb] at hK
      simp only [cond_true] at hK
      rw [Bool.and_eq_true] at hb
      have htu := Nat.eq_of_beq_eq_true hb.1
      have hk1 := Nat.eq_of_beq_eq_true hb.2
      subst htu hk1
      obtain ⟨i, hi, hik⟩ := kd_some hs
      have hu := (hT t i hi).und
      rw [hik] at hu
      rw [hi] at hK
      simp only [Option.bind_some] at hK
      split at hK
      · rename_i h3
        obtain ⟨i3, e3, f3⟩ := kd_some h3
        have hu3 := (hT i.elem i3 e3).und
        rw [f3] at hu3
        have hr := h.get x
        rw [hge] at hr
        obtain ⟨hH, hown⟩ := hr
        obtain ⟨g, cap, cur, hx, hg, hc, hm, hsz, _, hrr⟩ := hown.rr (by simp)
        have hrow : (a.eval x).ownBlock = some g := by rw [hx]; rfl
        let w' : World := w.freeze ⟨g, cur.size, none⟩ 1
        have hother : ∀ b, b ≠ g → w'.heap[b]? = w.heap[b]? := fun b hne => by
          simp [w', World.freeze, Array.getElem?_modify, Ne.symm hne]
        have hlt := (h.hown id _ g hH hrow).2
        have hat : ∃ fz, w'.heap[g]? = some (.cells cur e fz) := by
          have hgv : w.heap[g] = .cells cur e (0, 0) := (Array.getElem?_eq_some_iff.1 hg).2
          refine ⟨(cur.size, cur.size + 1), ?_⟩
          simp [w', World.freeze, Array.getElem?_modify, hg]
        obtain ⟨fz, hat⟩ := hat
        have hsz' : w'.heap.size = w.heap.size := by simp [w', World.freeze]
        have hreg := h.regrow id id (some g) (w' := w') (x := a.eval x) rfl rfl rfl (by rw [hsz']; exact Nat.le_refl _) (fun b _ hne => hother b fun e => hne (by rw [e])) (fun g' hg' => ⟨_, hH, by cases hg'; exact hrow⟩)
          (fun g' hg' => by rw [hrow] at hg'; cases hg'; exact ⟨.inl rfl, by rw [hsz']; exact hlt⟩)
        have h4 := hreg.kl id
        rw [kl_kl, kl_kl] at h4
        refine goes_of (v := a.eval x) (w' := w') ?_ hK (h4.put hd ?_) (by unfold Keep2; rw [ho]; simp [Cfg.pure, hs]) ⟨fun s _ => rfl, .inr (.inr rfl)⟩
        · simp only [execOp, ho, Sem.run_bind, hx]
          have hshape : w.shape? g = some (e, cur.size) := by simp [World.shape?, hg]
          simp [convert, run_underlying hu, run_underlying hu3, markStringish, hshape, w']
        · have hFr : ∀ b, b < w.heap.size → Fr w0.heap.size F0 H σ b → Fr w0.heap.size F0 (Sx.erase (upd (Sx.erase (Sx.erase H id) id) id (a.eval x)) id) σ b ∧ w'.heap[b]? = w.heap[b]? := fun b hb hf => by
            refine ⟨⟨hf.1, fun j y hy => ?_, hf.2.2⟩, hother b fun e => hf.2.1 id _ hH (by rw [hrow, e])⟩
            obtain ⟨hj, hy⟩ := erase_some hy
            rcases upd_some hy with ⟨e, _⟩ | ⟨_, hy⟩
            · exact absurd e hj
            · exact hf.2.1 j y (erase_some (erase_some hy).2).2
          show Rel w' _ (.ro 1 (v :: l)) (a.eval x)
          refine (congrArg (fun y => Rel w' (Fr w0.heap.size F0 (Sx.erase (upd (Sx.erase (Sx.erase H id) id) id (a.eval x)) id) σ) (.ro 1 (v :: l)) y) hx).mpr ?_
          refine Rel.ro 1 (v :: l) g 0 cap (cur.toList.take ((v :: l).length * 1)) (by omega) hc ⟨fun hh => ?_, fun j y hy => ?_, fun s hs' => ?_⟩ hrr.1 (fun j y hy => ?_) hrr.2.1 (fun q j y hq hj hy => (hrr.2.2 q j y hq hj hy).mono hFr)
          · have := (h.hown id _ g hH hrow).1; omega
          · obtain ⟨hj, hy⟩ := erase_some hy
            rcases upd_some hy with ⟨e, _⟩ | ⟨_, hy⟩
            · exact absurd e hj
            · have hy' := (erase_some (erase_some hy).2).2
              intro e
              exact h.hh j id y _ g hj hy' hH e hrow
          · exact h.hs id s _ g hH hs' hrow
          · rw [Nat.zero_add, cell_of_row w' g j cur e fz hat]
            rw [List.getElem?_take] at hy
            split at hy
            · simpa using hy
            · cases hy
      · cases hK
  · cases hK

/-- Any operation. -/
theorem evOp_ok {o : Oper} (hC : CallOk C P call) (hT : ∀ t i, C.ty t = some i → TyOk P t i) (h : Inv C w0 F0 nt st a w H σ) (hd : ∀ t, o.dst = some t → t < nt) (hK : evOp C call f o st K = some r) : Goes C P w0 F0 nt st a w σ K r o := by
  cases hp : C.pure o.op with
  | true => exact (evPure_ok (ws := []) hp hT h hd hK (Keeps.self [] σ w) (fun _ _ _ _ _ _ => by simp)).goes hp
  | false =>
    have hnp := hp
    cases hop : o.op <;> rw [hop] at hp <;> first | (cases hp; done) | skip
    all_goals first | (simp only [evOp, hop] at hK; cases hK; done) | skip
    case alloc t => simp only [evOp, hop] at hK; exact op_alloc hop hT h hd hK
    case box t x => simp only [evOp, hop] at hK; exact op_box hop hT h hd hK
    case buildSlice t n ps => simp only [evOp, hop] at hK; exact op_buildSlice hop hT h hd hK
    case store t x y => simp only [evOp, hop] at hK; exact op_store hop hT h hK
    case makeSlice t n c => simp only [evOp, hop] at hK; exact op_makeSlice hop hT h hd hK
    case call c => simp only [evOp, hop] at hK; exact op_call hop hC hT h hd hK hnp
    case slice t x lo hi mx =>
      simp only [evOp, hop] at hK
      exfalso
      simp only [Cfg.pure] at hp
      cases mx with
      | some m => cases hK
      | none =>
        simp only [evSlice] at hK
        split at hK
        · rename_i hk; rw [hk] at hp; cases hp
        · rename_i hk; rw [hk] at hp; cases hp
        · cases hK
    case convert t u x =>
      simp only [evOp, hop] at hK
      simp only [Cfg.pure] at hp
      split at hp
      · rename_i h1 h2; exact op_s2b hop hT h hd h1 h2 hK
      · rename_i h1 h2; exact op_r2r hop hT h hd h1 h2 hK
      · cases hp
end
end Sx
