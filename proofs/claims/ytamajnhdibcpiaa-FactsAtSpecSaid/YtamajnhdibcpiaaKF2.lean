/- Part 24 of the proof of the claim; the conditions are the statement's own. Own texts and printed texts, merged by pack.py (ours). -/
import Derived.Deep.QuietTactic
import Derived.BigQuiet
import Derived.Test.YtamajnhdibcpiaaKF1
namespace Go.Proofs.Ytamajnhdibcpiaa.G
open Go.RowKit Go.Shelf Go.Proofs.YtamajnhdibcpiaaW.PrintWords Go.Proofs.YtamajnhdibcpiaaW.PrintLast Go.Proofs.YtamajnhdibcpiaaW.PrintMore
set_option linter.unusedVariables false
set_option linter.unusedSimpArgs false
def twoOps : Array Oper := #[{ dst := some 36, op := Go.Op.move (Go.Operand.tmp 0), type := 22, pos := "facts.go:123", after := #[], guard := none }, { dst := some 37, op := Go.Op.load 24 (Go.Operand.tmp 11), type := 24, pos := "facts.go:123", after := #[], guard := none }, { dst := some 38, op := Go.Op.move (Go.Operand.tmp 1), type := 3, pos := "facts.go:123", after := #[], guard := none }, { dst := some 39, op := Go.Op.call { callee := Go.Callee.value (Go.Operand.func 39), args := #[Go.Operand.tmp 36, Go.Operand.tmp 37, Go.Operand.tmp 38], argTypes := #[22, 24, 3] }, type := 70, pos := "facts.go:123", after := #[{ on := 0, ground := Go.Ground.data }, { on := 1, ground := Go.Ground.data }, { on := 2, ground := Go.Ground.data }], guard := none }, { dst := some 40, op := Go.Op.move (Go.Operand.tmp 0), type := 22, pos := "facts.go:123", after := #[], guard := none }, { dst := some 41, op := Go.Op.load 24 (Go.Operand.tmp 11), type := 24, pos := "facts.go:123", after := #[], guard := none }, { dst := some 42, op := Go.Op.move (Go.Operand.tmp 2), type := 3, pos := "facts.go:123", after := #[], guard := none }, { dst := some 43, op := Go.Op.call { callee := Go.Callee.value (Go.Operand.func 39), args := #[Go.Operand.tmp 40, Go.Operand.tmp 41, Go.Operand.tmp 42], argTypes := #[22, 24, 3] }, type := 70, pos := "facts.go:123", after := #[{ on := 4, ground := Go.Ground.data }, { on := 5, ground := Go.Ground.data }, { on := 6, ground := Go.Ground.data }, { on := 3, ground := Go.Ground.chain }], guard := none }, { dst := some 12, op := Go.Op.alloc 70, type := 0, pos := "facts.go:123", after := #[], guard := none }, { dst := some 13, op := Go.Op.alloc 70, type := 0, pos := "facts.go:123", after := #[], guard := none }, { dst := none, op := Go.Op.store 70 (Go.Operand.tmp 12) (Go.Operand.tmp 39), type := 0, pos := "facts.go:123", after := #[{ on := 8, ground := Go.Ground.data }, { on := 3, ground := Go.Ground.data }, { on := 7, ground := Go.Ground.chain }, { on := 0, ground := Go.Ground.phase }, { on := 1, ground := Go.Ground.phase }, { on := 2, ground := Go.Ground.phase }, { on := 3, ground := Go.Ground.phase }, { on := 4, ground := Go.Ground.textOnly Go.Departure.lateStores }, { on := 5, ground := Go.Ground.textOnly Go.Departure.lateStores }, { on := 6, ground := Go.Ground.textOnly Go.Departure.lateStores }, { on := 7, ground := Go.Ground.textOnly Go.Departure.lateStoresUnsure }, { on := 8, ground := Go.Ground.phase }, { on := 9, ground := Go.Ground.phase }], guard := none }, { dst := none, op := Go.Op.store 70 (Go.Operand.tmp 13) (Go.Operand.tmp 43), type := 0, pos := "facts.go:123", after := #[{ on := 9, ground := Go.Ground.data }, { on := 7, ground := Go.Ground.data }, { on := 10, ground := Go.Ground.chain }, { on := 0, ground := Go.Ground.phase }, { on := 1, ground := Go.Ground.phase }, { on := 2, ground := Go.Ground.phase }, { on := 3, ground := Go.Ground.phase }, { on := 4, ground := Go.Ground.phase }, { on := 5, ground := Go.Ground.phase }, { on := 6, ground := Go.Ground.phase }, { on := 7, ground := Go.Ground.phase }, { on := 8, ground := Go.Ground.phase }, { on := 9, ground := Go.Ground.phase }, { on := 10, ground := Go.Ground.phase }], guard := none }]
/-- The state while the operations come up. -/
structure RS (T : Array Value) (W : World) (E : Nat → Value) (Va Vb : Array Value) (L : Nat → Bool) (a : Act) (w : World) : Prop where
  defers : a.defers = []
  size : a.tmps.size = T.size
  same : ∀ j, j ≠ 12 → j ≠ 13 → ¬ (36 ≤ j ∧ j ≤ 43) → a.tmps[j]? = T[j]?
  below : Below W.heap.size W w
  hv : ∀ i, i < 8 → L i = true → a.tmps[36 + i]? = some (E i)
  h8 : L 8 = true → ∃ p, a.tmps[12]? = some (.pointer (some ⟨p, 0, none⟩)) ∧ W.heap.size ≤ p ∧ ∃ Z, w.heap[p]? = some (.cells Z 70 (0, 0)) ∧ Z.size = 1024 ∧ (L 10 = true → Z = Va)
  h9 : L 9 = true → ∃ q, a.tmps[13]? = some (.pointer (some ⟨q, 0, none⟩)) ∧ W.heap.size ≤ q ∧ ∃ Z, w.heap[q]? = some (.cells Z 70 (0, 0)) ∧ Z.size = 1024 ∧ (L 11 = true → Z = Vb)
  ne : L 8 = true → L 9 = true → ∀ p q, a.tmps[12]? = some (.pointer (some ⟨p, 0, none⟩)) → a.tmps[13]? = some (.pointer (some ⟨q, 0, none⟩)) → p ≠ q
  d10 : L 10 = true → L 8 = true
  d11 : L 11 = true → L 9 = true
theorem put_at {a : Act} {n j : Nat} {v : Value} : (a.put (some n) v).tmps[j]? = if n = j then (if n < a.tmps.size then some v else none) else a.tmps[j]? := by
  show (a.tmps.setIfInBounds n v)[j]? = _
  rw [Array.getElem?_setIfInBounds]
theorem eval_of {a : Act} {n : Nat} {v : Value} (h : a.tmps[n]? = some v) : a.eval (.tmp n) = v := by
  show a.tmps.getD n undef = v
  rw [Array.getD_eq_getD_getElem?, h]; rfl
section
variable {T : Array Value} {W : World} {E : Nat → Value} {Va Vb : Array Value} {L : Nat → Bool} {a : Act} {w w' : World}
theorem RS.val (hT : T.size = 96) (h : RS T W E Va Vb L a w) {i : Nat} (hi : i < 8) (hb : Below w.heap.size w w') : RS T W E Va Vb (setL L i) (a.put (some (36 + i)) (E i)) w' := by
  have hs : a.tmps.size = 96 := h.size.trans hT
  have keep : ∀ (p : Nat) (Z : Array Value), w.heap[p]? = some (.cells Z 70 (0, 0)) → w'.heap[p]? = some (.cells Z 70 (0, 0)) := fun p Z hp => (hb.block p (Array.getElem?_eq_some_iff.1 hp).1).trans hp
  refine ⟨h.defers, by show (a.tmps.setIfInBounds _ _).size = _; simp [h.size], fun j h1 h2 h3 => ?_, h.below.trans (hb.mono h.below.size), fun j hj hl => ?_, fun hl => ?_, fun hl => ?_, fun h8 h9 p q hp hq => ?_, fun hl => by simp only [setL] at hl ⊢; rw [if_neg (by omega)] at hl ⊢; exact h.d10 hl, fun hl => by simp only [setL] at hl ⊢; rw [if_neg (by omega)] at hl ⊢; exact h.d11 hl⟩
  · rw [put_at, if_neg (by omega)]; exact h.same j h1 h2 h3
  · rw [put_at]
    by_cases e : i = j
    · subst e; rw [if_pos rfl, if_pos (by omega)]
    · rw [if_neg (by omega)]
      exact h.hv j hj (by simpa [setL, Ne.symm e] using hl)
  · obtain ⟨p, e1, e2, Z, e3, e4, e5⟩ := h.h8 (by simpa [setL, show (8 : Nat) ≠ i by omega] using hl)
    exact ⟨p, by rw [put_at, if_neg (by omega)]; exact e1, e2, Z, keep p Z e3, e4, fun hq => e5 (by simpa [setL, show (10 : Nat) ≠ i by omega] using hq)⟩
  · obtain ⟨p, e1, e2, Z, e3, e4, e5⟩ := h.h9 (by simpa [setL, show (9 : Nat) ≠ i by omega] using hl)
    exact ⟨p, by rw [put_at, if_neg (by omega)]; exact e1, e2, Z, keep p Z e3, e4, fun hq => e5 (by simpa [setL, show (11 : Nat) ≠ i by omega] using hq)⟩
  · rw [put_at, if_neg (by omega)] at hp hq
    exact h.ne (by simpa [setL, show (8 : Nat) ≠ i by omega] using h8) (by simpa [setL, show (9 : Nat) ≠ i by omega] using h9) p q hp hq
theorem RS.new8 (hT : T.size = 96) (h : RS T W E Va Vb L a w) {Z0 : Array Value} (hZ : Z0.size = 1024) (hf : L 8 = false) : RS T W E Va Vb (setL L 8) (a.put (some 12) (.pointer (some ⟨w.heap.size, 0, none⟩))) (w.alloc (.cells Z0 70)) := by
  have hs : a.tmps.size = 96 := h.size.trans hT
  have hb : Below w.heap.size w (w.alloc (.cells Z0 70)) := (Below.refl _ _).alloc (Nat.le_refl _) _
  refine ⟨h.defers, by show (a.tmps.setIfInBounds _ _).size = _; simp [h.size], fun j h1 h2 h3 => ?_, h.below.trans (hb.mono h.below.size), fun j hj hl => ?_, fun hl => ?_, fun hl => ?_, fun h8 h9 p q hp hq => ?_, fun _ => by simp [setL], fun hl => by simpa [setL] using h.d11 (by simpa [setL] using hl)⟩
  · rw [put_at, if_neg (by omega)]; exact h.same j h1 h2 h3
  · rw [put_at, if_neg (by omega)]
    exact h.hv j hj (by simpa [setL, show j ≠ 8 by omega] using hl)
  · exact ⟨w.heap.size, by rw [put_at, if_pos rfl, if_pos (by omega)], h.below.size, Z0, World.alloc_heap_new _ _, hZ, fun hq => absurd (h.d10 (by simpa [setL] using hq)) (by rw [hf]; simp)⟩
  · obtain ⟨p, e1, e2, Z, e3, e4, e5⟩ := h.h9 (by simpa [setL] using hl)
    exact ⟨p, by rw [put_at, if_neg (by omega)]; exact e1, e2, Z, (hb.block p (Array.getElem?_eq_some_iff.1 e3).1).trans e3, e4, fun hq => e5 (by simpa [setL] using hq)⟩
  · rw [put_at, if_pos rfl, if_pos (by omega)] at hp
    rw [put_at, if_neg (by omega)] at hq
    obtain ⟨q', e1, _, Z, e3, _⟩ := h.h9 (by simpa [setL] using h9)
    rw [e1] at hq
    cases hp; cases hq
    have := (Array.getElem?_eq_some_iff.1 e3).1
    omega
theorem RS.new9 (hT : T.size = 96) (h : RS T W E Va Vb L a w) {Z0 : Array Value} (hZ : Z0.size = 1024) (hf : L 9 = false) : RS T W E Va Vb (setL L 9) (a.put (some 13) (.pointer (some ⟨w.heap.size, 0, none⟩))) (w.alloc (.cells Z0 70)) := by
  have hs : a.tmps.size = 96 := h.size.trans hT
  have hb : Below w.heap.size w (w.alloc (.cells Z0 70)) := (Below.refl _ _).alloc (Nat.le_refl _) _
  refine ⟨h.defers, by show (a.tmps.setIfInBounds _ _).size = _; simp [h.size], fun j h1 h2 h3 => ?_, h.below.trans (hb.mono h.below.size), fun j hj hl => ?_, fun hl => ?_, fun hl => ?_, fun h8 h9 p q hp hq => ?_, fun hl => by simpa [setL] using h.d10 (by simpa [setL] using hl), fun _ => by simp [setL]⟩
  · rw [put_at, if_neg (by omega)]; exact h.same j h1 h2 h3
  · rw [put_at, if_neg (by omega)]
    exact h.hv j hj (by simpa [setL, show j ≠ 9 by omega] using hl)
  · obtain ⟨p, e1, e2, Z, e3, e4, e5⟩ := h.h8 (by simpa [setL] using hl)
    exact ⟨p, by rw [put_at, if_neg (by omega)]; exact e1, e2, Z, (hb.block p (Array.getElem?_eq_some_iff.1 e3).1).trans e3, e4, fun hq => e5 (by simpa [setL] using hq)⟩
  · exact ⟨w.heap.size, by rw [put_at, if_pos rfl, if_pos (by omega)], h.below.size, Z0, World.alloc_heap_new _ _, hZ, fun hq => absurd (h.d11 (by simpa [setL] using hq)) (by rw [hf]; simp)⟩
  · rw [put_at, if_pos rfl, if_pos (by omega)] at hq
    rw [put_at, if_neg (by omega)] at hp
    obtain ⟨q', e1, _, Z, e3, _⟩ := h.h8 (by simpa [setL] using h8)
    rw [e1] at hp
    cases hp; cases hq
    have := (Array.getElem?_eq_some_iff.1 e3).1
    omega
theorem RS.st10 (h : RS T W E Va Vb L a w) {p : Nat} {w1 : World} (hp : a.tmps[12]? = some (.pointer (some ⟨p, 0, none⟩))) (hW : W.heap.size ≤ p) (h1 : w1.heap[p]? = some (.cells Va 70 (0, 0))) (hV : Va.size = 1024) (h8 : L 8 = true) (ho : ∀ k, k ≠ p → w1.heap[k]? = w.heap[k]?) (o1 : w1.os = w.os) (o2 : w1.tape = w.tape) (o3 : w1.output = w.output) (o4 : w1.heap.size = w.heap.size) : RS T W E Va Vb (setL L 10) a w1 := by
  refine ⟨h.defers, h.size, h.same, h.below.trans ⟨o1, o2, o3, by omega, fun k hk => ho k (by omega)⟩, fun j hj hl => h.hv j hj (by simpa [setL, show j ≠ 10 by omega] using hl), fun hl => ⟨p, hp, hW, Va, h1, hV, fun _ => rfl⟩, fun hl => ?_, fun h8 h9 p' q' hp' hq' => h.ne (by simpa [setL] using h8) (by simpa [setL] using h9) p' q' hp' hq', fun _ => by simpa [setL] using h8, fun hl => by simpa [setL] using h.d11 (by simpa [setL] using hl)⟩
  obtain ⟨q, e1, e2, Z, e3, e4, e5⟩ := h.h9 (by simpa [setL] using hl)
  have hne := h.ne h8 (by simpa [setL] using hl) p q hp e1
  exact ⟨q, e1, e2, Z, (ho q (Ne.symm hne)).trans e3, e4, fun hq => e5 (by simpa [setL] using hq)⟩
theorem RS.st11 (h : RS T W E Va Vb L a w) {p : Nat} {w1 : World} (hp : a.tmps[13]? = some (.pointer (some ⟨p, 0, none⟩))) (hW : W.heap.size ≤ p) (h1 : w1.heap[p]? = some (.cells Vb 70 (0, 0))) (hV : Vb.size = 1024) (h9 : L 9 = true) (ho : ∀ k, k ≠ p → w1.heap[k]? = w.heap[k]?) (o1 : w1.os = w.os) (o2 : w1.tape = w.tape) (o3 : w1.output = w.output) (o4 : w1.heap.size = w.heap.size) : RS T W E Va Vb (setL L 11) a w1 := by
  refine ⟨h.defers, h.size, h.same, h.below.trans ⟨o1, o2, o3, by omega, fun k hk => ho k (by omega)⟩, fun j hj hl => h.hv j hj (by simpa [setL, show j ≠ 11 by omega] using hl), fun hl => ?_, fun hl => ⟨p, hp, hW, Vb, h1, hV, fun _ => rfl⟩, fun h8 h9 p' q' hp' hq' => h.ne (by simpa [setL] using h8) (by simpa [setL] using h9) p' q' hp' hq', fun hl => by simpa [setL] using h.d10 (by simpa [setL] using hl), fun _ => by simpa [setL] using h9⟩
  obtain ⟨q, e1, e2, Z, e3, e4, e5⟩ := h.h8 (by simpa [setL] using hl)
  have hne := h.ne (by simpa [setL] using hl) h9 q p e1 hp
  exact ⟨q, e1, e2, Z, (ho q hne).trans e3, e4, fun hq => e5 (by simpa [setL] using hq)⟩
end
section
variable {P : Program} {ops : Array Oper} {o : Oper} {i : Nat} {a : Act} {w : World} {K : Act → World → Prop} {Q : Exit → Act → World → Prop}
theorem op_move (ho : ops[i]? = some o) (hg : o.guard = none) (x : Operand) (hop : o.op = .move x) {v : Value} (hx : a.eval x = v) (h : K (a.put o.dst v) w) : wpOp P ops Q i K a w := by
  unfold wpOp
  rw [ho]
  simp only [Region.wanted, hg, if_true]
  refine .inl ?_
  unfold Oper.wp
  simp [execOp, hop, hx]
  exact h
theorem op_load (ho : ops[i]? = some o) (hg : o.guard = none) (t : TypeId) (x : Operand) (hop : o.op = .load t x) {ad v : Value} (hx : a.eval x = ad) (hrun : (Instr.loadAt t ad).run P w = .ok v w) (h : K (a.put o.dst v) w) : wpOp P ops Q i K a w := by
  unfold wpOp
  rw [ho]
  simp only [Region.wanted, hg, if_true]
  refine .inl ?_
  unfold Oper.wp
  simp [execOp, hop, hx, hrun, Result.andThen]
  exact h
theorem op_alloc (ho : ops[i]? = some o) (hg : o.guard = none) (t : TypeId) (hop : o.op = .alloc t) {Z : Array Value} (hz : (zeroValue t).run P w = .ok (.agg Z) w) (h : K (a.put o.dst (.pointer (some ⟨w.heap.size, 0, none⟩))) (w.alloc (.cells Z t))) : wpOp P ops Q i K a w := by
  unfold wpOp
  rw [ho]
  simp only [Region.wanted, hg, if_true]
  refine .inl ?_
  unfold Oper.wp
  simp [execOp, hop, Instr.alloc, hz, newVar, newRow, Value.cells, Result.andThen, go_sem]
  exact h
theorem op_store (ho : ops[i]? = some o) (hg : o.guard = none) (hN : o.dst = none) (t : TypeId) (p x : Operand) (hop : o.op = .store t p x) {ad v : Value} {w1 : World} (hp : a.eval p = ad) (hx : a.eval x = v) (hrun : (Instr.storeAt t ad v).run P w = .ok () w1) (h : K a w1) : wpOp P ops Q i K a w := by
  unfold wpOp
  rw [ho]
  simp only [Region.wanted, hg, if_true]
  refine .inl ?_
  unfold Oper.wp
  simp [execOp, hop, hp, hx, hrun, Result.andThen]
  rw [Oper.upon_skip, hN]
  exact h
theorem op_call (ho : ops[i]? = some o) (hg : o.guard = none) {f : FuncId} {ags : Array Operand} {ts : Array TypeId} (hop : o.op = .call { callee := .value (.func f), args := ags, argTypes := ts }) (args : Array Value) (hargs : ags.map a.eval = args) (eg : ∀ args w, (callFunc f args).run P w = .ok (.enter f args) w)
    (h : Calls P f args w fun e w' => ∃ v, e = .returned v ∧ K (a.put o.dst v) w') : wpOp P ops Q i K a w := by
  unfold wpOp
  rw [ho]
  simp only [Region.wanted, hg, if_true]
  refine .inl ?_
  unfold Oper.wp
  have hrun : (execOp a.eval o).run P w = .ok (.enter f args) w := by
    unfold execOp
    simp [hop, resolve, Deferred.ofValue, invoke, Act.eval, eg]
    exact hargs
  rw [hrun, Oper.upon_enter]
  refine h.mono fun e w'' hh => ?_
  obtain ⟨v, rfl, hk⟩ := hh
  exact hk
end
theorem twoOps_ac : ∀ (i : Nat) (o : Oper), twoOps[i]? = some o → ∀ e ∈ o.after, e.on < i := by
  have h : ((List.range 12).all fun i => (twoOps[i]?).all fun o => o.after.all fun e => decide (e.on < i)) = true := by kernel_rfl
  have hs : twoOps.size = 12 := rfl
  intro i o ho e he
  have hi : i < 12 := by rw [← hs]; exact (Array.getElem?_eq_some_iff.1 ho).1
  have := List.all_eq_true.1 h i (List.mem_range.2 hi)
  rw [ho] at this
  simp only [Option.all_some, Array.all_eq_true_iff_forall_mem] at this
  simpa using this e he
theorem two_rows {id : Nat} {Q : Exit → Act → World → Prop} (T : Array Value) (W : World) (Z0 Va Vb : Array Value) (sl : Value) (key : S24) (bef aft : Int) (Kx : Nat) (hT : T.size = 96) (hZ : Z0.size = 1024) (hz : ∀ w, (zeroValue 70).run Try.prog w = .ok (.agg Z0) w)
    (t0 : T[0]? = some sl) (t1 : T[1]? = some (.int .i64 bef)) (t2 : T[2]? = some (.int .i64 aft)) (t11 : T[11]? = some (.pointer (some ⟨Kx, 0, none⟩))) (hK : W.heap[Kx]? = some (.cells #[.int .i64 key.f0, .int .i64 key.f1, .int .i64 key.f2] 24 (0, 0)))
    (hVa : Va.size = 1024) (hVb : Vb.size = 1024) (oVa : Va.all (·.oneCell') = true) (oVb : Vb.all (·.oneCell') = true)
    (ca : ∀ w, Below W.heap.size W w → Calls Try.prog 39 #[sl, valK key, .int .i64 bef] w fun e w' => e = .returned (.agg Va) ∧ Below w.heap.size w w')
    (cb : ∀ w, Below W.heap.size W w → Calls Try.prog 39 #[sl, valK key, .int .i64 aft] w fun e w' => e = .returned (.agg Vb) ∧ Below w.heap.size w w')
    (h : ∀ (a : Act) (w : World) (p q : Nat), a.defers = [] → a.tmps.size = 96 → (∀ j, j ≠ 12 → j ≠ 13 → ¬ (36 ≤ j ∧ j ≤ 43) → a.tmps[j]? = T[j]?) → Below W.heap.size W w → a.tmps[12]? = some (.pointer (some ⟨p, 0, none⟩)) → a.tmps[13]? = some (.pointer (some ⟨q, 0, none⟩)) → W.heap.size ≤ p → W.heap.size ≤ q →
      w.heap[p]? = some (.cells Va 70 (0, 0)) → w.heap[q]? = some (.cells Vb 70 (0, 0)) → Q .normal a w) : (Code.region id twoOps true).wp Try.prog Q { tmps := T, defers := [] } W := by
  have ldK : ∀ w, Below W.heap.size W w → (Instr.loadAt 24 (.pointer (some ⟨Kx, 0, none⟩))).run Try.prog w = .ok (valK key) w := fun w hb => by
    simp only [Instr.loadAt, Instr.sureAddr, Sem.run_bind, Sem.run_pure, Result.andThen]
    exact run_loadVar_row w Kx 24 24 _ (0, 0) _ ((hb.block Kx (Array.getElem?_eq_some_iff.1 hK).1).trans hK) Try.underlying24 rfl (by rw [show (Try.prog.info? 24).map (·.size) = some 3 from by kernel_rfl]; rfl)
  obtain ⟨E, hE⟩ : ∃ E : Nat → Value, E = fun i => match i with | 0 => sl | 1 => valK key | 2 => .int .i64 bef | 3 => .agg Va | 4 => sl | 5 => valK key | 6 => .int .i64 aft | _ => .agg Vb := ⟨_, rfl⟩
  have eg := enters_of Try.func39 (by kernel_rfl) rfl
  refine wp_region_inv (by kernel_rfl) twoOps_ac (RS T W E Va Vb) ?_ ?_ ?_
  · exact ⟨rfl, rfl, fun _ _ _ _ => rfl, (Below.refl _ _).drew, fun i hi hl => by have : twoOps.size = 12 := rfl; simp [this] at hl; omega, fun hl => by have : twoOps.size = 12 := rfl; simp [this] at hl, fun hl => by have : twoOps.size = 12 := rfl; simp [this] at hl, fun hl => by have : twoOps.size = 12 := rfl; simp [this] at hl, fun hl => by have : twoOps.size = 12 := rfl; simp [this] at hl, fun hl => by have : twoOps.size = 12 := rfl; simp [this] at hl⟩
  · intro L a w i o ho hL hdep hI
    have hi : i < 12 := (Array.getElem?_eq_some_iff.1 ho).1
    have same := fun (j : Nat) (h1 : j ≠ 12) (h2 : j ≠ 13) (h3 : ¬ (36 ≤ j ∧ j ≤ 43)) => hI.same j h1 h2 h3
    match i, hi with
    | 0, _ =>
      have ho2 := ho
      simp [twoOps] at ho2
      subst ho2
      refine op_move (i := 0) ho rfl (.tmp 0) rfl (eval_of ((same 0 (by omega) (by omega) (by omega)).trans t0)) ?_
      have := hI.val hT (i := 0) (by omega) (Below.refl _ w)
      rw [hE] at this; rw [hE]; exact this
    | 1, _ =>
      have ho2 := ho
      simp [twoOps] at ho2
      subst ho2
      refine op_load (i := 1) ho rfl 24 (.tmp 11) rfl (eval_of ((same 11 (by omega) (by omega) (by omega)).trans t11)) (ldK w hI.below) ?_
      have := hI.val hT (i := 1) (by omega) (Below.refl _ w)
      rw [hE] at this; rw [hE]; exact this
    | 2, _ =>
      have ho2 := ho
      simp [twoOps] at ho2
      subst ho2
      refine op_move (i := 2) ho rfl (.tmp 1) rfl (eval_of ((same 1 (by omega) (by omega) (by omega)).trans t1)) ?_
      have := hI.val hT (i := 2) (by omega) (Below.refl _ w)
      rw [hE] at this; rw [hE]; exact this
    | 3, _ =>
      have ho2 := ho
      simp [twoOps] at ho2
      subst ho2
      have d0 := hI.hv 0 (by omega) (hdep ⟨0, .data⟩ (by simp) rfl)
      have d1 := hI.hv 1 (by omega) (hdep ⟨1, .data⟩ (by simp) rfl)
      have d2 := hI.hv 2 (by omega) (hdep ⟨2, .data⟩ (by simp) rfl)
      rw [hE] at d0 d1 d2
      refine op_call (i := 3) ho rfl rfl #[sl, valK key, .int .i64 bef] (by simp only [List.map_toArray, List.map_cons, List.map_nil, eval_of d0, eval_of d1, eval_of d2]) eg ((ca w hI.below).mono ?_)
      rintro e w' ⟨rfl, hb⟩
      refine ⟨_, rfl, ?_⟩
      have := hI.val hT (i := 3) (by omega) hb
      rw [hE] at this; rw [hE]; exact this
    | 4, _ =>
      have ho2 := ho
      simp [twoOps] at ho2
      subst ho2
      refine op_move (i := 4) ho rfl (.tmp 0) rfl (eval_of ((same 0 (by omega) (by omega) (by omega)).trans t0)) ?_
      have := hI.val hT (i := 4) (by omega) (Below.refl _ w)
      rw [hE] at this; rw [hE]; exact this
    | 5, _ =>
      have ho2 := ho
      simp [twoOps] at ho2
      subst ho2
      refine op_load (i := 5) ho rfl 24 (.tmp 11) rfl (eval_of ((same 11 (by omega) (by omega) (by omega)).trans t11)) (ldK w hI.below) ?_
      have := hI.val hT (i := 5) (by omega) (Below.refl _ w)
      rw [hE] at this; rw [hE]; exact this
    | 6, _ =>
      have ho2 := ho
      simp [twoOps] at ho2
      subst ho2
      refine op_move (i := 6) ho rfl (.tmp 2) rfl (eval_of ((same 2 (by omega) (by omega) (by omega)).trans t2)) ?_
      have := hI.val hT (i := 6) (by omega) (Below.refl _ w)
      rw [hE] at this; rw [hE]; exact this
    | 7, _ =>
      have ho2 := ho
      simp [twoOps] at ho2
      subst ho2
      have d0 := hI.hv 4 (by omega) (hdep ⟨4, .data⟩ (by simp) rfl)
      have d1 := hI.hv 5 (by omega) (hdep ⟨5, .data⟩ (by simp) rfl)
      have d2 := hI.hv 6 (by omega) (hdep ⟨6, .data⟩ (by simp) rfl)
      rw [hE] at d0 d1 d2
      refine op_call (i := 7) ho rfl rfl #[sl, valK key, .int .i64 aft] (by simp only [List.map_toArray, List.map_cons, List.map_nil, eval_of d0, eval_of d1, eval_of d2]) eg ((cb w hI.below).mono ?_)
      rintro e w' ⟨rfl, hb⟩
      refine ⟨_, rfl, ?_⟩
      have := hI.val hT (i := 7) (by omega) hb
      rw [hE] at this; rw [hE]; exact this
    | 8, _ =>
      have ho2 := ho
      simp [twoOps] at ho2
      subst ho2
      refine op_alloc (i := 8) ho rfl 70 rfl (hz w) ?_
      exact hI.new8 hT hZ hL
    | 9, _ =>
      have ho2 := ho
      simp [twoOps] at ho2
      subst ho2
      refine op_alloc (i := 9) ho rfl 70 rfl (hz w) ?_
      exact hI.new9 hT hZ hL
    | 10, _ =>
      have ho2 := ho
      simp [twoOps] at ho2
      subst ho2
      have l8 := hdep ⟨8, .data⟩ (by simp) rfl
      obtain ⟨p, e1, e2, Z, e3, e4, e5⟩ := hI.h8 l8
      have d3 := hI.hv 3 (by omega) (hdep ⟨3, .data⟩ (by simp) rfl)
      rw [hE] at d3
      obtain ⟨W1, cur', r1, r2, r3, r4, r5, r6, r7, r8, r9, r10⟩ := seg_store (W := w) (g := p) (o := 0) 70 (.agg Va) Va.toList e3 (by simp [Value.cells]) (by rw [show (Try.prog.info? 70).map (·.size) = some 1024 from by kernel_rfl]; simp [hVa]) (by simp [hVa, e4]) (by intro q hq; have := Array.all_eq_true_iff_forall_mem.1 oVa q (by simpa using hq); simpa using this)
      have hcr : cur' = Va := by
        apply Array.ext_getElem?
        intro i
        by_cases hi : i < Va.size
        · have := r4 i (by simpa using hi)
          simpa using this
        · rw [Array.getElem?_eq_none (by omega), Array.getElem?_eq_none (by omega)]
      rw [hcr] at r2
      refine op_store (i := 10) ho rfl rfl 70 (.tmp 12) (.tmp 39) rfl (eval_of e1) (eval_of d3) r1 (hI.st10 e1 e2 r2 hVa l8 r6 r7 r8 r9 r10)
    | 11, _ =>
      have ho2 := ho
      simp [twoOps] at ho2
      subst ho2
      have l9 := hdep ⟨9, .data⟩ (by simp) rfl
      obtain ⟨p, e1, e2, Z, e3, e4, e5⟩ := hI.h9 l9
      have d3 := hI.hv 7 (by omega) (hdep ⟨7, .data⟩ (by simp) rfl)
      rw [hE] at d3
      obtain ⟨W1, cur', r1, r2, r3, r4, r5, r6, r7, r8, r9, r10⟩ := seg_store (W := w) (g := p) (o := 0) 70 (.agg Vb) Vb.toList e3 (by simp [Value.cells]) (by rw [show (Try.prog.info? 70).map (·.size) = some 1024 from by kernel_rfl]; simp [hVb]) (by simp [hVb, e4]) (by intro q hq; have := Array.all_eq_true_iff_forall_mem.1 oVb q (by simpa using hq); simpa using this)
      have hcr : cur' = Vb := by
        apply Array.ext_getElem?
        intro i
        by_cases hi : i < Vb.size
        · have := r4 i (by simpa using hi)
          simpa using this
        · rw [Array.getElem?_eq_none (by omega), Array.getElem?_eq_none (by omega)]
      rw [hcr] at r2
      refine op_store (i := 11) ho rfl rfl 70 (.tmp 13) (.tmp 43) rfl (eval_of e1) (eval_of d3) r1 (hI.st11 e1 e2 r2 hVb l9 r6 r7 r8 r9 r10)
  · intro L a w hall hI
    have hall' : ∀ i, i < 12 → L i = true := hall
    obtain ⟨p, e1, e2, Z, e3, e4, e5⟩ := hI.h8 (hall' 8 (by omega))
    obtain ⟨q, f1, f2, Y, f3, f4, f5⟩ := hI.h9 (hall' 9 (by omega))
    rw [e5 (hall' 10 (by omega))] at e3
    rw [f5 (hall' 11 (by omega))] at f3
    exact h a w p q hI.defers (hI.size.trans hT) hI.same hI.below e1 f1 e2 f2 e3 f3
/-- The frame behind the region. -/
def frameTwo (T : Array Value) (p q : Nat) (u0 u1 u2 u3 u4 u5 u6 u7 : Value) : Array Value :=
  (((((((((T.setIfInBounds 12 (.pointer (some ⟨p, 0, none⟩))).setIfInBounds 13 (.pointer (some ⟨q, 0, none⟩))).setIfInBounds 36 u0).setIfInBounds 37 u1).setIfInBounds 38 u2).setIfInBounds 39 u3).setIfInBounds 40 u4).setIfInBounds 41 u5).setIfInBounds 42 u6).setIfInBounds 43 u7
theorem frameTwo_eq {T t : Array Value} {p q : Nat} (hT : T.size = 96) (ht : t.size = 96) (hs : ∀ j, j ≠ 12 → j ≠ 13 → ¬ (36 ≤ j ∧ j ≤ 43) → t[j]? = T[j]?) (h12 : t[12]? = some (.pointer (some ⟨p, 0, none⟩))) (h13 : t[13]? = some (.pointer (some ⟨q, 0, none⟩))) :
    t = frameTwo T p q (t.getD 36 undef) (t.getD 37 undef) (t.getD 38 undef) (t.getD 39 undef) (t.getD 40 undef) (t.getD 41 undef) (t.getD 42 undef) (t.getD 43 undef) := by
  have g : ∀ j, j < 96 → t[j]? = some (t.getD j undef) := fun j hj => by
    rw [Array.getD_eq_getD_getElem?, Array.getElem?_eq_getElem (by omega)]; rfl
  apply Array.ext_getElem?
  intro j
  simp only [frameTwo, Array.getElem?_setIfInBounds, Array.size_setIfInBounds, hT]
  by_cases h1 : j = 12
  · subst h1; simpa using h12
  by_cases h2 : j = 13
  · subst h2; simpa using h13
  by_cases h3 : 36 ≤ j ∧ j ≤ 43
  · have : j = 36 ∨ j = 37 ∨ j = 38 ∨ j = 39 ∨ j = 40 ∨ j = 41 ∨ j = 42 ∨ j = 43 := by omega
    rcases this with rfl | rfl | rfl | rfl | rfl | rfl | rfl | rfl <;> simpa using g _ (by omega)
  · rw [hs j h1 h2 h3]
    rw [if_neg (by omega), if_neg (by omega), if_neg (by omega), if_neg (by omega), if_neg (by omega), if_neg (by omega), if_neg (by omega), if_neg (by omega), if_neg (by omega), if_neg (by omega)]
end Go.Proofs.Ytamajnhdibcpiaa.G
namespace Go.Proofs.Ytamajnhdibcpiaa.G
open Go.RowKit Go.Shelf Go.Maps Go.Proofs.YtamajnhdibcpiaaW.PrintWords Go.Proofs.YtamajnhdibcpiaaW.PrintLast Go.Proofs.YtamajnhdibcpiaaW.PrintMore
set_option linter.unusedVariables false
set_option linter.unusedSimpArgs false
/-- The terms in which two rows differ: one term more. -/
def stepT (f g : Nat → Int) (acc : List S26) (t : Nat) : List S26 :=
  if f t = g t then acc else if 0 < acc.length ∧ (acc.getD (acc.length - 1) z26).f1 = (t : Int) then acc.set (acc.length - 1) ⟨(acc.getD (acc.length - 1) z26).f0, (t : Int) + 1⟩ else acc ++ [⟨(t : Int), (t : Int) + 1⟩]
def termsTo (f g : Nat → Int) (n : Nat) : List S26 := (List.range n).foldl (stepT f g) []
theorem termsTo_succ (f g : Nat → Int) (n : Nat) : termsTo f g (n + 1) = stepT f g (termsTo f g n) n := by simp [termsTo, List.range_succ]
theorem termsTo_length (f g : Nat → Int) : ∀ n, (termsTo f g n).length ≤ n
  | 0 => by simp [termsTo]
  | n + 1 => by
    have := termsTo_length f g n
    rw [termsTo_succ]
    unfold stepT
    split
    · omega
    · split
      · simp; omega
      · simp; omega
def chgOne (l : List S28) (b a : Int) (k : S24) : Option S57 :=
  if termsTo (fun t => valM l k b (t : Int)) (fun t => valM l k a (t : Int)) 1024 = [] then none else some ⟨k, termsTo (fun t => valM l k b (t : Int)) (fun t => valM l k a (t : Int)) 1024⟩
def changedM (l : List S28) (b a : Int) : List S57 := (keysM l).filterMap (chgOne l b a)
def facts_Changed.f (l0 : List S28) (a1 a2 : Int) : Option (List S57) := if l0.length ≤ 1099511627776 ∧ l0.all (fun x => wfK x.f0) = true then some (changedM l0 a1 a2) else none
theorem noGoto_normal {Q : Exit → Act → World → Prop} {a : Act} {w : World} (h : Q .normal a w) : Exit.noGoto Q .normal a w := h
theorem filterMap_one {α β : Type} (f : α → Option β) (x : α) : [x].filterMap f = (f x).toList := by cases h : f x <;> simp [h]
set_option maxHeartbeats 1000000 in
theorem keys_in (b : Nat) (w : World) : Calls Try.prog 41 #[.map (some b)] w fun e w' => e = .returned (.func (.func 56) #[] #[.pointer (some ⟨w.heap.size, 0, none⟩)]) ∧ w' = w.alloc (.cells #[.map (some b)] 72) := by
  go_enter Try.func41, Try.ntmps41
  go_wp2
  go_ret
  exact ⟨rfl, rfl⟩
set_option maxRecDepth 100000 in
set_option maxHeartbeats 8000000 in
theorem changed_calls (A0 : Option Addr) (c0 : Nat) (l0 : List (S28)) (bef aft : Int) (w : World) (hr0 : Kd.C k28 w A0 l0.length l0) (hc0 : l0.length ≤ c0) (hlen : l0.length ≤ 1099511627776) (hwf : ∀ x ∈ l0, wfK x.f0 = true) :
    Calls Try.prog 24 #[.slice A0 l0.length c0, .int .i64 bef, .int .i64 aft] w fun e w' => ∃ v0_ : Value, e = .returned v0_ ∧ Kd.S k57 57 w' w.heap.size (fun _ => True) v0_ (changedM l0 bef aft) ∧ Below w.heap.size w w' := by
  obtain ⟨Z70, hz70, s70⟩ := zero70
  have S70 := Aside0.mk s70
  clear s70
  have hu24 := Try.underlying24
  have hu26 := Try.underlying26
  have hu28 := Try.underlying28
  have hu57 := Try.underlying57
  have hmm := @run_makeMap Try.prog
  have HR := Aside0.mk (And.intro hr0 (And.intro hc0 hwf))
  clear hr0 hwf
  have hB0 : Below w.heap.size w (w.alloc (.map #[] 0)) := (Below.refl _ _).alloc (Nat.le_refl _) _
  have hM0 := World.ownsMap_made (H := Unit) w Try.prog 24 (plainElem Try.prog 4)
  go_enter Try.func24, Try.ntmps24
  go_wp2
  obtain ⟨Bm, hBm⟩ : ∃ Bm, Bm = w.heap.size := ⟨_, rfl⟩
  rw [← hBm] at hM0 ⊢
  have HBm := Aside0.mk hBm
  clear hBm
  generalize w.alloc (.map #[] 0) = W0 at hB0 hM0 ⊢
  go_loopw [20] (fun i wr => ∃ k : Nat, k ≤ l0.length ∧ i = .int .i64 (k : Int) ∧ Aside0 (wr.ownsMap Try.prog 24 (plainElem Try.prog 4) Bm k (Dset (l0.take k))) ∧ Aside0 (Below w.heap.size w wr))
    (fun i _ => l0.length - (intOf i).toNat)
  case atStart => exact ⟨0, Nat.zero_le _, rfl, ⟨hM0⟩, ⟨hB0⟩⟩
  case round =>
    obtain ⟨k, hk, rfl, hM, hB⟩ := hrel
    by_cases hlt : k < l0.length
    · have hC1 := Kd.C_below HR.out.1 hB.out
      obtain ⟨ad, rfl, g0, g1, g2, g3, g4, g5, g6, g7⟩ := at28 hC1 hlt
      have hx : l0.getD k z28 = l0[k] := by simp [hlt]
      rw [hx] at g0 g1 g2 g3 g4 g5 g6 g7
      have hkI : (k : Int) < (l0.length : Int) := by omega
      have hD : Aside0 (Dset (l0.take (k + 1)) = (Dset (l0.take k)).put (litK l0[k].f0) (.lit (.bool true))) := ⟨by rw [List.take_succ_eq_append_getElem hlt, Dset_snoc]⟩
      have hkey : Aside0 (keyOf Try.prog 24 (valK l0[k].f0) = some (litK l0[k].f0)) := ⟨keyOf_mk _ (HR.out.2.2 _ (List.getElem_mem hlt))⟩
      generalize l0[k] = x at g0 g1 g2 g3 g4 g5 g6 g7 hD hkey
      have hown := hM.out.alloc (.cells #[.int .i64 x.f0.f0, .int .i64 x.f0.f1, .int .i64 x.f0.f2, .int .i64 x.f1, .int .i64 x.f2.f0, .int .i64 x.f2.f1, .int .i64 x.f3, .int .i64 x.f4] 28)
      have hBa := Aside0.mk (hB.out.alloc hB.out.size (.cells #[.int .i64 x.f0.f0, .int .i64 x.f0.f1, .int .i64 x.f0.f2, .int .i64 x.f1, .int .i64 x.f2.f0, .int .i64 x.f2.f1, .int .i64 x.f3, .int .i64 x.f4] 28))
      clear hC1 hx
      go_wp2_with (at_mapUpdate; refine wpList_mapUpdate_own _ rfl _ _ _ 72 rfl 24 4 key24 Try.underlying72 _ Bm k _ rfl hown (by unfold maxLen; omega) (valK x.f0) _ _ rfl rfl hkey.out (.lit (.bool true)) [] (plainElem_bool Try.underlying4 true) ?_; intro w1 hown1 hgrow1)
      have HN := Aside0.mk (And.intro (by rw [hD.out]; exact hown1 : w1.ownsMap Try.prog 24 (plainElem Try.prog 4) Bm (k + 1) (Dset (l0.take (k + 1)))) (hBa.out.grown hgrow1 hBa.out.size (fun j e => by cases e; exact Nat.le_of_eq HBm.out.symm)))
      clear hown1 hgrow1
      go_roundw
      case rel => exact ⟨k + 1, by omega, by simp, ⟨HN.out.1⟩, ⟨HN.out.2⟩⟩
      case measure => simp [intOf]; omega
    · have hkl : k = l0.length := by omega
      subst hkl
      have hown := hM.out
      rw [List.take_length] at hown
      clear hM hlt hk
      have hBx := hB.out
      clear hB
      have HK := Aside0.mk (fun ss (h : AllK (Dset l0) ss) => allK_keys HR.out.2.2 h)
      go_wp2_with (first
        | (go_at_call 41; refine (keys_in Bm wr).mono ?_; rintro e w1 ⟨rfl, rfl⟩)
        | (go_at_call 40; refine (sorted_calls wr.heap.size Bm l0.length (Dset l0) _ (by simp) (Boxed.new _ _ _).cell (hown.alloc _) (Nat.le_trans (size_Dset l0) hlen) (fun ss h => by rw [← sortK_length, HK.out ss h]; exact Nat.le_trans (keysM_length l0) hlen)).mono ?_; rintro e w2 ⟨ss, A, c, hall, rfl, hcl, hC, hb2⟩))
      have hL : ss.length = (keysM l0).length := by rw [← HK.out ss hall, sortK_length]
      rw [HK.out ss hall, hL] at hC
      rw [hL] at hcl ⊢
      have hB2 : Below w.heap.size w w2 := hBx.trans (((Below.refl wr.heap.size wr).alloc (Nat.le_refl _) _).trans (hb2.mono (by simp)) |>.mono hBx.size)
      have HB2 := Aside0.mk hB2
      have HC2 := Aside0.mk hC
      have hKlen : (keysM l0).length ≤ 1099511627776 := Nat.le_trans (keysM_length l0) hlen
      clear hall hL hB2 hb2 hBx hown HK hM0 hB0 hC
      have HKc : Aside0 (changedM l0 bef aft = (keysM l0).filterMap (chgOne l0 bef aft)) := ⟨rfl⟩
      generalize keysM l0 = K at hcl hKlen HC2 HKc ⊢
      generalize wr.heap.size = Hx
      go_loopw [6, 32] (fun v i wr => ∃ (k : Nat) (acc : List S57), k ≤ K.length ∧ i = .int .i64 (k : Int) ∧ Aside0 (acc = (K.take k).filterMap (chgOne l0 bef aft)) ∧ acc.length ≤ k ∧ Aside0 (Kd.S k57 57 wr w2.heap.size (fun _ => True) v acc) ∧ Aside0 (Below w2.heap.size w2 wr))
        (fun _ i _ => K.length - (intOf i).toNat)
      case atStart => exact ⟨0, [], Nat.zero_le _, rfl, ⟨by simp⟩, by simp, ⟨Kd.S_nil _ _ _ _ _⟩, ⟨Below.refl _ _⟩⟩
      case round =>
        obtain ⟨k, acc, hk, rfl, hacc, hal, hS, hB⟩ := hrel
        by_cases hlt : k < K.length
        · obtain ⟨ad, rfl, g0, g1, g2⟩ := at_T24 (Kd.C_below HC2.out hB.out) (k : Int) (by omega) (by omega)
          have hkI : (k : Int) < (K.length : Int) := by omega
          have hkI0 : (0 : Int) ≤ (k : Int) := by omega
          simp only [Int.toNat_natCast] at g0 g1 g2
          have hx : rd_T24 K (k : Int) = K[k] := by simp [rd_T24, hlt]
          rw [hx] at g0 g1 g2
          have hacc2 : Aside0 ((K.take (k + 1)).filterMap (chgOne l0 bef aft) = acc ++ (chgOne l0 bef aft K[k]).toList) := ⟨by rw [List.take_succ_eq_append_getElem hlt, List.filterMap_append, ← hacc.out, filterMap_one]⟩
          clear hx hacc
          generalize K[k] = x at g0 g1 g2 hacc2
          go_wp2
          have hbx := World.alloc_heap_new wr (.cells #[.int .i64 x.f0, .int .i64 x.f1, .int .i64 x.f2] 24)
          have hSx := Aside0.mk (Kd.S_alloc hS.out (.cells #[.int .i64 x.f0, .int .i64 x.f1, .int .i64 x.f2] 24))
          have hBx := Aside0.mk (hB.out.alloc hB.out.size (.cells #[.int .i64 x.f0, .int .i64 x.f1, .int .i64 x.f2] 24))
          clear hS hB
          generalize wr.alloc (.cells #[.int .i64 x.f0, .int .i64 x.f1, .int .i64 x.f2] 24) = W3 at hbx hSx hBx ⊢
          generalize wr.heap.size = Kx at hbx ⊢
          have hBw : Below w.heap.size w W3 := HB2.out.trans (hBx.out.mono HB2.out.size)
          refine wp_scope_straight ?_
          go_wp2
          refine two_rows _ W3 Z70 (valArr l0 x bef) (valArr l0 x aft) (.slice A0 l0.length c0) x bef aft Kx ?hT S70.out hz70 ?t0 ?t1 ?t2 ?t11 hbx (valArr_size _ _ _) (valArr_size _ _ _) (valArr_one _ _ _) (valArr_one _ _ _)
            (fun w9 hb9 => values_calls A0 c0 l0 x bef w9 (Kd.C_below HR.out.1 (hBw.trans (hb9.mono hBw.size))) hc0) (fun w9 hb9 => values_calls A0 c0 l0 x aft w9 (Kd.C_below HR.out.1 (hBw.trans (hb9.mono hBw.size))) hc0) ?_
          case hT => rfl
          case t0 => rfl
          case t1 => rfl
          case t2 => rfl
          case t11 => rfl
          intro a w4 p q hdef hsz hsame hb4 h12 h13 hp0 hq0 hp hq
          have hfr := frameTwo_eq rfl hsz hsame h12 h13
          obtain ⟨at0, ad0⟩ := a
          simp only at hdef hfr
          subst hdef
          rw [hfr]
          clear hfr hsame hsz h12 h13
          generalize at0.getD 36 undef = n0
          generalize at0.getD 37 undef = n1
          generalize at0.getD 38 undef = n2
          generalize at0.getD 39 undef = n3
          generalize at0.getD 40 undef = n4
          generalize at0.getD 41 undef = n5
          generalize at0.getD 42 undef = n6
          generalize at0.getD 43 undef = n7
          simp only [frameTwo, List.setIfInBounds_toArray, List.set_cons_zero, List.set_cons_succ]
          obtain ⟨f, hf⟩ : ∃ f : Nat → Int, f = fun t : Nat => valM l0 x bef (t : Int) := ⟨_, rfl⟩
          obtain ⟨g, hg⟩ : ∃ g : Nat → Int, g = fun t : Nat => valM l0 x aft (t : Int) := ⟨_, rfl⟩
          have HCh : Aside0 (chgOne l0 bef aft x = if termsTo f g 1024 = [] then none else some ⟨x, termsTo f g 1024⟩) := ⟨by rw [hf, hg]; rfl⟩
          have hpf : ∀ t, t < 1024 → (valArr l0 x bef)[t]? = some (.int .i64 (f t)) := fun t ht => by rw [hf]; exact valArr_at l0 x bef ht
          have hqg : ∀ t, t < 1024 → (valArr l0 x aft)[t]? = some (.int .i64 (g t)) := fun t ht => by rw [hg]; exact valArr_at l0 x aft ht
          have HVF := Aside0.mk (And.intro hpf hqg)
          have hSx4 := Aside0.mk (Kd.S_below hSx.out hb4)
          have hBx4 := Aside0.mk (hBx.out.trans (hb4.mono hBx.out.size))
          have hbK : w4.heap[Kx]? = some (.cells #[.int .i64 x.f0, .int .i64 x.f1, .int .i64 x.f2] 24 (0, 0)) := (hb4.block Kx (Array.getElem?_eq_some_iff.1 hbx).1).trans hbx
          clear hf hg hpf hqg hSx hBx hb4 hbx hBw hp0 hq0 at0
          generalize valArr l0 x bef = Va at hp HVF
          generalize valArr l0 x aft = Vb at hq HVF
          have HPQ := Aside0.mk (And.intro hp (And.intro hq hbK))
          clear hp hq hbK
          go_wp2
          go_step3
          go_wp2
          go_loopw [14, 44] (fun v i wr => ∃ (t : Nat) (ts : List S26), t ≤ 1024 ∧ i = .int .i64 (t : Int) ∧ Aside0 (ts = termsTo f g t) ∧ ts.length ≤ t ∧ Aside0 (TS wr w4.heap.size (.slice none 0 0) [] v ts) ∧ Aside0 (Below w4.heap.size w4 wr))
            (fun _ i _ => 1024 - (intOf i).toNat)
          case atStart => exact ⟨0, [], by omega, rfl, ⟨rfl⟩, by simp, ⟨TS.start (Kd.S_nil _ _ _ _ _)⟩, ⟨Below.refl _ _⟩⟩
          case round =>
            obtain ⟨t, ts, ht, rfl, hts, htl, hT, hB⟩ := hrel
            by_cases htt : t < 1024
            · have ht1 : (t : Int) < 1024 := by omega
              have ht0 : (0 : Int) ≤ (t : Int) := by omega
              have cP : wr.cell? ⟨p, t, none⟩ = some (.int .i64 (f t)) := by
                rw [cell_of_row wr p t Va 70 (0, 0) ((hB.out.block p (Array.getElem?_eq_some_iff.1 HPQ.out.1).1).trans HPQ.out.1)]; exact HVF.out.1 t htt
              have cQ : wr.cell? ⟨q, t, none⟩ = some (.int .i64 (g t)) := by
                rw [cell_of_row wr q t Vb 70 (0, 0) ((hB.out.block q (Array.getElem?_eq_some_iff.1 HPQ.out.2.1).1).trans HPQ.out.2.1)]; exact HVF.out.2 t htt
              have hst := termsTo_succ f g t
              rw [← hts.out] at hst
              unfold stepT at hst
              by_cases hfg : f t = g t
              · rw [if_pos hfg] at hst
                have hb : (f t == g t) = true := beq_iff_eq.2 hfg
                have HST := Aside0.mk hst.symm
                clear hst hfg hts
                go_wp2
                go_quiet (fail)
                go_wp2
                go_roundw
                case rel => exact ⟨t + 1, ts, by omega, by simp, HST, by omega, ⟨hT.out.below (pw_below_drewN (Below.refl _ _) _)⟩, ⟨pw_below_drewN hB.out _⟩⟩
                case measure => simp [intOf]; omega
              · rw [if_neg hfg] at hst
                have hb : (f t == g t) = false := beq_eq_false_iff_ne.2 hfg
                clear hfg
                by_cases hl : 0 < ts.length ∧ (ts.getD (ts.length - 1) z26).f1 = (t : Int)
                · rw [if_pos hl] at hst
                  obtain ⟨hl1, hl2⟩ := hl
                  obtain ⟨g0, cap, rfl, hg0, _, cells0, hcells⟩ := Kd.R_form hT.out.2 hl1
                  obtain ⟨m, hm⟩ : ∃ m, ts.length = m + 1 := ⟨ts.length - 1, by omega⟩
                  obtain ⟨ad2, e2, c0', c1'⟩ := at_T26 (Kd.R_reads' hT.out.2).2.2 ((m : Nat) : Int) (by omega) (by omega)
                  cases e2
                  simp only [Int.toNat_natCast, add_plain, Nat.zero_add] at c0' c1'
                  rw [hm, Nat.add_sub_cancel] at hl2
                  have hrd : (rd_T26 ts (m : Int)).f1 = (t : Int) := by simpa [rd_T26] using hl2
                  rw [hrd] at c1'
                  have hlen' : (ts.length : Int) = (m : Int) + 1 := by omega
                  have fz : wr.frozen? ⟨g0, m * 2 + 1, none⟩ = false := blk_frozen hcells _
                  have hset : Aside0 (ts.set m ⟨(ts.getD m z26).f0, (t : Int) + 1⟩ = termsTo f g (t + 1)) := ⟨by rw [hst, hm, Nat.add_sub_cancel]⟩
                  have HT2 := Aside0.mk (fun (nq : Nat) => TS_store (hT.out.below (pw_below_drewN (n := nq) (Below.refl _ _))) m (by omega) ((t : Int) + 1))
                  rw [hm, hset.out] at HT2
                  have HL : Aside0 ((termsTo f g (t + 1)).length ≤ t + 1) := ⟨termsTo_length f g (t + 1)⟩
                  clear hst hts hl2 hl1 c0' hrd hcells
                  go_wp2
                  go_quiet (fail)
                  go_wp2
                  go_roundw
                  case rel => exact ⟨t + 1, _, by omega, by simp, ⟨rfl⟩, HL.out, ⟨by have h1 := (HT2.out nq).1; have e : (termsTo f g (t + 1)).length = m + 1 := (by rw [← hset.out, List.length_set, hm]); rw [hm]; exact h1⟩, ⟨(pw_below_drewN hB.out nq).trans (HT2.out nq).2⟩⟩
                  case measure => simp [intOf]; omega
                · rw [if_neg hl] at hst
                  have HL : Aside0 ((termsTo f g (t + 1)).length ≤ t + 1) := ⟨termsTo_length f g (t + 1)⟩
                  have HST := Aside0.mk hst.symm
                  clear hst hts
                  have hBs := hB.out.size
                  by_cases hl1 : 0 < ts.length
                  · have hl2 : (ts.getD (ts.length - 1) z26).f1 ≠ (t : Int) := fun e => hl ⟨hl1, e⟩
                    obtain ⟨g0, cap, rfl, hg0, _, cells0, hcells⟩ := Kd.R_form hT.out.2 hl1
                    obtain ⟨m, hm⟩ : ∃ m, ts.length = m + 1 := ⟨ts.length - 1, by omega⟩
                    obtain ⟨ad2, e2, c0', c1'⟩ := at_T26 (Kd.R_reads' hT.out.2).2.2 ((m : Nat) : Int) (by omega) (by omega)
                    cases e2
                    simp only [Int.toNat_natCast, add_plain, Nat.zero_add] at c0' c1'
                    rw [hm, Nat.add_sub_cancel] at hl2
                    have hrd : (rd_T26 ts (m : Int)).f1 = (ts.getD m z26).f1 := by simp [rd_T26]
                    rw [hrd] at c1'
                    have hne : ((ts.getD m z26).f1 == (t : Int)) = false := beq_eq_false_iff_ne.2 hl2
                    generalize (ts.getD m z26).f1 = lst at c1' hne hl2
                    have hlen' : (ts.length : Int) = (m : Int) + 1 := by omega
                    have HT2 := Aside0.mk (fun (nq : Nat) => hT.out.below (pw_below_drewN (Below.refl _ _) nq))
                    have HB2' := Aside0.mk (fun (nq : Nat) => pw_below_drewN hB.out nq)
                    have HM := Aside0.mk hm
                    have HTL := Aside0.mk (And.intro htl ht)
                    clear hl hl1 hl2 c0' hrd hcells
                    go_wp2
                    go_quiet (fail)
                    go_wp2_with ((with_reducible refine gate_builtin (b := .append) (xs := #[.tmp 77, .tmp 82]) rfl ?_); refine TS_append (ts := ts) 77 82 (by rfl) (by rfl) (by first | rfl | (rw [HM.out]; rfl)) (by rfl) (by simp) (HT2.out nq) (HB2'.out nq) (by simpa using hBs) (by have := HTL.out; omega) ?_; intro v7 w7 ho7 hb7; have HO7 := Aside0.mk ho7; have HB7 := Aside0.mk hb7; clear ho7 hb7)
                    go_roundw
                    case rel => exact ⟨t + 1, _, by omega, by simp, HST, by have := HL.out; rw [← HST.out] at this; exact this, HO7, HB7⟩
                    case measure => simp [intOf]; omega
                  · have h0 : ts = [] := List.eq_nil_of_length_eq_zero (by omega)
                    subst h0
                    obtain ⟨A5, c5, rfl⟩ := Kd.R_slice hT.out.2
                    have HT2 := Aside0.mk (fun (nq : Nat) => hT.out.below (pw_below_drewN (Below.refl _ _) nq))
                    have HB2' := Aside0.mk (fun (nq : Nat) => pw_below_drewN hB.out nq)
                    simp only [List.length_nil] at HT2 ⊢
                    clear hl hl1
                    go_wp2
                    go_quiet (fail)
                    go_wp2_with ((with_reducible refine gate_builtin (b := .append) (xs := #[.tmp 77, .tmp 82]) rfl ?_); refine TS_append (ts := []) 77 82 (by rfl) (by rfl) (by rfl) (by rfl) (by simp) (HT2.out nq) (HB2'.out nq) (by simpa using hBs) (by simp) ?_; intro v7 w7 ho7 hb7; have HO7 := Aside0.mk ho7; have HB7 := Aside0.mk hb7; clear ho7 hb7)
                    go_roundw
                    case rel => exact ⟨t + 1, _, by omega, by simp, HST, by have := HL.out; rw [← HST.out] at this; exact this, HO7, HB7⟩
                    case measure => simp [intOf]; omega
            · obtain rfl : t = 1024 := by omega
              have HE := Aside0.mk (show TS wr w2.heap.size u6 acc u14 ts from ⟨by
                  have h1 := Kd.S_elder' hSx4.out (v := u14) (fun k hk => Kd.R_base hT.out.2 k hk) hB.out
                  exact Kd.S_mono h1 (fun k hk => hk.2), Kd.R_lower hT.out.2 hBx4.out.size⟩)
              have HB9 := Aside0.mk (hBx4.out.trans (hB.out.mono hBx4.out.size))
              have hbK2 : wr.heap[Kx]? = some (.cells #[.int .i64 x.f0, .int .i64 x.f1, .int .i64 x.f2] 24 (0, 0)) := (hB.out.block Kx (Array.getElem?_eq_some_iff.1 HPQ.out.2.2).1).trans HPQ.out.2.2
              have k0 : wr.cell? ⟨Kx, 0, none⟩ = some (.int .i64 x.f0) := by rw [cell_of_row wr Kx 0 _ 24 (0, 0) hbK2]; rfl
              have k1 : wr.cell? ⟨Kx, 1, none⟩ = some (.int .i64 x.f1) := by rw [cell_of_row wr Kx 1 _ 24 (0, 0) hbK2]; rfl
              have k2 : wr.cell? ⟨Kx, 2, none⟩ = some (.int .i64 x.f2) := by rw [cell_of_row wr Kx 2 _ 24 (0, 0) hbK2]; rfl
              obtain ⟨A6, c6, rfl⟩ := Kd.R_slice hT.out.2
              by_cases hz : 0 < ts.length
              · have hnx : Aside0 ((K.take (k + 1)).filterMap (chgOne l0 bef aft) = acc ++ [⟨x, ts⟩]) := ⟨by rw [hacc2.out, HCh.out, ← hts.out, if_neg (by intro e; rw [e] at hz; simp at hz)]; rfl⟩
                have HA := Aside0.mk (And.intro hal hk)
                have HKl := Aside0.mk (And.intro hKlen hlt)
                clear hbK2 hT hB hal
                go_wp2_with ((with_reducible refine gate_builtin (b := .append) (xs := #[.tmp 88, .tmp 92]) rfl ?_); refine S_append57 (key := x) (ts := ts) 88 92 (by rfl) (by rfl) (by rfl) (by rfl) (by simp) HE.out HB9.out HB9.out.size (by have := HA.out; have := HKl.out; omega) ?_; intro v8 w8 ho8 hb8; have HO8 := Aside0.mk ho8; have HB8 := Aside0.mk hb8; clear ho8 hb8)
                refine noGoto_normal ?_
                go_wp2
                go_roundw
                case rel => exact ⟨k + 1, acc ++ [⟨x, ts⟩], by have := HKl.out; omega, by simp, ⟨hnx.out.symm⟩, by have := HA.out; simp; omega, HO8, HB8⟩
                case measure => have := HKl.out; simp [intOf]; omega
              · have hz0 : ts = [] := List.eq_nil_of_length_eq_zero (by omega)
                have hnx : Aside0 ((K.take (k + 1)).filterMap (chgOne l0 bef aft) = acc) := ⟨by rw [hacc2.out, HCh.out, ← hts.out, if_pos hz0]; simp⟩
                subst hz0
                have HA := Aside0.mk (And.intro hal hk)
                have HKl := Aside0.mk (And.intro hKlen hlt)
                simp only [List.length_nil]
                clear hbK2 hT hB hal hz
                go_wp2
                refine noGoto_normal ?_
                go_wp2
                go_roundw
                case rel => exact ⟨k + 1, acc, by have := HKl.out; omega, by simp, ⟨hnx.out.symm⟩, by have := HA.out; omega, ⟨Kd.S_mono HE.out.1 (fun _ _ => trivial)⟩, HB9⟩
                case measure => have := HKl.out; simp [intOf]; omega
        · obtain rfl : k = K.length := by omega
          rw [List.take_length] at hacc
          have HE := Aside0.mk (And.intro (Kd.S_lower hS.out HB2.out.size) (HB2.out.trans (hB.out.mono HB2.out.size)))
          clear hS hB
          go_wp2
          go_ret
          exact ⟨_, rfl, by rw [HKc.out, ← hacc.out]; exact HE.out.1, HE.out.2⟩
theorem facts_Changed.calls (A0 : Option Addr) (c0 : Nat) (l0 : List (S28)) (a1 : Int) (a2 : Int) (r : List (S57)) (w : World) (hr0 : Kd.C k28 w A0 l0.length l0) (hc0 : l0.length ≤ c0) (h : facts_Changed.f l0 a1 a2 = some r) :
    Calls Try.prog 24 #[.slice A0 l0.length c0, .int .i64 a1, .int .i64 a2] w fun e w' => ∃ v0_ : Value, e = .returned (v0_) ∧ Kd.S k57 57 w' w.heap.size (fun _ => True) v0_ r ∧ Below w.heap.size w w' := by
  unfold facts_Changed.f at h
  by_cases hw : l0.length ≤ 1099511627776 ∧ l0.all (fun x => wfK x.f0) = true
  · rw [if_pos hw] at h
    have h2 := Option.some.inj h
    have := changed_calls A0 c0 l0 a1 a2 w hr0 hc0 hw.1 (fun x hx => List.all_eq_true.1 hw.2 x hx)
    rw [h2] at this
    exact this
  · rw [if_neg hw] at h; cases h
end Go.Proofs.Ytamajnhdibcpiaa.G
namespace Go.Proofs.Ytamajnhdibcpiaa.G
open Go.RowKit Go.Shelf Go.Proofs.YtamajnhdibcpiaaW.PrintWords Go.Proofs.YtamajnhdibcpiaaW.PrintLast Go.Proofs.YtamajnhdibcpiaaW.PrintMore
set_option linter.unusedVariables false
set_option linter.unusedSimpArgs false
/-- Where p first holds. -/
theorem idxM_spec (p : S28 → Bool) (l : List S28) : ∀ s : Nat, l.any p = true → ∃ i : Nat, idxM p l s = ((s + i : Nat) : Int) ∧ i < l.length ∧ (l.take (i + 1)).filter (fun x => !p x) = l.take i := by
  induction l with
  | nil => intro s h; simp at h
  | cons x r ih =>
    intro s h
    by_cases hx : p x = true
    · exact ⟨0, by simp [idxM, hx], by simp, by simp [hx]⟩
    · simp only [Bool.not_eq_true] at hx
      simp only [List.any_cons, hx, Bool.false_or] at h
      obtain ⟨i, h1, h2, h3⟩ := ih (s + 1) h
      refine ⟨i + 1, ?_, by simp; omega, ?_⟩
      · simp only [idxM, hx]
        have : ((s : Int) + 1) = ((s + 1 : Nat) : Int) := by omega
        simp only [Bool.false_eq_true, if_false, this, h1]
        omega
      · simp only [List.take_succ_cons, List.filter_cons, hx, Bool.not_false, if_true, h3]
theorem filter_none (p : S28 → Bool) (l : List S28) (h : l.any p = false) : l.filter (fun x => !p x) = l := by
  rw [List.filter_eq_self]
  intro x hx
  have := List.any_eq_false.1 h x hx
  simpa using this
theorem own_beyond {W : World} {base : Nat} {g n cap m : Nat} {xs : List S28} (h : Kd.R k28 28 W base (fun _ => True) (.slice (some ⟨g, 0, none⟩) n cap) xs) (vs : List Value) (hm : m ≤ n) (hf : m * 8 + vs.length ≤ cap * 8) :
    Kd.R k28 28 (W.setCells g (m * 8) vs) base (fun _ => True) (.slice (some ⟨g, 0, none⟩) m cap) (xs.take m) := by
  obtain ⟨h0, inner, ho, hr⟩ := Kd.R_take h (m := m) (by have := (Kd.R_reads' h).1; omega)
  refine ⟨h0, inner, ?_, hr.imp_ (fun x cs hp => by have := k28_openM hp; subst this; exact k28_mkM _ _ _ x)⟩
  have hl : (xs.take m).length = m := by have := (Kd.R_reads' h).1; rw [List.length_take]; omega
  rw [hl] at ho ⊢
  rcases ho.2 with ⟨e, _⟩ | ⟨g', cap', cur, e, h1, h2, h3, h4, h5, h6⟩
  · cases e
  · cases e
    obtain ⟨cur', k1, k2, k3⟩ := setCells_row vs (m * 8) W cur h2 (by rw [h5]; exact hf)
    refine ⟨ho.1, .inr ⟨_, _, cur', rfl, h1, k1, h3, h4, by rw [k2, h5], ?_⟩⟩
    rw [k3, ← h6]
    have hsz : m * 8 ≤ cur.toList.length := by rw [Array.length_toList, h5]; show m * 8 ≤ cap * 8; omega
    show List.take (m * 8) _ = List.take (m * 8) _
    rw [List.append_assoc, List.take_append_of_le_length (by rw [List.length_take]; omega), List.take_take, Nat.min_self]
theorem below_setCells {base : Nat} {w W : World} (h : Below base w W) (g : Nat) (hg : base ≤ g) (o : Nat) (vs : List Value) : Below base w (W.setCells g o vs) := by
  obtain ⟨a, b, c, d⟩ := setCells_same g vs o W
  exact h.trans ⟨a, b, c, by rw [d]; exact Nat.le_refl _, fun k hk => setCells_far vs o k (by omega)⟩
/-- 'clear' over the last elements of a row. -/
theorem run_clear28 (W : World) (g m n cap c : Nat) (cur : Array Value) (hh : W.heap[g]? = some (.cells cur 28 (0, 0))) (hc : cur.size = cap * 8) (hn : m + (n + 1) ≤ cap) :
    ∀ ty, (Builtin.clear_ #[22] ty #[.slice (some ⟨g, m * 8, none⟩) (n + 1) c]).run Try.prog W = .ok (.tuple #[]) (W.setCells g (m * 8) (Builtin.zeroCells #[.int .i64 0, .int .i64 0, .int .i64 0, .int .i64 0, .int .i64 0, .int .i64 0, .int .i64 0, .int .i64 0] (n + 1)).toList) := by
  intro ty
  have hz : ∀ W : World, (zeroValue 28).run Try.prog W = .ok (.agg #[.int .i64 0, .int .i64 0, .int .i64 0, .int .i64 0, .int .i64 0, .int .i64 0, .int .i64 0, .int .i64 0]) W := fun W => by kernel_rfl
  have hlen : (Builtin.zeroCells #[.int .i64 0, .int .i64 0, .int .i64 0, .int .i64 0, .int .i64 0, .int .i64 0, .int .i64 0, .int .i64 0] (n + 1)).toList.length = (n + 1) * 8 := by simp [Builtin.zeroCells]
  have hst := run_storeCells_cells (P := Try.prog) g (m * 8) (Builtin.zeroCells #[.int .i64 0, .int .i64 0, .int .i64 0, .int .i64 0, .int .i64 0, .int .i64 0, .int .i64 0, .int .i64 0] (n + 1)).toList 0 W
    (fun j hj => by rw [cell_of_row W g _ cur 28 (0, 0) hh]; simp; rw [hlen] at hj; omega) (fun j _ => blk_frozen hh _)
    (fun v hv => by
      simp only [Builtin.zeroCells, Array.toList_map, List.mem_map] at hv
      obtain ⟨i, _, rfl⟩ := hv
      have hq : i % 8 < 8 := by omega
      show (#[Value.int .i64 0, Value.int .i64 0, Value.int .i64 0, Value.int .i64 0, Value.int .i64 0, Value.int .i64 0, Value.int .i64 0, Value.int .i64 0][i % 8]!).oneCell' = true
      generalize i % 8 = q at hq
      match q, hq with
      | 0, _ => rfl
      | 1, _ => rfl
      | 2, _ => rfl
      | 3, _ => rfl
      | 4, _ => rfl
      | 5, _ => rfl
      | 6, _ => rfl
      | 7, _ => rfl)
  simp only [Nat.add_zero] at hst
  unfold Builtin.clear_
  simp [run_underlying Try.underlying22, hz, Value.cells, hst]
theorem getD_of_drop {l m : List S28} {j : Nat} (h : l.drop j = m.drop j) (hj : j < m.length) (hl : l.length = m.length) : l.getD j z28 = m[j] := by
  have h1 : (l.drop j)[0]? = (m.drop j)[0]? := by rw [h]
  rw [List.getElem?_drop, List.getElem?_drop] at h1
  simp only [Nat.add_zero] at h1
  rw [List.getElem?_eq_getElem hj] at h1
  rw [List.getD_eq_getElem?_getD, h1]
  rfl
section
variable {P : Program} {ops : Array Oper} {rest : List Oper} {o : Oper} {a : Act} {Q : Exit → Act → World → Prop}
/-- 's[i] = x' into a row of one's own. -/
theorem store28 {w0 W : World} {base g n cap i : Nat} {zs : List S28} {x : S28} (p q : Tmp) (ho : o.op = .store 28 (.tmp p) (.tmp q)) (hN : o.dst = none) (hgd : o.guard = none)
    (haddr : a.eval (.tmp p) = .pointer (some ⟨g, i * 8, none⟩)) (hx : a.eval (.tmp q) = .agg #[.int .i64 x.f0.f0, .int .i64 x.f0.f1, .int .i64 x.f0.f2, .int .i64 x.f1, .int .i64 x.f2.f0, .int .i64 x.f2.f1, .int .i64 x.f3, .int .i64 x.f4])
    (HO : Kd.R k28 28 W base (fun _ => True) (.slice (some ⟨g, 0, none⟩) n cap) zs) (hi : i < n) (HB : Below base w0 W)
    (h : ∀ w1, Kd.R k28 28 w1 base (fun _ => True) (.slice (some ⟨g, 0, none⟩) n cap) (zs.set i x) → Below base w0 w1 → wpList Try.prog ops Q rest a w1) : wpList Try.prog ops Q (o :: rest) a W := by
  have hC := (Kd.R_reads' HO)
  have hn := hC.1
  obtain ⟨ad2, had2, e0, e1, e2, e3, e4, e5, e6, e7⟩ := at28 hC.2.2 (k := i) (by omega)
  cases had2
  simp only [add_plain] at e0 e1 e2 e3 e4 e5 e6 e7
  have hs : k28.sz = 8 := rfl
  refine Kd.R_store k28 (w0 := w0) base hN hgd 28 (.tmp p) (.tmp q) ho 28 (g := g) (n := n) (cap := cap) (o' := i * 8) (i : Int) 0 zs x (.agg #[.int .i64 x.f0.f0, .int .i64 x.f0.f1, .int .i64 x.f0.f2, .int .i64 x.f1, .int .i64 x.f2.f0, .int .i64 x.f2.f1, .int .i64 x.f3, .int .i64 x.f4]) [.int .i64 x.f0.f0, .int .i64 x.f0.f1, .int .i64 x.f0.f2, .int .i64 x.f1, .int .i64 x.f2.f0, .int .i64 x.f2.f1, .int .i64 x.f3, .int .i64 x.f4] [.int .i64 (zs.getD i z28).f0.f0, .int .i64 (zs.getD i z28).f0.f1, .int .i64 (zs.getD i z28).f0.f2, .int .i64 (zs.getD i z28).f1, .int .i64 (zs.getD i z28).f2.f0, .int .i64 (zs.getD i z28).f2.f1, .int .i64 (zs.getD i z28).f3, .int .i64 (zs.getD i z28).f4] (fun _ => True) (fun _ => False) haddr ?_ hx rfl (by kernel_rfl) ?_ HO (by omega) (by omega) ?_ ?_ ?_ ?_ (fun _ h => h.elim) HB ?_
  · rw [hs]; simp
  · intro q hq
    simp at hq
    rcases hq with rfl | rfl | rfl | rfl | rfl | rfl | rfl | rfl <;> rfl
  · rw [hs]; rfl
  · intro q u hq
    simp only [hs, Int.toNat_natCast]
    match q, hq with
    | 0, hq => cases hq; exact e0
    | 1, hq => cases hq; exact e1
    | 2, hq => cases hq; exact e2
    | 3, hq => cases hq; exact e3
    | 4, hq => cases hq; exact e4
    | 5, hq => cases hq; exact e5
    | 6, hq => cases hq; exact e6
    | 7, hq => cases hq; exact e7
    | (q + 8), hq => simp at hq
  · rw [hs]; simp
  · exact k28_mkM _ _ _ x
  · intro w1 h1 h2 _
    exact h w1 (by simpa using h1) h2
end
set_option maxRecDepth 100000 in
set_option maxHeartbeats 4000000 in
theorem delete_late (b0 : Nat) (p : S28 → Bool) (v : Value) (xs : List S28) (base : Nat) (w : World) (ho : Kd.R k28 28 w base (fun _ => True) v xs) (hbw : base ≤ w.heap.size)
    (hp : ∀ (W : World) (x : S28), Below base w W → Calls Try.prog 48 #[ev28 x, .pointer (some ⟨b0, 0, none⟩)] W fun e w' => e = .returned (.bool (p x)) ∧ Below W.heap.size W w') :
    Calls Try.prog 46 #[v, .func (.func 48) #[] #[.pointer (some ⟨b0, 0, none⟩)]] w fun e w' => ∃ v', e = .returned v' ∧ Kd.R k28 28 w' base (fun _ => True) v' (xs.filter fun x => !p x) ∧ Below base w w' := by
  obtain ⟨A, cap, rfl, hcap, hC⟩ := Kd.R_reads ho
  have HI := Aside0.mk (index_late b0 p A cap xs w hC (fun W x hb => hp W x (hb.mono hbw)))
  have HP := Aside0.mk hp
  clear hp
  have hlen : xs.length ≤ 9223372036854775807 := hC.2.1
  have hu28 := Try.underlying28
  cases ha : xs.any p with
  | false =>
    have hm : Aside0 (idxM p xs 0 = -1) := ⟨(idxM_from p xs 0 (by omega)).2 ha⟩
    have hf : Aside0 (xs.filter (fun x => !p x) = xs) := ⟨filter_none p xs ha⟩
    clear ha
    go_enter Try.func46, Try.ntmps46
    go_wp2_with (go_at_call 52; refine HI.out.mono ?_; rintro e w1 ⟨rfl, hb1⟩; rw [hm.out])
    go_ret
    exact ⟨_, rfl, by rw [hf.out]; exact Kd.R_below ho hb1, hb1.mono hbw⟩
  | true =>
    obtain ⟨i0, hi0, hi1, hi2⟩ := idxM_spec p xs 0 ha
    have hm : Aside0 (idxM p xs 0 = (i0 : Int)) := ⟨by rw [show (0 : Int) = ((0 : Nat) : Int) from rfl, hi0]; simp⟩
    clear ha hi0
    obtain ⟨ad, rfl, _⟩ := hC.2.2 (by omega)
    obtain ⟨g, hg⟩ : ∃ g, ad = ⟨g, 0, none⟩ := by
      obtain ⟨_, inner, hown, _⟩ := ho
      rcases hown.2 with ⟨e, _⟩ | ⟨g, _, _, e, _⟩
      · cases e
      · cases e; exact ⟨g, rfl⟩
    subst hg
    clear hC
    have hne : ((i0 : Int) == -1) = false := by rw [beq_eq_false_iff_ne]; omega
    have hgb : base ≤ g := Kd.R_base ho g (by simp [Value.ownBlock])
    go_enter Try.func46, Try.ntmps46
    go_wp2_with (go_at_call 52; refine HI.out.mono ?_; rintro e w1 ⟨rfl, hb1⟩; rw [hm.out])
    have hB1 := hb1.mono hbw
    have ho1 := Kd.R_below ho hb1
    clear HI hm hb1 ho hne
    go_loopw [5, 6] (fun vi vj wr => ∃ (i j : Nat) (zs : List S28), vi = .int .i64 i ∧ vj = .int .i64 j ∧ i + 1 ≤ j ∧ j ≤ xs.length ∧ Aside0 (zs.length = xs.length ∧ zs.take i = (xs.take j).filter (fun x => !p x) ∧ zs.drop j = xs.drop j) ∧
        Aside0 (Kd.R k28 28 wr base (fun _ => True) (.slice (some ⟨g, 0, none⟩) xs.length cap) zs) ∧ Below base w wr)
      (fun _ vj _ => xs.length - (intOf vj).toNat)
    case atStart => exact ⟨i0, i0 + 1, xs, rfl, by simp, by omega, by omega, ⟨rfl, hi2.symm, rfl⟩, ⟨ho1⟩, hB1⟩
    case round =>
      obtain ⟨i, j, zs, rfl, rfl, hij, hj, hz, hO, hB⟩ := hrel
      by_cases hlt : j < xs.length
      · have hzj : zs.getD j z28 = xs[j] := getD_of_drop hz.out.2.2 hlt hz.out.1
        have hzl := hz.out.1
        obtain ⟨ad, had, g0, g1, g2, g3, g4, g5, g6, g7⟩ := at28 (Kd.R_reads' hO.out).2.2 (k := j) (by omega)
        rw [hzj] at g0 g1 g2 g3 g4 g5 g6 g7
        cases had
        simp only [add_plain] at g0 g1 g2 g3 g4 g5 g6 g7
        have hbs := Nat.le_trans hbw hB.size
        have hO2 : Kd.R k28 28 wr base (fun _ => True) (.slice (some ⟨g, 0, none⟩) xs.length cap) zs := hO.out
        have hB2 := hB.alloc hbs (.cells #[.int .i64 xs[j].f0.f0, .int .i64 xs[j].f0.f1, .int .i64 xs[j].f0.f2, .int .i64 xs[j].f1, .int .i64 xs[j].f2.f0, .int .i64 xs[j].f2.f1, .int .i64 xs[j].f3, .int .i64 xs[j].f4] 28)
        have hcl := Aside0.mk (HP.out (wr.alloc (.cells #[.int .i64 xs[j].f0.f0, .int .i64 xs[j].f0.f1, .int .i64 xs[j].f0.f2, .int .i64 xs[j].f1, .int .i64 xs[j].f2.f0, .int .i64 xs[j].f2.f1, .int .i64 xs[j].f3, .int .i64 xs[j].f4] 28)) xs[j] hB2)
        have hHold : Aside0 (Kd.R k28 28 wr base (fun _ => True) (.slice (some ⟨g, 0, none⟩) xs.length cap) zs) := ⟨hO2⟩
        have hZ := hz
        clear hO2 hO hz hzj
        have htk : Aside0 (xs.take (j + 1) = xs.take j ++ [xs[j]]) := ⟨List.take_succ_eq_append_getElem hlt⟩
        cases hv : p xs[j] with
        | true =>
          have hv2 : Aside0 (p xs[j] = true) := ⟨hv⟩
          clear hv
          go_wp2_with fail
          refine hcl.out.mono ?_
          rintro e w2 ⟨rfl, hb2⟩
          rw [hv2.out]
          go_wp2_with fail
          go_roundw
          case rel =>
            refine ⟨i, j + 1, zs, rfl, by simp, by omega, by omega, ⟨hZ.out.1, ?_, ?_⟩, ⟨Kd.R_below (Kd.R_alloc hHold.out _) hb2⟩, hB2.trans (hb2.mono (by simp; omega))⟩
            · rw [hZ.out.2.1, htk.out, List.filter_append]; simp [hv2.out]
            · rw [← List.drop_drop, hZ.out.2.2, List.drop_drop]
          case measure => simp [intOf]; omega
        | false =>
          have hv2 : Aside0 (p xs[j] = false) := ⟨hv⟩
          clear hv
          obtain ⟨ad2, had2, e0, e1, e2, e3, e4, e5, e6, e7⟩ := at28 (Kd.R_reads' hHold.out).2.2 (k := i) (by omega)
          cases had2
          simp only [add_plain] at e0 e1 e2 e3 e4 e5 e6 e7
          clear e0 e1 e2 e3 e4 e5 e6 e7
          go_wp2_with fail
          refine hcl.out.mono ?_
          rintro e w2 ⟨rfl, hb2⟩
          rw [hv2.out]
          have hbx := (hb2.block _ (by simp)).trans (World.alloc_heap_new wr (.cells #[.int .i64 xs[j].f0.f0, .int .i64 xs[j].f0.f1, .int .i64 xs[j].f0.f2, .int .i64 xs[j].f1, .int .i64 xs[j].f2.f0, .int .i64 xs[j].f2.f1, .int .i64 xs[j].f3, .int .i64 xs[j].f4] 28))
          have y0 : w2.cell? ⟨wr.heap.size, 0, none⟩ = some (.int .i64 xs[j].f0.f0) := by simp [World.cell?, hbx]
          have y1 : w2.cell? ⟨wr.heap.size, 1, none⟩ = some (.int .i64 xs[j].f0.f1) := by simp [World.cell?, hbx]
          have y2 : w2.cell? ⟨wr.heap.size, 2, none⟩ = some (.int .i64 xs[j].f0.f2) := by simp [World.cell?, hbx]
          have y3 : w2.cell? ⟨wr.heap.size, 3, none⟩ = some (.int .i64 xs[j].f1) := by simp [World.cell?, hbx]
          have y4 : w2.cell? ⟨wr.heap.size, 4, none⟩ = some (.int .i64 xs[j].f2.f0) := by simp [World.cell?, hbx]
          have y5 : w2.cell? ⟨wr.heap.size, 5, none⟩ = some (.int .i64 xs[j].f2.f1) := by simp [World.cell?, hbx]
          have y6 : w2.cell? ⟨wr.heap.size, 6, none⟩ = some (.int .i64 xs[j].f3) := by simp [World.cell?, hbx]
          have y7 : w2.cell? ⟨wr.heap.size, 7, none⟩ = some (.int .i64 xs[j].f4) := by simp [World.cell?, hbx]
          have hB4 := hB2.trans (hb2.mono (by simp; omega))
          have hO4 := Aside0.mk (Kd.R_below (Kd.R_alloc hHold.out (.cells #[.int .i64 xs[j].f0.f0, .int .i64 xs[j].f0.f1, .int .i64 xs[j].f0.f2, .int .i64 xs[j].f1, .int .i64 xs[j].f2.f0, .int .i64 xs[j].f2.f1, .int .i64 xs[j].f3, .int .i64 xs[j].f4] 28)) hb2)
          clear hb2 hbx hHold
          go_wp2_with ((with_reducible refine gate_store (t := 28) (p := 33) (v := .tmp 32) rfl ?_); refine store28 (w0 := w) (x := xs[j]) 33 32 (by rfl) (by rfl) (by rfl) (by rfl) (by rfl) hO4.out (by omega) hB4 ?_; intro w3 ho3 hb3; have HO3 := Aside0.mk ho3; clear ho3)
          go_roundw
          case rel =>
            refine ⟨i + 1, j + 1, zs.set i xs[j], by simp, by simp, by omega, by omega, ⟨by rw [List.length_set]; exact hZ.out.1, ?_, ?_⟩, HO3, hb3⟩
            · rw [htk.out, List.filter_append, ← hZ.out.2.1, List.take_succ_eq_append_getElem (by rw [List.length_set]; omega), List.take_set_of_le (by omega)]
              simp [hv2.out]
            · rw [List.drop_set_of_lt (by omega), ← List.drop_drop, hZ.out.2.2, List.drop_drop]
          case measure => simp [intOf]; omega
      · have hje : Aside0 (j = xs.length) := ⟨by omega⟩
        have hilt : i < xs.length := by omega
        have hsl := cut_from (P := Try.prog) 22 28 .i64 Try.underlying22 (i := (Try.prog.info? 28).get!) (by kernel_rfl) 8 (by kernel_rfl) (some ⟨g, 0, none⟩) xs.length cap (i : Int) (by omega) (by omega)
        rw [Int.toNat_natCast, if_neg (by omega)] at hsl
        simp only [Option.map_some, add_plain] at hsl
        have hto := cut_to (P := Try.prog) 22 28 .i64 Try.underlying22 (i := (Try.prog.info? 28).get!) (by kernel_rfl) (some ⟨g, 0, none⟩) xs.length cap (i : Int) (by omega) (by omega) hcap
        rw [Int.toNat_natCast] at hto
        obtain ⟨cur, hh, hcs⟩ : ∃ cur, wr.heap[g]? = some (.cells cur 28 (0, 0)) ∧ cur.size = cap * 8 := by
          obtain ⟨_, inner, hown, _⟩ := hO.out
          rcases hown.2 with ⟨e, _⟩ | ⟨g', cap', cur, e, h1, h2, h3, h4, h5, h6⟩
          · cases e
          · injection e with ea _ ec
            injection ea with ea
            injection ea with eb
            subst eb; subst ec
            exact ⟨cur, h2, h5⟩
        have hclr := run_clear28 wr g i (xs.length - i - 1) cap (cap - i) cur hh hcs (by omega)
        rw [show xs.length - i - 1 + 1 = xs.length - i by omega] at hclr
        have hfin := own_beyond hO.out (Builtin.zeroCells #[.int .i64 0, .int .i64 0, .int .i64 0, .int .i64 0, .int .i64 0, .int .i64 0, .int .i64 0, .int .i64 0] (xs.length - i)).toList (m := i) (by omega) (by simp [Builtin.zeroCells]; omega)
        have hbe := below_setCells hB g hgb (i * 8) (Builtin.zeroCells #[.int .i64 0, .int .i64 0, .int .i64 0, .int .i64 0, .int .i64 0, .int .i64 0, .int .i64 0, .int .i64 0] (xs.length - i)).toList
        rw [hz.out.2.1, hje.out, List.take_length] at hfin
        generalize (Builtin.zeroCells #[.int .i64 0, .int .i64 0, .int .i64 0, .int .i64 0, .int .i64 0, .int .i64 0, .int .i64 0, .int .i64 0] (xs.length - i)).toList = Z at hclr hfin hbe
        have HF := Aside0.mk (And.intro hfin hbe)
        clear hfin hbe hO hz hh hcs
        go_wp2
        go_ret
        exact ⟨_, rfl, HF.out.1, HF.out.2⟩
end Go.Proofs.Ytamajnhdibcpiaa.G
namespace Go.Proofs.Ytamajnhdibcpiaa.G
open Go.RowKit Go.Shelf Go.Proofs.YtamajnhdibcpiaaW.PrintWords Go.Proofs.YtamajnhdibcpiaaW.PrintLast Go.Proofs.YtamajnhdibcpiaaW.PrintMore
set_option linter.unusedVariables false
set_option linter.unusedSimpArgs false
def lateB (known : Int) (x : S28) : Bool := decide (known < x.f3)
def uptoM (l : List S28) (known : Int) : List S28 := l.filter fun x => !lateB known x
def facts_Upto.f (l0 : List S28) (a1 : Int) : Option (List S28) := if l0.length ≤ 1000 then some (uptoM l0 a1) else none
set_option maxHeartbeats 1000000 in
theorem late_calls (known : Int) (b1 : Nat) (x : S28) (W : World) (h1 : W.cell? ⟨b1, 0, none⟩ = some (.int .i64 known)) (l1 : b1 < W.heap.size) :
    Calls Try.prog 48 #[ev28 x, .pointer (some ⟨b1, 0, none⟩)] W fun e w' => e = .returned (.bool (lateB known x)) ∧ Below W.heap.size W w' := by
  have hu28 := Try.underlying28
  simp only [ev28]
  go_enter Try.func48, Try.ntmps48
  go_wp2
  go_ret
  exact ⟨rfl, (Below.refl _ _).alloc (Nat.le_refl _) _⟩
set_option maxHeartbeats 2000000 in
theorem facts_Upto.calls (A0 : Option Addr) (c0 : Nat) (l0 : List (S28)) (a1 : Int) (r : List S28) (w : World) (hr0 : Kd.C k28 w A0 l0.length l0) (hc0 : l0.length ≤ c0) (h : facts_Upto.f l0 a1 = some r) :
    Calls Try.prog 28 #[.slice A0 l0.length c0, .int .i64 a1] w fun e w' => ∃ v0_ : Value, e = .returned v0_ ∧ Kd.R k28 28 w' w.heap.size (fun _ => True) v0_ r ∧ Below w.heap.size w w' := by
  unfold facts_Upto.f at h
  by_cases hn : l0.length ≤ 1000
  · rw [if_pos hn] at h
    obtain rfl := Option.some.inj h
    have hu28 := Try.underlying28
    have hBox : Below w.heap.size w (w.alloc (.cells #[.int .i64 a1] 3)) := (Below.refl _ w).alloc (Nat.le_refl _) _
    go_enter Try.func28, Try.ntmps28
    go_wp2_with fail
    refine (clone_calls A0 c0 l0 _ (Kd.C_below hr0 hBox) (by omega)).mono ?_
    rintro e w2 ⟨v2, rfl, ho2, hb2⟩
    have q1 : w2.cell? ⟨w.heap.size, 0, none⟩ = some (.int .i64 a1) := (hb2.cell (p := ⟨w.heap.size, 0, none⟩) (by simp)).trans (by simp)
    have hs2 := hb2.size
    simp only [World.size_alloc] at hs2
    go_wp2_with fail
    refine (delete_late _ (lateB a1) v2 l0 (w.heap.size + 1) w2 (by simpa using ho2) hs2 (fun W x hW => 
      late_calls a1 _ x W ((hW.cell (p := ⟨w.heap.size, 0, none⟩) (by simp)).trans q1) (by have := hW.size; omega))).mono ?_
    rintro e w3 ⟨v3, rfl, ho3, hb3⟩
    go_wp2_with fail
    go_ret
    exact ⟨_, rfl, Kd.R_lower ho3 (by omega), hBox.trans ((hb2.mono (by simp)).trans (hb3.mono (by omega)))⟩
  · rw [if_neg hn] at h
    cases h
end Go.Proofs.Ytamajnhdibcpiaa.G
