/- slices.Clone and slices.DeleteFunc at lists of meetings: a copy of one's own; the elements at which the predicate does not hold, in order. -/
import Derived.Test.YtlcckkimbkfjpaaGindex
import Derived.Lib.SliceRun
namespace Go.Proofs.Ytlcckkimbkfjpaa.G
open Go.RowKit Go.Shelf Go.Proofs.YtlcckkimbkfjpaaW.PrintWords Go.Proofs.YtlcckkimbkfjpaaW.PrintLast Go.Proofs.YtlcckkimbkfjpaaW.PrintMore
set_option linter.unusedVariables false

set_option maxRecDepth 100000 in
set_option maxHeartbeats 2000000 in
theorem clone_calls (A0 : Option Addr) (c0 : Nat) (l0 : List S38) (w : World) (hr0 : Kd.C k38 w A0 l0.length l0) (hsz : l0.length * 40 ≤ 140737488355328) :
    Calls Try.prog 22 #[.slice A0 l0.length c0] w fun e w' => ∃ v, e = .returned v ∧ Kd.R k38 38 w' w.heap.size (fun _ => True) v l0 ∧ Below w.heap.size w w' := by
  cases A0 with
  | none =>
    have h0 : l0 = [] := by
      rcases Nat.eq_zero_or_pos l0.length with h | h
      · exact List.eq_nil_of_length_eq_zero h
      · obtain ⟨_, e, _⟩ := hr0.2.2 h; cases e
    subst h0
    have hq := fun (W : World) => Lib.run_eql_slice_nil (P := Try.prog) W 22 38 none 0 c0 0 0 Try.underlying22
    simp only [List.length_nil]
    go_enter Try.func22, Try.ntmps22
    go_wp2
    go_ret
    exact ⟨_, rfl, Kd.R_nil _ _ _ _ _, Below.refl _ _⟩
  | some ad =>
    have hq := fun (W : World) => Lib.run_eql_slice_nil (P := Try.prog) W 22 38 (some ad) l0.length c0 0 0 Try.underlying22
    have HR := Aside0.mk hr0
    clear hr0
    go_enter Try.func22, Try.ntmps22
    go_wp2_with (first | ((with_reducible refine gate_dst (N := 5) rfl ?_); refine Kd.R_lit k38 w.heap.size 38 ?hg (N := 5) ?hd (xs := ([] : List S38)) (inner := []) (ok := fun _ => True) (okp := fun _ => True) ?hr ?hp (fun _ hk => hk) trivial (Below.refl _ _) (Nat.le_refl _) (by simp) ?_; (case hd => rfl); (case hg => rfl); (case hr => first | (go_simp; done) | (go_simp; rfl)); (case hp => exact Reps.none _ _); intro v1 w1 ho1 hb1 hg1 hnew1; clear hg1 hnew1; have HO1 := Aside0.mk ho1; have HB1 := Aside0.mk hb1; clear ho1 hb1) | ((with_reducible refine gate_builtin (b := .append) (xs := #[.tmp 5, .tmp 6]) rfl ?_); at_builtin; refine Kd.R_append_rows k38 (w0 := w) w.heap.size rfl (.tmp 5) (.tmp 6) 22 38 (.agg #[(.int .i64 0), (.int .i64 0), (.int .i64 0), (.int .i64 0), (.int .i64 0)]) 40 rfl Try.underlying22 info38 rfl (by decide) (by omega) v1 [] l0 _ _ _ (fun _ => True) (fun _ => False) rfl rfl ?aO ?aR (fun _ _ h => h) (fun _ h => h.elim) (fun _ _ => trivial) ?aB ?aS ?aL ?_; (case aR => exact Kd.C_below HR.out HB1.out); (case aB => exact HB1.out); (case aO => exact HO1.out); (case aS => exact HB1.out.size); (case aL => simp; omega); intro v2 w2 ho2 hb2 hg2 hat2; clear hg2 hat2; simp only [List.nil_append] at ho2; have HO2 := Aside0.mk ho2; have HB2 := Aside0.mk hb2; clear ho2 hb2))
    go_ret
    exact ⟨_, rfl, HO2.out, HB2.out⟩

/-- Where p first holds. -/
theorem idxM_spec (p : S38 → Bool) (l : List S38) : ∀ s : Nat, l.any p = true → ∃ i : Nat, idxM p l s = ((s + i : Nat) : Int) ∧ i < l.length ∧ (l.take (i + 1)).filter (fun x => !p x) = l.take i := by
  induction l with
  | nil => intro s h; simp at h
  | cons x r ih =>
    intro s h
    by_cases hx : p x = true
    · exact ⟨0, by simp [idxM, hx], by simp, by simp [hx]⟩
    · simp only [Bool.not_eq_true] at hx
      simp only [List.any_cons, hx, Bool.false_or] at h
      obtain ⟨i, h1, h2, h3⟩ := ih (s + 1) h
      refine ⟨i + 1, ?_, by simp; omega, ?_⟩
      · simp only [idxM, hx]
        have : ((s : Int) + 1) = ((s + 1 : Nat) : Int) := by omega
        simp only [Bool.false_eq_true, if_false, this, h1]
        omega
      · simp only [List.take_succ_cons, List.filter_cons, hx, Bool.not_false, if_true, h3]
theorem filter_none (p : S38 → Bool) (l : List S38) (h : l.any p = false) : l.filter (fun x => !p x) = l := by
  rw [List.filter_eq_self]
  intro x hx
  have := List.any_eq_false.1 h x hx
  simpa using this
theorem own_beyond {W : World} {base : Nat} {g n cap m : Nat} {xs : List S38} (h : Kd.R k38 38 W base (fun _ => True) (.slice (some ⟨g, 0, none⟩) n cap) xs) (vs : List Value) (hm : m ≤ n) (hf : m * 5 + vs.length ≤ cap * 5) :
    Kd.R k38 38 (W.setCells g (m * 5) vs) base (fun _ => True) (.slice (some ⟨g, 0, none⟩) m cap) (xs.take m) := by
  obtain ⟨h0, inner, ho, hr⟩ := Kd.R_take h (m := m) (by have := (Kd.R_reads' h).1; omega)
  refine ⟨h0, inner, ?_, hr.imp_ (fun x cs hp => by have := k38_openM hp; subst this; exact k38_mkM _ _ _ x)⟩
  have hl : (xs.take m).length = m := by have := (Kd.R_reads' h).1; rw [List.length_take]; omega
  rw [hl] at ho ⊢
  rcases ho.2 with ⟨e, _⟩ | ⟨g', cap', cur, e, h1, h2, h3, h4, h5, h6⟩
  · cases e
  · cases e
    obtain ⟨cur', k1, k2, k3⟩ := setCells_row vs (m * 5) W cur h2 (by rw [h5]; exact hf)
    refine ⟨ho.1, .inr ⟨_, _, cur', rfl, h1, k1, h3, h4, by rw [k2, h5], ?_⟩⟩
    rw [k3, ← h6]
    have hsz : m * 5 ≤ cur.toList.length := by rw [Array.length_toList, h5]; show m * 5 ≤ cap * 5; omega
    show List.take (m * 5) _ = List.take (m * 5) _
    rw [List.append_assoc, List.take_append_of_le_length (by rw [List.length_take]; omega), List.take_take, Nat.min_self]
theorem below_setCells {base : Nat} {w W : World} (h : Below base w W) (g : Nat) (hg : base ≤ g) (o : Nat) (vs : List Value) : Below base w (W.setCells g o vs) := by
  obtain ⟨a, b, c, d⟩ := setCells_same g vs o W
  exact h.trans ⟨a, b, c, by rw [d]; exact Nat.le_refl _, fun k hk => setCells_far vs o k (by omega)⟩
/-- 'clear' over the last elements of a row. -/
theorem run_clear38 (W : World) (g m n cap c : Nat) (cur : Array Value) (hh : W.heap[g]? = some (.cells cur 38 (0, 0))) (hc : cur.size = cap * 5) (hn : m + (n + 1) ≤ cap) :
    ∀ ty, (Builtin.clear_ #[22] ty #[.slice (some ⟨g, m * 5, none⟩) (n + 1) c]).run Try.prog W = .ok (.tuple #[]) (W.setCells g (m * 5) (Builtin.zeroCells #[.int .i64 0, .int .i64 0, .int .i64 0, .int .i64 0, .int .i64 0] (n + 1)).toList) := by
  intro ty
  have hz : ∀ W : World, (zeroValue 38).run Try.prog W = .ok (.agg #[.int .i64 0, .int .i64 0, .int .i64 0, .int .i64 0, .int .i64 0]) W := fun W => by kernel_rfl
  have hlen : (Builtin.zeroCells #[.int .i64 0, .int .i64 0, .int .i64 0, .int .i64 0, .int .i64 0] (n + 1)).toList.length = (n + 1) * 5 := by simp [Builtin.zeroCells]
  have hst := run_storeCells_cells (P := Try.prog) g (m * 5) (Builtin.zeroCells #[.int .i64 0, .int .i64 0, .int .i64 0, .int .i64 0, .int .i64 0] (n + 1)).toList 0 W
    (fun j hj => by rw [cell_of_row W g _ cur 38 (0, 0) hh]; simp; rw [hlen] at hj; omega) (fun j _ => blk_frozen hh _)
    (fun v hv => by
      simp only [Builtin.zeroCells, Array.toList_map, List.mem_map] at hv
      obtain ⟨i, _, rfl⟩ := hv
      have hq : i % 5 < 5 := by omega
      show (#[Value.int .i64 0, Value.int .i64 0, Value.int .i64 0, Value.int .i64 0, Value.int .i64 0][i % 5]!).oneCell' = true
      generalize i % 5 = q at hq
      match q, hq with
      | 0, _ => rfl
      | 1, _ => rfl
      | 2, _ => rfl
      | 3, _ => rfl
      | 4, _ => rfl)
  simp only [Nat.add_zero] at hst
  unfold Builtin.clear_
  simp [run_underlying Try.underlying22, hz, Value.cells, hst]

theorem getD_of_drop {l m : List S38} {j : Nat} (h : l.drop j = m.drop j) (hj : j < m.length) (hl : l.length = m.length) : l.getD j z38 = m[j] := by
  have h1 : (l.drop j)[0]? = (m.drop j)[0]? := by rw [h]
  rw [List.getElem?_drop, List.getElem?_drop] at h1
  simp only [Nat.add_zero] at h1
  rw [List.getElem?_eq_getElem hj] at h1
  rw [List.getD_eq_getElem?_getD, h1]
  rfl

section
variable {P : Program} {ops : Array Oper} {rest : List Oper} {o : Oper} {a : Act} {Q : Exit → Act → World → Prop}
/-- 's[i] = x' into a row of one's own. -/
theorem store38 {w0 W : World} {base g n cap i : Nat} {zs : List S38} {x : S38} (p q : Tmp) (ho : o.op = .store 38 (.tmp p) (.tmp q)) (hN : o.dst = none) (hgd : o.guard = none)
    (haddr : a.eval (.tmp p) = .pointer (some ⟨g, i * 5, none⟩)) (hx : a.eval (.tmp q) = .agg #[.int .i64 x.f0, .int .i64 x.f1, .int .i64 x.f2, .int .i64 x.f3, .int .i64 x.f4])
    (HO : Kd.R k38 38 W base (fun _ => True) (.slice (some ⟨g, 0, none⟩) n cap) zs) (hi : i < n) (HB : Below base w0 W)
    (h : ∀ w1, Kd.R k38 38 w1 base (fun _ => True) (.slice (some ⟨g, 0, none⟩) n cap) (zs.set i x) → Below base w0 w1 → wpList Try.prog ops Q rest a w1) : wpList Try.prog ops Q (o :: rest) a W := by
  have hC := (Kd.R_reads' HO)
  have hn := hC.1
  obtain ⟨ad2, had2, e0, e1, e2, e3, e4⟩ := at38 hC.2.2 (k := i) (by omega)
  cases had2
  simp only [add_plain] at e0 e1 e2 e3 e4
  have hs : k38.sz = 5 := rfl
  refine Kd.R_store k38 (w0 := w0) base hN hgd 38 (.tmp p) (.tmp q) ho 38 (g := g) (n := n) (cap := cap) (o' := i * 5) (i : Int) 0 zs x (.agg #[.int .i64 x.f0, .int .i64 x.f1, .int .i64 x.f2, .int .i64 x.f3, .int .i64 x.f4]) [.int .i64 x.f0, .int .i64 x.f1, .int .i64 x.f2, .int .i64 x.f3, .int .i64 x.f4] [.int .i64 (zs.getD i z38).f0, .int .i64 (zs.getD i z38).f1, .int .i64 (zs.getD i z38).f2, .int .i64 (zs.getD i z38).f3, .int .i64 (zs.getD i z38).f4] (fun _ => True) (fun _ => False) haddr ?_ hx rfl (by kernel_rfl) ?_ HO (by omega) (by omega) ?_ ?_ ?_ ?_ (fun _ h => h.elim) HB ?_
  · rw [hs]; simp
  · intro q hq
    simp at hq
    rcases hq with rfl | rfl | rfl | rfl | rfl <;> rfl
  · rw [hs]; rfl
  · intro q u hq
    simp only [hs, Int.toNat_natCast]
    match q, hq with
    | 0, hq => cases hq; exact e0
    | 1, hq => cases hq; exact e1
    | 2, hq => cases hq; exact e2
    | 3, hq => cases hq; exact e3
    | 4, hq => cases hq; exact e4
    | (q + 5), hq => simp at hq
  · rw [hs]; simp
  · exact k38_mkM _ _ _ x
  · intro w1 h1 h2 _
    exact h w1 (by simpa using h1) h2
end

end Go.Proofs.Ytlcckkimbkfjpaa.G
