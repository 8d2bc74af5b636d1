/- Plain laws of the meetings' functions: equality of spans, minutes, cover, validity. -/
import Derived.Test.YtlcckkimbkfjpaaGx3
import Derived.Test.YtlcckkimbkfjpaaGx4
import Derived.Test.YtlcckkimbkfjpaaGx11
namespace Go.Proofs.Ytlcckkimbkfjpaa.G
open Go.RowKit Go.Proofs.YtlcckkimbkfjpaaW.PrintWords Go.Proofs.YtlcckkimbkfjpaaW.PrintLast Go.Proofs.YtlcckkimbkfjpaaW.PrintMore
set_option linter.unusedVariables false
set_option linter.unusedSimpArgs false
theorem w64 {i : Int} (h0 : -9223372036854775808 ≤ i) (h : i ≤ 9223372036854775807) : wrap64 i = i := by unfold wrap64; omega
theorem S42_ext {a b : S42} (h0 : a.f0 = b.f0) (h1 : a.f1 = b.f1) : a = b := by cases a; cases b; simp at h0 h1; simp [h0, h1]
theorem S38_ext {a b : S38} (h0 : a.f0 = b.f0) (h1 : a.f1 = b.f1) (h2 : a.f2 = b.f2) (h3 : a.f3 = b.f3) (h4 : a.f4 = b.f4) : a = b := by cases a; cases b; simp at h0 h1 h2 h3 h4; simp [h0, h1, h2, h3, h4]
theorem same_from (a b : List S42) (hl : a.length = b.length) (hn : a.length ≤ 1000000) : ∀ (k i : Nat), i ≤ a.length → a.length - i < k → ∃ r, sizarref22_SameSpans.l0 k a b i = some r ∧ (r = true ↔ a.drop i = b.drop i) := by
  intro k
  induction k with
  | zero => intro i _ h; omega
  | succ k ih =>
    intro i hi hk
    simp only [sizarref22_SameSpans.l0]
    by_cases h : i < a.length
    · have hb : i < b.length := by omega
      rw [if_pos (by omega), if_pos (by omega), if_pos (by omega)]
      have e1 : rd_T42 a i = a[i] := by simp [rd_T42, h]
      have e2 : rd_T42 b i = b[i] := by simp [rd_T42, hb]
      rw [e1, e2, w64 (by omega) (by omega), show ((i : Int) + 1) = ((i + 1 : Nat) : Int) by omega]
      rw [List.drop_eq_getElem_cons h, List.drop_eq_getElem_cons hb]
      by_cases he : a[i] = b[i]
      · rw [he, if_neg (by simp)]
        obtain ⟨r, h1, h2⟩ := ih (i + 1) (by omega) (by omega)
        exact ⟨r, h1, by rw [h2]; exact ⟨fun h => by rw [h], fun h => (List.cons.inj h).2⟩⟩
      · refine ⟨false, ?_, ⟨fun h => (by cases h), fun h => absurd (List.cons.inj h).1 he⟩⟩
        rw [if_pos]
        by_cases h0 : a[i].f0 = b[i].f0
        · have : ¬ a[i].f1 = b[i].f1 := fun h1 => he (S42_ext h0 h1)
          simp [h0, this]
        · simp [h0]
    · exact ⟨true, by rw [if_neg (by omega)], by simp [List.drop_of_length_le (show a.length ≤ i by omega), List.drop_of_length_le (show b.length ≤ i by omega)]⟩
theorem same_f (a b : List S42) (hn : a.length ≤ 1000000) (k : Nat) (hk : a.length < k) : ∃ r, sizarref22_SameSpans.f k a b = some r ∧ (r = true ↔ a = b) := by
  unfold sizarref22_SameSpans.f
  by_cases hl : a.length = b.length
  · rw [if_pos (by omega)]
    have := same_from a b hl hn k 0 (by omega) (by omega)
    simpa using this
  · rw [if_neg (by omega)]
    exact ⟨false, rfl, by simp; intro h; exact hl (by rw [h])⟩

/-- The minutes of all meetings in all weeks. -/
def minM (l : List S38) : Int := (l.map fun m => (m.f2 - m.f1) * (m.f4 - m.f3 + 1)).sum
theorem vld_iff {x : S38} : vldB x = true ↔ (0 ≤ x.f0 ∧ x.f0 < 7 ∧ 0 ≤ x.f1 ∧ x.f1 < x.f2 ∧ x.f2 ≤ 1440 ∧ 0 ≤ x.f3 ∧ x.f3 ≤ x.f4 ∧ x.f4 < 60) := by unfold vldB; rw [decide_eq_true_eq]
theorem one_bound {x : S38} (h : vldB x = true) : 0 ≤ (x.f2 - x.f1) * (x.f4 - x.f3 + 1) ∧ (x.f2 - x.f1) * (x.f4 - x.f3 + 1) ≤ 86400 := by
  have := vld_iff.1 h
  have h1 : 0 ≤ x.f2 - x.f1 := by omega
  have h2 : 0 ≤ x.f4 - x.f3 + 1 := by omega
  refine ⟨Int.mul_nonneg h1 h2, ?_⟩
  have := Int.mul_le_mul (show x.f2 - x.f1 ≤ 1440 by omega) (show x.f4 - x.f3 + 1 ≤ 60 by omega) h2 (by omega)
  omega
theorem minM_bound (l : List S38) (h : l.all vldB = true) : 0 ≤ minM l ∧ minM l ≤ 86400 * l.length := by
  induction l with
  | nil => simp [minM]
  | cons x r ih =>
    simp only [List.all_cons, Bool.and_eq_true] at h
    have := ih h.2
    have := one_bound h.1
    simp only [minM, List.map_cons, List.sum_cons, List.length_cons] at *
    omega
theorem minM_append (a b : List S38) : minM (a ++ b) = minM a + minM b := by simp [minM, List.sum_append]
theorem minutes_from (l : List S38) (hv : l.all vldB = true) (hn : l.length ≤ 1000) : ∀ (k i : Nat), i ≤ l.length → l.length - i < k → meeting_Minutes.l0 k (minM (l.take i)) l (l.length : Int) i = some (minM l, 0) := by
  intro k
  induction k with
  | zero => intro i _ h; omega
  | succ k ih =>
    intro i hi hk
    simp only [meeting_Minutes.l0]
    by_cases h : i < l.length
    · rw [if_pos (by omega), if_pos (by omega), if_pos (by omega)]
      have e1 : rd_T38 l i = l[i] := by simp [rd_T38, h]
      have hx : vldB l[i] = true := List.all_eq_true.1 hv _ (List.getElem_mem h)
      have hb := one_bound hx
      have hx' := vld_iff.1 hx
      have hall : ∀ j, (l.take j).all vldB = true := fun j => List.all_eq_true.2 fun y hy => List.all_eq_true.1 hv y (List.mem_of_mem_take hy)
      have ht := minM_bound (l.take i) (hall i)
      have htl : (l.take i).length ≤ 1000 := by rw [List.length_take]; omega
      rw [e1, w64 (i := l[i].f2 - l[i].f1) (by omega) (by omega), w64 (i := l[i].f4 - l[i].f3) (by omega) (by omega), w64 (i := l[i].f4 - l[i].f3 + 1) (by omega) (by omega), w64 (i := (l[i].f2 - l[i].f1) * (l[i].f4 - l[i].f3 + 1)) (by omega) (by omega), w64 (i := minM (l.take i) + _) (by omega) (by omega), w64 (i := (i : Int) + 1) (by omega) (by omega)]
      have hs : minM (l.take i) + (l[i].f2 - l[i].f1) * (l[i].f4 - l[i].f3 + 1) = minM (l.take (i + 1)) := by
        rw [List.take_succ_eq_append_getElem h, minM_append]; simp [minM]
      rw [hs, show ((i : Int) + 1) = ((i + 1 : Nat) : Int) by omega]
      exact ih (i + 1) (by omega) (by omega)
    · rw [if_neg (by omega), List.take_of_length_le (by omega)]
theorem checkM_zero {l : List S38} (h : checkM l = 0) : l.length ≤ 16 ∧ l.all vldB = true ∧ (pairsOf l).any (fun p => ovlB p.1 p.2) = false := by
  unfold checkM at h
  by_cases h1 : 16 < l.length
  · rw [if_pos h1] at h; omega
  · rw [if_neg h1] at h
    cases h2 : l.all vldB with
    | false => rw [if_pos h2] at h; omega
    | true =>
      rw [if_neg (by rw [h2]; simp)] at h
      cases h3 : (pairsOf l).any (fun p => ovlB p.1 p.2) with
      | true => rw [if_pos h3] at h; omega
      | false => exact ⟨by omega, rfl, rfl⟩
theorem checkM_or (l : List S38) : checkM l = 0 ∨ checkM l = 220 := by
  unfold checkM
  repeat' split
  all_goals omega
theorem minutes_f (l : List S38) (k : Nat) (hk : 17 ≤ k) : meeting_Minutes.f k l = some (if checkM l = 0 then (minM l, 0) else (0, checkM l)) := by
  simp only [meeting_Minutes.f, meeting_Check.f, Option.bind_some]
  by_cases h : checkM l = 0
  · obtain ⟨h1, h2, _⟩ := checkM_zero h
    rw [if_pos h, if_pos h]
    have := minutes_from l h2 (by omega) k 0 (by omega) (by omega)
    simpa [minM] using this
  · rw [if_neg h, if_neg h]
/-- A meeting covers a minute. -/
def covB (day week t : Int) (m : S38) : Bool := decide (m.f0 = day ∧ m.f3 ≤ week ∧ week ≤ m.f4 ∧ m.f1 ≤ t ∧ t < m.f2)

theorem covered_from (l : List S38) (d w t : Int) (hn : l.length ≤ 1000000) : ∀ (k i : Nat), i ≤ l.length → l.length - i < k → sizarlaw22_covered.l0 k d w t l (l.length : Int) i = some ((l.drop i).any (covB d w t)) := by
  intro k
  induction k with
  | zero => intro i _ h; omega
  | succ k ih =>
    intro i hi hk
    simp only [sizarlaw22_covered.l0]
    by_cases h : i < l.length
    · rw [if_pos (by omega), if_pos (by omega), if_pos (by omega)]
      have e1 : rd_T38 l i = l[i] := by simp [rd_T38, h]
      rw [e1, w64 (by omega) (by omega), show ((i : Int) + 1) = ((i + 1 : Nat) : Int) by omega, ih (i + 1) (by omega) (by omega), List.drop_eq_getElem_cons h, List.any_cons]
      unfold covB
      generalize (l.drop (i + 1)).any _ = q
      by_cases c1 : l[i].f0 = d
      · by_cases c2 : l[i].f3 ≤ w
        · by_cases c3 : w ≤ l[i].f4
          · by_cases c4 : l[i].f1 ≤ t
            · by_cases c5 : t < l[i].f2
              · simp [c1, c2, c3, c4, c5]
              · simp [c1, c2, c3, c4, c5]
            · simp [c1, c2, c3, c4]
          · simp [c1, c2, c3]
        · simp [c1, c2]
      · simp [c1]
    · rw [if_neg (by omega), List.drop_of_length_le (by omega)]; rfl
theorem covered_f (l : List S38) (d w t : Int) (hn : l.length ≤ 1000000) (k : Nat) (hk : l.length < k) : sizarlaw22_covered.f k l d w t = some (l.any (covB d w t)) := by
  have := covered_from l d w t hn k 0 (by omega) (by omega)
  simpa [sizarlaw22_covered.f] using this

/-! ### overlaps, pairs -/
theorem ovl_iff {x y : S38} : ovlB x y = true ↔ (x.f0 = y.f0 ∧ mx x.f1 y.f1 < mn x.f2 y.f2 ∧ mx x.f3 y.f3 ≤ mn x.f4 y.f4) := by unfold ovlB; rw [decide_eq_true_eq]
theorem mx_iff (a b : Int) : mx a b = max a b := by unfold mx; omega
theorem mn_iff (a b : Int) : mn a b = min a b := by unfold mn; omega
theorem ovl_symm (x y : S38) : ovlB x y = ovlB y x := by
  rw [Bool.eq_iff_iff, ovl_iff, ovl_iff, mx_iff, mn_iff, mx_iff, mn_iff, mx_iff, mn_iff, mx_iff, mn_iff]
  omega
theorem ovl_self {x : S38} (h : vldB x = true) : ovlB x x = true := by
  have := vld_iff.1 h
  rw [ovl_iff, mx_iff, mn_iff, mx_iff, mn_iff]
  omega
/-- Two valid meetings overlap just where both cover the minute and week at which the later one begins. -/
theorem ovl_cover {x y : S38} (d w t : Int) (hx : covB d w t x = true) (hy : covB d w t y = true) : ovlB x y = true := by
  unfold covB at hx hy
  rw [decide_eq_true_eq] at hx hy
  rw [ovl_iff, mx_iff, mn_iff, mx_iff, mn_iff]
  omega
theorem pairsTo_mem {l : List S38} {p : S38 × S38} : ∀ {k : Nat}, k ≤ l.length → (p ∈ pairsTo l k ↔ ∃ (i j : Nat) (h : j < l.length) (hij : i < j), i < k ∧ p.1 = l[i]'(by omega) ∧ p.2 = l[j]) := by
  intro k
  induction k with
  | zero => intro _; simp [pairsTo]
  | succ k ih =>
    intro hk
    simp only [pairsTo, List.mem_append, ih (by omega), List.mem_map]
    have hx : l.getD k z38 = l[k]'(by omega) := by simp [show k < l.length by omega]
    rw [hx]
    constructor
    · rintro (⟨i, j, h, h1, h2, h3, h4⟩ | ⟨y, hy, rfl⟩)
      · exact ⟨i, j, h, h1, by omega, h3, h4⟩
      · obtain ⟨m, hm, rfl⟩ := List.mem_iff_getElem.1 hy
        rw [List.length_drop] at hm
        exact ⟨k, k + 1 + m, by omega, by omega, by omega, rfl, by simp⟩
    · rintro ⟨i, j, h, h1, h2, h3, h4⟩
      by_cases e : i < k
      · exact .inl ⟨i, j, h, h1, e, h3, h4⟩
      · obtain rfl : i = k := by omega
        refine .inr ⟨l[j], ?_, ?_⟩
        · exact List.mem_iff_getElem.2 ⟨j - (i + 1), by rw [List.length_drop]; omega, by simp [show i + 1 + (j - (i + 1)) = j by omega]⟩
        · rw [← h3, ← h4]
theorem pairsOf_any (l : List S38) : (pairsOf l).any (fun p => ovlB p.1 p.2) = false ↔ l.Pairwise (fun x y => ovlB x y = false) := by
  rw [List.any_eq_false, List.pairwise_iff_getElem]
  constructor
  · intro h i j hi hj hij
    have := h (l[i], l[j]) ((pairsTo_mem (Nat.le_refl _)).2 ⟨i, j, hj, hij, hi, rfl, rfl⟩)
    simpa using this
  · intro h p hp
    obtain ⟨i, j, hj, hij, hi, h1, h2⟩ := (pairsTo_mem (Nat.le_refl _)).1 hp
    rw [h1, h2, h i j hi hj hij]
    simp
/-- Valid lists. -/
def Good (l : List S38) : Prop := l.length ≤ 16 ∧ (∀ x ∈ l, vldB x = true) ∧ l.Pairwise (fun x y => ovlB x y = false)
theorem good_iff (l : List S38) : checkM l = 0 ↔ Good l := by
  constructor
  · intro h
    obtain ⟨h1, h2, h3⟩ := checkM_zero h
    exact ⟨h1, List.all_eq_true.1 h2, (pairsOf_any l).1 h3⟩
  · rintro ⟨h1, h2, h3⟩
    unfold checkM
    rw [if_neg (by omega), if_neg (by rw [List.all_eq_true.2 h2]; simp), if_neg (by rw [(pairsOf_any l).2 h3]; simp)]
/-- Two lists clash. -/
def clash (a b : List S38) : Bool := a.any fun m => b.any (ovlB m)
theorem clash_symm (a b : List S38) : clash a b = clash b a := by
  unfold clash
  rw [Bool.eq_iff_iff]
  simp only [List.any_eq_true]
  constructor
  · rintro ⟨x, hx, y, hy, h⟩; exact ⟨y, hy, x, hx, by rw [ovl_symm]; exact h⟩
  · rintro ⟨x, hx, y, hy, h⟩; exact ⟨y, hy, x, hx, by rw [ovl_symm]; exact h⟩
end Go.Proofs.Ytlcckkimbkfjpaa.G
