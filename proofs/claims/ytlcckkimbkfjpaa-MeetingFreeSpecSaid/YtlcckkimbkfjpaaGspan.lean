/- Plain laws of the free spans of one day. -/
import Derived.Test.YtlcckkimbkfjpaaGpure
import Derived.Test.YtlcckkimbkfjpaaGfree
namespace Go.Proofs.Ytlcckkimbkfjpaa.G
open Go.RowKit Go.Proofs.YtlcckkimbkfjpaaW.PrintWords Go.Proofs.YtlcckkimbkfjpaaW.PrintLast Go.Proofs.YtlcckkimbkfjpaaW.PrintMore
set_option linter.unusedVariables false
set_option linter.unusedSimpArgs false
/-- The gaps from a minute on. -/
def gaps (frm : Int) : List S38 → List S42
  | [] => if frm < 1440 then [⟨frm, 1440⟩] else []
  | m :: r => if frm < m.f1 then ⟨frm, m.f1⟩ :: gaps m.f2 r else gaps m.f2 r
def fin (p : List S42 × Int) : List S42 := if p.2 < 1440 then p.1 ++ [⟨p.2, 1440⟩] else p.1
theorem fin_mk (acc : List S42) (frm : Int) : fin (acc, frm) = if frm < 1440 then acc ++ [⟨frm, 1440⟩] else acc := rfl
theorem spansGo_gaps : ∀ (r : List S38) (frm : Int) (acc : List S42), fin (spansGo frm acc r) = acc ++ gaps frm r
  | [], frm, acc => by
    rw [spansGo, fin_mk, gaps]; split <;> simp
  | m :: r, frm, acc => by
    rw [spansGo, gaps, spansGo_gaps r]
    split <;> simp
theorem spansM_gaps (r : List S38) : spansM r = gaps 0 r := by
  have := spansGo_gaps r 0 []
  rw [List.nil_append] at this
  exact this
/-- One day's meetings, in order. -/
def Ord (frm : Int) : List S38 → Prop
  | [] => frm ≤ 1440
  | m :: r => frm ≤ m.f1 ∧ m.f1 < m.f2 ∧ m.f2 ≤ 1440 ∧ Ord m.f2 r
/-- Spans that grow and do not touch. -/
def ChainOk (last : Int) : List S42 → Prop
  | [] => True
  | s :: t => last < s.f0 ∧ 0 ≤ s.f0 ∧ s.f0 < s.f1 ∧ s.f1 ≤ 1440 ∧ ChainOk s.f1 t
theorem gaps_chain : ∀ (r : List S38) (frm last : Int), last < frm → 0 ≤ frm → Ord frm r → ChainOk last (gaps frm r)
  | [], frm, last, h1, h2, h3 => by
    simp only [gaps]
    split
    · exact ⟨h1, h2, by assumption, Int.le_refl _, trivial⟩
    · trivial
  | m :: r, frm, last, h1, h2, ⟨h3, h4, h5, h6⟩ => by
    simp only [gaps]
    split
    · exact ⟨h1, h2, by assumption, by simp only; omega, gaps_chain r _ _ h4 (by omega) h6⟩
    · exact gaps_chain r _ _ (by omega) (by omega) h6
def covS (t : Int) (s : S42) : Bool := decide (s.f0 ≤ t ∧ t < s.f1)
def covT (t : Int) (m : S38) : Bool := decide (m.f1 ≤ t ∧ t < m.f2)
theorem gaps_ge : ∀ (r : List S38) (frm : Int), Ord frm r → ∀ s ∈ gaps frm r, frm ≤ s.f0
  | [], frm, h, s, hs => by
    simp only [gaps] at hs
    split at hs
    · simp at hs; subst hs; exact Int.le_refl _
    · simp at hs
  | m :: r, frm, ⟨h3, h4, h5, h6⟩, s, hs => by
    simp only [gaps] at hs
    split at hs
    · rcases List.mem_cons.1 hs with rfl | hs
      · exact Int.le_refl _
      · have := gaps_ge r _ h6 s hs; omega
    · have := gaps_ge r _ h6 s hs; omega
theorem ord_ge : ∀ (r : List S38) (frm : Int), Ord frm r → ∀ m ∈ r, frm ≤ m.f1
  | [], _, _, _, h => by simp at h
  | m :: r, frm, ⟨h3, h4, h5, h6⟩, s, hs => by
    rcases List.mem_cons.1 hs with rfl | hs
    · exact h3
    · have := ord_ge r _ h6 s hs; omega
theorem ord_le : ∀ (r : List S38) (frm : Int), Ord frm r → frm ≤ 1440
  | [], _, h => h
  | m :: r, frm, ⟨h3, h4, h5, h6⟩ => by omega
theorem gaps_cov : ∀ (r : List S38) (frm t : Int), Ord frm r → frm ≤ t → t < 1440 → (gaps frm r).any (covS t) = !(r.any (covT t))
  | [], frm, t, h, h1, h2 => by
    simp only [gaps]
    rw [if_pos (by omega)]
    simp [covS, h1, h2]
  | m :: r, frm, t, ⟨h3, h4, h5, h6⟩, h1, h2 => by
    simp only [gaps, List.any_cons]
    by_cases hm : t < m.f2
    · have e1 : (gaps m.f2 r).any (covS t) = false := by
        rw [List.any_eq_false]
        intro s hs
        have := gaps_ge r _ h6 s hs
        simp [covS]; omega
      have e2 : r.any (covT t) = false := by
        rw [List.any_eq_false]
        intro s hs
        have := ord_ge r _ h6 s hs
        simp [covT]; omega
      rw [e2]
      split
      · simp only [List.any_cons, e1, covS, covT, Bool.or_false]
        rw [Bool.eq_iff_iff]
        simp
        omega
      · rw [e1]
        simp [covT]
        omega
    · have e3 : covT t m = false := by simp [covT]; omega
      rw [e3, Bool.false_or, ← gaps_cov r _ t h6 (by omega) h2]
      split
      · have : covS t ⟨frm, m.f1⟩ = false := by simp [covS]; omega
        rw [List.any_cons, this, Bool.false_or]
      · rfl
/-- The sum of the lengths. -/
def lenS (l : List S42) : Int := (l.map fun s => s.f1 - s.f0).sum
def lenT (l : List S38) : Int := (l.map fun m => m.f2 - m.f1).sum
theorem gaps_len : ∀ (r : List S38) (frm : Int), Ord frm r → lenS (gaps frm r) + lenT r = 1440 - frm
  | [], frm, h => by
    simp only [gaps]
    have : frm ≤ 1440 := h
    split <;> simp [lenS, lenT] <;> omega
  | m :: r, frm, ⟨h3, h4, h5, h6⟩ => by
    have ih := gaps_len r _ h6
    simp only [gaps]
    split <;> simp only [lenS, lenT, List.map_cons, List.sum_cons] at * <;> omega
theorem off_iff {d w : Int} {x : S38} : (!offB d w x) = true ↔ (x.f0 = d ∧ x.f3 ≤ w ∧ w ≤ x.f4) := by
  simp only [offB, Bool.not_eq_true', decide_eq_false_iff_not]; omega
theorem ord_of : ∀ (r : List S38) (frm : Int), frm ≤ 1440 → (∀ x ∈ r, frm ≤ x.f1 ∧ x.f1 < x.f2 ∧ x.f2 ≤ 1440) → r.Pairwise (fun x y => x.f2 ≤ y.f1) → Ord frm r
  | [], _, h, _, _ => h
  | m :: r, frm, h, h1, h2 => by
    have hm := h1 m (by simp)
    rw [List.pairwise_cons] at h2
    exact ⟨hm.1, hm.2.1, hm.2.2, ord_of r _ hm.2.2 (fun x hx => ⟨h2.1 x hx, (h1 x (by simp [hx])).2⟩) h2.2⟩
theorem today_ord {l : List S38} (h : Good l) (d w : Int) : Ord 0 (todayM l d w) := by
  obtain ⟨_, hv, hp⟩ := h
  obtain ⟨hperm, hsort⟩ := sortM_spec (l.filter fun x => !offB d w x)
  have hmem : ∀ x ∈ todayM l d w, x ∈ l ∧ x.f0 = d ∧ x.f3 ≤ w ∧ w ≤ x.f4 := by
    intro x hx
    have := hperm.mem_iff.1 hx
    rw [List.mem_filter] at this
    exact ⟨this.1, off_iff.1 this.2⟩
  have hp2 : (todayM l d w).Pairwise (fun x y => ovlB x y = false) := by
    refine (hperm.pairwise_iff ?_).2 (hp.filter _)
    intro x y hxy
    rw [ovl_symm]; exact hxy
  refine ord_of _ _ (by omega) (fun x hx => ?_) ?_
  · have := vld_iff.1 (hv x (hmem x hx).1)
    omega
  · have hs : (todayM l d w).Pairwise (fun x y => x.f1 ≤ y.f1) := hsort
    refine (List.Pairwise.and_mem.1 (hs.and hp2)).imp ?_
    rintro x y ⟨hx, hy, h1, h2⟩
    have hvx := vld_iff.1 (hv x (hmem x hx).1)
    have hvy := vld_iff.1 (hv y (hmem y hy).1)
    have ⟨_, a1, a2, a3⟩ := hmem x hx
    have ⟨_, b1, b2, b3⟩ := hmem y hy
    have h3 : ¬ (ovlB x y = true) := by rw [h2]; simp
    rw [ovl_iff, mx_iff, mn_iff, mx_iff, mn_iff] at h3
    omega
theorem today_cov (l : List S38) (d w t : Int) : (todayM l d w).any (covT t) = l.any (covB d w t) := by
  obtain ⟨hperm, _⟩ := sortM_spec (l.filter fun x => !offB d w x)
  rw [Bool.eq_iff_iff]
  simp only [List.any_eq_true]
  constructor
  · rintro ⟨x, hx, hc⟩
    have := hperm.mem_iff.1 hx
    rw [List.mem_filter] at this
    have h2 := off_iff.1 this.2
    simp only [covT, decide_eq_true_eq] at hc
    exact ⟨x, this.1, by simp only [covB, decide_eq_true_eq]; omega⟩
  · rintro ⟨x, hx, hc⟩
    simp only [covB, decide_eq_true_eq] at hc
    exact ⟨x, hperm.mem_iff.2 (by rw [List.mem_filter]; exact ⟨hx, off_iff.2 (by omega)⟩), by simp only [covT, decide_eq_true_eq]; omega⟩
theorem sum_perm {a b : List Int} (h : a.Perm b) : a.sum = b.sum := by
  induction h with
  | nil => rfl
  | cons x _ ih => simp [ih]
  | swap x y l => simp only [List.sum_cons]; omega
  | trans _ _ h1 h2 => exact h1.trans h2
theorem today_len (l : List S38) (d w : Int) : lenT (todayM l d w) = lenT (l.filter fun x => !offB d w x) := by
  obtain ⟨hperm, _⟩ := sortM_spec (l.filter fun x => !offB d w x)
  unfold lenT
  exact sum_perm (hperm.map _)
end Go.Proofs.Ytlcckkimbkfjpaa.G
