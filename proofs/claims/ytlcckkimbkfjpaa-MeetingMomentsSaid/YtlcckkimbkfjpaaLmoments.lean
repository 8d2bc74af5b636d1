/- The law of the chapter's common moments: what it computes is true. -/
import Derived.Test.YtlcckkimbkfjpaaGsane
import Derived.Test.YtlcckkimbkfjpaaGx12
namespace Go.Proofs.Ytlcckkimbkfjpaa.G
open Go.RowKit Go.Proofs.YtlcckkimbkfjpaaW.PrintWords Go.Proofs.YtlcckkimbkfjpaaW.PrintLast Go.Proofs.YtlcckkimbkfjpaaW.PrintMore
set_option linter.unusedVariables false
set_option linter.unusedSimpArgs false
theorem mrd38 {l : List S38} {i : Nat} (h : i < l.length) : rd_T38 l i = l[i] := by simp [rd_T38, h]
theorem mw1 {i : Nat} (h : i < 1000000) : wrap64 ((i : Int) + 1) = ((i + 1 : Nat) : Int) := by rw [w64 (by omega) (by omega)]; omega
theorem cov_iff {d w t : Int} {m : S38} : covB d w t m = true ↔ (m.f0 = d ∧ m.f3 ≤ w ∧ w ≤ m.f4 ∧ m.f1 ≤ t ∧ t < m.f2) := by unfold covB; rw [decide_eq_true_eq]
/-- Both lists cover the first's minute in the second's week. -/
def bothB (a b : List S38) (m m2 : S38) : Bool := a.any (covB m.f0 m2.f3 m.f1) && b.any (covB m.f0 m2.f3 m.f1)
theorem clash_moment (a b : List S38) : clash a b = (a ++ b).any fun m => (a ++ b).any (bothB a b m) := by
  rw [Bool.eq_iff_iff]
  unfold clash bothB
  simp only [List.any_eq_true, Bool.and_eq_true, List.mem_append]
  constructor
  · rintro ⟨x, hx, y, hy, h⟩
    rw [ovl_iff, mx_iff, mn_iff, mx_iff, mn_iff] at h
    by_cases h1 : x.f1 ≤ y.f1 <;> by_cases h2 : x.f3 ≤ y.f3
    · exact ⟨y, .inr hy, y, .inr hy, ⟨x, hx, cov_iff.2 ⟨by omega, by omega, by omega, by omega, by omega⟩⟩, ⟨y, hy, cov_iff.2 ⟨by omega, by omega, by omega, by omega, by omega⟩⟩⟩
    · exact ⟨y, .inr hy, x, .inl hx, ⟨x, hx, cov_iff.2 ⟨by omega, by omega, by omega, by omega, by omega⟩⟩, ⟨y, hy, cov_iff.2 ⟨by omega, by omega, by omega, by omega, by omega⟩⟩⟩
    · exact ⟨x, .inl hx, y, .inr hy, ⟨x, hx, cov_iff.2 ⟨by omega, by omega, by omega, by omega, by omega⟩⟩, ⟨y, hy, cov_iff.2 ⟨by omega, by omega, by omega, by omega, by omega⟩⟩⟩
    · exact ⟨x, .inl hx, x, .inl hx, ⟨x, hx, cov_iff.2 ⟨by omega, by omega, by omega, by omega, by omega⟩⟩, ⟨y, hy, cov_iff.2 ⟨by omega, by omega, by omega, by omega, by omega⟩⟩⟩
  · rintro ⟨m, _, m2, _, ⟨x, hx, h1⟩, ⟨y, hy, h2⟩⟩
    exact ⟨x, hx, y, hy, ovl_cover _ _ _ h1 h2⟩
theorem moments_l1 (a b A : List S38) (x11 : Bool) (ha : a.length ≤ 20) (hb : b.length ≤ 20) (hA : A.length ≤ 1000) (i : Nat) (hi : i < 1000) (m : S38) (k' : Nat) (hk : 21 ≤ k') (q : Bool)
    (hend : sizarlaw22_MeetingMoments.l0 k' a b x11 A q A (A.length : Int) ((i + 1 : Nat) : Int) = some true) :
    ∀ (k j : Nat) (f : Bool), j ≤ A.length → A.length - j = k → (f || (A.drop j).any (bothB a b m)) = q →
      sizarlaw22_MeetingMoments.l1 (k' + k + 1) a b x11 A f A (A.length : Int) i A (A.length : Int) j m.f0 m.f1 m.f2 m.f3 m.f4 = some true := by
  intro k
  induction k with
  | zero =>
    intro j f h1 h2 h3
    have : j = A.length := by omega
    subst this
    simp only [sizarlaw22_MeetingMoments.l1]
    rw [if_neg (by omega), mw1 (by omega)]
    simp only [List.drop_length, List.any_nil, Bool.or_false] at h3
    rw [h3]
    exact hend
  | succ k ih =>
    intro j f h1 h2 h3
    have hj : j < A.length := by omega
    rw [List.drop_eq_getElem_cons hj, List.any_cons, ← Bool.or_assoc] at h3
    have := ih (j + 1) _ (by omega) (by omega) h3
    rw [show k' + (k + 1) + 1 = (k' + k + 1) + 1 by omega, sizarlaw22_MeetingMoments.l1]
    rw [if_pos (by omega), if_pos (by omega), if_pos (by omega), mw1 (by omega), mrd38 hj, covered_f a _ _ _ (by omega) _ (by omega), covered_f b _ _ _ (by omega) _ (by omega), Option.bind_some, Option.bind_some]
    unfold bothB at this
    cases f with
    | true => rw [if_pos rfl]; rw [Bool.true_or] at this; exact this
    | false =>
      rw [if_neg (by simp)]
      rw [Bool.false_or] at this
      cases h : a.any (covB m.f0 A[j].f3 m.f1) with
      | true => rw [if_pos rfl]; rw [h, Bool.true_and] at this; exact this
      | false => rw [if_neg (by simp)]; rw [h, Bool.false_and] at this; exact this
theorem moments_l0 (a b A : List S38) (x11 : Bool) (ha : a.length ≤ 20) (hb : b.length ≤ 20) (hA : A.length ≤ 900) :
    ∀ (n i : Nat) (f : Bool), i ≤ A.length → A.length - i = n → (f || (A.drop i).any fun m => A.any (bothB a b m)) = x11 →
      ∃ k, 21 ≤ k ∧ sizarlaw22_MeetingMoments.l0 k a b x11 A f A (A.length : Int) i = some true := by
  intro n
  induction n with
  | zero =>
    intro i f h1 h2 h3
    have : i = A.length := by omega
    subst this
    simp only [List.drop_length, List.any_nil, Bool.or_false] at h3
    refine ⟨21, by omega, ?_⟩
    simp only [sizarlaw22_MeetingMoments.l0]
    rw [if_neg (by omega), h3]
    simp
  | succ n ih =>
    intro i f h1 h2 h3
    have hi : i < A.length := by omega
    rw [List.drop_eq_getElem_cons hi, List.any_cons, ← Bool.or_assoc] at h3
    obtain ⟨k, h4, h5⟩ := ih (i + 1) _ (by omega) (by omega) h3
    refine ⟨k + A.length + 1 + 1, by omega, ?_⟩
    simp only [sizarlaw22_MeetingMoments.l0]
    rw [if_pos (by omega), if_pos (by omega), if_pos (by omega), mrd38 hi]
    exact moments_l1 a b A x11 ha hb (by omega) i (by omega) A[i] k h4 _ h5 A.length 0 f (by omega) (by omega) (by rw [List.drop_zero])
theorem moments_j0 (a b : List S38) (ha : a.length ≤ 20) (hb : b.length ≤ 20) : ∃ k, 21 ≤ k ∧ sizarlaw22_MeetingMoments.j0 k a b (clash a b) false = some true := by
  obtain ⟨k, h1, h2⟩ := moments_l0 a b (a ++ b) (clash a b) ha hb (by rw [List.length_append]; omega) _ 0 false (by omega) rfl (by rw [Bool.false_or, List.drop_zero]; exact (clash_moment a b).symm)
  refine ⟨k + 1, by omega, ?_⟩
  simp only [sizarlaw22_MeetingMoments.j0, Option.bind_some, List.nil_append]
  rw [if_neg (by simp), if_pos (by simp; omega), if_pos (by omega)]
  exact h2
theorem moments_true (a b : List S38) (d w t : Int) : ∃ k, sizarlaw22_MeetingMoments.f k a b d w t = some true := by
  by_cases hl : a.length ≤ 20 ∧ b.length ≤ 20
  · obtain ⟨k, hk, hj⟩ := moments_j0 a b hl.1 hl.2
    refine ⟨k, ?_⟩
    simp only [sizarlaw22_MeetingMoments.f, sane_true k (by omega), few2.f, meeting_Clash.f, meeting_Check.f, Option.bind_some, covered_f a d w t (by omega) k (by omega), covered_f b d w t (by omega) k (by omega)]
    rw [if_pos trivial, if_pos (by simpa using hl)]
    unfold clashM
    rcases checkM_or a with ha | ha
    · rcases checkM_or b with hb | hb
      · rw [ha, hb, if_pos rfl, if_pos rfl, if_pos rfl]
        have hcl : (a.any fun m => b.any (ovlB m)) = clash a b := rfl
        simp only [hcl]
        split
        · rename_i h1
          split
          · rename_i h2
            have : clash a b = true := by
              obtain ⟨x, hx, hx2⟩ := List.any_eq_true.1 h1
              obtain ⟨y, hy, hy2⟩ := List.any_eq_true.1 h2
              exact List.any_eq_true.2 ⟨x, hx, List.any_eq_true.2 ⟨y, hy, ovl_cover _ _ _ hx2 hy2⟩⟩
            rw [this] at hj ⊢
            exact hj
          · exact hj
        · exact hj
      · simp [ha, hb]
    · simp [ha]
  · refine ⟨17, ?_⟩
    simp only [sizarlaw22_MeetingMoments.f, sane_true 17 (by omega), few2.f, Option.bind_some]
    rw [if_pos trivial, if_neg (by simpa using hl)]
end Go.Proofs.Ytlcckkimbkfjpaa.G
