/- The law of the chapter's one more meeting: what it computes is true. -/
import Derived.Test.YtlcckkimbkfjpaaGsane
import Derived.Test.YtlcckkimbkfjpaaGx16
namespace Go.Proofs.Ytlcckkimbkfjpaa.G
open Go.RowKit Go.Proofs.YtlcckkimbkfjpaaW.PrintWords Go.Proofs.YtlcckkimbkfjpaaW.PrintLast Go.Proofs.YtlcckkimbkfjpaaW.PrintMore
set_option linter.unusedVariables false
set_option linter.unusedSimpArgs false
theorem good_add {l : List S38} {m : S38} (hl : l.length < 16) : Good (l ++ [m]) ↔ (Good l ∧ Good [m] ∧ clash l [m] = false) := by
  unfold Good clash
  simp only [List.length_append, List.length_cons, List.length_nil, List.mem_append, List.mem_singleton, List.pairwise_append, List.pairwise_singleton, List.any_eq_false, List.any_cons, List.any_nil, Bool.or_false]
  constructor
  · rintro ⟨h1, h2, h3, _, h4⟩
    exact ⟨⟨by omega, fun x hx => h2 x (.inl hx), h3⟩, ⟨by omega, fun x hx => h2 x (.inr hx), trivial⟩, fun x hx => by rw [h4 x hx m rfl]; simp⟩
  · rintro ⟨⟨h1, h2, h3⟩, ⟨_, h4, _⟩, h5⟩
    refine ⟨by omega, fun x hx => ?_, h3, trivial, fun x hx y hy => ?_⟩
    · rcases hx with hx | hx
      · exact h2 x hx
      · exact h4 x hx
    · subst hy
      have := h5 x hx
      simpa using this
theorem add_j0 (l : List S38) (m : S38) (hl : l.length < 16) (hc : checkM l = 0) : sizarlaw22_MeetingAdd.j0 19 l false m.f0 m.f1 m.f2 m.f3 m.f4 = some true := by
  have hm : (⟨m.f0, m.f1, m.f2, m.f3, m.f4⟩ : S38) = m := rfl
  have hb := fun (a : List S38) (h : checkM a = 0) => minM_bound a (List.all_eq_true.2 ((good_iff a).1 h).2.1)
  have hg := good_add (m := m) hl
  rw [← good_iff, ← good_iff, ← good_iff] at hg
  rw [sizarlaw22_MeetingAdd.j0]
  simp only [Option.bind_some, List.nil_append, hm, meeting_Clash.f, meeting_Check.f]
  rw [if_neg (by simp), if_pos (by simp; omega), if_pos (by simp; omega)]
  have hcl : clashM l [m] = if checkM [m] = 0 then (clash l [m], 0) else (false, checkM [m]) := by
    unfold clashM; rw [if_pos hc]; rfl
  rw [hcl]
  rcases checkM_or [m] with h1 | h1
  · rw [if_pos h1]
    simp only [h1]
    rw [if_pos trivial]
    cases hq : clash l [m] with
    | true =>
      have h2 : checkM (l ++ [m]) = 220 := by
        rcases checkM_or (l ++ [m]) with h | h
        · have := (hg.1 h).2.2; rw [hq] at this; cases this
        · exact h
      rw [h2]
      simp [sizarlaw22_MeetingAdd.j1, meeting_Check.f, h2]
    | false =>
      have h2 : checkM (l ++ [m]) = 0 := hg.2 ⟨hc, h1, hq⟩
      rw [h2]
      have b1 := hb l hc
      have b2 := hb [m] h1
      have b3 := hb _ h2
      have e : minM (l ++ [m]) = minM l + minM [m] := minM_append _ _
      have e2 : wrap64 (minM l + minM [m]) = minM (l ++ [m]) := by
        rw [e]; refine w64 ?_ ?_
        · omega
        · have := b1.2; have := b2.2; simp only [List.length_cons, List.length_nil] at this; omega
      simp [sizarlaw22_MeetingAdd.j1, meeting_Check.f, h2, minutes_f l 17 (by omega), minutes_f [m] 17 (by omega), minutes_f (l ++ [m]) 17 (by omega), hc, h1, e2]
  · rw [if_neg (show ¬ checkM [m] = 0 by omega)]
    have h2 : checkM (l ++ [m]) = 220 := by
      rcases checkM_or (l ++ [m]) with h | h
      · have := (hg.1 h).2.1; omega
      · exact h
    simp [sizarlaw22_MeetingAdd.j1, meeting_Check.f, h1, h2]
theorem add_true (l : List S38) (a0 a1 a2 a3 a4 : Int) : ∃ k, sizarlaw22_MeetingAdd.f k l a0 a1 a2 a3 a4 = some true := by
  refine ⟨19, ?_⟩
  have hj : sizarlaw22_MeetingAdd.j0 19 l true a0 a1 a2 a3 a4 = some true := by rw [sizarlaw22_MeetingAdd.j0, if_pos rfl]
  simp only [sizarlaw22_MeetingAdd.f, sane_true 19 (by omega), few1.f, meeting_Check.f, Option.bind_some]
  rw [if_pos trivial]
  split
  · split
    · rename_i h
      by_cases hl : l.length < 16
      · rw [decide_eq_false (by omega)]
        exact add_j0 l ⟨a0, a1, a2, a3, a4⟩ hl h
      · rw [decide_eq_true (by omega)]
        exact hj
    · exact hj
  · exact hj
end Go.Proofs.Ytlcckkimbkfjpaa.G
