/- The law of the chapter's clash: what it computes is true. -/
import Derived.Test.YtlcckkimbkfjpaaGsane
import Derived.Test.YtlcckkimbkfjpaaGx13
namespace Go.Proofs.Ytlcckkimbkfjpaa.G
open Go.RowKit Go.Proofs.YtlcckkimbkfjpaaW.PrintWords Go.Proofs.YtlcckkimbkfjpaaW.PrintLast Go.Proofs.YtlcckkimbkfjpaaW.PrintMore
set_option linter.unusedVariables false
set_option linter.unusedSimpArgs false
theorem clashM_swap (a b : List S38) : (clashM a b).1 = (clashM b a).1 ∧ (clashM a b).2 = (clashM b a).2 := by
  unfold clashM
  have hs : (a.any fun m => b.any (ovlB m)) = (b.any fun m => a.any (ovlB m)) := clash_symm a b
  rcases checkM_or a with ha | ha <;> rcases checkM_or b with hb | hb <;> simp [ha, hb, hs]
theorem clashM_self (a : List S38) : clashM a a = if checkM a = 0 then (decide ((a.length : Int) > 0), 0) else (false, checkM a) := by
  unfold clashM
  by_cases h : checkM a = 0
  · rw [if_pos h, if_pos h, if_pos h]
    have hg := (good_iff a).1 h
    congr 1
    cases a with
    | nil => simp
    | cons x r =>
      have h1 : ovlB x x = true := ovl_self (hg.2.1 x (by simp))
      simp [h1]
  · rw [if_neg h, if_neg h]
theorem apart_true (a b : List S38) : ∃ k, sizarlaw22_MeetingApart.f k a b = some true := by
  refine ⟨17, ?_⟩
  simp only [sizarlaw22_MeetingApart.f, sane_true 17 (by omega), few2.f, meeting_Clash.f, meeting_Check.f, Option.bind_some]
  rw [if_pos trivial]
  obtain ⟨h1, h2⟩ := clashM_swap a b
  split
  · rw [if_neg (by simp [h1]), clashM_self]
    by_cases h : checkM a = 0
    · rw [if_pos h, if_pos rfl]
      simp
    · rw [if_neg h, if_neg h, if_pos rfl, if_neg (by simp)]
  · rfl
end Go.Proofs.Ytlcckkimbkfjpaa.G
