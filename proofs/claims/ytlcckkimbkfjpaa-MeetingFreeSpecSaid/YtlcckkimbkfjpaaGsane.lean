/- The chapter's examples hold of what the program computes. -/
import Derived.Test.YtlcckkimbkfjpaaGx5
import Derived.Test.YtlcckkimbkfjpaaGpure
namespace Go.Proofs.Ytlcckkimbkfjpaa.G
open Go.RowKit Go.Proofs.YtlcckkimbkfjpaaW.PrintWords Go.Proofs.YtlcckkimbkfjpaaW.PrintLast Go.Proofs.YtlcckkimbkfjpaaW.PrintMore
set_option linter.unusedVariables false
set_option linter.unusedSimpArgs false
theorem sortM_nil : sortM [] = [] := by
  have := (sortM_spec []).1
  exact this.eq_nil
theorem sane_true (k : Nat) (hk : 17 ≤ k) : sizarlaw22_sane.f k = some true := by
  have hf0 : meeting_Free.f [] 0 0 = some ([⟨0, 1440⟩], 0) := by
    simp only [meeting_Free.f, freeM, todayM, List.filter_nil, sortM_nil]
    rfl
  have hf7 : meeting_Free.f [] 7 0 = some ([], 1) := by
    simp only [meeting_Free.f, freeM, todayM, List.filter_nil, sortM_nil]
    rfl
  have hm : meeting_Minutes.f k [⟨1, 510, 600, 1, 10⟩] = some (900, 0) := by
    rw [minutes_f _ k hk, if_pos (by decide)]
    rfl
  have hc1 : meeting_Clash.f [⟨1, 510, 600, 1, 10⟩] [⟨1, 600, 700, 1, 10⟩] = some (false, 0) := by decide
  have hc2 : meeting_Clash.f [⟨1, 510, 600, 1, 10⟩] [⟨1, 510, 600, 1, 10⟩] = some (true, 0) := by decide
  have hc3 : meeting_Clash.f [] [] = some (false, 0) := by decide
  have hs : sizarref22_SameSpans.f k [⟨0, 1440⟩] [⟨0, 1440⟩] = some true := by
    obtain ⟨r, h1, h2⟩ := same_f [⟨0, 1440⟩] [⟨0, 1440⟩] (by simp) k (by simp; omega)
    rw [h1, h2.2 rfl]
  have h5 : meeting_Check.f [] = some 0 := by decide
  have h6 : meeting_Check.f ([⟨1, 510, 600, 1, 10⟩] ++ [⟨1, 510, 600, 1, 10⟩]) = some 220 := by decide
  simp only [sizarlaw22_sane.f, Option.bind_some, hf0, hf7, hm, hc1, hc2, hc3, hs, h5, h6]
  rfl
end Go.Proofs.Ytlcckkimbkfjpaa.G
