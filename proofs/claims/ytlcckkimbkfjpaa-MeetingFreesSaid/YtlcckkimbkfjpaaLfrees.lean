/- The law of the chapter's free times: what it computes is true. -/
import Derived.Test.YtlcckkimbkfjpaaGsane
import Derived.Test.YtlcckkimbkfjpaaGspan
import Derived.Test.YtlcckkimbkfjpaaGx14
namespace Go.Proofs.Ytlcckkimbkfjpaa.G
open Go.RowKit Go.Proofs.YtlcckkimbkfjpaaW.PrintWords Go.Proofs.YtlcckkimbkfjpaaW.PrintLast Go.Proofs.YtlcckkimbkfjpaaW.PrintMore
set_option linter.unusedVariables false
set_option linter.unusedSimpArgs false
theorem gaps_count : ∀ (r : List S38) (frm : Int), (gaps frm r).length ≤ r.length + 1
  | [], frm => by simp only [gaps]; split <;> simp
  | m :: r, frm => by
    have := gaps_count r m.f2
    simp only [gaps]; split <;> simp <;> omega
theorem today_count (l : List S38) (d w : Int) : (todayM l d w).length ≤ l.length := by
  obtain ⟨hperm, _⟩ := sortM_spec (l.filter fun x => !offB d w x)
  have := hperm.length_eq
  unfold todayM
  rw [this]
  exact List.length_filter_le _ _
theorem rd42 {l : List S42} {i : Nat} (h : i < l.length) : rd_T42 l i = l[i] := by simp [rd_T42, h]
theorem w1 {i : Nat} (h : i < 1000000) : wrap64 ((i : Int) + 1) = ((i + 1 : Nat) : Int) := by rw [w64 (by omega) (by omega)]; omega
/-- The spans, one by one. -/
theorem frees_l0 (x0 : List S38) (d w : Int) (S : List S42) (hn : S.length ≤ 1000) (k' : Nat) (hend : sizarlaw22_MeetingFrees.l1 k' x0 d w S 0 = some true) :
    ∀ (k i : Nat) (last : Int), i ≤ S.length → S.length - i = k → ChainOk last (S.drop i) → sizarlaw22_MeetingFrees.l0 (k' + k + 1) x0 d w S last S (S.length : Int) i = some true := by
  intro k
  induction k with
  | zero =>
    intro i last h1 h2 _
    have : i = S.length := by omega
    subst this
    simp only [sizarlaw22_MeetingFrees.l0]
    rw [if_neg (by omega)]
    exact hend
  | succ k ih =>
    intro i last h1 h2 h3
    have hi : i < S.length := by omega
    rw [List.drop_eq_getElem_cons hi] at h3
    obtain ⟨a1, a2, a3, a4, a5⟩ := h3
    rw [show k' + (k + 1) + 1 = (k' + k + 1) + 1 by omega]
    simp only [sizarlaw22_MeetingFrees.l0]
    rw [if_pos (by omega), if_pos (by omega), if_pos (by omega), rd42 hi, if_neg (by omega), if_neg (by omega), if_neg (by omega), if_neg (by omega), w1 (by omega)]
    exact ih (i + 1) _ (by omega) (by omega) a5
theorem frees_l2' (x0 : List S38) (d w t : Int) (S : List S42) (hn : S.length ≤ 1000) (hx : x0.length ≤ 20) (c : Bool) (hc : x0.any (covB d w t) = c) (k' : Nat) (hk : 21 ≤ k')
    (hend : sizarlaw22_MeetingFrees.l1 k' x0 d w S (wrap64 (t + 1)) = some true) :
    ∀ (k i : Nat) (b : Bool), i ≤ S.length → S.length - i = k → (b || (S.drop i).any (covS t)) = !c → sizarlaw22_MeetingFrees.l2 (k' + k + 1) x0 d w S t b t S (S.length : Int) i = some true := by
  intro k
  induction k with
  | zero =>
    intro i b h1 h2 h3
    have : i = S.length := by omega
    subst this
    simp only [sizarlaw22_MeetingFrees.l2]
    rw [if_neg (by omega), covered_f x0 d w t (by omega) _ (by omega), hc, Option.bind_some]
    simp only [List.drop_length, List.any_nil, Bool.or_false] at h3
    rw [if_neg (by rw [h3]; cases c <;> simp)]
    exact hend
  | succ k ih =>
    intro i b h1 h2 h3
    have hi : i < S.length := by omega
    rw [List.drop_eq_getElem_cons hi, List.any_cons, ← Bool.or_assoc] at h3
    have := ih (i + 1) _ (by omega) (by omega) h3
    rw [show k' + (k + 1) + 1 = (k' + k + 1) + 1 by omega]
    simp only [sizarlaw22_MeetingFrees.l2]
    rw [if_pos (by omega), if_pos (by omega), if_pos (by omega), rd42 hi, w1 (by omega)]
    cases b with
    | true => rw [if_pos rfl]; rw [Bool.true_or] at this; exact this
    | false =>
      rw [if_neg (by simp)]
      by_cases h : S[i].f0 ≤ t
      · rw [if_pos h]
        have e : covS t S[i] = decide (t < S[i].f1) := by simp [covS, h]
        rw [Bool.false_or, e] at this
        exact this
      · rw [if_neg h]
        have e : covS t S[i] = false := by simp [covS, h]
        rw [Bool.false_or, e] at this
        exact this
theorem frees_l1 (x0 : List S38) (d w : Int) (S : List S42) (hn : S.length ≤ 1000) (hx : x0.length ≤ 20) (hcov : ∀ t : Int, 0 ≤ t → t < 1440 → S.any (covS t) = !(x0.any (covB d w t))) :
    ∀ (n : Nat), n ≤ 1440 → ∃ k, 21 ≤ k ∧ sizarlaw22_MeetingFrees.l1 k x0 d w S ((1440 - n : Nat) : Int) = some true := by
  intro n
  induction n with
  | zero => intro _; exact ⟨21, by omega, by simp only [sizarlaw22_MeetingFrees.l1]; rw [if_neg (by omega)]⟩
  | succ n ih =>
    intro hle
    obtain ⟨k, h1, h2⟩ := ih (by omega)
    refine ⟨k + S.length + 1 + 1, by omega, ?_⟩
    simp only [sizarlaw22_MeetingFrees.l1]
    rw [if_pos (by omega)]
    refine frees_l2' x0 d w _ S hn hx _ rfl k h1 ?_ S.length 0 false (by omega) (by omega) ?_
    · rw [w1 (by omega), show 1440 - (n + 1) + 1 = 1440 - n by omega]; exact h2
    · rw [Bool.false_or, List.drop_zero]
      exact hcov _ (by omega) (by omega)
theorem frees_true (l : List S38) (d w : Int) : ∃ k, sizarlaw22_MeetingFrees.f k l d w = some true := by
  by_cases hl : l.length ≤ 20
  · by_cases hc : checkM l = 0
    · by_cases hd : 0 ≤ d ∧ d < 7 ∧ 0 ≤ w ∧ w < 60
      · have hg := (good_iff l).1 hc
        have ho := today_ord hg d w
        have hsp : spansM (todayM l d w) = gaps 0 (todayM l d w) := spansM_gaps _
        have hcnt : (gaps 0 (todayM l d w)).length ≤ 1000 := by
          have := gaps_count (todayM l d w) 0
          have := today_count l d w
          omega
        obtain ⟨k, h1, h2⟩ := frees_l1 l d w (gaps 0 (todayM l d w)) hcnt hl (fun t h1 h2 => by rw [gaps_cov _ _ t ho h1 h2, today_cov]) 1440 (by omega)
        refine ⟨k + (gaps 0 (todayM l d w)).length + 1, ?_⟩
        simp only [sizarlaw22_MeetingFrees.f, sane_true (k + (gaps 0 (todayM l d w)).length + 1) (by omega), few1.f, meeting_Free.f, freeM, Option.bind_some]
        rw [if_pos trivial, if_pos (by simpa using hl), if_pos hc, if_pos hd, hsp, if_pos rfl]
        exact frees_l0 l d w _ hcnt k h2 _ 0 (-1) (by omega) (by omega) (gaps_chain _ _ _ (by omega) (by omega) ho)
      · refine ⟨17, ?_⟩
        simp only [sizarlaw22_MeetingFrees.f, sane_true 17 (by omega), few1.f, meeting_Free.f, meeting_Check.f, freeM, Option.bind_some]
        rw [if_pos trivial, if_pos (by simpa using hl), if_pos hc, if_neg hd]
        simp only [List.length_nil]
        rw [if_neg (by omega), if_pos (by omega), if_neg (by omega), if_pos trivial]
        split
        · rfl
        · split
          · rfl
          · split
            · rfl
            · rw [decide_eq_true (by omega)]
    · refine ⟨17, ?_⟩
      simp only [sizarlaw22_MeetingFrees.f, sane_true 17 (by omega), few1.f, meeting_Free.f, meeting_Check.f, freeM, Option.bind_some]
      have h2 : checkM l = 220 := by rcases checkM_or l with h | h; exact absurd h hc; exact h
      rw [if_pos trivial, if_pos (by simpa using hl), if_neg hc]
      simp only [List.length_nil, h2]
      rfl
  · refine ⟨17, ?_⟩
    simp only [sizarlaw22_MeetingFrees.f, sane_true 17 (by omega), few1.f, Option.bind_some]
    rw [if_pos trivial, if_neg (by simpa using hl)]
end Go.Proofs.Ytlcckkimbkfjpaa.G
