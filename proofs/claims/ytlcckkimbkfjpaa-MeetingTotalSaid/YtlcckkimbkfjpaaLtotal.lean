/- The law of the chapter's whole week: what it computes is true. -/
import Derived.Test.YtlcckkimbkfjpaaGsane
import Derived.Test.YtlcckkimbkfjpaaGspan
import Derived.Test.YtlcckkimbkfjpaaGx15
namespace Go.Proofs.Ytlcckkimbkfjpaa.G
open Go.RowKit Go.Proofs.YtlcckkimbkfjpaaW.PrintWords Go.Proofs.YtlcckkimbkfjpaaW.PrintLast Go.Proofs.YtlcckkimbkfjpaaW.PrintMore
set_option linter.unusedVariables false
set_option linter.unusedSimpArgs false
theorem trd42 {l : List S42} {i : Nat} (h : i < l.length) : rd_T42 l i = l[i] := by simp [rd_T42, h]
theorem tw1 {i : Nat} (h : i < 1000000) : wrap64 ((i : Int) + 1) = ((i + 1 : Nat) : Int) := by rw [w64 (by omega) (by omega)]; omega
theorem tcount : ∀ (r : List S38) (frm : Int), (gaps frm r).length ≤ r.length + 1
  | [], frm => by simp only [gaps]; split <;> simp
  | m :: r, frm => by
    have := tcount r m.f2
    simp only [gaps]; split <;> simp <;> omega
theorem ttoday (l : List S38) (d w : Int) : (todayM l d w).length ≤ l.length := by
  obtain ⟨hperm, _⟩ := sortM_spec (l.filter fun x => !offB d w x)
  have := hperm.length_eq
  unfold todayM
  rw [this]
  exact List.length_filter_le _ _
/-- The sum of the last n of N. -/
def sumTop (N : Nat) (f : Nat → Int) : Nat → Int
  | 0 => 0
  | n + 1 => f (N - (n + 1)) + sumTop N f n
theorem sumTop_succ (N : Nat) (f : Nat → Int) (n : Nat) : sumTop N f (n + 1) = f (N - (n + 1)) + sumTop N f n := rfl
theorem sumTop_add (N : Nat) (f g : Nat → Int) : ∀ n, sumTop N (fun i => f i + g i) n = sumTop N f n + sumTop N g n
  | 0 => rfl
  | n + 1 => by simp only [sumTop]; rw [sumTop_add N f g n]; omega
theorem sumTop_mul (N : Nat) (c : Int) (f : Nat → Int) : ∀ n, sumTop N (fun i => c * f i) n = c * sumTop N f n
  | 0 => by simp [sumTop]
  | n + 1 => by simp only [sumTop]; rw [sumTop_mul N c f n, Int.mul_add]
theorem sumTop_const (N : Nat) (c : Int) : ∀ n, sumTop N (fun _ => c) n = n * c
  | 0 => by simp [sumTop]
  | n + 1 => by simp only [sumTop]; rw [sumTop_const N c n, Int.natCast_succ, Int.add_mul]; omega
theorem sumTop_congr (N : Nat) {f g : Nat → Int} (h : ∀ i, f i = g i) (n : Nat) : sumTop N f n = sumTop N g n := by rw [funext h]
theorem sumTop_nonneg (N : Nat) {f : Nat → Int} (h : ∀ i, 0 ≤ f i) : ∀ n, 0 ≤ sumTop N f n
  | 0 => by simp [sumTop]
  | n + 1 => by simp only [sumTop]; have := sumTop_nonneg N h n; have := h (N - (n + 1)); omega
theorem sumTop_week (a b : Int) (h : 0 ≤ a ∧ a ≤ b ∧ b < 60) : ∀ n, n ≤ 60 → sumTop 60 (fun w => if a ≤ (w : Int) ∧ (w : Int) ≤ b then 1 else 0) n = if b < 60 - n then 0 else if a < 60 - n then b - (60 - n) + 1 else b - a + 1
  | 0, _ => by simp only [sumTop]; omega
  | n + 1, hn => by simp only [sumTop]; rw [sumTop_week a b h n (by omega)]; omega
theorem sumTop_day (a : Int) (c : Int) (h : 0 ≤ a ∧ a < 7) : ∀ n, n ≤ 7 → sumTop 7 (fun d => if a = (d : Int) then c else 0) n = if a < 7 - n then 0 else c
  | 0, _ => by simp only [sumTop]; omega
  | n + 1, hn => by simp only [sumTop]; rw [sumTop_day a c h n (by omega)]; omega
/-- The minutes taken on a day. -/
def takenM (l : List S38) (d w : Nat) : Int := lenT (l.filter fun x => !offB d w x)
theorem takenM_cons (x : S38) (r : List S38) (d w : Nat) : takenM (x :: r) d w = (x.f2 - x.f1) * (if x.f0 = (d : Int) then (if x.f3 ≤ (w : Int) ∧ (w : Int) ≤ x.f4 then 1 else 0) else 0) + takenM r d w := by
  unfold takenM
  rw [List.filter_cons]
  have := off_iff (d := (d : Int)) (w := (w : Int)) (x := x)
  by_cases h1 : x.f0 = (d : Int)
  · by_cases h2 : x.f3 ≤ (w : Int) ∧ (w : Int) ≤ x.f4
    · rw [if_pos (this.2 ⟨h1, h2⟩), if_pos h1, if_pos h2]; simp [lenT]
    · rw [if_neg (fun h => h2 (this.1 h).2), if_pos h1, if_neg h2]; simp
  · rw [if_neg (fun h => h1 (this.1 h).1), if_neg h1]; simp
theorem taken_all : ∀ (l : List S38), (∀ x ∈ l, vldB x = true) → sumTop 7 (fun d => sumTop 60 (fun w => takenM l d w) 60) 7 = minM l
  | [], _ => by
    have : ∀ d w, takenM [] d w = 0 := fun _ _ => rfl
    simp only [this]
    rw [sumTop_congr 7 (fun d => sumTop_const 60 0 60), sumTop_const]
    simp [minM]
  | x :: r, h => by
    have ih := taken_all r (fun y hy => h y (by simp [hy]))
    have hx := vld_iff.1 (h x (by simp))
    have e : ∀ d : Nat, sumTop 60 (fun w => takenM (x :: r) d w) 60 = (x.f2 - x.f1) * (if x.f0 = (d : Int) then (x.f4 - x.f3 + 1) else 0) + sumTop 60 (fun w => takenM r d w) 60 := by
      intro d
      rw [sumTop_congr 60 (fun w => takenM_cons x r d w), sumTop_add, sumTop_mul]
      congr 2
      by_cases hd : x.f0 = (d : Int)
      · rw [sumTop_congr 60 (fun w => if_pos hd), if_pos hd, sumTop_week x.f3 x.f4 (by omega) 60 (by omega)]
        omega
      · rw [sumTop_congr 60 (fun w => if_neg hd), if_neg hd, sumTop_const]
        simp
    rw [sumTop_congr 7 e, sumTop_add, sumTop_mul, ih, sumTop_day x.f0 _ (by omega) 7 (by omega)]
    rw [if_neg (by omega)]
    simp [minM]
theorem takenM_le (l : List S38) (h : Good l) (d w : Nat) : 1440 - takenM l d w = lenS (gaps 0 (todayM l d w)) := by
  have h1 := gaps_len _ _ (today_ord h d w)
  have h2 := today_len l d w
  unfold takenM
  omega
theorem lenS_nonneg : ∀ (S : List S42) (last : Int), ChainOk last S → 0 ≤ lenS S
  | [], _, _ => by simp [lenS]
  | s :: t, _, ⟨a1, a2, a3, a4, a5⟩ => by
    have := lenS_nonneg t _ a5
    simp only [lenS, List.map_cons, List.sum_cons] at *
    omega
theorem total_l2 (l : List S38) (d w : Nat) (hw : w < 60) (S : List S42) (hn : S.length ≤ 1000) (k' : Nat) :
    ∀ (j i : Nat) (acc last : Int), i ≤ S.length → S.length - i = j → ChainOk last (S.drop i) → 0 ≤ acc → acc + lenS (S.drop i) ≤ 604800 →
      sizarlaw22_MeetingTotal.l1 k' l (acc + lenS (S.drop i)) d d ((w + 1 : Nat) : Int) = some true → sizarlaw22_MeetingTotal.l2 (k' + j + 1) l acc d d w S (S.length : Int) i = some true := by
  intro j
  induction j with
  | zero =>
    intro i acc last h1 h2 _ _ _ h3
    have : i = S.length := by omega
    subst this
    rw [sizarlaw22_MeetingTotal.l2, if_neg (by omega), tw1 (by omega)]
    simpa [lenS] using h3
  | succ j ih =>
    intro i acc last h1 h2 h3 h4 h5 h6
    have hi : i < S.length := by omega
    rw [List.drop_eq_getElem_cons hi] at h3 h5 h6
    obtain ⟨a1, a2, a3, a4, a5⟩ := h3
    have e : lenS (S[i] :: S.drop (i + 1)) = (S[i].f1 - S[i].f0) + lenS (S.drop (i + 1)) := by unfold lenS; rw [List.map_cons, List.sum_cons]
    have hnn := lenS_nonneg _ _ a5
    rw [e] at h5 h6
    rw [show k' + (j + 1) + 1 = (k' + j + 1) + 1 by omega, sizarlaw22_MeetingTotal.l2]
    rw [if_pos (by omega), if_pos (by omega), if_pos (by omega), trd42 hi, w64 (i := S[i].f1 - S[i].f0) (by omega) (by omega), w64 (i := acc + _) (by omega) (by omega), tw1 (by omega)]
    exact ih (i + 1) _ _ (by omega) (by omega) a5 (by omega) (by omega) (by rw [Int.add_assoc]; exact h6)
theorem total_l1 (l : List S38) (hl : l.length ≤ 20) (hc : checkM l = 0) (d : Nat) (hd : d < 7) (rest : Int) (hr : 0 ≤ rest)
    (hend : ∀ acc : Int, 0 ≤ acc → acc + rest = 604800 → ∃ k, 17 ≤ k ∧ sizarlaw22_MeetingTotal.l0 k l acc ((d + 1 : Nat) : Int) = some true) :
    ∀ (n : Nat) (acc : Int), n ≤ 60 → 0 ≤ acc → acc + sumTop 60 (fun w => 1440 - takenM l d w) n + rest = 604800 →
      ∃ k, 17 ≤ k ∧ sizarlaw22_MeetingTotal.l1 k l acc d d ((60 - n : Nat) : Int) = some true := by
  have hg := (good_iff l).1 hc
  intro n
  induction n with
  | zero =>
    intro acc _ h1 h2
    obtain ⟨k, h3, h4⟩ := hend acc h1 (by simp only [sumTop] at h2; omega)
    refine ⟨k + 1, by omega, ?_⟩
    rw [sizarlaw22_MeetingTotal.l1, if_neg (by omega), tw1 (by omega)]
    exact h4
  | succ n ih =>
    intro acc hn h1 h2
    simp only [sumTop] at h2
    have ho := today_ord hg d ((60 - (n + 1) : Nat) : Int)
    have hch := gaps_chain _ _ (-1) (by omega) (by omega) ho
    have hnn := lenS_nonneg _ _ hch
    have htk := takenM_le l hg d (60 - (n + 1))
    have hs : 0 ≤ sumTop 60 (fun w => 1440 - takenM l d w) n := sumTop_nonneg 60 (fun w => by rw [takenM_le l hg]; exact lenS_nonneg _ _ (gaps_chain _ _ (-1) (by omega) (by omega) (today_ord hg d w))) n
    obtain ⟨k, h3, h4⟩ := ih (acc + lenS (gaps 0 (todayM l d ((60 - (n + 1) : Nat) : Int)))) (by omega) (by omega) (by omega)
    have hcnt : (gaps 0 (todayM l d ((60 - (n + 1) : Nat) : Int))).length ≤ 1000 := by
      have := tcount (todayM l d ((60 - (n + 1) : Nat) : Int)) 0
      have := ttoday l d ((60 - (n + 1) : Nat) : Int)
      omega
    refine ⟨k + (gaps 0 (todayM l d ((60 - (n + 1) : Nat) : Int))).length + 1 + 1, by omega, ?_⟩
    rw [sizarlaw22_MeetingTotal.l1, if_pos (by omega)]
    simp only [meeting_Free.f, freeM, Option.bind_some]
    rw [if_pos hc, if_pos (show 0 ≤ (d : Int) ∧ (d : Int) < 7 ∧ 0 ≤ ((60 - (n + 1) : Nat) : Int) ∧ ((60 - (n + 1) : Nat) : Int) < 60 by omega), spansM_gaps, if_pos rfl]
    refine total_l2 l d (60 - (n + 1)) (by omega) _ hcnt k _ 0 acc (-1) (by omega) (by omega) hch h1 ?_ ?_
    · rw [List.drop_zero]; omega
    · rw [List.drop_zero, show 60 - (n + 1) + 1 = 60 - n by omega]; exact h4
theorem total_l0 (l : List S38) (hl : l.length ≤ 20) (hc : checkM l = 0) :
    ∀ (n : Nat) (acc : Int), n ≤ 7 → 0 ≤ acc → acc + sumTop 7 (fun d => sumTop 60 (fun w => 1440 - takenM l d w) 60) n = 604800 →
      ∃ k, 17 ≤ k ∧ sizarlaw22_MeetingTotal.l0 k l acc ((7 - n : Nat) : Int) = some true := by
  have hg := (good_iff l).1 hc
  have hnn : ∀ d w : Nat, 0 ≤ 1440 - takenM l d w := fun d w => by rw [takenM_le l hg]; exact lenS_nonneg _ _ (gaps_chain _ _ (-1) (by omega) (by omega) (today_ord hg d w))
  intro n
  induction n with
  | zero =>
    intro acc _ h1 h2
    simp only [sumTop] at h2
    refine ⟨17, by omega, ?_⟩
    simp only [sizarlaw22_MeetingTotal.l0]
    rw [if_neg (by omega), show acc = 604800 by omega]
    rfl
  | succ n ih =>
    intro acc hn h1 h2
    rw [sumTop_succ] at h2
    obtain ⟨k, h3, h4⟩ := total_l1 l hl hc (7 - (n + 1)) (by omega) (sumTop 7 (fun d => sumTop 60 (fun w => 1440 - takenM l d w) 60) n) (sumTop_nonneg 7 (fun d => sumTop_nonneg 60 (fun w => hnn d w) 60) n)
      (fun acc' h5 h6 => by rw [show 7 - (n + 1) + 1 = 7 - n by omega]; exact ih acc' (by omega) h5 h6) 60 acc (by omega) h1 (by omega)
    refine ⟨k + 1, by omega, ?_⟩
    rw [sizarlaw22_MeetingTotal.l0, if_pos (by omega)]
    exact h4
theorem total_sum (l : List S38) (hg : Good l) : minM l + sumTop 7 (fun d => sumTop 60 (fun w => 1440 - takenM l d w) 60) 7 = 604800 := by
  have h := taken_all l hg.2.1
  have e : ∀ d : Nat, sumTop 60 (fun w => 1440 - takenM l d w) 60 = 86400 + (-1) * sumTop 60 (fun w => takenM l d w) 60 := by
    intro d
    have e2 : ∀ w : Nat, 1440 - takenM l d w = 1440 + (-1) * takenM l d w := fun w => by omega
    have hη : sumTop 60 (takenM l d) 60 = sumTop 60 (fun w => takenM l d w) 60 := rfl
    rw [sumTop_congr 60 e2, sumTop_add, sumTop_mul, sumTop_const]
    omega
  rw [sumTop_congr 7 e, sumTop_add, sumTop_mul, sumTop_const, h]
  omega
theorem total_true (l : List S38) : ∃ k, sizarlaw22_MeetingTotal.f k l = some true := by
  by_cases hl : l.length ≤ 20
  · rcases checkM_or l with hc | hc
    · have hg := (good_iff l).1 hc
      have hb := minM_bound l (List.all_eq_true.2 hg.2.1)
      obtain ⟨k, h1, h2⟩ := total_l0 l hl hc 7 (minM l) (by omega) hb.1 (total_sum l hg)
      refine ⟨k, ?_⟩
      simp only [sizarlaw22_MeetingTotal.f, sane_true k (by omega), few1.f, minutes_f l k (by omega), Option.bind_some]
      rw [if_pos trivial, if_pos (by simpa using hl), if_pos hc, if_pos rfl]
      exact h2
    · refine ⟨17, ?_⟩
      simp only [sizarlaw22_MeetingTotal.f, sane_true 17 (by omega), few1.f, minutes_f l 17 (by omega), meeting_Check.f, Option.bind_some]
      rw [if_pos trivial, if_pos (by simpa using hl), hc]
      rfl
  · refine ⟨17, ?_⟩
    simp only [sizarlaw22_MeetingTotal.f, sane_true 17 (by omega), few1.f, Option.bind_some]
    rw [if_pos trivial, if_neg (by simpa using hl)]
end Go.Proofs.Ytlcckkimbkfjpaa.G
