/- The law of the chapter's plain retelling: what it computes is true. -/
import Derived.Test.YtlcckkimbkfjpaaGsane
import Derived.Test.YtlcckkimbkfjpaaGspan
import Derived.Test.YtlcckkimbkfjpaaGx10
namespace Go.Proofs.Ytlcckkimbkfjpaa.G
open Go.RowKit Go.Proofs.YtlcckkimbkfjpaaW.PrintWords Go.Proofs.YtlcckkimbkfjpaaW.PrintLast Go.Proofs.YtlcckkimbkfjpaaW.PrintMore
set_option linter.unusedVariables false
set_option linter.unusedSimpArgs false
theorem up {α : Type} {g : Nat → Option α} (h : ∀ k, LeO (g k) (g (k + 1))) {k k' : Nat} {r : α} (hk : g k = some r) (hle : k ≤ k') : g k' = some r := by
  induction hle with
  | refl => exact hk
  | step _ ih => exact h _ _ ih
theorem srd38 {l : List S38} {i : Nat} (h : i < l.length) : rd_T38 l i = l[i] := by simp [rd_T38, h]
theorem srd42 {l : List S42} {i : Nat} (h : i < l.length) : rd_T42 l i = l[i] := by simp [rd_T42, h]
theorem sw1 {i : Nat} (h : i < 1000000) : wrap64 ((i : Int) + 1) = ((i + 1 : Nat) : Int) := by rw [w64 (by omega) (by omega)]; omega
theorem valid_f (x : S38) : sizarref22_Valid.f x.f0 x.f1 x.f2 x.f3 x.f4 = some (vldB x) := by
  unfold sizarref22_Valid.f
  cases h : vldB x with
  | true =>
    have := vld_iff.1 h
    rw [if_pos (by omega), if_pos (by omega), if_pos (by omega), if_pos (by omega), if_pos (by omega), if_pos (by omega), if_pos (by omega), decide_eq_true (by omega)]
  | false =>
    have h2 : ¬ (vldB x = true) := by rw [h]; simp
    rw [vld_iff] at h2
    repeat' split
    all_goals first | rfl | (congr 1; rw [decide_eq_false_iff_not]; omega)
theorem overlap_f (x y : S38) (hx : vldB x = true) (hy : vldB y = true) : sizarref22_Overlap.f x.f0 x.f1 x.f2 x.f3 x.f4 y.f0 y.f1 y.f2 y.f3 y.f4 = some (ovlB x y) := by
  have hx := vld_iff.1 hx
  have hy := vld_iff.1 hy
  unfold sizarref22_Overlap.f
  cases h : ovlB x y with
  | true =>
    rw [ovl_iff, mx_iff, mn_iff, mx_iff, mn_iff] at h
    rw [if_pos (by omega), if_pos (by omega), if_pos (by omega), if_pos (by omega), decide_eq_true (by omega)]
  | false =>
    have h2 : ¬ (ovlB x y = true) := by rw [h]; simp
    rw [ovl_iff, mx_iff, mn_iff, mx_iff, mn_iff] at h2
    repeat' split
    all_goals first | rfl | (congr 1; rw [decide_eq_false_iff_not]; omega)
theorem bad {l : List S38} (h : ¬ Good l) : checkM l = 220 := by
  rcases checkM_or l with h2 | h2
  · exact absurd ((good_iff l).1 h2) h
  · exact h2
theorem check_l1 (l : List S38) (hl : l.length ≤ 16) (i : Nat) (hi : i < l.length) (hv : ∀ j (h : j ≤ i), vldB (l[j]'(by omega)) = true) (k' : Nat)
    (hend : (∀ j (h : j < i), ovlB (l[j]'(by omega)) l[i] = false) → sizarref22_Check.l0 k' l ((i + 1 : Nat) : Int) = some (checkM l)) :
    ∀ (n j : Nat) (hji : j ≤ i), i - j = n → (∀ m (h : m < j), ovlB (l[m]'(by omega)) l[i] = false) → sizarref22_Check.l1 (k' + n + 1) l i j = some (checkM l) := by
  intro n
  induction n with
  | zero =>
    intro j h1 h2 h3
    have : j = i := by omega
    subst this
    rw [sizarref22_Check.l1, if_neg (by omega), sw1 (by omega)]
    exact hend h3
  | succ n ih =>
    intro j h1 h2 h3
    rw [show k' + (n + 1) + 1 = (k' + n + 1) + 1 by omega, sizarref22_Check.l1]
    rw [if_pos (by omega), if_pos (by omega), if_pos (by omega), if_pos (by omega), if_pos (by omega), srd38 hi, srd38 (show j < l.length by omega), overlap_f _ _ (hv j (by omega)) (hv i (by omega)), Option.bind_some, sw1 (by omega)]
    cases h : ovlB (l[j]'(by omega)) l[i] with
    | true =>
      rw [if_pos rfl, bad]
      rintro ⟨_, _, hp⟩
      rw [List.pairwise_iff_getElem] at hp
      have := hp j i (by omega) hi (by omega)
      rw [h] at this; cases this
    | false =>
      rw [if_neg (by simp)]
      refine ih (j + 1) (by omega) (by omega) (fun m hm => ?_)
      by_cases e : m < j
      · exact h3 m e
      · obtain rfl : m = j := by omega
        exact h
theorem check_l0 (l : List S38) (hl : l.length ≤ 16) :
    ∀ (n i : Nat), i ≤ l.length → l.length - i = n → (∀ j (h : j < l.length), j < i → vldB l[j] = true) → (∀ j m (h : m < l.length) (hjm : j < m), m < i → ovlB (l[j]'(by omega)) l[m] = false) → ∃ k, sizarref22_Check.l0 k l i = some (checkM l) := by
  intro n
  induction n with
  | zero =>
    intro i h1 h2 h3 h4
    have : i = l.length := by omega
    subst this
    refine ⟨1, ?_⟩
    have hg : Good l := by
      refine ⟨hl, fun x hx => ?_, ?_⟩
      · obtain ⟨j, hj, rfl⟩ := List.mem_iff_getElem.1 hx
        exact h3 j hj hj
      · rw [List.pairwise_iff_getElem]
        intro j m hj hm hjm
        exact h4 j m hm hjm hm
    rw [sizarref22_Check.l0, if_neg (by omega), (good_iff l).2 hg]
  | succ n ih =>
    intro i h1 h2 h3 h4
    have hi : i < l.length := by omega
    cases hv : vldB l[i] with
    | true =>
      have hvs : ∀ j (h : j < l.length), j < i + 1 → vldB l[j] = true := by
        intro j h hj
        by_cases e : j < i
        · exact h3 j h e
        · obtain rfl : j = i := by omega
          exact hv
      by_cases ho : ∀ j (h : j < i), ovlB (l[j]'(by omega)) l[i] = false
      · obtain ⟨k, hk⟩ := ih (i + 1) (by omega) (by omega) hvs (by
          intro j m h hjm hm
          by_cases e : m < i
          · exact h4 j m h hjm e
          · obtain rfl : m = i := by omega
            exact ho j hjm)
        refine ⟨k + i + 1 + 1, ?_⟩
        rw [sizarref22_Check.l0, if_pos (by omega), if_pos (by omega), srd38 hi, valid_f, hv, Option.bind_some, if_pos rfl]
        exact check_l1 l hl i hi (fun j h => hvs j (by omega) (by omega)) k (fun _ => hk) i 0 (by omega) (by omega) (fun m hm => by omega)
      · refine ⟨0 + i + 1 + 1, ?_⟩
        rw [sizarref22_Check.l0, if_pos (by omega), if_pos (by omega), srd38 hi, valid_f, hv, Option.bind_some, if_pos rfl]
        exact check_l1 l hl i hi (fun j h => hvs j (by omega) (by omega)) 0 (fun h => absurd h ho) i 0 (by omega) (by omega) (fun m hm => by omega)
    | false =>
      refine ⟨1, ?_⟩
      rw [sizarref22_Check.l0, if_pos (by omega), if_pos (by omega), srd38 hi, valid_f, hv, Option.bind_some, if_neg (by simp), bad]
      rintro ⟨_, h, _⟩
      have := h l[i] (List.getElem_mem hi)
      rw [hv] at this; cases this
theorem refCheck (l : List S38) : ∃ k, sizarref22_Check.f k l = some (checkM l) := by
  unfold sizarref22_Check.f
  by_cases h : (l.length : Int) > 16
  · exact ⟨0, by rw [if_pos h, bad]; rintro ⟨h2, _⟩; omega⟩
  · obtain ⟨k, hk⟩ := check_l0 l (by omega) _ 0 (by omega) rfl (fun j h hj => by omega) (fun j m h hjm hm => by omega)
    exact ⟨k, by rw [if_neg h]; exact hk⟩
theorem rminutes_l0 (l : List S38) (hv : l.all vldB = true) (hn : l.length ≤ 1000) : ∀ (k i : Nat), i ≤ l.length → l.length - i < k → sizarref22_Minutes.l0 k l (minM (l.take i)) i = some (minM l, 0) := by
  intro k
  induction k with
  | zero => intro i _ h; omega
  | succ k ih =>
    intro i hi hk
    rw [sizarref22_Minutes.l0]
    by_cases h : i < l.length
    · rw [if_pos (by omega), if_pos (by omega)]
      have hx : vldB l[i] = true := List.all_eq_true.1 hv _ (List.getElem_mem h)
      have hb := one_bound hx
      have hx' := vld_iff.1 hx
      have hall : ∀ j, (l.take j).all vldB = true := fun j => List.all_eq_true.2 fun y hy => List.all_eq_true.1 hv y (List.mem_of_mem_take hy)
      have ht := minM_bound (l.take i) (hall i)
      have htl : (l.take i).length ≤ 1000 := by rw [List.length_take]; omega
      rw [srd38 h, w64 (i := l[i].f2 - l[i].f1) (by omega) (by omega), w64 (i := l[i].f4 - l[i].f3) (by omega) (by omega), w64 (i := l[i].f4 - l[i].f3 + 1) (by omega) (by omega), w64 (i := (l[i].f2 - l[i].f1) * (l[i].f4 - l[i].f3 + 1)) (by omega) (by omega), w64 (i := minM (l.take i) + _) (by omega) (by omega), w64 (i := (i : Int) + 1) (by omega) (by omega)]
      have hs : minM (l.take i) + (l[i].f2 - l[i].f1) * (l[i].f4 - l[i].f3 + 1) = minM (l.take (i + 1)) := by
        rw [List.take_succ_eq_append_getElem h, minM_append]; simp [minM]
      rw [hs, show ((i : Int) + 1) = ((i + 1 : Nat) : Int) by omega]
      exact ih (i + 1) (by omega) (by omega)
    · rw [if_neg (by omega), List.take_of_length_le (by omega)]
theorem refMinutes (l : List S38) : ∃ k, sizarref22_Minutes.f k l = some (if checkM l = 0 then (minM l, 0) else (0, checkM l)) := by
  obtain ⟨k, hk⟩ := refCheck l
  refine ⟨k + 1001, ?_⟩
  unfold sizarref22_Minutes.f
  rw [up (sizarref22_Check.mono l) hk (show k ≤ k + 1001 by omega), Option.bind_some]
  by_cases h : checkM l = 0
  · rw [if_pos h, if_pos h]
    obtain ⟨h1, h2, _⟩ := checkM_zero h
    have := rminutes_l0 l h2 (by omega) (k + 1001) 0 (by omega) (by omega)
    simpa [minM] using this
  · rw [if_neg h, if_neg h]
/-- The spans up to a minute. -/
def trunc (t : Int) : List S42 → List S42
  | [] => []
  | s :: r => if s.f0 < t then ⟨s.f0, min s.f1 t⟩ :: trunc t r else []
def stepS (t : Int) : List S42 → List S42
  | [] => [⟨t, t + 1⟩]
  | [s] => if s.f1 = t then [⟨s.f0, t + 1⟩] else [s, ⟨t, t + 1⟩]
  | s :: s2 :: r => s :: stepS t (s2 :: r)
theorem trunc_nil {t : Int} : ∀ {G : List S42} {last : Int}, ChainOk last G → t ≤ last → trunc t G = []
  | [], _, _, _ => rfl
  | s :: r, last, ⟨h1, _⟩, ht => by rw [trunc, if_neg (by omega)]
theorem cov_nil {t : Int} : ∀ {G : List S42} {last : Int}, ChainOk last G → t ≤ last → G.any (covS t) = false
  | [], _, _, _ => rfl
  | s :: r, last, ⟨h1, _, h2, _, h3⟩, ht => by
    rw [List.any_cons, cov_nil h3 (by omega)]
    simp [covS]; omega
theorem trunc_pos {t : Int} {s : S42} {r : List S42} (h : s.f0 < t) : trunc t (s :: r) = ⟨s.f0, min s.f1 t⟩ :: trunc t r := by rw [trunc, if_pos h]
theorem trunc_neg {t : Int} {s : S42} {r : List S42} (h : ¬ s.f0 < t) : trunc t (s :: r) = [] := by rw [trunc, if_neg h]
theorem trunc_step (t : Int) : ∀ (G : List S42) (last : Int), ChainOk last G → trunc (t + 1) G = if G.any (covS t) = true then stepS t (trunc t G) else trunc t G
  | [], _, _ => by simp [trunc]
  | s :: r, last, ⟨h1, h2, h3, h4, h5⟩ => by
    rw [List.any_cons]
    by_cases c1 : t < s.f0
    · have hc : covS t s = false := by unfold covS; rw [decide_eq_false_iff_not]; omega
      rw [cov_nil h5 (by omega), hc, trunc_neg (by omega), trunc_neg (by omega), if_neg (by simp)]
    · by_cases c2 : t = s.f0
      · have hc : covS t s = true := by unfold covS; rw [decide_eq_true_eq]; omega
        rw [hc, Bool.true_or, if_pos rfl, trunc_pos (by omega), trunc_neg (by omega), trunc_nil h5 (by omega), stepS]
        congr 1
        exact S42_ext (by simp; omega) (by simp; omega)
      · by_cases c3 : t < s.f1
        · have hc : covS t s = true := by unfold covS; rw [decide_eq_true_eq]; omega
          rw [hc, Bool.true_or, if_pos rfl, trunc_pos (by omega), trunc_pos (by omega), trunc_nil h5 (by omega), trunc_nil h5 (by omega), stepS, if_pos (by simp; omega)]
          congr 1
          exact S42_ext rfl (by simp; omega)
        · have hc : covS t s = false := by unfold covS; rw [decide_eq_false_iff_not]; omega
          have e1 : min s.f1 (t + 1) = s.f1 := by omega
          have e2 : min s.f1 t = s.f1 := by omega
          rw [hc, Bool.false_or, trunc_pos (by omega), trunc_pos (by omega), trunc_step t r _ h5, e1, e2]
          cases hq : r.any (covS t) with
          | false => simp
          | true =>
            rw [if_pos rfl, if_pos rfl]
            have hlt : s.f1 < t := by
              rcases Int.lt_or_le s.f1 t with h | h
              · exact h
              · rw [cov_nil h5 h] at hq; cases hq
            cases hr : trunc t r with
            | nil => rw [stepS, stepS, if_neg (by simp; omega)]
            | cons a b => rw [stepS]
theorem trunc_all : ∀ (G : List S42) (last : Int), ChainOk last G → trunc 1440 G = G
  | [], _, _ => rfl
  | s :: r, last, ⟨h1, h2, h3, h4, h5⟩ => by
    rw [trunc, if_pos (by omega), trunc_all r _ h5]
    congr 1
    exact S42_ext rfl (by simp; omega)
theorem trunc_zero : ∀ (G : List S42) (last : Int), ChainOk last G → trunc 0 G = []
  | [], _, _ => rfl
  | s :: r, last, ⟨h1, h2, _⟩ => by rw [trunc, if_neg (by omega)]
theorem trunc_len (t : Int) : ∀ (G : List S42), (trunc t G).length ≤ G.length
  | [] => by simp [trunc]
  | s :: r => by
    have := trunc_len t r
    rw [trunc]; split <;> simp <;> omega
theorem step_at (t : Int) : ∀ (a : List S42) (h : 0 < a.length), stepS t a = if (a[a.length - 1]'(by omega)).f1 = t then a.set (a.length - 1) ⟨(a[a.length - 1]'(by omega)).f0, t + 1⟩ else a ++ [⟨t, t + 1⟩]
  | [s], _ => by simp [stepS]
  | s :: s2 :: r, _ => by
    rw [stepS, step_at t (s2 :: r) (by simp)]
    simp only [List.length_cons]
    have e : r.length + 1 + 1 - 1 = (r.length + 1 - 1) + 1 := by omega
    simp only [e, List.getElem_cons_succ, List.set_cons_succ]
    split <;> simp
theorem covers_f (x : S38) (d w t : Int) : sizarref22_Covers.f x.f0 x.f1 x.f2 x.f3 x.f4 d w t = some (covB d w t x) := by
  unfold sizarref22_Covers.f covB
  repeat' split
  all_goals (congr 1; rw [Bool.eq_iff_iff]; simp only [decide_eq_true_eq, Bool.false_eq_true, false_iff]; omega)
theorem free_l1 (l : List S38) (hn : l.length ≤ 1000) (d w : Int) (x9 : List S42) (hx : x9.length ≤ 1000) (t : Nat) (ht : t < 1440) (c : Bool) (k' : Nat) (r : List S42 × Int)
    (hend : sizarref22_Free.l0 k' l d w (if c = true then x9 else stepS t x9) ((t + 1 : Nat) : Int) = some r) :
    ∀ (n i : Nat) (f : Bool), i ≤ l.length → l.length - i = n → (f || (l.drop i).any (covB d w t)) = c → sizarref22_Free.l1 (k' + n + 1) l d w x9 t f i = some r := by
  intro n
  induction n with
  | zero =>
    intro i f h1 h2 h3
    have : i = l.length := by omega
    subst this
    simp only [List.drop_length, List.any_nil, Bool.or_false] at h3
    subst h3
    rw [sizarref22_Free.l1, if_neg (by omega), sw1 (by omega)]
    cases f with
    | true => rw [if_pos rfl] at hend ⊢; exact hend
    | false =>
      rw [if_neg (by simp)] at hend ⊢
      by_cases hp : (x9.length : Int) > 0
      · have hl : x9.length - 1 < x9.length := by omega
        rw [step_at _ _ (by omega)] at hend
        rw [if_pos hp, w64 (i := (x9.length : Int) - 1) (by omega) (by omega), show (x9.length : Int) - 1 = ((x9.length - 1 : Nat) : Int) by omega, if_pos (by omega), if_pos (by omega), srd42 hl, Int.toNat_natCast]
        by_cases he : x9[x9.length - 1].f1 = (t : Int)
        · rw [if_pos he] at hend ⊢; exact hend
        · rw [if_neg he] at hend ⊢; rw [if_pos (by omega)]; exact hend
      · have : x9 = [] := List.length_eq_zero_iff.1 (by omega)
        subst this
        rw [if_neg hp, if_pos (by simp)]
        exact hend
  | succ n ih =>
    intro i f h1 h2 h3
    have hi : i < l.length := by omega
    rw [List.drop_eq_getElem_cons hi, List.any_cons, ← Bool.or_assoc] at h3
    have := ih (i + 1) _ (by omega) (by omega) h3
    rw [show k' + (n + 1) + 1 = (k' + n + 1) + 1 by omega, sizarref22_Free.l1, if_pos (by omega), sw1 (by omega)]
    cases f with
    | true => rw [if_pos rfl]; rw [Bool.true_or] at this; exact this
    | false => rw [if_neg (by simp), if_pos (by omega), srd38 hi, covers_f, Option.bind_some]; rw [Bool.false_or] at this; exact this
theorem free_l0 (l : List S38) (hn : l.length ≤ 1000) (d w : Int) (G : List S42) (hG : G.length ≤ 1000) (hch : ChainOk (-1) G) (hcov : ∀ t : Int, 0 ≤ t → t < 1440 → G.any (covS t) = !(l.any (covB d w t))) (k0 : Nat) :
    ∀ (n : Nat), n ≤ 1440 → ∃ k, k0 ≤ k ∧ sizarref22_Free.l0 k l d w (trunc ((1440 - n : Nat) : Int) G) ((1440 - n : Nat) : Int) = some (G, 0) := by
  intro n
  induction n with
  | zero =>
    intro _
    refine ⟨k0 + 1, by omega, ?_⟩
    rw [sizarref22_Free.l0, if_neg (by omega), show ((1440 - 0 : Nat) : Int) = 1440 from rfl, trunc_all G _ hch]
  | succ n ih =>
    intro hle
    obtain ⟨k, h1, h2⟩ := ih (by omega)
    refine ⟨k + l.length + 1 + 1, by omega, ?_⟩
    rw [sizarref22_Free.l0, if_pos (by omega)]
    have hl := trunc_len ((1440 - (n + 1) : Nat) : Int) G
    refine free_l1 l hn d w _ (by omega) (1440 - (n + 1)) (by omega) (l.any (covB d w ((1440 - (n + 1) : Nat) : Int))) k _ ?_ l.length 0 false (by omega) (by omega) (by rw [Bool.false_or, List.drop_zero])
    have hs := trunc_step ((1440 - (n + 1) : Nat) : Int) G _ hch
    rw [hcov _ (by omega) (by omega), show ((1440 - (n + 1) : Nat) : Int) + 1 = ((1440 - n : Nat) : Int) by omega] at hs
    rw [show 1440 - (n + 1) + 1 = 1440 - n by omega]
    have he : (if l.any (covB d w ((1440 - (n + 1) : Nat) : Int)) = true then trunc ((1440 - (n + 1) : Nat) : Int) G else stepS ((1440 - (n + 1) : Nat) : Int) (trunc ((1440 - (n + 1) : Nat) : Int) G)) = trunc ((1440 - n : Nat) : Int) G := by
      rw [hs]
      cases l.any (covB d w ((1440 - (n + 1) : Nat) : Int)) <;> simp
    rw [he]
    exact h2
theorem scount : ∀ (r : List S38) (frm : Int), (gaps frm r).length ≤ r.length + 1
  | [], frm => by simp only [gaps]; split <;> simp
  | m :: r, frm => by
    have := scount r m.f2
    simp only [gaps]; split <;> simp <;> omega
theorem stoday (l : List S38) (d w : Int) : (todayM l d w).length ≤ l.length := by
  obtain ⟨hperm, _⟩ := sortM_spec (l.filter fun x => !offB d w x)
  have := hperm.length_eq
  unfold todayM
  rw [this]
  exact List.length_filter_le _ _
theorem refFree (l : List S38) (d w : Int) : ∃ k, sizarref22_Free.f k l d w = some (freeM l d w) := by
  obtain ⟨k, hk⟩ := refCheck l
  rcases checkM_or l with hc | hc
  · by_cases hd : 0 ≤ d ∧ d < 7 ∧ 0 ≤ w ∧ w < 60
    · have hg := (good_iff l).1 hc
      have ho := today_ord hg d w
      have hch := gaps_chain _ _ (-1) (by omega) (by omega) ho
      have h1 := hg.1
      have h2 := scount (todayM l d w) 0
      have h3 := stoday l d w
      obtain ⟨k2, h4, h5⟩ := free_l0 l (by omega) d w (gaps 0 (todayM l d w)) (by omega) hch (fun t h1 h2 => by rw [gaps_cov _ _ t ho h1 h2, today_cov]) k 1440 (by omega)
      refine ⟨k2 + 1, ?_⟩
      unfold sizarref22_Free.f freeM
      rw [up (sizarref22_Check.mono l) hk (show k ≤ k2 + 1 by omega), Option.bind_some, if_pos hc, if_neg (by omega), if_neg (by omega), if_neg (by omega), decide_eq_false (by omega), sizarref22_Free.j0, if_neg (by simp), if_pos hc, if_pos hd, spansM_gaps]
      have e : trunc (((1440 - 1440 : Nat) : Int)) (gaps 0 (todayM l d w)) = [] := trunc_zero _ _ hch
      rw [e] at h5
      exact h5
    · refine ⟨k + 1, ?_⟩
      have hj : sizarref22_Free.j0 (k + 1) l d w true = some ([], 1) := by rw [sizarref22_Free.j0, if_pos rfl]
      unfold sizarref22_Free.f freeM
      rw [up (sizarref22_Check.mono l) hk (show k ≤ k + 1 by omega), Option.bind_some, if_pos hc, if_pos hc, if_neg hd]
      split
      · exact hj
      · split
        · exact hj
        · split
          · exact hj
          · rw [decide_eq_true (by omega)]; exact hj
  · refine ⟨k, ?_⟩
    unfold sizarref22_Free.f freeM
    rw [hk, Option.bind_some, if_neg (by omega), if_neg (by omega)]
theorem spec_true (l : List S38) (d w : Int) : ∃ k, sizarlaw22_MeetingFreeSpec.f k l d w = some true := by
  by_cases hl : l.length ≤ 20
  · obtain ⟨k1, h1⟩ := refMinutes l
    obtain ⟨k2, h2⟩ := refFree l d w
    have h3 : (freeM l d w).1.length ≤ 1000 := by
      unfold freeM
      split
      · split
        · have a := scount (todayM l d w) 0
          have b := stoday l d w
          simp only [spansM_gaps]; omega
        · simp
      · simp
    obtain ⟨r, h4, h5⟩ := same_f (freeM l d w).1 (freeM l d w).1 (by omega) (k1 + k2 + 1017) (by omega)
    refine ⟨k1 + k2 + 1017, ?_⟩
    simp only [sizarlaw22_MeetingFreeSpec.f, sane_true (k1 + k2 + 1017) (by omega), few1.f, minutes_f l (k1 + k2 + 1017) (by omega), up (sizarref22_Minutes.mono l) h1 (show k1 ≤ k1 + k2 + 1017 by omega), up (sizarref22_Free.mono l d w) h2 (show k2 ≤ k1 + k2 + 1017 by omega), meeting_Free.f, Option.bind_some, h4, h5.2 rfl]
    simp
  · refine ⟨17, ?_⟩
    simp only [sizarlaw22_MeetingFreeSpec.f, sane_true 17 (by omega), few1.f, Option.bind_some]
    rw [if_pos trivial, if_neg (by simpa using hl)]
end Go.Proofs.Ytlcckkimbkfjpaa.G
