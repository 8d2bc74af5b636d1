/- The variadic test 'few' at one and at two lists: its contract at a call that has just built the list of its arguments. -/
import Derived.Test.YtlcckkimbkfjpaaGx3
namespace Go.Proofs.Ytlcckkimbkfjpaa.G
open Go.RowKit Go.Proofs.YtlcckkimbkfjpaaW.PrintWords Go.Proofs.YtlcckkimbkfjpaaW.PrintLast Go.Proofs.YtlcckkimbkfjpaaW.PrintMore
set_option linter.unusedVariables false
set_option linter.unusedSimpArgs false
def few1.f (l0 : List S38) : Option Bool := some (decide (l0.length ≤ 20))
def few2.f (l0 l1 : List S38) : Option Bool := some (decide (l0.length ≤ 20 ∧ l1.length ≤ 20))
theorem few_rows (w : World) (ls : List (List S38)) (cs : List Value) (hl : cs.length = ls.length) (hn : ls.length ≤ 9223372036854775807)
    (h : ∀ (j : Nat) (l : List S38), ls[j]? = some l → ∃ A c, cs[j]? = some (.slice A l.length c) ∧ l.length ≤ c ∧ Kd.C k38 w A l.length l) :
    Kd.C (Kd.slice 38 k38) (w.alloc (.cells cs.toArray 22)) (some ⟨w.heap.size, 0, none⟩) ls.length ls := by
  refine ⟨rfl, hn, fun h0 => ⟨_, rfl, fun j p hj => ?_⟩⟩
  obtain ⟨A, c, h1, h2, h3⟩ := h j p hj
  refine ⟨[.slice A p.length c], rfl, ⟨A, c, rfl, h2, Kd.C_below h3 ((Below.refl _ w).alloc (Nat.le_refl _) _)⟩, fun i u hi => ?_⟩
  cases i with
  | succ i => simp at hi
  | zero =>
    simp at hi
    subst hi
    simp only [show (Kd.slice 38 k38).sz = 1 from rfl, Nat.mul_one, Nat.add_zero, add_plain]
    rw [World.cell?_alloc_new]
    simpa using h1
theorem few_one (k : Nat) (ls : List (List S38)) (i : Nat) (hi : i ≤ ls.length) (hk : ls.length - i < k) (hn : ls.length ≤ 9223372036854775807) :
    sizarlaw22_few.l0 k ls (ls.length : Int) i = some ((ls.drop i).all fun l => decide (l.length ≤ 20)) := by
  induction k generalizing i with
  | zero => omega
  | succ k ih =>
    simp only [sizarlaw22_few.l0]
    by_cases h : i < ls.length
    · rw [if_pos (by omega), if_pos (by omega), if_pos (by omega)]
      have hd : ls.drop i = ls[i] :: ls.drop (i + 1) := List.drop_eq_getElem_cons h
      have hr : rd_L2 ls i = ls[i] := by simp [rd_L2, h]
      have hw : wrap64 ((i : Int) + 1) = ((i + 1 : Nat) : Int) := by unfold wrap64; omega
      rw [hr, hd, List.all_cons]
      simp only [sizarref22_Few.f, Option.bind_some]
      by_cases h2 : ls[i].length ≤ 20
      · simp only [show ((ls[i].length : Int) ≤ 20) from by omega, decide_true, h2, Bool.true_and, not_true, if_false, hw]
        simpa using ih (i + 1) (by omega) (by omega)
      · simp [show ¬ ((ls[i].length : Int) ≤ 20) from by omega, h2]
    · rw [if_neg (by omega), List.drop_of_length_le (by omega)]
      rfl
theorem few_f (ls : List (List S38)) (hn : ls.length ≤ 9223372036854775807) : sizarlaw22_few.f (ls.length + 1) ls = some (ls.all fun l => decide (l.length ≤ 20)) := by
  have := few_one (ls.length + 1) ls 0 (by omega) (by omega) hn
  simpa [sizarlaw22_few.f] using this
theorem few1.calls (A0 : Option Addr) (c0 : Nat) (l0 : List (S38)) (r : Bool) (w : World) (hr0 : Kd.C k38 w A0 l0.length l0) (hc0 : l0.length ≤ c0) (h : few1.f l0 = some r) :
    Calls Try.prog 10 #[.slice (some ⟨w.heap.size, 0, none⟩) 1 1] (w.alloc (.cells #[.slice A0 l0.length c0] 22)) fun e w' => e = .returned (.bool r) ∧ Below w.heap.size w w' := by
  have hf := few_f [l0] (by simp)
  have hr : r = [l0].all fun l => decide (l.length ≤ 20) := by have := Option.some.inj h; simp [← this]
  rw [← hr] at hf
  refine (sizarlaw22_few.calls _ _ 1 [l0] r _ (few_rows w [l0] [.slice A0 l0.length c0] rfl (by simp) ?_) (Nat.le_refl _) hf).mono ?_
  · rintro (_ | j) l hl
    · simp at hl; subst hl; exact ⟨A0, c0, rfl, hc0, hr0⟩
    · simp at hl
  · rintro e w' ⟨rfl, hd⟩
    exact ⟨rfl, ((Below.refl _ w).alloc (Nat.le_refl _) _).trans (hd.below.mono (by simp))⟩
theorem few2.calls (A0 : Option Addr) (c0 : Nat) (l0 : List (S38)) (A1 : Option Addr) (c1 : Nat) (l1 : List (S38)) (r : Bool) (w : World) (hr0 : Kd.C k38 w A0 l0.length l0) (hc0 : l0.length ≤ c0) (hr1 : Kd.C k38 w A1 l1.length l1) (hc1 : l1.length ≤ c1) (h : few2.f l0 l1 = some r) :
    Calls Try.prog 10 #[.slice (some ⟨w.heap.size, 0, none⟩) 2 2] (w.alloc (.cells #[.slice A0 l0.length c0, .slice A1 l1.length c1] 22)) fun e w' => e = .returned (.bool r) ∧ Below w.heap.size w w' := by
  have hf := few_f [l0, l1] (by simp)
  have hr : r = [l0, l1].all fun l => decide (l.length ≤ 20) := by have := Option.some.inj h; simp [← this]
  rw [← hr] at hf
  refine (sizarlaw22_few.calls _ _ 2 [l0, l1] r _ (few_rows w [l0, l1] [.slice A0 l0.length c0, .slice A1 l1.length c1] rfl (by simp) ?_) (Nat.le_refl _) hf).mono ?_
  · rintro (_ | _ | j) l hl
    · simp at hl; subst hl; exact ⟨A0, c0, rfl, hc0, hr0⟩
    · simp at hl; subst hl; exact ⟨A1, c1, rfl, hc1, hr1⟩
    · simp at hl
  · rintro e w' ⟨rfl, hd⟩
    exact ⟨rfl, ((Below.refl _ w).alloc (Nat.le_refl _) _).trans (hd.below.mono (by simp))⟩
end Go.Proofs.Ytlcckkimbkfjpaa.G
