/- slices.IndexFunc and slices.ContainsFunc at lists of meetings, for every predicate value that answers p and keeps what lay: the first index at which p holds, or -1; whether p holds anywhere. -/
import Derived.Test.YtlcckkimbkfjpaaGcheck
namespace Go.Proofs.Ytlcckkimbkfjpaa.G
open Go.RowKit Go.Shelf Go.Proofs.YtlcckkimbkfjpaaW.PrintWords Go.Proofs.YtlcckkimbkfjpaaW.PrintLast Go.Proofs.YtlcckkimbkfjpaaW.PrintMore
set_option linter.unusedVariables false
/-- The first index at which p holds, from i on; -1. -/
def idxM (p : S38 → Bool) : List S38 → Int → Int
  | [], _ => -1
  | x :: r, i => if p x then i else idxM p r (i + 1)
theorem idxM_from (p : S38 → Bool) (l : List S38) : ∀ i : Int, 0 ≤ i → (l.any p = true → i ≤ idxM p l i) ∧ (l.any p = false → idxM p l i = -1) := by
  induction l with
  | nil => intro i _; simp [idxM]
  | cons x r ih =>
    intro i hi
    have := ih (i + 1) (by omega)
    by_cases h : p x = true
    · simp [idxM, h]
    · simp only [Bool.not_eq_true] at h
      simp only [List.any_cons, h, Bool.false_or, idxM]
      exact ⟨fun h2 => by have := this.1 h2; simp; omega, fun h2 => by simpa using this.2 h2⟩
theorem idxM_nonneg (p : S38 → Bool) (l : List S38) : decide (0 ≤ idxM p l 0) = l.any p := by
  have h := idxM_from p l 0 (by omega)
  cases ha : l.any p with
  | true => have := h.1 ha; simp; omega
  | false => rw [h.2 ha]; rfl

set_option maxRecDepth 100000 in
set_option maxHeartbeats 2000000 in
theorem index_bound (m : S38) (p : S38 → Bool) (A0 : Option Addr) (c0 : Nat) (l0 : List S38) (w : World) (hr0 : Kd.C k38 w A0 l0.length l0)
    (hp : ∀ (W : World) (x : S38), Below w.heap.size w W → Calls Try.prog 29 #[ev38 m, ev38 x] W fun e w' => e = .returned (.bool (p x)) ∧ Below W.heap.size W w') :
    Calls Try.prog 34 #[.slice A0 l0.length c0, .func (.func 29) #[ev38 m] #[]] w fun e w' => e = .returned (.int .i64 (idxM p l0 0)) ∧ Below w.heap.size w w' := by
  have hlen : l0.length ≤ 9223372036854775807 := hr0.2.1
  have hu38 := Try.underlying38
  have HP := Aside0.mk hp
  clear hp
  go_enter Try.func34, Try.ntmps34
  go_wp2
  go_loopw [8] (fun i wr => ∃ k : Nat, k ≤ l0.length ∧ i = .int .i64 k ∧ Below w.heap.size w wr ∧ Aside0 (idxM p l0 0 = idxM p (l0.drop k) k))
    (fun i _ => l0.length - (intOf i).toNat)
  case atStart => exact ⟨0, by omega, rfl, Below.refl _ w, ⟨by simp⟩⟩
  case round =>
    obtain ⟨k, hk, rfl, hB, hI⟩ := hrel
    by_cases hlt : k < l0.length
    · obtain ⟨ad, rfl, g0, g1, g2, g3, g4⟩ := at38 (Kd.C_below hr0 hB) hlt
      have hx : l0.getD k z38 = l0[k] := by simp [hlt]
      rw [hx] at g0 g1 g2 g3 g4
      have hd : Aside0 (l0.drop k = l0[k] :: l0.drop (k + 1)) := ⟨List.drop_eq_getElem_cons hlt⟩
      cases hv : p l0[k] with
      | true =>
        have hv2 : Aside0 (p l0[k] = true) := ⟨hv⟩
        clear hv
        have hans : Aside0 (idxM p l0 0 = k) := ⟨by rw [hI.out, hd.out, idxM, if_pos hv2.out]⟩
        clear hI
        go_wp2_with (go_at_call 29; refine (HP.out _ l0[k] hB).mono ?_; rintro e w1 ⟨rfl, hb1⟩; rw [hv2.out])
        go_ret
        exact ⟨by rw [hans.out]; rfl, hB.trans (hb1.mono hB.size)⟩
      | false =>
        have hv2 : Aside0 (p l0[k] = false) := ⟨hv⟩
        clear hv
        have hans : Aside0 (idxM p l0 0 = idxM p (l0.drop (k + 1)) ((k + 1 : Nat) : Int)) := ⟨by rw [hI.out, hd.out, idxM, if_neg (by rw [hv2.out]; simp)]; rfl⟩
        clear hI
        go_wp2_with (go_at_call 29; refine (HP.out _ l0[k] hB).mono ?_; rintro e w1 ⟨rfl, hb1⟩; rw [hv2.out])
        go_roundw
        case rel => exact ⟨k + 1, by omega, by simp, hB.trans (hb1.mono hB.size), hans⟩
        case measure => simp [intOf]; omega
    · have hans : Aside0 (idxM p l0 0 = -1) := ⟨by rw [hI.out, List.drop_of_length_le (by omega), idxM]⟩
      clear hI
      go_wp2
      go_ret
      exact ⟨by rw [hans.out]; rfl, hB⟩

set_option maxHeartbeats 1000000 in
theorem contains_bound (m : S38) (p : S38 → Bool) (A0 : Option Addr) (c0 : Nat) (l0 : List S38) (w : World) (hr0 : Kd.C k38 w A0 l0.length l0)
    (hp : ∀ (W : World) (x : S38), Below w.heap.size w W → Calls Try.prog 29 #[ev38 m, ev38 x] W fun e w' => e = .returned (.bool (p x)) ∧ Below W.heap.size W w') :
    Calls Try.prog 28 #[.slice A0 l0.length c0, .func (.func 29) #[ev38 m] #[]] w fun e w' => e = .returned (.bool (l0.any p)) ∧ Below w.heap.size w w' := by
  have HI := Aside0.mk (index_bound m p A0 c0 l0 w hr0 hp)
  have hans := Aside0.mk (idxM_nonneg p l0)
  clear hp
  go_enter Try.func28, Try.ntmps28
  go_wp2_with (go_at_call 34; refine HI.out.mono ?_; rintro e w1 ⟨rfl, hb1⟩)
  go_ret
  exact ⟨by rw [hans.out]; rfl, hb1⟩

set_option maxRecDepth 100000 in
set_option maxHeartbeats 2000000 in
theorem index_clo (b1 b2 : Nat) (p : S38 → Bool) (A0 : Option Addr) (c0 : Nat) (l0 : List S38) (w : World) (hr0 : Kd.C k38 w A0 l0.length l0)
    (hp : ∀ (W : World) (x : S38), Below w.heap.size w W → Calls Try.prog 23 #[ev38 x, .pointer (some ⟨b1, 0, none⟩), .pointer (some ⟨b2, 0, none⟩)] W fun e w' => e = .returned (.bool (p x)) ∧ Below W.heap.size W w') :
    Calls Try.prog 34 #[.slice A0 l0.length c0, .func (.func 23) #[] #[.pointer (some ⟨b1, 0, none⟩), .pointer (some ⟨b2, 0, none⟩)]] w fun e w' => e = .returned (.int .i64 (idxM p l0 0)) ∧ Below w.heap.size w w' := by
  have hlen : l0.length ≤ 9223372036854775807 := hr0.2.1
  have hu38 := Try.underlying38
  have HP := Aside0.mk hp
  clear hp
  go_enter Try.func34, Try.ntmps34
  go_wp2
  go_loopw [8] (fun i wr => ∃ k : Nat, k ≤ l0.length ∧ i = .int .i64 k ∧ Below w.heap.size w wr ∧ Aside0 (idxM p l0 0 = idxM p (l0.drop k) k))
    (fun i _ => l0.length - (intOf i).toNat)
  case atStart => exact ⟨0, by omega, rfl, Below.refl _ w, ⟨by simp⟩⟩
  case round =>
    obtain ⟨k, hk, rfl, hB, hI⟩ := hrel
    by_cases hlt : k < l0.length
    · obtain ⟨ad, rfl, g0, g1, g2, g3, g4⟩ := at38 (Kd.C_below hr0 hB) hlt
      have hx : l0.getD k z38 = l0[k] := by simp [hlt]
      rw [hx] at g0 g1 g2 g3 g4
      have hd : Aside0 (l0.drop k = l0[k] :: l0.drop (k + 1)) := ⟨List.drop_eq_getElem_cons hlt⟩
      cases hv : p l0[k] with
      | true =>
        have hv2 : Aside0 (p l0[k] = true) := ⟨hv⟩
        clear hv
        have hans : Aside0 (idxM p l0 0 = k) := ⟨by rw [hI.out, hd.out, idxM, if_pos hv2.out]⟩
        clear hI
        go_wp2_with (go_at_call 23; refine (HP.out _ l0[k] hB).mono ?_; rintro e w1 ⟨rfl, hb1⟩; rw [hv2.out])
        go_ret
        exact ⟨by rw [hans.out]; rfl, hB.trans (hb1.mono hB.size)⟩
      | false =>
        have hv2 : Aside0 (p l0[k] = false) := ⟨hv⟩
        clear hv
        have hans : Aside0 (idxM p l0 0 = idxM p (l0.drop (k + 1)) ((k + 1 : Nat) : Int)) := ⟨by rw [hI.out, hd.out, idxM, if_neg (by rw [hv2.out]; simp)]; rfl⟩
        clear hI
        go_wp2_with (go_at_call 23; refine (HP.out _ l0[k] hB).mono ?_; rintro e w1 ⟨rfl, hb1⟩; rw [hv2.out])
        go_roundw
        case rel => exact ⟨k + 1, by omega, by simp, hB.trans (hb1.mono hB.size), hans⟩
        case measure => simp [intOf]; omega
    · have hans : Aside0 (idxM p l0 0 = -1) := ⟨by rw [hI.out, List.drop_of_length_le (by omega), idxM]⟩
      clear hI
      go_wp2
      go_ret
      exact ⟨by rw [hans.out]; rfl, hB⟩

set_option maxHeartbeats 1000000 in
theorem contains_clo (b1 b2 : Nat) (p : S38 → Bool) (A0 : Option Addr) (c0 : Nat) (l0 : List S38) (w : World) (hr0 : Kd.C k38 w A0 l0.length l0)
    (hp : ∀ (W : World) (x : S38), Below w.heap.size w W → Calls Try.prog 23 #[ev38 x, .pointer (some ⟨b1, 0, none⟩), .pointer (some ⟨b2, 0, none⟩)] W fun e w' => e = .returned (.bool (p x)) ∧ Below W.heap.size W w') :
    Calls Try.prog 28 #[.slice A0 l0.length c0, .func (.func 23) #[] #[.pointer (some ⟨b1, 0, none⟩), .pointer (some ⟨b2, 0, none⟩)]] w fun e w' => e = .returned (.bool (l0.any p)) ∧ Below w.heap.size w w' := by
  have HI := Aside0.mk (index_clo b1 b2 p A0 c0 l0 w hr0 hp)
  have hans := Aside0.mk (idxM_nonneg p l0)
  clear hp
  go_enter Try.func28, Try.ntmps28
  go_wp2_with (go_at_call 34; refine HI.out.mono ?_; rintro e w1 ⟨rfl, hb1⟩)
  go_ret
  exact ⟨by rw [hans.out]; rfl, hb1⟩

end Go.Proofs.Ytlcckkimbkfjpaa.G
