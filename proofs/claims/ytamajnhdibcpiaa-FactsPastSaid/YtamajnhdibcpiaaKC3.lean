/- Part 25 of the proof of the claim; the conditions are the statement's own. Own texts and printed texts, merged by pack.py (ours). -/
import Derived.Test.YtamajnhdibcpiaaRows
import Derived.Deep.Slices
import Derived.Deep.Fields
import Derived.ChangeSame
import Derived.WalkKit
import Derived.ProofKit
import Derived.OpenShut
import Derived.ChangeOld
import Derived.Below
import Derived.SizedLaws
import Derived.ShutString
import Derived.Test.YtamajnhdibcpiaaKC2
namespace Go.Proofs.Ytamajnhdibcpiaa.G
open Go.RowKit Go.Proofs.YtamajnhdibcpiaaW.PrintWords Go.Proofs.YtamajnhdibcpiaaW.PrintLast Go.Proofs.YtamajnhdibcpiaaW.PrintMore
attribute [local go_sem] max2_int min2_int max_two min_two max_three min_three max_four min_four   -- for this text's walks alone
set_option linter.unusedVariables false
set_option linter.unusedSimpArgs false
attribute [local go_sem high] eqA60
def sizarref07_SamePoints.l0 : Nat → List (S60) → List (S60) → Int → Option (Bool)
  | 0, _, _, _ => none
  | k + 1, x0, x1, x5 => if x5 < (x0.length : Int) then (if 0 ≤ x5 then (if x5 < (x1.length : Int) then (if (!(((rd_T60 x0 x5).f0) == ((rd_T60 x1 x5).f0)) || (!(((rd_T60 x0 x5).f1) == ((rd_T60 x1 x5).f1)))) = true then (some false) else (sizarref07_SamePoints.l0 k x0 x1 (wrap64 (x5 + 1)))) else (none)) else (none)) else (some true)
def sizarref07_SamePoints.f (k : Nat) (l0 : List (S60)) (l1 : List (S60)) : Option (Bool) := if (l0.length : Int) = (l1.length : Int) then (sizarref07_SamePoints.l0 k l0 l1 0) else (some false)
theorem sizarref07_SamePoints.mono_l : ∀ k, (∀ y0 y1 y2, LeO (sizarref07_SamePoints.l0 k y0 y1 y2) (sizarref07_SamePoints.l0 (k + 1) y0 y1 y2))
  | 0 => fun _ _ _ r h => by simp [sizarref07_SamePoints.l0] at h
  | k + 1 => by
    have ih0 := sizarref07_SamePoints.mono_l k
    · intro y0 y1 y2
      unfold sizarref07_SamePoints.l0
      repeat' first
      | (with_reducible exact ih0 _ _ _)
      | (with_reducible exact LeO.refl _)
      | (with_reducible exact LeO.none _)
      | (with_reducible refine LeO.ite ?_ ?_)
      | (with_reducible refine LeO.bind ?_ (fun _ => ?_))
      | exact ih0 _ _ _
      | exact LeO.none _
      | refine LeO.ite ?_ ?_
      | refine LeO.bind ?_ (fun _ => ?_)
theorem sizarref07_SamePoints.mono : ∀ a0 a1 k, LeO (sizarref07_SamePoints.f k a0 a1) (sizarref07_SamePoints.f (k + 1) a0 a1) := by
  intro a0 a1 k
  have ih0 := sizarref07_SamePoints.mono_l k
  unfold sizarref07_SamePoints.f
  repeat' first
      | (with_reducible exact ih0 _ _ _)
      | (with_reducible exact LeO.refl _)
      | (with_reducible exact LeO.none _)
      | (with_reducible refine LeO.ite ?_ ?_)
      | (with_reducible refine LeO.bind ?_ (fun _ => ?_))
      | exact ih0 _ _ _
      | exact LeO.none _
      | refine LeO.ite ?_ ?_
      | refine LeO.bind ?_ (fun _ => ?_)
set_option maxHeartbeats 8000000 in
set_option maxRecDepth 100000 in
theorem sizarref07_SamePoints.calls (k : Nat) (A0 : Option Addr) (c0 : Nat) (l0 : List (S60)) (A1 : Option Addr) (c1 : Nat) (l1 : List (S60)) (r : Bool) (w : World) (hr0 : Kd.C k60 w A0 l0.length l0) (hc0 : l0.length ≤ c0) (hr1 : Kd.C k60 w A1 l1.length l1) (hc1 : l1.length ≤ c1) (h : sizarref07_SamePoints.f k l0 l1 = some r) :
    Calls Try.prog 20 #[.slice A0 l0.length c0, .slice A1 l1.length c1] w fun e w' => e = .returned (.bool r) ∧ Drawn0 w w' := by
  have hu60 := Try.underlying60
  have HR0 := Aside0.mk hr0
  have HC0 := Aside0.mk hc0
  clear hr0 hc0
  have HR1 := Aside0.mk hr1
  have HC1 := Aside0.mk hc1
  clear hr1 hc1
  have H : (if (l0.length : Int) = (l1.length : Int) then (sizarref07_SamePoints.l0 k l0 l1 0) else (some false)) = some r := h
  clear h
  by_cases c3 : (l0.length : Int) = (l1.length : Int)
  · rw [if_pos c3] at H
    have c3b0 : ((l0.length : Int) == (l1.length : Int)) = true := beq_iff_eq.mpr c3
    have c3b1 : ((l0.length : Int) != (l1.length : Int)) = false := bne_eq_false_iff_eq.mpr c3
    have c3b2 : (l0.length == l1.length) = true := by first | simpa using c3 | (simp at c3 ⊢; omega)
    clear c3
    have H' := Aside0.mk H
    clear H
    go_enter Try.func20, Try.ntmps20
    go_wp2
    repeat (go_quiet (fail); try go_wp2)
    go_loopg [5] k (fun kq v5 w' => ∃ (x5_1 : Int), v5 = .int .i64 x5_1 ∧ Aside0 (sizarref07_SamePoints.l0 kq l0 l1 x5_1 = some r) ∧ Aside0 (kq ≤ k) ∧ Drawn0 w w')
    case atStart => exact ⟨(0), (by first | rfl | (simp; done) | (simp [*]; done)), H', ⟨Nat.le_refl _⟩, by repeat (first | exact Drawn0.refl _ | apply Drawn0.step)⟩
    case round =>
      clear H'
      try clear c1
      try clear c2
      try clear p2
      try clear c3
      try clear c3b0
      try clear c3b1
      try clear c3b2
      obtain ⟨x5_1, rfl, HA, HK1, ⟨m1, rfl⟩⟩ := hrel
      cases gk with
      | zero => exact absurd HA.out (by simp [sizarref07_SamePoints.l0])
      | succ k1 =>
        have H := HA.out
        clear HA
        simp only [sizarref07_SamePoints.l0] at H
        by_cases c4 : x5_1 < (l0.length : Int)
        · rw [if_pos c4] at H
          have c4b0 : decide (x5_1 < (l0.length : Int)) = true := decide_eq_true c4
          clear c4
          by_cases c5 : 0 ≤ x5_1
          · rw [if_pos c5] at H
            have c5b0 : decide (0 ≤ x5_1) = true := decide_eq_true c5
            clear c5
            by_cases c6 : x5_1 < (l1.length : Int)
            · rw [if_pos c6] at H
              have c6b0 : decide (x5_1 < (l1.length : Int)) = true := decide_eq_true c6
              clear c6
              by_cases c7 : (!(((rd_T60 l0 x5_1).f0) == ((rd_T60 l1 x5_1).f0)) || (!(((rd_T60 l0 x5_1).f1) == ((rd_T60 l1 x5_1).f1)))) = true
              · rw [if_pos c7] at H
                have c7b0 : (!(((rd_T60 l0 x5_1).f0) == ((rd_T60 l1 x5_1).f0)) || (!(((rd_T60 l0 x5_1).f1) == ((rd_T60 l1 x5_1).f1)))) = true := c7
                clear c7
                obtain rfl := Option.some.inj H
                have p281 : 0 ≤ (x5_1 : Int) := of_decide_eq_true (by first | (with_reducible assumption) | assumption)
                have q281 : x5_1 < (l0.length : Int) := of_decide_eq_true (by first | (with_reducible assumption) | assumption)
                obtain ⟨ad281, e281, hx281_0, hx281_1⟩ := at_T60 HR0.out x5_1 p281 q281
                cases e281
                replace p281 := eq_true p281
                replace q281 := eq_true q281
                have p282 : 0 ≤ (x5_1 : Int) := of_decide_eq_true (by first | (with_reducible assumption) | assumption)
                have q282 : x5_1 < (l1.length : Int) := of_decide_eq_true (by first | (with_reducible assumption) | assumption)
                obtain ⟨ad282, e282, hx282_0, hx282_1⟩ := at_T60 HR1.out x5_1 p282 q282
                cases e282
                replace p282 := eq_true p282
                replace q282 := eq_true q282
                go_wp2
                repeat (go_quiet (fail); try go_wp2)
                go_ret
                exact ⟨by first | rfl | (simp; done) | (simp [*]; done), by repeat (first | exact Drawn0.refl _ | apply Drawn0.step)⟩
              · rw [if_neg c7] at H
                have c7b0 : (!(((rd_T60 l0 x5_1).f0) == ((rd_T60 l1 x5_1).f0)) || (!(((rd_T60 l0 x5_1).f1) == ((rd_T60 l1 x5_1).f1)))) = false := by simpa using c7
                clear c7
                have H' := Aside0.mk H
                clear H
                have p281 : 0 ≤ (x5_1 : Int) := of_decide_eq_true (by first | (with_reducible assumption) | assumption)
                have q281 : x5_1 < (l0.length : Int) := of_decide_eq_true (by first | (with_reducible assumption) | assumption)
                obtain ⟨ad281, e281, hx281_0, hx281_1⟩ := at_T60 HR0.out x5_1 p281 q281
                cases e281
                replace p281 := eq_true p281
                replace q281 := eq_true q281
                have p282 : 0 ≤ (x5_1 : Int) := of_decide_eq_true (by first | (with_reducible assumption) | assumption)
                have q282 : x5_1 < (l1.length : Int) := of_decide_eq_true (by first | (with_reducible assumption) | assumption)
                obtain ⟨ad282, e282, hx282_0, hx282_1⟩ := at_T60 HR1.out x5_1 p282 q282
                cases e282
                replace p282 := eq_true p282
                replace q282 := eq_true q282
                go_wp2
                repeat (go_quiet (fail); try go_wp2)
                go_roundg k1
                case measure => have := HK1.out; omega
                case rel => exact ⟨(wrap64 (x5_1 + 1)), (by first | rfl | (simp; done) | (simp [*]; done)), H', ⟨by have := HK1.out; omega⟩, by repeat (first | exact Drawn0.refl _ | apply Drawn0.step)⟩
            · rw [if_neg c6] at H
              exact absurd H (by simp)
          · rw [if_neg c5] at H
            exact absurd H (by simp)
        · rw [if_neg c4] at H
          have c4b0 : decide (x5_1 < (l0.length : Int)) = false := decide_eq_false c4
          clear c4
          obtain rfl := Option.some.inj H
          go_wp2
          repeat (go_quiet (fail); try go_wp2)
          go_ret
          exact ⟨by first | rfl | (simp; done) | (simp [*]; done), by repeat (first | exact Drawn0.refl _ | apply Drawn0.step)⟩
  · rw [if_neg c3] at H
    have c3b0 : ((l0.length : Int) == (l1.length : Int)) = false := beq_eq_false_iff_ne.mpr c3
    have c3b1 : ((l0.length : Int) != (l1.length : Int)) = true := bne_iff_ne.mpr c3
    have c3b2 : (l0.length == l1.length) = false := by first | simpa using c3 | (simp at c3 ⊢; omega)
    obtain rfl := Option.some.inj H
    go_enter Try.func20, Try.ntmps20
    go_wp2
    repeat (go_quiet (fail); try go_wp2)
    go_ret
    exact ⟨by first | rfl | (simp; done) | (simp [*]; done), by repeat (first | exact Drawn0.refl _ | apply Drawn0.step)⟩
end Go.Proofs.Ytamajnhdibcpiaa.G
namespace Go.Proofs.Ytamajnhdibcpiaa.G
open Go.RowKit Go.Proofs.YtamajnhdibcpiaaW.PrintWords Go.Proofs.YtamajnhdibcpiaaW.PrintLast Go.Proofs.YtamajnhdibcpiaaW.PrintMore
attribute [local go_sem] max2_int min2_int max_two min_two max_three min_three max_four min_four   -- for this text's walks alone
set_option linter.unusedVariables false
set_option linter.unusedSimpArgs false
mutual
def sizarlaw07_FactsPast.j0 : Nat → List (S28) → List (S28) → Int → Int → Bool → Int → Int → Int → Option (Bool)
  | 0, _, _, _, _, _, _, _, _ => none
  | k + 1, x0, x1, x3, x4, x33, x384000, x384001, x384002 => if x33 = true then (some true) else (sizarlaw07_FactsPast.l0 k x0 x1 x3 x4 0 x384000 x384001 x384002)
def sizarlaw07_FactsPast.l0 : Nat → List (S28) → List (S28) → Int → Int → Int → Int → Int → Int → Option (Bool)
  | 0, _, _, _, _, _, _, _, _ => none
  | k + 1, x0, x1, x3, x4, x11, x384000, x384001, x384002 => if x11 < (x1.length : Int) then (if 0 ≤ x11 then (if ((rd_T28 x1 x11).f3) ≤ x4 then (some true) else (sizarlaw07_FactsPast.l0 k x0 x1 x3 x4 (wrap64 (x11 + 1)) x384000 x384001 x384002)) else (none)) else ((some (([] : List (S28)) : List (S28))).bind fun y386 => (if y386.length + x0.length < 2199023255552 then ((some (y386 ++ x0 : List (S28))).bind fun y389 => (if y389.length + x1.length < 2199023255552 then (sizarlaw07_FactsPast.l1 k x0 x3 x4 (y389 ++ x1) (([(⟨x384000, x384001, x384002⟩ : S24)] : List (S24))) 0) else (none))) else (none)))
def sizarlaw07_FactsPast.l1 : Nat → List (S28) → Int → Int → List (S28) → List (S24) → Int → Option (Bool)
  | 0, _, _, _, _, _, _ => none
  | k + 1, x0, x3, x4, x12, x13, x14 => if x14 < (x12.length : Int) then (if 0 ≤ x14 then (if x13.length < 5864062014805 then (sizarlaw07_FactsPast.l1 k x0 x3 x4 x12 (x13 ++ [(⟨(rd_T28 x12 x14).f0.f0, (rd_T28 x12 x14).f0.f1, (rd_T28 x12 x14).f0.f2⟩ : S24)]) (wrap64 (x14 + 1))) else (none)) else (none)) else (sizarlaw07_FactsPast.l2 k x0 x3 x4 x12 x13 0)
def sizarlaw07_FactsPast.l2 : Nat → List (S28) → Int → Int → List (S28) → List (S24) → Int → Option (Bool)
  | 0, _, _, _, _, _, _ => none
  | k + 1, x0, x3, x4, x12, x13, x15 => if x15 < (x13.length : Int) then (if 0 ≤ x15 then ((facts_At.f x0 ((rd_T24 x13 x15).f0) ((rd_T24 x13 x15).f1) ((rd_T24 x13 x15).f2) x3 x4).bind fun bt403 => ((facts_At.f x12 ((rd_T24 x13 x15).f0) ((rd_T24 x13 x15).f1) ((rd_T24 x13 x15).f2) x3 x4).bind fun bt406 => (if bt403.1 = bt406.1 then (if (bt403.2 != bt406.2) = true then (none) else ((facts_Points.f x0 ((rd_T24 x13 x15).f0) ((rd_T24 x13 x15).f1) ((rd_T24 x13 x15).f2) 0 40 x4).bind fun t409 => ((facts_Points.f x12 ((rd_T24 x13 x15).f0) ((rd_T24 x13 x15).f1) ((rd_T24 x13 x15).f2) 0 40 x4).bind fun t413 => ((sizarref07_SamePoints.f k t409 t413).bind fun t416 => (if t416 = true then (sizarlaw07_FactsPast.l2 k x0 x3 x4 x12 x13 (wrap64 (x15 + 1))) else (none)))))) else (none)))) else (none)) else ((facts_Upto.f x12 x4).bind fun t417 => ((facts_Upto.f x0 x4).bind fun t420 => ((sizarref07_Same.f k t417 t420).bind fun t423 => (if t423 = true then ((facts_Changed.f x12 0 x4).bind fun t424 => ((facts_Changed.f x0 0 x4).bind fun t427 => ((sizarref07_SameChanges.f k t424 t427).bind fun t430 => (some t430)))) else (none)))))
end
def sizarlaw07_FactsPast.f (k : Nat) (l0 : List (S28)) (l1 : List (S28)) (a2_0 : Int) (a2_1 : Int) (a2_2 : Int) (a3 : Int) (a4 : Int) : Option (Bool) := (sizarlaw07_sane.f k).bind fun t384 => (if t384 = true then (if (l0.length : Int) > 10 then (sizarlaw07_FactsPast.j0 k l0 l1 a3 a4 true a2_0 a2_1 a2_2) else (if (l1.length : Int) > 6 then (sizarlaw07_FactsPast.j0 k l0 l1 a3 a4 true a2_0 a2_1 a2_2) else (sizarlaw07_FactsPast.j0 k l0 l1 a3 a4 (decide (a4 < 0)) a2_0 a2_1 a2_2))) else (none))
theorem sizarlaw07_FactsPast.mono_l : ∀ k, (∀ y0 y1 y2 y3 y4 y5 y6 y7, LeO (sizarlaw07_FactsPast.j0 k y0 y1 y2 y3 y4 y5 y6 y7) (sizarlaw07_FactsPast.j0 (k + 1) y0 y1 y2 y3 y4 y5 y6 y7)) ∧ (∀ y0 y1 y2 y3 y4 y5 y6 y7, LeO (sizarlaw07_FactsPast.l0 k y0 y1 y2 y3 y4 y5 y6 y7) (sizarlaw07_FactsPast.l0 (k + 1) y0 y1 y2 y3 y4 y5 y6 y7)) ∧ (∀ y0 y1 y2 y3 y4 y5, LeO (sizarlaw07_FactsPast.l1 k y0 y1 y2 y3 y4 y5) (sizarlaw07_FactsPast.l1 (k + 1) y0 y1 y2 y3 y4 y5)) ∧ (∀ y0 y1 y2 y3 y4 y5, LeO (sizarlaw07_FactsPast.l2 k y0 y1 y2 y3 y4 y5) (sizarlaw07_FactsPast.l2 (k + 1) y0 y1 y2 y3 y4 y5))
  | 0 => ⟨fun _ _ _ _ _ _ _ _ r h => by simp [sizarlaw07_FactsPast.j0] at h, fun _ _ _ _ _ _ _ _ r h => by simp [sizarlaw07_FactsPast.l0] at h, fun _ _ _ _ _ _ r h => by simp [sizarlaw07_FactsPast.l1] at h, fun _ _ _ _ _ _ r h => by simp [sizarlaw07_FactsPast.l2] at h⟩
  | k + 1 => by
    obtain ⟨ih0, ih1, ih2, ih3⟩ := sizarlaw07_FactsPast.mono_l k
    refine ⟨?_, ?_, ?_, ?_⟩
    · intro y0 y1 y2 y3 y4 y5 y6 y7
      unfold sizarlaw07_FactsPast.j0
      repeat' first
      | (with_reducible exact ih0 _ _ _ _ _ _ _ _)
      | (with_reducible exact ih1 _ _ _ _ _ _ _ _)
      | (with_reducible exact ih2 _ _ _ _ _ _)
      | (with_reducible exact ih3 _ _ _ _ _ _)
      | (with_reducible exact sizarlaw07_sane.mono _)
      | (with_reducible exact sizarref07_Same.mono _ _ _)
      | (with_reducible exact sizarref07_SameChanges.mono _ _ _)
      | (with_reducible exact sizarref07_SamePoints.mono _ _ _)
      | (with_reducible exact LeO.refl _)
      | (with_reducible exact LeO.none _)
      | (with_reducible refine LeO.ite ?_ ?_)
      | (with_reducible refine LeO.bind ?_ (fun _ => ?_))
      | exact ih0 _ _ _ _ _ _ _ _
      | exact ih1 _ _ _ _ _ _ _ _
      | exact ih2 _ _ _ _ _ _
      | exact ih3 _ _ _ _ _ _
      | exact sizarlaw07_sane.mono _
      | exact sizarref07_Same.mono _ _ _
      | exact sizarref07_SameChanges.mono _ _ _
      | exact sizarref07_SamePoints.mono _ _ _
      | exact LeO.none _
      | refine LeO.ite ?_ ?_
      | refine LeO.bind ?_ (fun _ => ?_)
    · intro y0 y1 y2 y3 y4 y5 y6 y7
      unfold sizarlaw07_FactsPast.l0
      repeat' first
      | (with_reducible exact ih0 _ _ _ _ _ _ _ _)
      | (with_reducible exact ih1 _ _ _ _ _ _ _ _)
      | (with_reducible exact ih2 _ _ _ _ _ _)
      | (with_reducible exact ih3 _ _ _ _ _ _)
      | (with_reducible exact sizarlaw07_sane.mono _)
      | (with_reducible exact sizarref07_Same.mono _ _ _)
      | (with_reducible exact sizarref07_SameChanges.mono _ _ _)
      | (with_reducible exact sizarref07_SamePoints.mono _ _ _)
      | (with_reducible exact LeO.refl _)
      | (with_reducible exact LeO.none _)
      | (with_reducible refine LeO.ite ?_ ?_)
      | (with_reducible refine LeO.bind ?_ (fun _ => ?_))
      | exact ih0 _ _ _ _ _ _ _ _
      | exact ih1 _ _ _ _ _ _ _ _
      | exact ih2 _ _ _ _ _ _
      | exact ih3 _ _ _ _ _ _
      | exact sizarlaw07_sane.mono _
      | exact sizarref07_Same.mono _ _ _
      | exact sizarref07_SameChanges.mono _ _ _
      | exact sizarref07_SamePoints.mono _ _ _
      | exact LeO.none _
      | refine LeO.ite ?_ ?_
      | refine LeO.bind ?_ (fun _ => ?_)
    · intro y0 y1 y2 y3 y4 y5
      unfold sizarlaw07_FactsPast.l1
      repeat' first
      | (with_reducible exact ih0 _ _ _ _ _ _ _ _)
      | (with_reducible exact ih1 _ _ _ _ _ _ _ _)
      | (with_reducible exact ih2 _ _ _ _ _ _)
      | (with_reducible exact ih3 _ _ _ _ _ _)
      | (with_reducible exact sizarlaw07_sane.mono _)
      | (with_reducible exact sizarref07_Same.mono _ _ _)
      | (with_reducible exact sizarref07_SameChanges.mono _ _ _)
      | (with_reducible exact sizarref07_SamePoints.mono _ _ _)
      | (with_reducible exact LeO.refl _)
      | (with_reducible exact LeO.none _)
      | (with_reducible refine LeO.ite ?_ ?_)
      | (with_reducible refine LeO.bind ?_ (fun _ => ?_))
      | exact ih0 _ _ _ _ _ _ _ _
      | exact ih1 _ _ _ _ _ _ _ _
      | exact ih2 _ _ _ _ _ _
      | exact ih3 _ _ _ _ _ _
      | exact sizarlaw07_sane.mono _
      | exact sizarref07_Same.mono _ _ _
      | exact sizarref07_SameChanges.mono _ _ _
      | exact sizarref07_SamePoints.mono _ _ _
      | exact LeO.none _
      | refine LeO.ite ?_ ?_
      | refine LeO.bind ?_ (fun _ => ?_)
    · intro y0 y1 y2 y3 y4 y5
      unfold sizarlaw07_FactsPast.l2
      repeat' first
      | (with_reducible exact ih0 _ _ _ _ _ _ _ _)
      | (with_reducible exact ih1 _ _ _ _ _ _ _ _)
      | (with_reducible exact ih2 _ _ _ _ _ _)
      | (with_reducible exact ih3 _ _ _ _ _ _)
      | (with_reducible exact sizarlaw07_sane.mono _)
      | (with_reducible exact sizarref07_Same.mono _ _ _)
      | (with_reducible exact sizarref07_SameChanges.mono _ _ _)
      | (with_reducible exact sizarref07_SamePoints.mono _ _ _)
      | (with_reducible exact LeO.refl _)
      | (with_reducible exact LeO.none _)
      | (with_reducible refine LeO.ite ?_ ?_)
      | (with_reducible refine LeO.bind ?_ (fun _ => ?_))
      | exact ih0 _ _ _ _ _ _ _ _
      | exact ih1 _ _ _ _ _ _ _ _
      | exact ih2 _ _ _ _ _ _
      | exact ih3 _ _ _ _ _ _
      | exact sizarlaw07_sane.mono _
      | exact sizarref07_Same.mono _ _ _
      | exact sizarref07_SameChanges.mono _ _ _
      | exact sizarref07_SamePoints.mono _ _ _
      | exact LeO.none _
      | refine LeO.ite ?_ ?_
      | refine LeO.bind ?_ (fun _ => ?_)
theorem sizarlaw07_FactsPast.mono : ∀ a0 a1 a2 a3 a4 a5 a6 k, LeO (sizarlaw07_FactsPast.f k a0 a1 a2 a3 a4 a5 a6) (sizarlaw07_FactsPast.f (k + 1) a0 a1 a2 a3 a4 a5 a6) := by
  intro a0 a1 a2 a3 a4 a5 a6 k
  obtain ⟨ih0, ih1, ih2, ih3⟩ := sizarlaw07_FactsPast.mono_l k
  unfold sizarlaw07_FactsPast.f
  repeat' first
      | (with_reducible exact ih0 _ _ _ _ _ _ _ _)
      | (with_reducible exact ih1 _ _ _ _ _ _ _ _)
      | (with_reducible exact ih2 _ _ _ _ _ _)
      | (with_reducible exact ih3 _ _ _ _ _ _)
      | (with_reducible exact sizarlaw07_sane.mono _)
      | (with_reducible exact sizarref07_Same.mono _ _ _)
      | (with_reducible exact sizarref07_SameChanges.mono _ _ _)
      | (with_reducible exact sizarref07_SamePoints.mono _ _ _)
      | (with_reducible exact LeO.refl _)
      | (with_reducible exact LeO.none _)
      | (with_reducible refine LeO.ite ?_ ?_)
      | (with_reducible refine LeO.bind ?_ (fun _ => ?_))
      | exact ih0 _ _ _ _ _ _ _ _
      | exact ih1 _ _ _ _ _ _ _ _
      | exact ih2 _ _ _ _ _ _
      | exact ih3 _ _ _ _ _ _
      | exact sizarlaw07_sane.mono _
      | exact sizarref07_Same.mono _ _ _
      | exact sizarref07_SameChanges.mono _ _ _
      | exact sizarref07_SamePoints.mono _ _ _
      | exact LeO.none _
      | refine LeO.ite ?_ ?_
      | refine LeO.bind ?_ (fun _ => ?_)
def sizarlaw07_FactsPast.T21 : Bool × List (List Nat × List Nat) := (true, [([], []), ([], []), ([0, 1], [0, 1]), ([2], [2]), ([3], [3]), ([3], [3]), ([4, 5, 3], [3, 4, 5]), ([3, 6], [3, 6]), ([7, 3], [7]), ([8], [8]), ([8], [8]), ([8], [8]), ([10, 11, 8], [8, 10, 11]), ([12, 8], [8, 12]), ([8], [8]), ([9, 13, 14, 8, 8], [8, 9, 13, 14]), ([8], [8]), ([8], [8]), ([8], [8]), ([17, 18, 8], [8, 17, 18]), ([19, 8], [8, 19]), ([8], [8]), ([16, 20, 21, 15, 8], [8, 16, 20, 21]), ([15, 22, 22, 8], [8, 15, 22]), ([23, 8], [8, 23]), ([8, 24], [8, 24])])
def sizarlaw07_FactsPast.B21 : List Nat := [0, 0, 3, 7, 15, 15, 63, 127, 255, 511, 511, 511, 3583, 7679, 511, 32767, 511, 511, 511, 393727, 918015, 511, 4194303, 8388607, 16777215, 33554431]
theorem sizarlaw07_FactsPast.tab21 : rtab .any (opsOf Try.f6 21) = sizarlaw07_FactsPast.T21 := by kernel_rfl
theorem sizarlaw07_FactsPast.bits21 : waitsOk sizarlaw07_FactsPast.T21.2 sizarlaw07_FactsPast.B21 = true := by kernel_rfl
set_option maxHeartbeats 8000000 in
set_option maxRecDepth 100000 in
theorem sizarlaw07_FactsPast.calls (k : Nat) (A0 : Option Addr) (c0 : Nat) (l0 : List (S28)) (A1 : Option Addr) (c1 : Nat) (l1 : List (S28)) (a2_0 : Int) (a2_1 : Int) (a2_2 : Int) (a3 : Int) (a4 : Int) (r : Bool) (w : World) (hr0 : Kd.C k28 w A0 l0.length l0) (hc0 : l0.length ≤ c0) (hr1 : Kd.C k28 w A1 l1.length l1) (hc1 : l1.length ≤ c1) (h : sizarlaw07_FactsPast.f k l0 l1 a2_0 a2_1 a2_2 a3 a4 = some r) :
    Calls Try.prog 6 #[.slice A0 l0.length c0, .slice A1 l1.length c1, .agg #[.int .i64 a2_0, .int .i64 a2_1, .int .i64 a2_2], .int .i64 a3, .int .i64 a4] w fun e w' => e = .returned (.bool r) ∧ Below w.heap.size w w' := by
  have hu24 := Try.underlying24
  have HR0 := Aside0.mk hr0
  have HC0 := Aside0.mk hc0
  clear hr0 hc0
  have HR1 := Aside0.mk hr1
  have HC1 := Aside0.mk hc1
  clear hr1 hc1
  have HB := Aside0.mk (Below.refl w.heap.size w)
  have H : ((sizarlaw07_sane.f k).bind fun t384 => (if t384 = true then (if (l0.length : Int) > 10 then (sizarlaw07_FactsPast.j0 k l0 l1 a3 a4 true a2_0 a2_1 a2_2) else (if (l1.length : Int) > 6 then (sizarlaw07_FactsPast.j0 k l0 l1 a3 a4 true a2_0 a2_1 a2_2) else (sizarlaw07_FactsPast.j0 k l0 l1 a3 a4 (decide (a4 < 0)) a2_0 a2_1 a2_2))) else (none))) = some r := h
  clear h
  replace H := Option.bind_eq_some_iff.mp H
  obtain ⟨t384, A60, H⟩ := H
  replace H : (if t384 = true then (if (l0.length : Int) > 10 then (sizarlaw07_FactsPast.j0 k l0 l1 a3 a4 true a2_0 a2_1 a2_2) else (if (l1.length : Int) > 6 then (sizarlaw07_FactsPast.j0 k l0 l1 a3 a4 true a2_0 a2_1 a2_2) else (sizarlaw07_FactsPast.j0 k l0 l1 a3 a4 (decide (a4 < 0)) a2_0 a2_1 a2_2))) else (none)) = some r := H
  have A6 := Aside0.mk A60
  clear A60
  by_cases c7 : t384 = true
  · subst c7
    have H1 : (if (l0.length : Int) > 10 then (sizarlaw07_FactsPast.j0 k l0 l1 a3 a4 true a2_0 a2_1 a2_2) else (if (l1.length : Int) > 6 then (sizarlaw07_FactsPast.j0 k l0 l1 a3 a4 true a2_0 a2_1 a2_2) else (sizarlaw07_FactsPast.j0 k l0 l1 a3 a4 (decide (a4 < 0)) a2_0 a2_1 a2_2))) = some r := by rw [if_pos rfl] at H; exact H
    clear H
    have H := H1
    clear H1
    have HC8 := Aside0.mk H
    clear H
    go_enter Try.func6, Try.ntmps6
    go_upto_region 3 with (first | ((with_reducible refine gate_dst (N := 7) rfl ?_); (try (refine gate_guard (by rfl) ?_; dsimp only)); refine box_event ?hg (N := 7) ?hd (cs := #[.int .i64 a2_0, .int .i64 a2_1, .int .i64 a2_2]) (t := 24) ?hr ?_; (case hd => rfl); (case hg => rfl); (case hr => first | (go_simp; done) | (go_simp; rfl)); intro gb383 hg w9 hbox hb; have n0_ := Aside0.mk (below_step (by repeat (first | (with_reducible first | exact HB.out | apply below_alloc | apply pw_below_drewN | apply below_drew1) | exact HB.out)) hb); have n1_ := Aside0.mk (hbox); have n2_ := Aside0.mk ((by rw [hg]; exact (below_size (by repeat (first | (with_reducible first | exact HB.out | apply below_alloc | apply pw_below_drewN | apply below_drew1) | exact HB.out))) : w.heap.size ≤ gb383)); have n3_ := Aside0.mk ((by rw [hg]; exact (below_size (by repeat (first | (with_reducible first | exact HB.out | apply below_alloc | apply pw_below_drewN | apply below_drew1) | exact HB.out))) : w.heap.size ≤ gb383)); clear HB; have HB := n0_; have BK383 := n1_; have GW383 := n2_; have GE383 := n3_; clear n0_ n1_ n2_ n3_; clear hb hbox hg) | ((with_reducible refine gate_callee (f := 11) rfl ?_); refine goesL_ (some 20) rfl rfl Try.func11 (by kernel_rfl) rfl #[] rfl (by (try simp only [List.map_toArray, List.map_cons, List.map_nil]); first | done | rfl | (simp only [List.length_drop, List.length_take]; rfl)) ?_; (with_reducible refine (sizarlaw07_sane.calls k  true _ A6.out).mono ?_); rintro e w10 ⟨rfl, hb⟩; refine ⟨_, rfl, ?_⟩; have n0_ := Aside0.mk (blk_below (g := gb383) (o := .cells #[.int .i64 a2_0, .int .i64 a2_1, .int .i64 a2_2] 24 (0, 0)) (by (with_reducible repeat (first | refine blk_drewN ?_ _ | refine blk_drew ?_ | refine blk_alloc ?_ _)); exact BK383.out) hb); have n1_ := Aside0.mk (below_step (by repeat (first | (with_reducible first | exact HB.out | apply below_alloc | apply pw_below_drewN | apply below_drew1 | refine below_set ?_ GE383.out) | exact HB.out)) hb); clear BK383; clear HB; have BK383 := n0_; have HB := n1_; clear n0_ n1_; (try clear hb); (try clear hb2); (try clear hk); (try clear hi)))
    (try simp only [Act.put, List.setIfInBounds_toArray, List.set_cons_zero, List.set_cons_succ])
    go_cut [33] (fun v33 wc => ∃ (kq : Nat) (x33_7 : Bool), v33 = .bool x33_7 ∧ Aside0 (sizarlaw07_FactsPast.j0 kq l0 l1 a3 a4 x33_7 a2_0 a2_1 a2_2 = some r) ∧ Aside0 (kq ≤ k) ∧ Aside0 (wc.heap[gb383]? = some (.cells #[.int .i64 a2_0, .int .i64 a2_1, .int .i64 a2_2] 24 (0, 0))) ∧ Aside0 (Below w.heap.size w wc))
    case first =>
      have H := HC8.out
      clear HC8
      by_cases c11 : (l0.length : Int) > 10
      · rw [if_pos c11] at H
        have c11b0 : decide (10 < (l0.length : Int)) = true := decide_eq_true c11
        have c11b1 : decide (10 < l0.length) = true := decide_eq_true (by omega)
        clear c11
        (first | rw [c11b0] | (simp only [i64_w, i32_w]; rw [c11b0]) | skip)
        have H' := Aside0.mk H
        clear H
        go_wp2
        go_meet
        case rel => exact ⟨_, (true), (by first | rfl | (simp; done) | (simp [*]; done)), H', ⟨by first | omega | exact Nat.le_refl _⟩, ⟨by (with_reducible repeat (first | refine blk_drewN ?_ _ | refine blk_drew ?_ | refine blk_alloc ?_ _)); exact BK383.out⟩, ⟨by repeat (first | (with_reducible first | exact HB.out | apply below_alloc | apply pw_below_drewN | apply below_drew1 | refine below_set ?_ GE383.out) | exact HB.out)⟩⟩
      · rw [if_neg c11] at H
        have c11b0 : decide (10 < (l0.length : Int)) = false := decide_eq_false c11
        have c11b1 : decide (10 < l0.length) = false := decide_eq_false (by omega)
        clear c11
        (first | rw [c11b0] | (simp only [i64_w, i32_w]; rw [c11b0]) | skip)
        by_cases c12 : (l1.length : Int) > 6
        · rw [if_pos c12] at H
          have c12b0 : decide (6 < (l1.length : Int)) = true := decide_eq_true c12
          have c12b1 : decide (6 < l1.length) = true := decide_eq_true (by omega)
          clear c12
          have H' := Aside0.mk H
          clear H
          go_wp2
          go_meet
          case rel => exact ⟨_, (true), (by first | rfl | (simp; done) | (simp [*]; done)), H', ⟨by first | omega | exact Nat.le_refl _⟩, ⟨by (with_reducible repeat (first | refine blk_drewN ?_ _ | refine blk_drew ?_ | refine blk_alloc ?_ _)); exact BK383.out⟩, ⟨by repeat (first | (with_reducible first | exact HB.out | apply below_alloc | apply pw_below_drewN | apply below_drew1 | refine below_set ?_ GE383.out) | exact HB.out)⟩⟩
        · rw [if_neg c12] at H
          have c12b0 : decide (6 < (l1.length : Int)) = false := decide_eq_false c12
          have c12b1 : decide (6 < l1.length) = false := decide_eq_false (by omega)
          clear c12
          have H' := Aside0.mk H
          clear H
          go_wp2
          go_meet
          case rel => exact ⟨_, (decide (a4 < 0)), (by first | rfl | (simp; done) | (simp [*]; done)), H', ⟨by first | omega | exact Nat.le_refl _⟩, ⟨by (with_reducible repeat (first | refine blk_drewN ?_ _ | refine blk_drew ?_ | refine blk_alloc ?_ _)); exact BK383.out⟩, ⟨by repeat (first | (with_reducible first | exact HB.out | apply below_alloc | apply pw_below_drewN | apply below_drew1 | refine below_set ?_ GE383.out) | exact HB.out)⟩⟩
    case rest =>
      clear HC8
      try clear c1
      try clear p2
      try clear c6
      try clear c7
      try clear c11
      try clear c11b0
      try clear c11b1
      try clear c12
      try clear c12b0
      try clear c12b1
      obtain ⟨kq, x33_7, rfl, HA, HJ7, BK383, HB⟩ := hcut
      cases kq with
      | zero => exact absurd HA.out (by simp [sizarlaw07_FactsPast.j0])
      | succ kj7 =>
        have H := HA.out
        clear HA
        simp only [sizarlaw07_FactsPast.j0] at H
        by_cases c13 : x33_7 = true
        · subst c13
          have H1 : (some true) = some r := by rw [if_pos rfl] at H; exact H
          clear H
          have H := H1
          clear H1
          obtain rfl := Option.some.inj H
          go_wp2
          go_ret
          exact ⟨by first | rfl | (simp [errW_none, errW_some] <;> rfl) | (simp [*, errW_none, errW_some] <;> rfl), by repeat (first | (with_reducible first | exact HB.out | apply below_alloc | apply pw_below_drewN | apply below_drew1 | refine below_set ?_ GE383.out) | exact HB.out)⟩
        · replace c13 := Bool.eq_false_iff.mpr c13
          subst c13
          have H1 : (sizarlaw07_FactsPast.l0 kj7 l0 l1 a3 a4 0 a2_0 a2_1 a2_2) = some r := by rw [if_neg (show ¬ (false = true) by decide)] at H; exact H
          clear H
          have H := H1
          clear H1
          have H' := Aside0.mk H
          clear H
          go_wp2
          go_loopg [11] kj7 (fun kq v11 w' => ∃ (x11_2 : Int), v11 = .int .i64 x11_2 ∧ Aside0 (sizarlaw07_FactsPast.l0 kq l0 l1 a3 a4 x11_2 a2_0 a2_1 a2_2 = some r) ∧ Aside0 (kq ≤ kj7) ∧ Aside0 (w'.heap[gb383]? = some (.cells #[.int .i64 a2_0, .int .i64 a2_1, .int .i64 a2_2] 24 (0, 0))) ∧ Aside0 (Below w.heap.size w w'))
          case atStart => exact ⟨(0), (by first | rfl | (simp; done) | (simp [*]; done)), H', ⟨Nat.le_refl _⟩, ⟨by (with_reducible repeat (first | refine blk_drewN ?_ _ | refine blk_drew ?_ | refine blk_alloc ?_ _)); exact BK383.out⟩, ⟨by repeat (first | (with_reducible first | exact HB.out | apply below_alloc | apply pw_below_drewN | apply below_drew1 | refine below_set ?_ GE383.out) | exact HB.out)⟩⟩
          case round =>
            clear H'
            try clear c1
            try clear p2
            try clear c6
            try clear c7
            try clear c11
            try clear c11b0
            try clear c11b1
            try clear c12
            try clear c12b0
            try clear c12b1
            try clear c13
            try clear p2
            obtain ⟨x11_2, rfl, HA, HK2, BK383, HB⟩ := hrel
            cases gk with
            | zero => exact absurd HA.out (by simp [sizarlaw07_FactsPast.l0])
            | succ k2 =>
              have H := HA.out
              clear HA
              simp only [sizarlaw07_FactsPast.l0] at H
              by_cases c14 : x11_2 < (l1.length : Int)
              · rw [if_pos c14] at H
                have c14b0 : decide (x11_2 < (l1.length : Int)) = true := decide_eq_true c14
                clear c14
                by_cases c15 : 0 ≤ x11_2
                · rw [if_pos c15] at H
                  have c15b0 : decide (0 ≤ x11_2) = true := decide_eq_true c15
                  clear c15
                  by_cases c16 : ((rd_T28 l1 x11_2).f3) ≤ a4
                  · rw [if_pos c16] at H
                    have c16b0 : decide (((rd_T28 l1 x11_2).f3) ≤ a4) = true := decide_eq_true c16
                    clear c16
                    obtain rfl := Option.some.inj H
                    have p385 : 0 ≤ (x11_2 : Int) := of_decide_eq_true (by first | (with_reducible assumption) | assumption)
                    have q385 : x11_2 < (l1.length : Int) := of_decide_eq_true (by first | (with_reducible assumption) | assumption)
                    obtain ⟨ad385, e385, hx385_0, hx385_1, hx385_2, hx385_3, hx385_4, hx385_5, hx385_6, hx385_7⟩ := at_T28 HR1.out x11_2 p385 q385
                    cases e385
                    replace hx385_0 := (HB.out.cell (World.block_lt_of_cell? w _ hx385_0)).trans hx385_0
                    replace hx385_1 := (HB.out.cell (World.block_lt_of_cell? w _ hx385_1)).trans hx385_1
                    replace hx385_2 := (HB.out.cell (World.block_lt_of_cell? w _ hx385_2)).trans hx385_2
                    replace hx385_3 := (HB.out.cell (World.block_lt_of_cell? w _ hx385_3)).trans hx385_3
                    replace hx385_4 := (HB.out.cell (World.block_lt_of_cell? w _ hx385_4)).trans hx385_4
                    replace hx385_5 := (HB.out.cell (World.block_lt_of_cell? w _ hx385_5)).trans hx385_5
                    replace hx385_6 := (HB.out.cell (World.block_lt_of_cell? w _ hx385_6)).trans hx385_6
                    replace hx385_7 := (HB.out.cell (World.block_lt_of_cell? w _ hx385_7)).trans hx385_7
                    replace p385 := eq_true p385
                    replace q385 := eq_true q385
                    go_wp2
                    go_ret
                    exact ⟨by first | rfl | (simp [errW_none, errW_some] <;> rfl) | (simp [*, errW_none, errW_some] <;> rfl), by repeat (first | (with_reducible first | exact HB.out | apply below_alloc | apply pw_below_drewN | apply below_drew1 | refine below_set ?_ GE383.out) | exact HB.out)⟩
                  · rw [if_neg c16] at H
                    have c16b0 : decide (((rd_T28 l1 x11_2).f3) ≤ a4) = false := decide_eq_false c16
                    clear c16
                    have H' := Aside0.mk H
                    clear H
                    have p385 : 0 ≤ (x11_2 : Int) := of_decide_eq_true (by first | (with_reducible assumption) | assumption)
                    have q385 : x11_2 < (l1.length : Int) := of_decide_eq_true (by first | (with_reducible assumption) | assumption)
                    obtain ⟨ad385, e385, hx385_0, hx385_1, hx385_2, hx385_3, hx385_4, hx385_5, hx385_6, hx385_7⟩ := at_T28 HR1.out x11_2 p385 q385
                    cases e385
                    replace hx385_0 := (HB.out.cell (World.block_lt_of_cell? w _ hx385_0)).trans hx385_0
                    replace hx385_1 := (HB.out.cell (World.block_lt_of_cell? w _ hx385_1)).trans hx385_1
                    replace hx385_2 := (HB.out.cell (World.block_lt_of_cell? w _ hx385_2)).trans hx385_2
                    replace hx385_3 := (HB.out.cell (World.block_lt_of_cell? w _ hx385_3)).trans hx385_3
                    replace hx385_4 := (HB.out.cell (World.block_lt_of_cell? w _ hx385_4)).trans hx385_4
                    replace hx385_5 := (HB.out.cell (World.block_lt_of_cell? w _ hx385_5)).trans hx385_5
                    replace hx385_6 := (HB.out.cell (World.block_lt_of_cell? w _ hx385_6)).trans hx385_6
                    replace hx385_7 := (HB.out.cell (World.block_lt_of_cell? w _ hx385_7)).trans hx385_7
                    replace p385 := eq_true p385
                    replace q385 := eq_true q385
                    go_wp2
                    go_roundg k2
                    case measure => have := HJ7.out; have := HK2.out; omega
                    case rel => exact ⟨(wrap64 (x11_2 + 1)), (by first | rfl | (simp; done) | (simp [*]; done)), H', ⟨by have := HJ7.out; have := HK2.out; omega⟩, ⟨by (with_reducible repeat (first | refine blk_drewN ?_ _ | refine blk_drew ?_ | refine blk_alloc ?_ _)); exact BK383.out⟩, ⟨by repeat (first | (with_reducible first | exact HB.out | apply below_alloc | apply pw_below_drewN | apply below_drew1 | refine below_set ?_ GE383.out) | exact HB.out)⟩⟩
                · rw [if_neg c15] at H
                  exact absurd H (by simp)
              · rw [if_neg c14] at H
                have c14b0 : decide (x11_2 < (l1.length : Int)) = false := decide_eq_false c14
                clear c14
                obtain ⟨y386, hy386⟩ : ∃ y_ : List (S28), y_ = (([] : List (S28))) := ⟨_, rfl⟩
                replace H : (if y386.length + l0.length < 2199023255552 then ((some (y386 ++ l0 : List (S28))).bind fun y389 => (if y389.length + l1.length < 2199023255552 then (sizarlaw07_FactsPast.l1 k2 l0 a3 a4 (y389 ++ l1) (([(⟨a2_0, a2_1, a2_2⟩ : S24)] : List (S24))) 0) else (none))) else (none)) = some r := by first | (rw [hy386]; with_reducible exact H) | (have H2_ := (Option.bind_some _ _).symm.trans H; rw [hy386]; with_reducible exact H2_) | (have H2_ := (Option.bind_some _ _).symm.trans H; with_reducible exact H2_) | with_reducible exact H | (rw [hy386]; exact H) | exact H
                have Ny386 := Aside0.mk hy386
                clear hy386
                by_cases c17 : y386.length + l0.length < 2199023255552
                · rw [if_pos c17] at H
                  have LMc17 := Aside0.mk c17
                  clear c17
                  obtain ⟨y389, hy389⟩ : ∃ y_ : List (S28), y_ = (y386 ++ l0) := ⟨_, rfl⟩
                  replace H : (if y389.length + l1.length < 2199023255552 then (sizarlaw07_FactsPast.l1 k2 l0 a3 a4 (y389 ++ l1) (([(⟨a2_0, a2_1, a2_2⟩ : S24)] : List (S24))) 0) else (none)) = some r := by first | (rw [hy389]; with_reducible exact H) | (have H2_ := (Option.bind_some _ _).symm.trans H; rw [hy389]; with_reducible exact H2_) | (have H2_ := (Option.bind_some _ _).symm.trans H; with_reducible exact H2_) | with_reducible exact H | (rw [hy389]; exact H) | exact H
                  have Ny389 := Aside0.mk hy389
                  clear hy389
                  by_cases c18 : y389.length + l1.length < 2199023255552
                  · rw [if_pos c18] at H
                    have LMc18 := Aside0.mk c18
                    clear c18
                    obtain ⟨y392, hy392⟩ : ∃ y_ : List (S28), y_ = (y389 ++ l1) := ⟨_, rfl⟩
                    replace H : (sizarlaw07_FactsPast.l1 k2 l0 a3 a4 y392 (([(⟨a2_0, a2_1, a2_2⟩ : S24)] : List (S24))) 0) = some r := by first | (rw [hy392]; with_reducible exact H) | (have H2_ := (Option.bind_some _ _).symm.trans H; rw [hy392]; with_reducible exact H2_) | (have H2_ := (Option.bind_some _ _).symm.trans H; with_reducible exact H2_) | with_reducible exact H | (rw [hy392]; exact H) | exact H
                    have Ny392 := Aside0.mk hy392
                    clear hy392
                    obtain ⟨y395, hy395⟩ : ∃ y_ : List (S24), y_ = (([(⟨a2_0, a2_1, a2_2⟩ : S24)] : List (S24))) := ⟨_, rfl⟩
                    replace H : (sizarlaw07_FactsPast.l1 k2 l0 a3 a4 y392 y395 0) = some r := by first | (rw [hy395]; with_reducible exact H) | (have H2_ := (Option.bind_some _ _).symm.trans H; rw [hy395]; with_reducible exact H2_) | (have H2_ := (Option.bind_some _ _).symm.trans H; with_reducible exact H2_) | with_reducible exact H | (rw [hy395]; exact H) | exact H
                    have Ny395 := Aside0.mk hy395
                    clear hy395
                    have H' := Aside0.mk H
                    clear H
                    go_wp2_with (first | ((with_reducible refine gate_dst (N := 47) rfl ?_); (try (refine gate_guard (by rfl) ?_; dsimp only)); refine Kd.R_lit k28 _ 28 ?hg (N := 47) ?hd (xs := ([] : List (S28))) (inner := []) (ok := fun _ => True) (okp := fun _ => True) ?hr ?hp (fun _ hk => hk) trivial (Below.refl _ _) (Nat.le_refl _) (by simp) ?_; (case hd => rfl); (case hg => rfl); (case hr => first | (go_simp; done) | (go_simp; rfl)); (case hp => exact (Reps.none _ _)); intro v387 w19 ho20 hb hg_ hnew_; clear hg_ hnew_; (first | rw [← Ny386.out] at ho20 | (simp only [Int.reduceToNat] at ho20; rw [← Ny386.out] at ho20)); have n0_ := Aside0.mk (Kd.R_lower ho20 (below_size (by repeat (first | (with_reducible first | exact HB.out | apply below_alloc | apply pw_below_drewN | apply below_drew1 | refine below_set ?_ GE383.out) | exact HB.out)))); have n1_ := Aside0.mk (blk_below (g := gb383) (o := .cells #[.int .i64 a2_0, .int .i64 a2_1, .int .i64 a2_2] 24 (0, 0)) (by (with_reducible repeat (first | refine blk_drewN ?_ _ | refine blk_drew ?_ | refine blk_alloc ?_ _)); exact BK383.out) hb); have n2_ := Aside0.mk (below_step (by repeat (first | (with_reducible first | exact HB.out | apply below_alloc | apply pw_below_drewN | apply below_drew1 | refine below_set ?_ GE383.out) | exact HB.out)) hb); clear BK383; clear HB; have HO388 := n0_; have BK383 := n1_; have HB := n2_; clear n0_ n1_ n2_; clear hb ho20) | ((with_reducible refine gate_builtin (b := .append) (xs := #[.tmp 47, .tmp 48]) rfl ?_); (try (refine gate_guard (by rfl) ?_; dsimp only)); at_builtin; refine Kd.R_append_rows k28 (w0 := w) w.heap.size rfl (.tmp 47) (.tmp 48) 22 28 (.agg #[(.int .i64 0), (.int .i64 0), (.int .i64 0), (.int .i64 0), (.int .i64 0), (.int .i64 0), (.int .i64 0), (.int .i64 0)]) 64 rfl Try.underlying22 info28 rfl (by decide) (by omega) v387 y386 l0 _ _ _ (fun _ => True) (fun _ => False) rfl rfl ?aO ?aR (fun _ _ h => h) (fun _ h => h.elim) ?aF ?aB ?aS ?aL ?_; (case aR => repeat (first | exact (Kd.C_below HR0.out HB.out) | (with_reducible refine Kd.C_alloc ?_ _) | (with_reducible refine Kd.C_drewN ?_ _) | (with_reducible refine Kd.C_drew ?_))); (case aB => exact (by repeat (first | (with_reducible first | exact HB.out | apply below_alloc | apply pw_below_drewN | apply below_drew1 | refine below_set ?_ GE383.out) | exact HB.out))); (case aF => exact (fun _ _ => trivial)); (case aO => exact (by (with_reducible repeat (first | apply Kd.R_alloc | apply Kd.R_drewN | apply Kd.R_drew)); exact HO388.out)); (case aS => exact (below_size (by repeat (first | (with_reducible first | exact HB.out | apply below_alloc | apply pw_below_drewN | apply below_drew1 | refine below_set ?_ GE383.out) | exact HB.out)))); (case aL => have := LMc17.out; omega); intro v390 w21 ho hb hg hat; rw [← Ny389.out] at ho; have n0_ := Aside0.mk (blk_grown (g := gb383) (o := .cells #[.int .i64 a2_0, .int .i64 a2_1, .int .i64 a2_2] 24 (0, 0)) (by (with_reducible repeat (first | refine blk_drewN ?_ _ | refine blk_drew ?_ | refine blk_alloc ?_ _)); exact BK383.out) hg (Kd.R_ne HO388.out BK383.out (by decide))); have n1_ := Aside0.mk (hb); have n2_ := Aside0.mk (ho); clear BK383; clear HB; clear HO388; have BK383 := n0_; have HB := n1_; have HO391 := n2_; clear n0_ n1_ n2_; clear ho hb hg hat) | ((with_reducible refine gate_builtin (b := .append) (xs := #[.tmp 49, .tmp 50]) rfl ?_); (try (refine gate_guard (by rfl) ?_; dsimp only)); at_builtin; refine Kd.R_append_rows k28 (w0 := w) w.heap.size rfl (.tmp 49) (.tmp 50) 22 28 (.agg #[(.int .i64 0), (.int .i64 0), (.int .i64 0), (.int .i64 0), (.int .i64 0), (.int .i64 0), (.int .i64 0), (.int .i64 0)]) 64 rfl Try.underlying22 info28 rfl (by decide) (by omega) v390 y389 l1 _ _ _ (fun _ => True) (fun _ => False) rfl rfl ?aO ?aR (fun _ _ h => h) (fun _ h => h.elim) ?aF ?aB ?aS ?aL ?_; (case aR => repeat (first | exact (Kd.C_below HR1.out HB.out) | (with_reducible refine Kd.C_alloc ?_ _) | (with_reducible refine Kd.C_drewN ?_ _) | (with_reducible refine Kd.C_drew ?_))); (case aB => exact (by repeat (first | (with_reducible first | exact HB.out | apply below_alloc | apply pw_below_drewN | apply below_drew1 | refine below_set ?_ GE383.out) | exact HB.out))); (case aF => exact (fun _ _ => trivial)); (case aO => exact (by (with_reducible repeat (first | apply Kd.R_alloc | apply Kd.R_drewN | apply Kd.R_drew)); exact HO391.out)); (case aS => exact (below_size (by repeat (first | (with_reducible first | exact HB.out | apply below_alloc | apply pw_below_drewN | apply below_drew1 | refine below_set ?_ GE383.out) | exact HB.out)))); (case aL => have := LMc18.out; omega); intro v393 w22 ho hb hg hat; rw [← Ny392.out] at ho; have n0_ := Aside0.mk (blk_grown (g := gb383) (o := .cells #[.int .i64 a2_0, .int .i64 a2_1, .int .i64 a2_2] 24 (0, 0)) (by (with_reducible repeat (first | refine blk_drewN ?_ _ | refine blk_drew ?_ | refine blk_alloc ?_ _)); exact BK383.out) hg (Kd.R_ne HO391.out BK383.out (by decide))); have n1_ := Aside0.mk (hb); have n2_ := Aside0.mk (ho); clear BK383; clear HB; clear HO391; have BK383 := n0_; have HB := n1_; have HO394 := n2_; clear n0_ n1_ n2_; clear ho hb hg hat; have hcz23_0 : w22.cell? ⟨gb383, 0, none⟩ = some (.int .i64 a2_0) := (blk_cell BK383.out 0).trans rfl; have hcz23_1 : w22.cell? ⟨gb383, 1, none⟩ = some (.int .i64 a2_1) := (blk_cell BK383.out 1).trans rfl; have hcz23_2 : w22.cell? ⟨gb383, 2, none⟩ = some (.int .i64 a2_2) := (blk_cell BK383.out 2).trans rfl; have hfz23_0 := blk_frozen BK383.out 0; have hfz23_1 := blk_frozen BK383.out 1; have hfz23_2 := blk_frozen BK383.out 2) | ((with_reducible refine gate_dst (N := 53) rfl ?_); (try (refine gate_guard (by rfl) ?_; dsimp only)); refine Kd.R_lit k24 _ 24 ?hg (N := 53) ?hd (xs := ([(⟨a2_0, a2_1, a2_2⟩ : S24)] : List (S24))) (inner := [.int .i64 a2_0, .int .i64 a2_1, .int .i64 a2_2]) (ok := fun _ => True) (okp := fun _ => True) ?hr ?hp (fun _ hk => hk) trivial (Below.refl _ _) (Nat.le_refl _) (by simp) ?_; (case hd => rfl); (case hg => rfl); (case hr => first | (go_simp; done) | (go_simp; rfl)); (case hp => exact (Reps.c3 (show Kd.M k24 _ _ _ (⟨a2_0, a2_1, a2_2⟩ : S24) [.int .i64 a2_0, .int .i64 a2_1, .int .i64 a2_2] from (k24_mkM _ _ _ (⟨a2_0, a2_1, a2_2⟩ : S24) )) (Reps.none _ _))); intro v396 w24 ho25 hb hg_ hnew_; clear hg_ hnew_; (first | rw [← Ny395.out] at ho25 | (simp only [Int.reduceToNat] at ho25; rw [← Ny395.out] at ho25)); have n0_ := Aside0.mk (Kd.R_below (by (with_reducible repeat (first | apply Kd.R_alloc | apply Kd.R_drewN | apply Kd.R_drew)); exact HO394.out) hb); have n1_ := Aside0.mk (Kd.R_lower (Kd.R_newB ho25 (g := gb383) (o := .cells #[.int .i64 a2_0, .int .i64 a2_1, .int .i64 a2_2] 24 (0, 0)) (by (with_reducible repeat (first | refine blk_drewN ?_ _ | refine blk_drew ?_ | refine blk_alloc ?_ _)); exact BK383.out)) (below_size (by repeat (first | (with_reducible first | exact HB.out | apply below_alloc | apply pw_below_drewN | apply below_drew1 | refine below_set ?_ GE383.out) | exact HB.out)))); have n2_ := Aside0.mk (blk_below (g := gb383) (o := .cells #[.int .i64 a2_0, .int .i64 a2_1, .int .i64 a2_2] 24 (0, 0)) (by (with_reducible repeat (first | refine blk_drewN ?_ _ | refine blk_drew ?_ | refine blk_alloc ?_ _)); exact BK383.out) hb); have n3_ := Aside0.mk (below_step (by repeat (first | (with_reducible first | exact HB.out | apply below_alloc | apply pw_below_drewN | apply below_drew1 | refine below_set ?_ GE383.out) | exact HB.out)) hb); clear HO394; clear BK383; clear HB; have HO394 := n0_; have HO397 := n1_; have BK383 := n2_; have HB := n3_; clear n0_ n1_ n2_ n3_; clear hb ho25))
                    go_loopg [13, 14] k2 (fun kq v13 v14 w' => ∃ (x13_3 : List (S24)) (x14_3 : Int), v14 = .int .i64 x14_3 ∧ Aside0 (sizarlaw07_FactsPast.l1 kq l0 a3 a4 y392 x13_3 x14_3 = some r) ∧ Aside0 (kq ≤ k2) ∧ Aside0 (Kd.R k28 28 w' w.heap.size (fun _ => True) v393 y392) ∧ Aside0 (Kd.R k24 24 w' w.heap.size (fun k_ => k_ ≠ gb383) v13 x13_3) ∧ Aside0 (w'.heap[gb383]? = some (.cells #[.int .i64 a2_0, .int .i64 a2_1, .int .i64 a2_2] 24 (0, 0))) ∧ Aside0 (Below w.heap.size w w'))
                    case atStart => exact ⟨(y395), (0), (by first | rfl | (simp; done) | (simp [*]; done)), H', ⟨Nat.le_refl _⟩, ⟨by (with_reducible repeat (first | apply Kd.R_alloc | apply Kd.R_drewN | apply Kd.R_drew)); exact HO394.out⟩, ⟨by (with_reducible repeat (first | apply Kd.R_alloc | apply Kd.R_drewN | apply Kd.R_drew)); exact Kd.R_mono HO397.out (fun _ hk => hk.2)⟩, ⟨by (with_reducible repeat (first | refine blk_drewN ?_ _ | refine blk_drew ?_ | refine blk_alloc ?_ _)); exact BK383.out⟩, ⟨by repeat (first | (with_reducible first | exact HB.out | apply below_alloc | apply pw_below_drewN | apply below_drew1 | refine below_set ?_ GE383.out) | exact HB.out)⟩⟩
                    case round =>
                      clear H'
                      try clear c1
                      try clear p2
                      try clear c3
                      try clear p3
                      try clear q3
                      try clear hx3
                      try clear c6
                      try clear p6
                      try clear c7
                      try clear c11
                      try clear c11b0
                      try clear c11b1
                      try clear c12
                      try clear c12b0
                      try clear c12b1
                      try clear c13
                      try clear c14
                      try clear c14b0
                      try clear c15
                      try clear c15b0
                      try clear c16
                      try clear c16b0
                      try clear c17
                      try clear c18
                      try clear hcz23_0
                      try clear hcz23_1
                      try clear hcz23_2
                      try clear hfz23_0
                      try clear hfz23_1
                      try clear hfz23_2
                      try clear hx385_0
                      try clear hx385_1
                      try clear hx385_2
                      try clear hx385_3
                      try clear hx385_4
                      try clear hx385_5
                      try clear hx385_6
                      try clear hx385_7
                      try clear p2
                      try clear p385
                      try clear q385
                      obtain ⟨x13_3, x14_3, rfl, HA, HK3, HO_12, HO_13, BK383, HB⟩ := hrel
                      cases gk with
                      | zero => exact absurd HA.out (by simp [sizarlaw07_FactsPast.l1])
                      | succ k3 =>
                        have H := HA.out
                        clear HA
                        simp only [sizarlaw07_FactsPast.l1] at H
                        by_cases c26 : x14_3 < (y392.length : Int)
                        · rw [if_pos c26] at H
                          have c26b0 : decide (x14_3 < (y392.length : Int)) = true := decide_eq_true c26
                          clear c26
                          by_cases c27 : 0 ≤ x14_3
                          · rw [if_pos c27] at H
                            have c27b0 : decide (0 ≤ x14_3) = true := decide_eq_true c27
                            clear c27
                            by_cases c28 : x13_3.length < 5864062014805
                            · rw [if_pos c28] at H
                              have LMc28 := Aside0.mk c28
                              clear c28
                              obtain ⟨y399, hy399⟩ : ∃ y_ : List (S24), y_ = (x13_3 ++ [(⟨(rd_T28 y392 x14_3).f0.f0, (rd_T28 y392 x14_3).f0.f1, (rd_T28 y392 x14_3).f0.f2⟩ : S24)]) := ⟨_, rfl⟩
                              replace H : (sizarlaw07_FactsPast.l1 k3 l0 a3 a4 y392 y399 (wrap64 (x14_3 + 1))) = some r := by first | (rw [hy399]; with_reducible exact H) | (have H2_ := (Option.bind_some _ _).symm.trans H; rw [hy399]; with_reducible exact H2_) | (have H2_ := (Option.bind_some _ _).symm.trans H; with_reducible exact H2_) | with_reducible exact H | (rw [hy399]; exact H) | exact H
                              have Ny399 := Aside0.mk hy399
                              clear hy399
                              have H' := Aside0.mk H
                              clear H
                              obtain ⟨Ao29, co29, eo29⟩ := Kd.R_slice HO_12.out
                              subst eo29
                              have p398 : 0 ≤ (x14_3 : Int) := of_decide_eq_true (by first | (with_reducible assumption) | assumption)
                              have q398 : x14_3 < (y392.length : Int) := of_decide_eq_true (by first | (with_reducible assumption) | assumption)
                              obtain ⟨ad398, e398, hx398_0, hx398_1, hx398_2, hx398_3, hx398_4, hx398_5, hx398_6, hx398_7⟩ := at_T28 (Kd.R_reads' HO_12.out).2.2 x14_3 p398 q398
                              cases e398
                              replace p398 := eq_true p398
                              replace q398 := eq_true q398
                              go_wp2_with (first | ((with_reducible refine gate_builtin (b := .append) (xs := #[.tmp 60, .tmp 66]) rfl ?_); (try (refine gate_guard (by rfl) ?_; dsimp only)); at_builtin; refine Kd.R_append k24 (w0 := w) w.heap.size rfl (.tmp 60) (.tmp 66) 37 24 (.agg #[(.int .i64 0), (.int .i64 0), (.int .i64 0)]) 24 rfl Try.underlying37 info24 rfl (by decide) (by omega) u13 x13_3 (⟨(rd_T28 y392 x14_3).f0.f0, (rd_T28 y392 x14_3).f0.f1, (rd_T28 y392 x14_3).f0.f2⟩ : S24) [.int .i64 ((rd_T28 y392 x14_3).f0.f0), .int .i64 ((rd_T28 y392 x14_3).f0.f1), .int .i64 ((rd_T28 y392 x14_3).f0.f2)] (fun k_ => k_ ≠ gb383) (fun _ => False) rfl rfl ?aP (fun _ hk => hk.elim) ?aF ?aO ?aB ?aS ?aL ?_; (case aP => exact k24_mkM _ _ _ (⟨(rd_T28 y392 x14_3).f0.f0, (rd_T28 y392 x14_3).f0.f1, (rd_T28 y392 x14_3).f0.f2⟩ : S24)); (case aB => exact (by repeat (first | (with_reducible first | exact HB.out | apply below_alloc | apply pw_below_drewN | apply below_drew1 | refine below_set ?_ GE383.out) | exact HB.out))); (case aF => exact (fun k_ hk => Kd.freshB (g := gb383) (o := .cells #[.int .i64 a2_0, .int .i64 a2_1, .int .i64 a2_2] 24 (0, 0)) (by (with_reducible repeat (first | refine blk_drewN ?_ _ | refine blk_drew ?_ | refine blk_alloc ?_ _)); exact BK383.out) k_ hk)); (case aO => exact (by (with_reducible repeat (first | apply Kd.R_alloc | apply Kd.R_drewN | apply Kd.R_drew)); exact HO_13.out)); (case aS => exact (below_size (by repeat (first | (with_reducible first | exact HB.out | apply below_alloc | apply pw_below_drewN | apply below_drew1 | refine below_set ?_ GE383.out) | exact HB.out)))); (case aL => have := LMc28.out; omega); intro v400 w30 ho hb hg hat; rw [← Ny399.out] at ho; have n0_ := Aside0.mk (Kd.R_over' (by (with_reducible repeat (first | apply Kd.R_alloc | apply Kd.R_drewN | apply Kd.R_drew)); exact HO_12.out) (Kd.R_typed (by (with_reducible repeat (first | apply Kd.R_alloc | apply Kd.R_drewN | apply Kd.R_drew)); exact HO_13.out)) (by decide) hg); have n1_ := Aside0.mk (blk_grown (g := gb383) (o := .cells #[.int .i64 a2_0, .int .i64 a2_1, .int .i64 a2_2] 24 (0, 0)) (by (with_reducible repeat (first | refine blk_drewN ?_ _ | refine blk_drew ?_ | refine blk_alloc ?_ _)); exact BK383.out) hg (Kd.R_away HO_13.out (fun _ hk => hk))); have n2_ := Aside0.mk (hb); have n3_ := Aside0.mk (ho); clear HO_12; clear BK383; clear HB; clear HO_13; have HO_12 := n0_; have BK383 := n1_; have HB := n2_; have HO401 := n3_; clear n0_ n1_ n2_ n3_; clear ho hb hg hat))
                              go_roundg k3
                              case measure => have := HJ7.out; have := HK2.out; have := HK3.out; omega
                              case rel => exact ⟨(y399), (wrap64 (x14_3 + 1)), (by first | rfl | (simp; done) | (simp [*]; done)), H', ⟨by have := HJ7.out; have := HK2.out; have := HK3.out; omega⟩, ⟨by (with_reducible repeat (first | apply Kd.R_alloc | apply Kd.R_drewN | apply Kd.R_drew)); exact HO_12.out⟩, ⟨by (with_reducible repeat (first | apply Kd.R_alloc | apply Kd.R_drewN | apply Kd.R_drew)); exact HO401.out⟩, ⟨by (with_reducible repeat (first | refine blk_drewN ?_ _ | refine blk_drew ?_ | refine blk_alloc ?_ _)); exact BK383.out⟩, ⟨by repeat (first | (with_reducible first | exact HB.out | apply below_alloc | apply pw_below_drewN | apply below_drew1 | refine below_set ?_ GE383.out) | exact HB.out)⟩⟩
                            · rw [if_neg c28] at H
                              exact absurd H (by simp)
                          · rw [if_neg c27] at H
                            exact absurd H (by simp)
                        · rw [if_neg c26] at H
                          have c26b0 : decide (x14_3 < (y392.length : Int)) = false := decide_eq_false c26
                          clear c26
                          have H' := Aside0.mk H
                          clear H
                          obtain ⟨Ao31, co31, eo31⟩ := Kd.R_slice HO_12.out
                          subst eo31
                          go_wp2
                          go_loopg [15] k3 (fun kq v15 w' => ∃ (x15_4 : Int), v15 = .int .i64 x15_4 ∧ Aside0 (sizarlaw07_FactsPast.l2 kq l0 a3 a4 y392 x13_3 x15_4 = some r) ∧ Aside0 (kq ≤ k3) ∧ Aside0 (Kd.R k28 28 w' w.heap.size (fun _ => True) (.slice Ao31 y392.length co31) y392) ∧ Aside0 (Kd.R k24 24 w' w.heap.size (fun k_ => k_ ≠ gb383) u13 x13_3) ∧ Aside0 (w'.heap[gb383]? = some (.cells #[.int .i64 a2_0, .int .i64 a2_1, .int .i64 a2_2] 24 (0, 0))) ∧ Aside0 (Below w.heap.size w w'))
                          case atStart => exact ⟨(0), (by first | rfl | (simp; done) | (simp [*]; done)), H', ⟨Nat.le_refl _⟩, ⟨by (with_reducible repeat (first | apply Kd.R_alloc | apply Kd.R_drewN | apply Kd.R_drew)); exact HO_12.out⟩, ⟨by (with_reducible repeat (first | apply Kd.R_alloc | apply Kd.R_drewN | apply Kd.R_drew)); exact HO_13.out⟩, ⟨by (with_reducible repeat (first | refine blk_drewN ?_ _ | refine blk_drew ?_ | refine blk_alloc ?_ _)); exact BK383.out⟩, ⟨by repeat (first | (with_reducible first | exact HB.out | apply below_alloc | apply pw_below_drewN | apply below_drew1 | refine below_set ?_ GE383.out) | exact HB.out)⟩⟩
                          case round =>
                            clear H'
                            try clear c1
                            try clear c2
                            try clear p2
                            try clear c3
                            try clear p3
                            try clear q3
                            try clear hx3
                            try clear c6
                            try clear p6
                            try clear c7
                            try clear c11
                            try clear c11b0
                            try clear c11b1
                            try clear c12
                            try clear c12b0
                            try clear c12b1
                            try clear c13
                            try clear c14
                            try clear c14b0
                            try clear c15
                            try clear c15b0
                            try clear c16
                            try clear c16b0
                            try clear c17
                            try clear c18
                            try clear c26
                            try clear c26b0
                            try clear c27
                            try clear c27b0
                            try clear c28
                            try clear hcz23_0
                            try clear hcz23_1
                            try clear hcz23_2
                            try clear hfz23_0
                            try clear hfz23_1
                            try clear hfz23_2
                            try clear hx385_0
                            try clear hx385_1
                            try clear hx385_2
                            try clear hx385_3
                            try clear hx385_4
                            try clear hx385_5
                            try clear hx385_6
                            try clear hx385_7
                            try clear hx398_0
                            try clear hx398_1
                            try clear hx398_2
                            try clear hx398_3
                            try clear hx398_4
                            try clear hx398_5
                            try clear hx398_6
                            try clear hx398_7
                            try clear p2
                            try clear p3
                            try clear p385
                            try clear p398
                            try clear p6
                            try clear q3
                            try clear q385
                            try clear q398
                            obtain ⟨x15_4, rfl, HA, HK4, HO_12, HO_13, BK383, HB⟩ := hrel
                            cases gk with
                            | zero => exact absurd HA.out (by simp [sizarlaw07_FactsPast.l2])
                            | succ k4 =>
                              have H := HA.out
                              clear HA
                              simp only [sizarlaw07_FactsPast.l2] at H
                              by_cases c32 : x15_4 < (x13_3.length : Int)
                              · rw [if_pos c32] at H
                                have c32b0 : decide (x15_4 < (x13_3.length : Int)) = true := decide_eq_true c32
                                clear c32
                                by_cases c33 : 0 ≤ x15_4
                                · rw [if_pos c33] at H
                                  have c33b0 : decide (0 ≤ x15_4) = true := decide_eq_true c33
                                  clear c33
                                  replace H := Option.bind_eq_some_iff.mp H
                                  obtain ⟨⟨t403, t404⟩, A340, H⟩ := H
                                  replace H : ((facts_At.f y392 ((rd_T24 x13_3 x15_4).f0) ((rd_T24 x13_3 x15_4).f1) ((rd_T24 x13_3 x15_4).f2) a3 a4).bind fun bt406 => (if t403 = bt406.1 then (if (t404 != bt406.2) = true then (none) else ((facts_Points.f l0 ((rd_T24 x13_3 x15_4).f0) ((rd_T24 x13_3 x15_4).f1) ((rd_T24 x13_3 x15_4).f2) 0 40 a4).bind fun t409 => ((facts_Points.f y392 ((rd_T24 x13_3 x15_4).f0) ((rd_T24 x13_3 x15_4).f1) ((rd_T24 x13_3 x15_4).f2) 0 40 a4).bind fun t413 => ((sizarref07_SamePoints.f k4 t409 t413).bind fun t416 => (if t416 = true then (sizarlaw07_FactsPast.l2 k4 l0 a3 a4 y392 x13_3 (wrap64 (x15_4 + 1))) else (none)))))) else (none))) = some r := H
                                  have A34 := Aside0.mk A340
                                  clear A340
                                  replace H := Option.bind_eq_some_iff.mp H
                                  obtain ⟨⟨t406, t407⟩, A350, H⟩ := H
                                  replace H : (if t403 = t406 then (if (t404 != t407) = true then (none) else ((facts_Points.f l0 ((rd_T24 x13_3 x15_4).f0) ((rd_T24 x13_3 x15_4).f1) ((rd_T24 x13_3 x15_4).f2) 0 40 a4).bind fun t409 => ((facts_Points.f y392 ((rd_T24 x13_3 x15_4).f0) ((rd_T24 x13_3 x15_4).f1) ((rd_T24 x13_3 x15_4).f2) 0 40 a4).bind fun t413 => ((sizarref07_SamePoints.f k4 t409 t413).bind fun t416 => (if t416 = true then (sizarlaw07_FactsPast.l2 k4 l0 a3 a4 y392 x13_3 (wrap64 (x15_4 + 1))) else (none)))))) else (none)) = some r := H
                                  have A35 := Aside0.mk A350
                                  clear A350
                                  by_cases c36 : t403 = t406
                                  · rw [if_pos c36] at H
                                    have c36b0 : (t403 == t406) = true := beq_iff_eq.mpr c36
                                    have c36b1 : (t403 != t406) = false := bne_eq_false_iff_eq.mpr c36
                                    clear c36
                                    by_cases c37 : (t404 != t407) = true
                                    · rw [if_pos c37] at H
                                      have c37b0 : (t404 != t407) = true := c37
                                      (try (have c37b1 : decide (t404 = t407) = false := by simpa using c37))
                                      (try (have c37b2 : (t404 == t407) = false := by simpa using c37))
                                      (try (have c37b3 : ¬ (t404 = t407) := by simpa using c37))
                                      clear c37
                                      exact absurd H (by simp)
                                    · rw [if_neg c37] at H
                                      have c37b0 : (t404 != t407) = false := by simpa using c37
                                      (try (have c37b1 : decide (t404 = t407) = true := by simpa using c37))
                                      (try (have c37b2 : (t404 == t407) = true := by first | simpa using c37 | (have b_ : (!(t404 == t407)) = false := c37b0; cases h_ : (t404 == t407) with | true => rfl | false => rw [h_] at b_; cases b_)))
                                      clear c37
                                      replace H := Option.bind_eq_some_iff.mp H
                                      obtain ⟨t409, A380, H⟩ := H
                                      replace H : ((facts_Points.f y392 ((rd_T24 x13_3 x15_4).f0) ((rd_T24 x13_3 x15_4).f1) ((rd_T24 x13_3 x15_4).f2) 0 40 a4).bind fun t413 => ((sizarref07_SamePoints.f k4 t409 t413).bind fun t416 => (if t416 = true then (sizarlaw07_FactsPast.l2 k4 l0 a3 a4 y392 x13_3 (wrap64 (x15_4 + 1))) else (none)))) = some r := H
                                      have A38 := Aside0.mk A380
                                      clear A380
                                      replace H := Option.bind_eq_some_iff.mp H
                                      obtain ⟨t413, A390, H⟩ := H
                                      replace H : ((sizarref07_SamePoints.f k4 t409 t413).bind fun t416 => (if t416 = true then (sizarlaw07_FactsPast.l2 k4 l0 a3 a4 y392 x13_3 (wrap64 (x15_4 + 1))) else (none))) = some r := H
                                      have A39 := Aside0.mk A390
                                      clear A390
                                      replace H := Option.bind_eq_some_iff.mp H
                                      obtain ⟨t416, A400, H⟩ := H
                                      replace H : (if t416 = true then (sizarlaw07_FactsPast.l2 k4 l0 a3 a4 y392 x13_3 (wrap64 (x15_4 + 1))) else (none)) = some r := H
                                      have A40 := Aside0.mk A400
                                      clear A400
                                      by_cases c41 : t416 = true
                                      · subst c41
                                        have H1 : (sizarlaw07_FactsPast.l2 k4 l0 a3 a4 y392 x13_3 (wrap64 (x15_4 + 1))) = some r := by rw [if_pos rfl] at H; exact H
                                        clear H
                                        have H := H1
                                        clear H1
                                        have H' := Aside0.mk H
                                        clear H
                                        obtain ⟨Ao42, co42, eo42⟩ := Kd.R_slice HO_13.out
                                        subst eo42
                                        have p402 : 0 ≤ (x15_4 : Int) := of_decide_eq_true (by first | (with_reducible assumption) | assumption)
                                        have q402 : x15_4 < (x13_3.length : Int) := of_decide_eq_true (by first | (with_reducible assumption) | assumption)
                                        obtain ⟨ad402, e402, hx402_0, hx402_1, hx402_2⟩ := at_T24 (Kd.R_reads' HO_13.out).2.2 x15_4 p402 q402
                                        cases e402
                                        replace p402 := eq_true p402
                                        replace q402 := eq_true q402
                                        try go_wp2_with (first | ((with_reducible refine gate_callee (f := 18) rfl ?_); refine goesL_ (some 82) rfl rfl Try.func18 (by kernel_rfl) rfl #[.slice A0 l0.length c0, .agg #[.int .i64 ((rd_T24 x13_3 x15_4).f0), .int .i64 ((rd_T24 x13_3 x15_4).f1), .int .i64 ((rd_T24 x13_3 x15_4).f2)], .int .i64 a3, .int .i64 a4] rfl (by (try simp only [List.map_toArray, List.map_cons, List.map_nil]); first | done | rfl | (simp only [List.length_drop, List.length_take]; rfl)) ?_; (with_reducible refine (facts_At.calls _ _ l0 ((rd_T24 x13_3 x15_4).f0) ((rd_T24 x13_3 x15_4).f1) ((rd_T24 x13_3 x15_4).f2) a3 a4 t403 t404 _ ?side1 ?side2 A34.out).mono ?_); (case side1 => repeat (first | exact (Kd.C_below HR0.out HB.out) | (with_reducible refine Kd.C_alloc ?_ _) | (with_reducible refine Kd.C_drewN ?_ _) | (with_reducible refine Kd.C_drew ?_))); (case side2 => exact HC0.out); rintro e w43 ⟨rfl, hb⟩; refine ⟨_, rfl, ?_⟩; have n0_ := Aside0.mk (Kd.R_below (by (with_reducible repeat (first | apply Kd.R_alloc | apply Kd.R_drewN | apply Kd.R_drew)); exact HO_12.out) hb); have n1_ := Aside0.mk (Kd.R_below (by (with_reducible repeat (first | apply Kd.R_alloc | apply Kd.R_drewN | apply Kd.R_drew)); exact HO_13.out) hb); have n2_ := Aside0.mk (blk_below (g := gb383) (o := .cells #[.int .i64 a2_0, .int .i64 a2_1, .int .i64 a2_2] 24 (0, 0)) (by (with_reducible repeat (first | refine blk_drewN ?_ _ | refine blk_drew ?_ | refine blk_alloc ?_ _)); exact BK383.out) hb); have n3_ := Aside0.mk (below_step (by repeat (first | (with_reducible first | exact HB.out | apply below_alloc | apply pw_below_drewN | apply below_drew1 | refine below_set ?_ GE383.out) | exact HB.out)) hb); clear HO_12; clear HO_13; clear BK383; clear HB; have HO_12 := n0_; have HO_13 := n1_; have BK383 := n2_; have HB := n3_; clear n0_ n1_ n2_ n3_; (try clear hb); (try clear hb2); (try clear hk); (try clear hi); have p405 : 0 ≤ (x15_4 : Int) := of_decide_eq_true (by first | (with_reducible assumption) | assumption); have q405 : x15_4 < (x13_3.length : Int) := of_decide_eq_true (by first | (with_reducible assumption) | assumption); obtain ⟨ad405, e405, hx405_0, hx405_1, hx405_2⟩ := at_T24 (Kd.R_reads' HO_13.out).2.2 x15_4 p405 q405; obtain rfl : ad402 = ad405 := (by injection e405); replace p405 := eq_true p405; replace q405 := eq_true q405) | ((with_reducible refine gate_callee (f := 18) rfl ?_); refine goesL_ (some 93) rfl rfl Try.func18 (by kernel_rfl) rfl #[.slice Ao31 y392.length co31, .agg #[.int .i64 ((rd_T24 x13_3 x15_4).f0), .int .i64 ((rd_T24 x13_3 x15_4).f1), .int .i64 ((rd_T24 x13_3 x15_4).f2)], .int .i64 a3, .int .i64 a4] rfl (by (try simp only [List.map_toArray, List.map_cons, List.map_nil]); first | done | rfl | (simp only [List.length_drop, List.length_take]; rfl)) ?_; (with_reducible refine (facts_At.calls _ _ y392 ((rd_T24 x13_3 x15_4).f0) ((rd_T24 x13_3 x15_4).f1) ((rd_T24 x13_3 x15_4).f2) a3 a4 t406 t407 _ ?side1 ?side2 A35.out).mono ?_); (case side1 => repeat (first | exact (Kd.R_reads' HO_12.out).2.2 | (with_reducible refine Kd.C_alloc ?_ _) | (with_reducible refine Kd.C_drewN ?_ _) | (with_reducible refine Kd.C_drew ?_))); (case side2 => exact (Kd.R_reads' HO_12.out).2.1); rintro e w44 ⟨rfl, hb⟩; refine ⟨_, rfl, ?_⟩; have n0_ := Aside0.mk (Kd.R_below (by (with_reducible repeat (first | apply Kd.R_alloc | apply Kd.R_drewN | apply Kd.R_drew)); exact HO_12.out) hb); have n1_ := Aside0.mk (Kd.R_below (by (with_reducible repeat (first | apply Kd.R_alloc | apply Kd.R_drewN | apply Kd.R_drew)); exact HO_13.out) hb); have n2_ := Aside0.mk (blk_below (g := gb383) (o := .cells #[.int .i64 a2_0, .int .i64 a2_1, .int .i64 a2_2] 24 (0, 0)) (by (with_reducible repeat (first | refine blk_drewN ?_ _ | refine blk_drew ?_ | refine blk_alloc ?_ _)); exact BK383.out) hb); have n3_ := Aside0.mk (below_step (by repeat (first | (with_reducible first | exact HB.out | apply below_alloc | apply pw_below_drewN | apply below_drew1 | refine below_set ?_ GE383.out) | exact HB.out)) hb); clear HO_12; clear HO_13; clear BK383; clear HB; have HO_12 := n0_; have HO_13 := n1_; have BK383 := n2_; have HB := n3_; clear n0_ n1_ n2_ n3_; (try clear hb); (try clear hb2); (try clear hk); (try clear hi)))
                                        have n0_ := Aside0.mk (Kd.R_drew HO_12.out)
                                        have n1_ := Aside0.mk (Kd.R_drew HO_13.out)
                                        have n2_ := Aside0.mk (blk_drew BK383.out)
                                        have n3_ := Aside0.mk (below_drew1 HB.out)
                                        clear HO_12
                                        clear HO_13
                                        clear BK383
                                        clear HB
                                        have HO_12 := n0_
                                        have HO_13 := n1_
                                        have BK383 := n2_
                                        have HB := n3_
                                        clear n0_ n1_ n2_ n3_
                                        have p408 : 0 ≤ (x15_4 : Int) := of_decide_eq_true (by first | (with_reducible assumption) | assumption)
                                        have q408 : x15_4 < (x13_3.length : Int) := of_decide_eq_true (by first | (with_reducible assumption) | assumption)
                                        obtain ⟨ad408, e408, hx408_0, hx408_1, hx408_2⟩ := at_T24 (Kd.R_reads' HO_13.out).2.2 x15_4 p408 q408
                                        obtain rfl : ad402 = ad408 := (by injection e408)
                                        replace p408 := eq_true p408
                                        replace q408 := eq_true q408
                                        have p412 : 0 ≤ (x15_4 : Int) := of_decide_eq_true (by first | (with_reducible assumption) | assumption)
                                        have q412 : x15_4 < (x13_3.length : Int) := of_decide_eq_true (by first | (with_reducible assumption) | assumption)
                                        obtain ⟨ad412, e412, hx412_0, hx412_1, hx412_2⟩ := at_T24 (Kd.R_reads' HO_13.out).2.2 x15_4 p412 q412
                                        obtain rfl : ad402 = ad412 := (by injection e412)
                                        replace p412 := eq_true p412
                                        replace q412 := eq_true q412
                                        refine start_ (n := 26) (S := fun w' => w'.cell? (ad402.add ((x15_4).toNat * 3)) = some (.int .i64 ((rd_T24 x13_3 x15_4).f0)) ∧ w'.cell? ⟨(ad402.add ((x15_4).toNat * 3)).block, (ad402.add ((x15_4).toNat * 3)).off + 1, none⟩ = some (.int .i64 ((rd_T24 x13_3 x15_4).f1)) ∧ w'.cell? ⟨(ad402.add ((x15_4).toNat * 3)).block, (ad402.add ((x15_4).toNat * 3)).off + 2, none⟩ = some (.int .i64 ((rd_T24 x13_3 x15_4).f2)) ∧ w'.cell? (ad402.add ((x15_4).toNat * 3)) = some (.int .i64 ((rd_T24 x13_3 x15_4).f0)) ∧ w'.cell? ⟨(ad402.add ((x15_4).toNat * 3)).block, (ad402.add ((x15_4).toNat * 3)).off + 1, none⟩ = some (.int .i64 ((rd_T24 x13_3 x15_4).f1)) ∧ w'.cell? ⟨(ad402.add ((x15_4).toNat * 3)).block, (ad402.add ((x15_4).toNat * 3)).off + 2, none⟩ = some (.int .i64 ((rd_T24 x13_3 x15_4).f2))) (ds := []) #[false, false, false, false, false, false, false, false, false, false, false, false, false, false, false, false, false, false, false, false, false, false, false, false, false, false] (by kernel_rfl) rfl rfl ⟨hx408_0, hx408_1, hx408_2, hx412_0, hx412_1, hx412_2⟩ (fun hHeld => ?_); refine with_tabW sizarlaw07_FactsPast.tab21 sizarlaw07_FactsPast.bits21 (fun HT_ HW_ => ?_)
                                        generalize w44.drew = w45 at HO_12 HO_13 BK383 HB hx408_0 hx408_1 hx408_2 hx412_0 hx412_1 hx412_2 hHeld ⊢
                                        refine pure_ (i := 0) (N := some 96) (v := ?_) (a' := ?_) #[true, false, false, false, false, false, false, false, false, false, false, false, false, false, false, false, false, false, false, false, false, false, false, false, false, false] rfl rfl (any_of HT_.out (by kernel_rfl)) (fun _ _ _ h => h) (Or.inl ⟨by rfl, ?_⟩) ?_ ?_
                                        rotate_left
                                        · intro w'
                                          go_simp
                                          with_reducible rfl
                                        rotate_left
                                        · simp only [Act.put, List.setIfInBounds_toArray, List.set_cons_zero, List.set_cons_succ, i64_w, i32_w]
                                          rfl
                                        refine pure_ (i := 1) (N := some 97) (v := ?_) (a' := ?_) #[true, true, false, false, false, false, false, false, false, false, false, false, false, false, false, false, false, false, false, false, false, false, false, false, false, false] rfl rfl (any_of HT_.out (by kernel_rfl)) (fun _ _ _ h => h) (Or.inl ⟨by rfl, ?_⟩) ?_ ?_
                                        rotate_left
                                        · intro w'
                                          go_simp
                                          with_reducible rfl
                                        rotate_left
                                        · simp only [Act.put, List.setIfInBounds_toArray, List.set_cons_zero, List.set_cons_succ, i64_w, i32_w]
                                          rfl
                                        refine pure_ (i := 2) (N := some 98) (v := ?_) (a' := ?_) #[true, true, true, false, false, false, false, false, false, false, false, false, false, false, false, false, false, false, false, false, false, false, false, false, false, false] rfl rfl (any_of HT_.out (by kernel_rfl)) (fun _ _ _ h => h) (Or.inl ⟨by rfl, ?_⟩) ?_ ?_
                                        rotate_left
                                        · intro w'
                                          go_simp
                                          with_reducible rfl
                                        rotate_left
                                        · simp only [Act.put, List.setIfInBounds_toArray, List.set_cons_zero, List.set_cons_succ, i64_w, i32_w]
                                          rfl
                                        refine pure_ (i := 3) (N := some 99) (v := ?_) (a' := ?_) #[true, true, true, true, false, false, false, false, false, false, false, false, false, false, false, false, false, false, false, false, false, false, false, false, false, false] rfl rfl (any_of HT_.out (by kernel_rfl)) (fun _ _ _ h => h) (Or.inl ⟨by rfl, ?_⟩) ?_ ?_
                                        rotate_left
                                        · intro w'
                                          go_simp
                                          with_reducible rfl
                                        rotate_left
                                        · simp only [Act.put, List.setIfInBounds_toArray, List.set_cons_zero, List.set_cons_succ, i64_w, i32_w]
                                          rfl
                                        refine pure_ (i := 4) (N := some 100) (v := ?_) (a' := ?_) #[true, true, true, true, true, false, false, false, false, false, false, false, false, false, false, false, false, false, false, false, false, false, false, false, false, false] rfl rfl (any_of HT_.out (by kernel_rfl)) (fun _ _ _ h => h) (Or.inl ⟨by rfl, ?_⟩) ?_ ?_
                                        rotate_left
                                        · intro w'
                                          go_simp
                                          with_reducible rfl
                                        rotate_left
                                        · simp only [Act.put, List.setIfInBounds_toArray, List.set_cons_zero, List.set_cons_succ, i64_w, i32_w]
                                          rfl
                                        refine pure_ (i := 5) (N := some 101) (v := ?_) (a' := ?_) #[true, true, true, true, true, true, false, false, false, false, false, false, false, false, false, false, false, false, false, false, false, false, false, false, false, false] rfl rfl (any_of HT_.out (by kernel_rfl)) (fun _ _ _ h => h) (Or.inl ⟨by rfl, ?_⟩) ?_ ?_
                                        rotate_left
                                        · intro w'
                                          go_simp
                                          with_reducible rfl
                                        rotate_left
                                        · simp only [Act.put, List.setIfInBounds_toArray, List.set_cons_zero, List.set_cons_succ, i64_w, i32_w]
                                          rfl
                                        refine pure_ (i := 6) (N := some 102) (v := ?_) (a' := ?_) #[true, true, true, true, true, true, true, false, false, false, false, false, false, false, false, false, false, false, false, false, false, false, false, false, false, false] rfl rfl (any_of HT_.out (by kernel_rfl)) (fun _ _ _ h => h) (Or.inl ⟨by rfl, ?_⟩) ?_ ?_
                                        rotate_left
                                        · intro w'
                                          go_simp
                                          with_reducible rfl
                                        rotate_left
                                        · simp only [Act.put, List.setIfInBounds_toArray, List.set_cons_zero, List.set_cons_succ, i64_w, i32_w]
                                          rfl
                                        refine pure_ (i := 7) (N := some 103) (v := ?_) (a' := ?_) #[true, true, true, true, true, true, true, true, false, false, false, false, false, false, false, false, false, false, false, false, false, false, false, false, false, false] rfl rfl (any_of HT_.out (by kernel_rfl)) (fun _ _ _ h => h) (Or.inl ⟨by rfl, ?_⟩) ?_ ?_
                                        rotate_left
                                        · intro w'
                                          go_simp
                                          with_reducible rfl
                                        rotate_left
                                        · simp only [Act.put, List.setIfInBounds_toArray, List.set_cons_zero, List.set_cons_succ, i64_w, i32_w]
                                          rfl
                                        refine pure_ (i := 8) (N := some 104) (v := ?_) (a' := ?_) #[true, true, true, true, true, true, true, true, true, false, false, false, false, false, false, false, false, false, false, false, false, false, false, false, false, false] rfl rfl (any_of HT_.out (by kernel_rfl)) (fun _ _ _ h => h) (Or.inl ⟨by rfl, ?_⟩) ?_ ?_
                                        rotate_left
                                        · intro w'
                                          go_simp
                                          with_reducible rfl
                                        rotate_left
                                        · simp only [Act.put, List.setIfInBounds_toArray, List.set_cons_zero, List.set_cons_succ, i64_w, i32_w]
                                          rfl
                                        refine pure_ (i := 9) (N := some 105) (v := ?_) (a' := ?_) #[true, true, true, true, true, true, true, true, true, true, false, false, false, false, false, false, false, false, false, false, false, false, false, false, false, false] rfl rfl (any_of HT_.out (by kernel_rfl)) (fun _ _ _ h => h) (Or.inl ⟨by rfl, ?_⟩) ?_ ?_
                                        rotate_left
                                        · intro w'
                                          go_simp
                                          with_reducible rfl
                                        rotate_left
                                        · simp only [Act.put, List.setIfInBounds_toArray, List.set_cons_zero, List.set_cons_succ, i64_w, i32_w]
                                          rfl
                                        refine pure_ (i := 10) (N := some 106) (v := ?_) (a' := ?_) #[true, true, true, true, true, true, true, true, true, true, true, false, false, false, false, false, false, false, false, false, false, false, false, false, false, false] rfl rfl (any_of HT_.out (by kernel_rfl)) (fun _ _ _ h => h) (Or.inl ⟨by rfl, ?_⟩) ?_ ?_
                                        rotate_left
                                        · intro w'
                                          go_simp
                                          with_reducible rfl
                                        rotate_left
                                        · simp only [Act.put, List.setIfInBounds_toArray, List.set_cons_zero, List.set_cons_succ, i64_w, i32_w]
                                          rfl
                                        refine pure_ (i := 11) (N := some 107) (v := ?_) (a' := ?_) #[true, true, true, true, true, true, true, true, true, true, true, true, false, false, false, false, false, false, false, false, false, false, false, false, false, false] rfl rfl (any_of HT_.out (by kernel_rfl)) (fun _ _ _ h => h) (Or.inl ⟨by rfl, ?_⟩) ?_ ?_
                                        rotate_left
                                        · intro w'
                                          go_simp
                                          with_reducible rfl
                                        rotate_left
                                        · simp only [Act.put, List.setIfInBounds_toArray, List.set_cons_zero, List.set_cons_succ, i64_w, i32_w]
                                          rfl
                                        refine pure_ (i := 12) (N := some 108) (v := ?_) (a' := ?_) #[true, true, true, true, true, true, true, true, true, true, true, true, true, false, false, false, false, false, false, false, false, false, false, false, false, false] rfl rfl (any_of HT_.out (by kernel_rfl)) (fun _ _ _ h => h) (Or.inl ⟨by rfl, ?_⟩) ?_ ?_
                                        rotate_left
                                        · intro w'
                                          go_simp
                                          with_reducible rfl
                                        rotate_left
                                        · simp only [Act.put, List.setIfInBounds_toArray, List.set_cons_zero, List.set_cons_succ, i64_w, i32_w]
                                          rfl
                                        refine pure_ (i := 14) (N := some 110) (v := ?_) (a' := ?_) #[true, true, true, true, true, true, true, true, true, true, true, true, true, false, true, false, false, false, false, false, false, false, false, false, false, false] rfl rfl (any_of HT_.out (by kernel_rfl)) (fun _ _ _ h => h) (Or.inl ⟨by rfl, ?_⟩) ?_ ?_
                                        rotate_left
                                        · intro w'
                                          go_simp
                                          with_reducible rfl
                                        rotate_left
                                        · simp only [Act.put, List.setIfInBounds_toArray, List.set_cons_zero, List.set_cons_succ, i64_w, i32_w]
                                          rfl
                                        refine pure_ (i := 16) (N := some 112) (v := ?_) (a' := ?_) #[true, true, true, true, true, true, true, true, true, true, true, true, true, false, true, false, true, false, false, false, false, false, false, false, false, false] rfl rfl (any_of HT_.out (by kernel_rfl)) (fun _ _ _ h => h) (Or.inl ⟨by rfl, ?_⟩) ?_ ?_
                                        rotate_left
                                        · intro w'
                                          go_simp
                                          with_reducible rfl
                                        rotate_left
                                        · simp only [Act.put, List.setIfInBounds_toArray, List.set_cons_zero, List.set_cons_succ, i64_w, i32_w]
                                          rfl
                                        refine pure_ (i := 17) (N := some 113) (v := ?_) (a' := ?_) #[true, true, true, true, true, true, true, true, true, true, true, true, true, false, true, false, true, true, false, false, false, false, false, false, false, false] rfl rfl (any_of HT_.out (by kernel_rfl)) (fun _ _ _ h => h) (Or.inl ⟨by rfl, ?_⟩) ?_ ?_
                                        rotate_left
                                        · intro w'
                                          go_simp
                                          with_reducible rfl
                                        rotate_left
                                        · simp only [Act.put, List.setIfInBounds_toArray, List.set_cons_zero, List.set_cons_succ, i64_w, i32_w]
                                          rfl
                                        refine pure_ (i := 18) (N := some 114) (v := ?_) (a' := ?_) #[true, true, true, true, true, true, true, true, true, true, true, true, true, false, true, false, true, true, true, false, false, false, false, false, false, false] rfl rfl (any_of HT_.out (by kernel_rfl)) (fun _ _ _ h => h) (Or.inl ⟨by rfl, ?_⟩) ?_ ?_
                                        rotate_left
                                        · intro w'
                                          go_simp
                                          with_reducible rfl
                                        rotate_left
                                        · simp only [Act.put, List.setIfInBounds_toArray, List.set_cons_zero, List.set_cons_succ, i64_w, i32_w]
                                          rfl
                                        refine pure_ (i := 19) (N := some 115) (v := ?_) (a' := ?_) #[true, true, true, true, true, true, true, true, true, true, true, true, true, false, true, false, true, true, true, true, false, false, false, false, false, false] rfl rfl (any_of HT_.out (by kernel_rfl)) (fun _ _ _ h => h) (Or.inl ⟨by rfl, ?_⟩) ?_ ?_
                                        rotate_left
                                        · intro w'
                                          go_simp
                                          with_reducible rfl
                                        rotate_left
                                        · simp only [Act.put, List.setIfInBounds_toArray, List.set_cons_zero, List.set_cons_succ, i64_w, i32_w]
                                          rfl
                                        refine pure_ (i := 21) (N := some 117) (v := ?_) (a' := ?_) #[true, true, true, true, true, true, true, true, true, true, true, true, true, false, true, false, true, true, true, true, false, true, false, false, false, false] rfl rfl (any_of HT_.out (by kernel_rfl)) (fun _ _ _ h => h) (Or.inl ⟨by rfl, ?_⟩) ?_ ?_
                                        rotate_left
                                        · intro w'
                                          go_simp
                                          with_reducible rfl
                                        rotate_left
                                        · simp only [Act.put, List.setIfInBounds_toArray, List.set_cons_zero, List.set_cons_succ, i64_w, i32_w]
                                          rfl
                                        refine take_ (i := 13) (N := some 109) (v := ?_) (a' := ?_) #[true, true, true, true, true, true, true, true, true, true, true, true, true, true, true, false, true, true, true, true, false, true, false, false, false, false] rfl rfl (take_ofW HT_.out HW_.out (by kernel_rfl)) (fun _ _ _ h => h) (Or.inl ⟨by rfl, ?_⟩) hHeld ?_ ?_
                                        rotate_left
                                        · rintro w' ⟨s0, s1, s2, s3, s4, s5⟩
                                          go_simp
                                          with_reducible rfl
                                        rotate_left
                                        · simp only [Act.put, List.setIfInBounds_toArray, List.set_cons_zero, List.set_cons_succ, i64_w, i32_w]
                                          rfl
                                        refine take_ (i := 20) (N := some 116) (v := ?_) (a' := ?_) #[true, true, true, true, true, true, true, true, true, true, true, true, true, true, true, false, true, true, true, true, true, true, false, false, false, false] rfl rfl (take_ofW HT_.out HW_.out (by kernel_rfl)) (fun _ _ _ h => h) (Or.inl ⟨by rfl, ?_⟩) hHeld ?_ ?_
                                        rotate_left
                                        · rintro w' ⟨s0, s1, s2, s3, s4, s5⟩
                                          go_simp
                                          with_reducible rfl
                                        rotate_left
                                        · simp only [Act.put, List.setIfInBounds_toArray, List.set_cons_zero, List.set_cons_succ, i64_w, i32_w]
                                          rfl
                                        refine one_ (i := 15) (N := some 111) #[true, true, true, true, true, true, true, true, true, true, true, true, true, true, true, true, true, true, true, true, true, true, false, false, false, false] rfl rfl (one_of HT_.out (by kernel_rfl)) (by decide) (fun K hK => ?_)
                                        refine goes_ Try.func21 (by kernel_rfl) rfl #[.slice A0 l0.length c0, .agg #[.int .i64 ((rd_T24 x13_3 x15_4).f0), .int .i64 ((rd_T24 x13_3 x15_4).f1), .int .i64 ((rd_T24 x13_3 x15_4).f2)], .int .i64 0, .int .i64 40, .int .i64 a4] (by rfl) rfl rfl (by (try simp only [List.map_toArray, List.map_cons, List.map_nil]); first | done | rfl | (simp only [List.length_drop, List.length_take]; rfl)) ?_
                                        with_reducible refine (facts_Points.calls _ _ l0 ((rd_T24 x13_3 x15_4).f0) ((rd_T24 x13_3 x15_4).f1) ((rd_T24 x13_3 x15_4).f2) 0 40 a4 t409 _ ?side1 ?side2 A38.out).mono ?_
                                        (case side1 => repeat (first | exact (Kd.C_below HR0.out HB.out) | (with_reducible refine Kd.C_alloc ?_ _) | (with_reducible refine Kd.C_drewN ?_ _) | (with_reducible refine Kd.C_drew ?_)))
                                        (case side2 => exact HC0.out)
                                        rintro e w46 ⟨v410, rfl, ho0, hb⟩
                                        have HS0_ := (hb.cell (World.block_lt_of_cell? _ _ (hHeld.1))).trans (hHeld.1)
                                        have HS1_ := (hb.cell (World.block_lt_of_cell? _ _ (hHeld.2.1))).trans (hHeld.2.1)
                                        have HS2_ := (hb.cell (World.block_lt_of_cell? _ _ (hHeld.2.2.1))).trans (hHeld.2.2.1)
                                        have HS3_ := (hb.cell (World.block_lt_of_cell? _ _ (hHeld.2.2.2.1))).trans (hHeld.2.2.2.1)
                                        have HS4_ := (hb.cell (World.block_lt_of_cell? _ _ (hHeld.2.2.2.2.1))).trans (hHeld.2.2.2.2.1)
                                        have HS5_ := (hb.cell (World.block_lt_of_cell? _ _ (hHeld.2.2.2.2.2))).trans (hHeld.2.2.2.2.2)
                                        refine ⟨_, rfl, ?_⟩
                                        have n0_ := Aside0.mk (Kd.R_below (by (with_reducible repeat (first | apply Kd.R_alloc | apply Kd.R_drewN | apply Kd.R_drew)); exact HO_12.out) hb)
                                        have n1_ := Aside0.mk (Kd.R_below (by (with_reducible repeat (first | apply Kd.R_alloc | apply Kd.R_drewN | apply Kd.R_drew)); exact HO_13.out) hb)
                                        have n2_ := Aside0.mk (Kd.R_lower ho0 (below_size (by repeat (first | (with_reducible first | exact HB.out | apply below_alloc | apply pw_below_drewN | apply below_drew1 | refine below_set ?_ GE383.out) | exact HB.out))))
                                        have n3_ := Aside0.mk (blk_below (g := gb383) (o := .cells #[.int .i64 a2_0, .int .i64 a2_1, .int .i64 a2_2] 24 (0, 0)) (by (with_reducible repeat (first | refine blk_drewN ?_ _ | refine blk_drew ?_ | refine blk_alloc ?_ _)); exact BK383.out) hb)
                                        have n4_ := Aside0.mk (below_step (by repeat (first | (with_reducible first | exact HB.out | apply below_alloc | apply pw_below_drewN | apply below_drew1 | refine below_set ?_ GE383.out) | exact HB.out)) hb)
                                        clear HO_12
                                        clear HO_13
                                        clear BK383
                                        clear HB
                                        have HO_12 := n0_
                                        have HO_13 := n1_
                                        have HO411 := n2_
                                        have BK383 := n3_
                                        have HB := n4_
                                        clear n0_ n1_ n2_ n3_ n4_
                                        (try clear hb)
                                        (try clear hb2)
                                        (try clear hk)
                                        (try clear hi)
                                        (try clear ho0)
                                        refine hK.out _ _ ⟨HS0_, HS1_, HS2_, HS3_, HS4_, HS5_⟩ (fun hHeld => ?_)
                                        clear hK K
                                        refine norm_ (a' := ?_) ?_ ?_
                                        rotate_left
                                        · show Act.put _ (some 111) _ = _
                                          simp only [Act.put, List.setIfInBounds_toArray, List.set_cons_zero, List.set_cons_succ, i64_w, i32_w]
                                          rfl
                                        refine one_ (i := 22) (N := some 118) #[true, true, true, true, true, true, true, true, true, true, true, true, true, true, true, true, true, true, true, true, true, true, true, false, false, false] rfl rfl (one_of HT_.out (by kernel_rfl)) (by decide) (fun K hK => ?_)
                                        refine goes_ Try.func21 (by kernel_rfl) rfl #[.slice Ao31 y392.length co31, .agg #[.int .i64 ((rd_T24 x13_3 x15_4).f0), .int .i64 ((rd_T24 x13_3 x15_4).f1), .int .i64 ((rd_T24 x13_3 x15_4).f2)], .int .i64 0, .int .i64 40, .int .i64 a4] (by rfl) rfl rfl (by (try simp only [List.map_toArray, List.map_cons, List.map_nil]); first | done | rfl | (simp only [List.length_drop, List.length_take]; rfl)) ?_
                                        with_reducible refine (facts_Points.calls _ _ y392 ((rd_T24 x13_3 x15_4).f0) ((rd_T24 x13_3 x15_4).f1) ((rd_T24 x13_3 x15_4).f2) 0 40 a4 t413 _ ?side1 ?side2 A39.out).mono ?_
                                        (case side1 => repeat (first | exact (Kd.R_reads' HO_12.out).2.2 | (with_reducible refine Kd.C_alloc ?_ _) | (with_reducible refine Kd.C_drewN ?_ _) | (with_reducible refine Kd.C_drew ?_)))
                                        (case side2 => exact (Kd.R_reads' HO_12.out).2.1)
                                        rintro e w47 ⟨v414, rfl, ho0, hb⟩
                                        have HS0_ := (hb.cell (World.block_lt_of_cell? _ _ (hHeld.1))).trans (hHeld.1)
                                        have HS1_ := (hb.cell (World.block_lt_of_cell? _ _ (hHeld.2.1))).trans (hHeld.2.1)
                                        have HS2_ := (hb.cell (World.block_lt_of_cell? _ _ (hHeld.2.2.1))).trans (hHeld.2.2.1)
                                        have HS3_ := (hb.cell (World.block_lt_of_cell? _ _ (hHeld.2.2.2.1))).trans (hHeld.2.2.2.1)
                                        have HS4_ := (hb.cell (World.block_lt_of_cell? _ _ (hHeld.2.2.2.2.1))).trans (hHeld.2.2.2.2.1)
                                        have HS5_ := (hb.cell (World.block_lt_of_cell? _ _ (hHeld.2.2.2.2.2))).trans (hHeld.2.2.2.2.2)
                                        refine ⟨_, rfl, ?_⟩
                                        have n0_ := Aside0.mk (Kd.R_below (by (with_reducible repeat (first | apply Kd.R_alloc | apply Kd.R_drewN | apply Kd.R_drew)); exact HO_12.out) hb)
                                        have n1_ := Aside0.mk (Kd.R_below (by (with_reducible repeat (first | apply Kd.R_alloc | apply Kd.R_drewN | apply Kd.R_drew)); exact HO_13.out) hb)
                                        have n2_ := Aside0.mk (Kd.R_elder' (by (with_reducible repeat (first | apply Kd.R_alloc | apply Kd.R_drewN | apply Kd.R_drew)); exact HO411.out) (Kd.R_base ho0) hb)
                                        have n3_ := Aside0.mk (Kd.R_lower (Kd.R_new' ho0 (Kd.R_lt (by (with_reducible repeat (first | apply Kd.R_alloc | apply Kd.R_drewN | apply Kd.R_drew)); exact HO411.out))) (below_size (by repeat (first | (with_reducible first | exact HB.out | apply below_alloc | apply pw_below_drewN | apply below_drew1 | refine below_set ?_ GE383.out) | exact HB.out))))
                                        have n4_ := Aside0.mk (blk_below (g := gb383) (o := .cells #[.int .i64 a2_0, .int .i64 a2_1, .int .i64 a2_2] 24 (0, 0)) (by (with_reducible repeat (first | refine blk_drewN ?_ _ | refine blk_drew ?_ | refine blk_alloc ?_ _)); exact BK383.out) hb)
                                        have n5_ := Aside0.mk (below_step (by repeat (first | (with_reducible first | exact HB.out | apply below_alloc | apply pw_below_drewN | apply below_drew1 | refine below_set ?_ GE383.out) | exact HB.out)) hb)
                                        clear HO_12
                                        clear HO_13
                                        clear HO411
                                        clear BK383
                                        clear HB
                                        have HO_12 := n0_
                                        have HO_13 := n1_
                                        have HO411 := n2_
                                        have HO415 := n3_
                                        have BK383 := n4_
                                        have HB := n5_
                                        clear n0_ n1_ n2_ n3_ n4_ n5_
                                        (try clear hb)
                                        (try clear hb2)
                                        (try clear hk)
                                        (try clear hi)
                                        (try clear ho0)
                                        obtain ⟨Ao48, co48, eo48⟩ := Kd.R_slice HO411.out
                                        (first | subst eo48 | (injection eo48 with f1_ f2_ f3_; have f4_ := f1_.symm; have f5_ := f3_.symm; clear f1_ f2_ f3_; subst f4_; subst f5_))
                                        obtain ⟨Ao49, co49, eo49⟩ := Kd.R_slice HO415.out
                                        (first | subst eo49 | (injection eo49 with f1_ f2_ f3_; have f4_ := f1_.symm; have f5_ := f3_.symm; clear f1_ f2_ f3_; subst f4_; subst f5_))
                                        refine hK.out _ _ ⟨HS0_, HS1_, HS2_, HS3_, HS4_, HS5_⟩ (fun hHeld => ?_)
                                        clear hK K
                                        refine norm_ (a' := ?_) ?_ ?_
                                        rotate_left
                                        · show Act.put _ (some 118) _ = _
                                          simp only [Act.put, List.setIfInBounds_toArray, List.set_cons_zero, List.set_cons_succ, i64_w, i32_w]
                                          rfl
                                        refine one_ (i := 23) (N := some 119) #[true, true, true, true, true, true, true, true, true, true, true, true, true, true, true, true, true, true, true, true, true, true, true, true, false, false] rfl rfl (one_of HT_.out (by kernel_rfl)) (by decide) (fun K hK => ?_)
                                        refine goes_ Try.func20 (by kernel_rfl) rfl #[.slice Ao48 t409.length co48, .slice Ao49 t413.length co49] (by rfl) rfl rfl (by (try simp only [List.map_toArray, List.map_cons, List.map_nil]); first | done | rfl | (simp only [List.length_drop, List.length_take]; rfl)) ?_
                                        with_reducible refine (sizarref07_SamePoints.calls k4 _ _ t409 _ _ t413 true _ ?side1 ?side2 ?side3 ?side4 A40.out).mono ?_
                                        (case side1 => repeat (first | exact (Kd.R_reads' HO411.out).2.2 | (with_reducible refine Kd.C_alloc ?_ _) | (with_reducible refine Kd.C_drewN ?_ _) | (with_reducible refine Kd.C_drew ?_)))
                                        (case side2 => exact (Kd.R_reads' HO411.out).2.1)
                                        (case side3 => repeat (first | exact (Kd.R_reads' HO415.out).2.2 | (with_reducible refine Kd.C_alloc ?_ _) | (with_reducible refine Kd.C_drewN ?_ _) | (with_reducible refine Kd.C_drew ?_)))
                                        (case side4 => exact (Kd.R_reads' HO415.out).2.1)
                                        rintro e w' ⟨rfl, ⟨nd, rfl⟩⟩
                                        refine ⟨_, rfl, ?_⟩
                                        refine hK.out _ _ ⟨hHeld.1, hHeld.2.1, hHeld.2.2.1, hHeld.2.2.2.1, hHeld.2.2.2.2.1, hHeld.2.2.2.2.2⟩ (fun hHeld => ?_)
                                        clear hK K
                                        refine norm_ (a' := ?_) ?_ ?_
                                        rotate_left
                                        · show Act.put _ (some 119) _ = _
                                          simp only [Act.put, List.setIfInBounds_toArray, List.set_cons_zero, List.set_cons_succ, i64_w, i32_w]
                                          rfl
                                        refine pure_ (i := 24) (N := some 120) (v := ?_) (a' := ?_) #[true, true, true, true, true, true, true, true, true, true, true, true, true, true, true, true, true, true, true, true, true, true, true, true, true, false] rfl rfl (any_of HT_.out (by kernel_rfl)) (fun _ _ _ h => h) (Or.inl ⟨by rfl, ?_⟩) ?_ ?_
                                        rotate_left
                                        · intro w'
                                          go_simp
                                          with_reducible rfl
                                        rotate_left
                                        · simp only [Act.put, List.setIfInBounds_toArray, List.set_cons_zero, List.set_cons_succ, i64_w, i32_w]
                                          rfl
                                        refine pure_ (i := 25) (N := some 121) (v := ?_) (a' := ?_) #[true, true, true, true, true, true, true, true, true, true, true, true, true, true, true, true, true, true, true, true, true, true, true, true, true, true] rfl rfl (any_of HT_.out (by kernel_rfl)) (fun _ _ _ h => h) (Or.inl ⟨by rfl, ?_⟩) ?_ ?_
                                        rotate_left
                                        · intro w'
                                          go_simp
                                          with_reducible rfl
                                        rotate_left
                                        · simp only [Act.put, List.setIfInBounds_toArray, List.set_cons_zero, List.set_cons_succ, i64_w, i32_w]
                                          rfl
                                        refine done_ (done_of HT_.out (by kernel_rfl)) ?_
                                        try go_wp2
                                        go_roundg k4
                                        case measure => have := HJ7.out; have := HK2.out; have := HK3.out; have := HK4.out; omega
                                        case rel => exact ⟨(wrap64 (x15_4 + 1)), (by first | rfl | (simp; done) | (simp [*]; done)), H', ⟨by have := HJ7.out; have := HK2.out; have := HK3.out; have := HK4.out; omega⟩, ⟨by (with_reducible repeat (first | apply Kd.R_alloc | apply Kd.R_drewN | apply Kd.R_drew)); exact HO_12.out⟩, ⟨by (with_reducible repeat (first | apply Kd.R_alloc | apply Kd.R_drewN | apply Kd.R_drew)); exact HO_13.out⟩, ⟨by (with_reducible repeat (first | refine blk_drewN ?_ _ | refine blk_drew ?_ | refine blk_alloc ?_ _)); exact BK383.out⟩, ⟨by repeat (first | (with_reducible first | exact HB.out | apply below_alloc | apply pw_below_drewN | apply below_drew1 | refine below_set ?_ GE383.out) | exact HB.out)⟩⟩
                                      · replace c41 := Bool.eq_false_iff.mpr c41
                                        subst c41
                                        have H1 : (none) = some r := by rw [if_neg (show ¬ (false = true) by decide)] at H; exact H
                                        clear H
                                        have H := H1
                                        clear H1
                                        exact absurd H (by simp)
                                  · rw [if_neg c36] at H
                                    have c36b0 : (t403 == t406) = false := beq_eq_false_iff_ne.mpr c36
                                    have c36b1 : (t403 != t406) = true := bne_iff_ne.mpr c36
                                    exact absurd H (by simp)
                                · rw [if_neg c33] at H
                                  exact absurd H (by simp)
                              · rw [if_neg c32] at H
                                have c32b0 : decide (x15_4 < (x13_3.length : Int)) = false := decide_eq_false c32
                                clear c32
                                replace H := Option.bind_eq_some_iff.mp H
                                obtain ⟨t417, A500, H⟩ := H
                                replace H : ((facts_Upto.f l0 a4).bind fun t420 => ((sizarref07_Same.f k4 t417 t420).bind fun t423 => (if t423 = true then ((facts_Changed.f y392 0 a4).bind fun t424 => ((facts_Changed.f l0 0 a4).bind fun t427 => ((sizarref07_SameChanges.f k4 t424 t427).bind fun t430 => (some t430)))) else (none)))) = some r := H
                                have A50 := Aside0.mk A500
                                clear A500
                                replace H := Option.bind_eq_some_iff.mp H
                                obtain ⟨t420, A510, H⟩ := H
                                replace H : ((sizarref07_Same.f k4 t417 t420).bind fun t423 => (if t423 = true then ((facts_Changed.f y392 0 a4).bind fun t424 => ((facts_Changed.f l0 0 a4).bind fun t427 => ((sizarref07_SameChanges.f k4 t424 t427).bind fun t430 => (some t430)))) else (none))) = some r := H
                                have A51 := Aside0.mk A510
                                clear A510
                                replace H := Option.bind_eq_some_iff.mp H
                                obtain ⟨t423, A520, H⟩ := H
                                replace H : (if t423 = true then ((facts_Changed.f y392 0 a4).bind fun t424 => ((facts_Changed.f l0 0 a4).bind fun t427 => ((sizarref07_SameChanges.f k4 t424 t427).bind fun t430 => (some t430)))) else (none)) = some r := H
                                have A52 := Aside0.mk A520
                                clear A520
                                by_cases c53 : t423 = true
                                · subst c53
                                  have H1 : ((facts_Changed.f y392 0 a4).bind fun t424 => ((facts_Changed.f l0 0 a4).bind fun t427 => ((sizarref07_SameChanges.f k4 t424 t427).bind fun t430 => (some t430)))) = some r := by rw [if_pos rfl] at H; exact H
                                  clear H
                                  have H := H1
                                  clear H1
                                  replace H := Option.bind_eq_some_iff.mp H
                                  obtain ⟨t424, A540, H⟩ := H
                                  replace H : ((facts_Changed.f l0 0 a4).bind fun t427 => ((sizarref07_SameChanges.f k4 t424 t427).bind fun t430 => (some t430))) = some r := H
                                  have A54 := Aside0.mk A540
                                  clear A540
                                  replace H := Option.bind_eq_some_iff.mp H
                                  obtain ⟨t427, A550, H⟩ := H
                                  replace H : ((sizarref07_SameChanges.f k4 t424 t427).bind fun t430 => (some t430)) = some r := H
                                  have A55 := Aside0.mk A550
                                  clear A550
                                  replace H := Option.bind_eq_some_iff.mp H
                                  obtain ⟨t430, A560, H⟩ := H
                                  replace H : (some t430) = some r := H
                                  have A56 := Aside0.mk A560
                                  clear A560
                                  obtain rfl := Option.some.inj H
                                  obtain ⟨Ao57, co57, eo57⟩ := Kd.R_slice HO_13.out
                                  subst eo57
                                  go_wp2_with (first | ((with_reducible refine gate_callee (f := 28) rfl ?_); refine goesL_ (some 124) rfl rfl Try.func28 (by kernel_rfl) rfl #[.slice Ao31 y392.length co31, .int .i64 a4] rfl (by (try simp only [List.map_toArray, List.map_cons, List.map_nil]); first | done | rfl | (simp only [List.length_drop, List.length_take]; rfl)) ?_; (with_reducible refine (facts_Upto.calls _ _ y392 a4 t417 _ ?side1 ?side2 A50.out).mono ?_); (case side1 => repeat (first | exact (Kd.R_reads' HO_12.out).2.2 | (with_reducible refine Kd.C_alloc ?_ _) | (with_reducible refine Kd.C_drewN ?_ _) | (with_reducible refine Kd.C_drew ?_))); (case side2 => exact (Kd.R_reads' HO_12.out).2.1); rintro e w58 ⟨v418, rfl, ho0, hb⟩; refine ⟨_, rfl, ?_⟩; have n0_ := Aside0.mk (Kd.R_elder' (by (with_reducible repeat (first | apply Kd.R_alloc | apply Kd.R_drewN | apply Kd.R_drew)); exact HO_12.out) (Kd.R_base ho0) hb); have n1_ := Aside0.mk (Kd.R_below (by (with_reducible repeat (first | apply Kd.R_alloc | apply Kd.R_drewN | apply Kd.R_drew)); exact HO_13.out) hb); have n2_ := Aside0.mk (Kd.R_lower (Kd.R_new' ho0 (Kd.R_lt (by (with_reducible repeat (first | apply Kd.R_alloc | apply Kd.R_drewN | apply Kd.R_drew)); exact HO_12.out))) (below_size (by repeat (first | (with_reducible first | exact HB.out | apply below_alloc | apply pw_below_drewN | apply below_drew1 | refine below_set ?_ GE383.out) | exact HB.out)))); have n3_ := Aside0.mk (blk_below (g := gb383) (o := .cells #[.int .i64 a2_0, .int .i64 a2_1, .int .i64 a2_2] 24 (0, 0)) (by (with_reducible repeat (first | refine blk_drewN ?_ _ | refine blk_drew ?_ | refine blk_alloc ?_ _)); exact BK383.out) hb); have n4_ := Aside0.mk (below_step (by repeat (first | (with_reducible first | exact HB.out | apply below_alloc | apply pw_below_drewN | apply below_drew1 | refine below_set ?_ GE383.out) | exact HB.out)) hb); clear HO_12; clear HO_13; clear BK383; clear HB; have HO_12 := n0_; have HO_13 := n1_; have HO419 := n2_; have BK383 := n3_; have HB := n4_; clear n0_ n1_ n2_ n3_ n4_; (try clear hb); (try clear hb2); (try clear hk); (try clear hi); (try clear ho0)) | ((with_reducible refine gate_callee (f := 28) rfl ?_); refine goesL_ (some 127) rfl rfl Try.func28 (by kernel_rfl) rfl #[.slice A0 l0.length c0, .int .i64 a4] rfl (by (try simp only [List.map_toArray, List.map_cons, List.map_nil]); first | done | rfl | (simp only [List.length_drop, List.length_take]; rfl)) ?_; (with_reducible refine (facts_Upto.calls _ _ l0 a4 t420 _ ?side1 ?side2 A51.out).mono ?_); (case side1 => repeat (first | exact (Kd.C_below HR0.out HB.out) | (with_reducible refine Kd.C_alloc ?_ _) | (with_reducible refine Kd.C_drewN ?_ _) | (with_reducible refine Kd.C_drew ?_))); (case side2 => exact HC0.out); rintro e w59 ⟨v421, rfl, ho0, hb⟩; refine ⟨_, rfl, ?_⟩; have n0_ := Aside0.mk (Kd.R_elder' (by (with_reducible repeat (first | apply Kd.R_alloc | apply Kd.R_drewN | apply Kd.R_drew)); exact HO_12.out) (Kd.R_base ho0) hb); have n1_ := Aside0.mk (Kd.R_below (by (with_reducible repeat (first | apply Kd.R_alloc | apply Kd.R_drewN | apply Kd.R_drew)); exact HO_13.out) hb); have n2_ := Aside0.mk (Kd.R_elder' (by (with_reducible repeat (first | apply Kd.R_alloc | apply Kd.R_drewN | apply Kd.R_drew)); exact HO419.out) (Kd.R_base ho0) hb); have n3_ := Aside0.mk (Kd.R_lower (Kd.R_new' (Kd.R_new' ho0 (Kd.R_lt (by (with_reducible repeat (first | apply Kd.R_alloc | apply Kd.R_drewN | apply Kd.R_drew)); exact HO_12.out))) (Kd.R_lt (by (with_reducible repeat (first | apply Kd.R_alloc | apply Kd.R_drewN | apply Kd.R_drew)); exact HO419.out))) (below_size (by repeat (first | (with_reducible first | exact HB.out | apply below_alloc | apply pw_below_drewN | apply below_drew1 | refine below_set ?_ GE383.out) | exact HB.out)))); have n4_ := Aside0.mk (blk_below (g := gb383) (o := .cells #[.int .i64 a2_0, .int .i64 a2_1, .int .i64 a2_2] 24 (0, 0)) (by (with_reducible repeat (first | refine blk_drewN ?_ _ | refine blk_drew ?_ | refine blk_alloc ?_ _)); exact BK383.out) hb); have n5_ := Aside0.mk (below_step (by repeat (first | (with_reducible first | exact HB.out | apply below_alloc | apply pw_below_drewN | apply below_drew1 | refine below_set ?_ GE383.out) | exact HB.out)) hb); clear HO_12; clear HO_13; clear HO419; clear BK383; clear HB; have HO_12 := n0_; have HO_13 := n1_; have HO419 := n2_; have HO422 := n3_; have BK383 := n4_; have HB := n5_; clear n0_ n1_ n2_ n3_ n4_ n5_; (try clear hb); (try clear hb2); (try clear hk); (try clear hi); (try clear ho0); obtain ⟨Ao60, co60, eo60⟩ := Kd.R_slice HO419.out; subst eo60; obtain ⟨Ao61, co61, eo61⟩ := Kd.R_slice HO422.out; subst eo61) | ((with_reducible refine gate_callee (f := 17) rfl ?_); refine goesL_ (some 128) rfl rfl Try.func17 (by kernel_rfl) rfl #[.slice Ao60 t417.length co60, .slice Ao61 t420.length co61] rfl (by (try simp only [List.map_toArray, List.map_cons, List.map_nil]); first | done | rfl | (simp only [List.length_drop, List.length_take]; rfl)) ?_; (with_reducible refine (sizarref07_Same.calls k4 _ _ t417 _ _ t420 true _ ?side1 ?side2 ?side3 ?side4 A52.out).mono ?_); (case side1 => repeat (first | exact (Kd.R_reads' HO419.out).2.2 | (with_reducible refine Kd.C_alloc ?_ _) | (with_reducible refine Kd.C_drewN ?_ _) | (with_reducible refine Kd.C_drew ?_))); (case side2 => exact (Kd.R_reads' HO419.out).2.1); (case side3 => repeat (first | exact (Kd.R_reads' HO422.out).2.2 | (with_reducible refine Kd.C_alloc ?_ _) | (with_reducible refine Kd.C_drewN ?_ _) | (with_reducible refine Kd.C_drew ?_))); (case side4 => exact (Kd.R_reads' HO422.out).2.1); rintro e w' ⟨rfl, ⟨nd, rfl⟩⟩; refine ⟨_, rfl, ?_⟩) | (go_at_call 24; (with_reducible refine (facts_Changed.calls _ _ y392 0 a4 t424 _ ?side1 ?side2 A54.out).mono ?_); (case side1 => repeat (first | exact (Kd.R_reads' HO_12.out).2.2 | (with_reducible refine Kd.C_alloc ?_ _) | (with_reducible refine Kd.C_drewN ?_ _) | (with_reducible refine Kd.C_drew ?_))); (case side2 => exact (Kd.R_reads' HO_12.out).2.1); rintro e w62 ⟨v425, rfl, ho0, hb⟩; have n0_ := Aside0.mk (Kd.R_below (by (with_reducible repeat (first | apply Kd.R_alloc | apply Kd.R_drewN | apply Kd.R_drew)); exact HO_12.out) hb); have n1_ := Aside0.mk (Kd.R_below (by (with_reducible repeat (first | apply Kd.R_alloc | apply Kd.R_drewN | apply Kd.R_drew)); exact HO_13.out) hb); have n2_ := Aside0.mk (Kd.R_below (by (with_reducible repeat (first | apply Kd.R_alloc | apply Kd.R_drewN | apply Kd.R_drew)); exact HO419.out) hb); have n3_ := Aside0.mk (Kd.R_below (by (with_reducible repeat (first | apply Kd.R_alloc | apply Kd.R_drewN | apply Kd.R_drew)); exact HO422.out) hb); have n4_ := Aside0.mk (Kd.S_lower ho0 (below_size (by repeat (first | (with_reducible first | exact HB.out | apply below_alloc | apply pw_below_drewN | apply below_drew1 | refine below_set ?_ GE383.out) | exact HB.out)))); have n5_ := Aside0.mk (blk_below (g := gb383) (o := .cells #[.int .i64 a2_0, .int .i64 a2_1, .int .i64 a2_2] 24 (0, 0)) (by (with_reducible repeat (first | refine blk_drewN ?_ _ | refine blk_drew ?_ | refine blk_alloc ?_ _)); exact BK383.out) hb); have n6_ := Aside0.mk (below_step (by repeat (first | (with_reducible first | exact HB.out | apply below_alloc | apply pw_below_drewN | apply below_drew1 | refine below_set ?_ GE383.out) | exact HB.out)) hb); clear HO_12; clear HO_13; clear HO419; clear HO422; clear BK383; clear HB; have HO_12 := n0_; have HO_13 := n1_; have HO419 := n2_; have HO422 := n3_; have HO426 := n4_; have BK383 := n5_; have HB := n6_; clear n0_ n1_ n2_ n3_ n4_ n5_ n6_; (try clear hb); (try clear hb2); (try clear hk); (try clear hi); (try clear ho0)) | (go_at_call 24; (with_reducible refine (facts_Changed.calls _ _ l0 0 a4 t427 _ ?side1 ?side2 A55.out).mono ?_); (case side1 => repeat (first | exact (Kd.C_below HR0.out HB.out) | (with_reducible refine Kd.C_alloc ?_ _) | (with_reducible refine Kd.C_drewN ?_ _) | (with_reducible refine Kd.C_drew ?_))); (case side2 => exact HC0.out); rintro e w63 ⟨v428, rfl, ho0, hb⟩; have n0_ := Aside0.mk (Kd.R_below (by (with_reducible repeat (first | apply Kd.R_alloc | apply Kd.R_drewN | apply Kd.R_drew)); exact HO_12.out) hb); have n1_ := Aside0.mk (Kd.R_below (by (with_reducible repeat (first | apply Kd.R_alloc | apply Kd.R_drewN | apply Kd.R_drew)); exact HO_13.out) hb); have n2_ := Aside0.mk (Kd.R_below (by (with_reducible repeat (first | apply Kd.R_alloc | apply Kd.R_drewN | apply Kd.R_drew)); exact HO419.out) hb); have n3_ := Aside0.mk (Kd.R_below (by (with_reducible repeat (first | apply Kd.R_alloc | apply Kd.R_drewN | apply Kd.R_drew)); exact HO422.out) hb); have n4_ := Aside0.mk (Kd.S_elder' (by (with_reducible repeat (first | apply Kd.S_alloc | apply Kd.S_drewN | apply Kd.S_drew)); exact HO426.out) (Kd.S_base ho0) hb); have n5_ := Aside0.mk (Kd.S_lower (Kd.S_new' ho0 (Kd.S_lt (by (with_reducible repeat (first | apply Kd.S_alloc | apply Kd.S_drewN | apply Kd.S_drew)); exact HO426.out))) (below_size (by repeat (first | (with_reducible first | exact HB.out | apply below_alloc | apply pw_below_drewN | apply below_drew1 | refine below_set ?_ GE383.out) | exact HB.out)))); have n6_ := Aside0.mk (blk_below (g := gb383) (o := .cells #[.int .i64 a2_0, .int .i64 a2_1, .int .i64 a2_2] 24 (0, 0)) (by (with_reducible repeat (first | refine blk_drewN ?_ _ | refine blk_drew ?_ | refine blk_alloc ?_ _)); exact BK383.out) hb); have n7_ := Aside0.mk (below_step (by repeat (first | (with_reducible first | exact HB.out | apply below_alloc | apply pw_below_drewN | apply below_drew1 | refine below_set ?_ GE383.out) | exact HB.out)) hb); clear HO_12; clear HO_13; clear HO419; clear HO422; clear HO426; clear BK383; clear HB; have HO_12 := n0_; have HO_13 := n1_; have HO419 := n2_; have HO422 := n3_; have HO426 := n4_; have HO429 := n5_; have BK383 := n6_; have HB := n7_; clear n0_ n1_ n2_ n3_ n4_ n5_ n6_ n7_; (try clear hb); (try clear hb2); (try clear hk); (try clear hi); (try clear ho0); obtain ⟨Ao64, co64, eo64⟩ := Kd.S_slice HO426.out; subst eo64; obtain ⟨Ao65, co65, eo65⟩ := Kd.S_slice HO429.out; subst eo65) | (go_at_call 23; (with_reducible refine (sizarref07_SameChanges.calls k4 _ _ t424 _ _ t427 t430 _ ?side1 ?side2 ?side3 ?side4 A56.out).mono ?_); (case side1 => repeat (first | exact (Kd.S_reads' HO426.out).2.2 | (with_reducible refine Kd.C_alloc ?_ _) | (with_reducible refine Kd.C_drewN ?_ _) | (with_reducible refine Kd.C_drew ?_))); (case side2 => exact (Kd.S_reads' HO426.out).2.1); (case side3 => repeat (first | exact (Kd.S_reads' HO429.out).2.2 | (with_reducible refine Kd.C_alloc ?_ _) | (with_reducible refine Kd.C_drewN ?_ _) | (with_reducible refine Kd.C_drew ?_))); (case side4 => exact (Kd.S_reads' HO429.out).2.1); rintro e w' ⟨rfl, ⟨nd, rfl⟩⟩))
                                  go_ret
                                  exact ⟨by first | rfl | (simp [errW_none, errW_some] <;> rfl) | (simp [*, errW_none, errW_some] <;> rfl), by repeat (first | (with_reducible first | exact HB.out | apply below_alloc | apply pw_below_drewN | apply below_drew1 | refine below_set ?_ GE383.out) | exact HB.out)⟩
                                · replace c53 := Bool.eq_false_iff.mpr c53
                                  subst c53
                                  have H1 : (none) = some r := by rw [if_neg (show ¬ (false = true) by decide)] at H; exact H
                                  clear H
                                  have H := H1
                                  clear H1
                                  exact absurd H (by simp)
                  · rw [if_neg c18] at H
                    exact absurd H (by simp)
                · rw [if_neg c17] at H
                  exact absurd H (by simp)
  · replace c7 := Bool.eq_false_iff.mpr c7
    subst c7
    have H1 : (none) = some r := by rw [if_neg (show ¬ (false = true) by decide)] at H; exact H
    clear H
    have H := H1
    clear H1
    exact absurd H (by simp)
end Go.Proofs.Ytamajnhdibcpiaa.G
namespace Go.Proofs.Ytamajnhdibcpiaa.G
open Go.RowKit Go.Proofs.YtamajnhdibcpiaaW.PrintWords Go.Proofs.YtamajnhdibcpiaaW.PrintLast Go.Proofs.YtamajnhdibcpiaaW.PrintMore
set_option linter.unusedVariables false
set_option linter.unusedSimpArgs false
theorem w64 {i : Int} (h0 : -9223372036854775808 ≤ i) (h : i ≤ 9223372036854775807) : wrap64 i = i := by unfold wrap64; omega
/-- From some number of rounds on. -/
def Evt {α : Type} (g : Nat → Option α) (r : α) : Prop := ∃ K, ∀ k, K ≤ k → g k = some r
theorem Evt.of {α : Type} {g : Nat → Option α} {r : α} (h : ∀ k, g k = some r) : Evt g r := ⟨0, fun k _ => h k⟩
theorem Evt.succ {α : Type} {g g' : Nat → Option α} {r : α} (h : Evt g' r) (hs : ∀ k, g (k + 1) = g' k) : Evt g r := by
  obtain ⟨K, hK⟩ := h
  refine ⟨K + 1, fun k hk => ?_⟩
  obtain ⟨m, rfl⟩ : ∃ m, k = m + 1 := ⟨k - 1, by omega⟩
  rw [hs]; exact hK m (by omega)
theorem Evt.bind {α β : Type} {g : Nat → Option α} {f : Nat → α → Option β} {a : α} {r : β} (h : Evt g a) (h2 : Evt (fun k => f k a) r) : Evt (fun k => (g k).bind (f k)) r := by
  obtain ⟨K, hK⟩ := h
  obtain ⟨M, hM⟩ := h2
  refine ⟨max K M, fun k hk => ?_⟩
  show (g k).bind (f k) = some r
  rw [hK k (by omega), Option.bind_some]
  exact hM k (by omega)
theorem Evt.congr {α : Type} {g g' : Nat → Option α} {r : α} (h : Evt g' r) (hs : ∀ k, g k = g' k) : Evt g r := by
  obtain ⟨K, hK⟩ := h
  exact ⟨K, fun k hk => by rw [hs]; exact hK k hk⟩
theorem Evt.ex {α : Type} {g : Nat → Option α} {r : α} (h : Evt g r) : ∃ k, g k = some r := by obtain ⟨K, hK⟩ := h; exact ⟨K, hK K (Nat.le_refl _)⟩
theorem same28_from (a : List S28) (hn : a.length ≤ 1000000) : ∀ (d i : Nat), a.length - i = d → i ≤ a.length → Evt (fun k => sizarref07_Same.l0 k a a (i : Int)) true := by
  intro d
  induction d with
  | zero =>
    intro i hd hi
    exact ⟨1, fun k hk => by
      obtain ⟨m, rfl⟩ : ∃ m, k = m + 1 := ⟨k - 1, by omega⟩
      simp only [sizarref07_Same.l0]; rw [if_neg (by omega)]⟩
  | succ d ih =>
    intro i hd hi
    refine (ih (i + 1) (by omega) (by omega)).succ fun k => ?_
    simp only [sizarref07_Same.l0]
    rw [if_pos (by omega), if_pos (by omega), if_pos (by omega), if_neg (by simp), w64 (by omega) (by omega)]
    rfl
theorem same28 (a : List S28) (hn : a.length ≤ 1000000) : Evt (fun k => sizarref07_Same.f k a a) true := by
  refine (same28_from a hn a.length 0 (by omega) (by omega)).congr fun k => ?_
  unfold sizarref07_Same.f
  rw [if_pos rfl]; rfl
theorem sameCh_in (a : List S57) (hn : a.length ≤ 1000000) (i : Nat) (hi : i < a.length) (ht : ∀ x ∈ a, x.f1.length ≤ 1000000) (hnext : Evt (fun k => sizarref07_SameChanges.l0 k a a ((i + 1 : Nat) : Int)) true) : ∀ (d j : Nat), (a.getD i z57).f1.length - j = d → j ≤ (a.getD i z57).f1.length → Evt (fun k => sizarref07_SameChanges.l1 k a a (i : Int) (j : Int)) true := by
  have hrd : rd_T57 a (i : Int) = a.getD i z57 := by simp [rd_T57]
  have hlen : (a.getD i z57).f1.length ≤ 1000000 := ht _ (by simp [hi])
  intro d
  induction d with
  | zero =>
    intro j hd hj
    refine hnext.succ fun k => ?_
    simp only [sizarref07_SameChanges.l1]
    rw [if_pos (by omega), if_pos (by omega), hrd, if_neg (by omega), w64 (by omega) (by omega)]
    rfl
  | succ d ih =>
    intro j hd hj
    refine (ih (j + 1) (by omega) (by omega)).succ fun k => ?_
    simp only [sizarref07_SameChanges.l1]
    rw [if_pos (by omega), if_pos (by omega), hrd, if_pos (by omega), if_pos (by omega), if_pos (by omega), if_pos (by omega), if_neg (by simp), w64 (by omega) (by omega)]
    rfl
theorem sameCh_from (a : List S57) (hn : a.length ≤ 1000000) (ht : ∀ x ∈ a, x.f1.length ≤ 1000000) : ∀ (d i : Nat), a.length - i = d → i ≤ a.length → Evt (fun k => sizarref07_SameChanges.l0 k a a (i : Int)) true := by
  intro d
  induction d with
  | zero =>
    intro i hd hi
    exact ⟨1, fun k hk => by
      obtain ⟨m, rfl⟩ : ∃ m, k = m + 1 := ⟨k - 1, by omega⟩
      simp only [sizarref07_SameChanges.l0]; rw [if_neg (by omega)]⟩
  | succ d ih =>
    intro i hd hi
    have h1 := sameCh_in a hn i (by omega) ht (ih (i + 1) (by omega) (by omega)) _ 0 rfl (by omega)
    have h2 : Evt (fun k => sizarref07_SameChanges.j1 k a a (i : Int) false) true := h1.succ fun k => by
      simp only [sizarref07_SameChanges.j1]; rw [if_neg (by simp)]; rfl
    refine h2.succ fun k => ?_
    simp only [sizarref07_SameChanges.l0]
    rw [if_pos (by omega), if_pos (by omega), if_pos (by omega), if_neg (by simp)]
    congr 1
    simp
theorem sameCh (a : List S57) (hn : a.length ≤ 1000000) (ht : ∀ x ∈ a, x.f1.length ≤ 1000000) : Evt (fun k => sizarref07_SameChanges.f k a a) true := by
  refine (sameCh_from a hn ht a.length 0 (by omega) (by omega)).congr fun k => ?_
  unfold sizarref07_SameChanges.f
  rw [if_pos rfl]; rfl
end Go.Proofs.Ytamajnhdibcpiaa.G
namespace Go.Proofs.Ytamajnhdibcpiaa.G
open Go.RowKit Go.Proofs.YtamajnhdibcpiaaW.PrintWords Go.Proofs.YtamajnhdibcpiaaW.PrintLast Go.Proofs.YtamajnhdibcpiaaW.PrintMore
set_option linter.unusedVariables false
set_option linter.unusedSimpArgs false
/-- Equal known facts, equal values. -/
theorem valM_congr {l x : List S28} {key : S24} {k1 k2 : Int} (h : ofM l key k1 = ofM x key k2) (t : Int) : valM l key k1 t = valM x key k2 t := by unfold valM; rw [h]
theorem atM_congr {l x : List S28} {key : S24} {k1 k2 : Int} (h : ofM l key k1 = ofM x key k2) (t : Int) : atM l key t k1 = atM x key t k2 := by unfold atM; rw [h]
theorem pointsM_congr {l x : List S28} {key : S24} {k1 k2 : Int} (h : ofM l key k1 = ofM x key k2) (frm upt : Int) : pointsM l key frm upt k1 = pointsM x key frm upt k2 := by
  unfold pointsM
  congr 1
  funext t
  exact valM_congr h t
theorem of_later {l more : List S28} {key : S24} {known : Int} (h : ∀ x ∈ more, known < x.f3) : ofM (l ++ more) key known = ofM l key known := by
  unfold ofM
  rw [List.filter_append]
  have : more.filter (selB key known) = [] := by
    rw [List.filter_eq_nil_iff]
    intro x hx
    have := h x hx
    unfold selB
    simp; omega
  rw [this, List.append_nil]
theorem upto_later {l more : List S28} {known : Int} (h : ∀ x ∈ more, known < x.f3) : uptoM (l ++ more) known = uptoM l known := by
  unfold uptoM
  rw [List.filter_append]
  have : more.filter (fun x => !lateB known x) = [] := by
    rw [List.filter_eq_nil_iff]
    intro x hx
    have := h x hx
    unfold lateB
    simp; omega
  rw [this, List.append_nil]
/-- A key that no fact has: no value. -/
theorem valM_none {l : List S28} {key : S24} (h : ∀ x ∈ l, x.f0 ≠ key) (known t : Int) : valM l key known t = -1 := by
  have : ofM l key known = [] := by
    unfold ofM
    rw [List.filter_eq_nil_iff]
    intro x hx hs
    unfold selB at hs
    rw [decide_eq_true_eq] at hs
    exact h x hx (by cases hk : x.f0; cases key; rw [hk] at hs; simp_all)
  unfold valM
  rw [this]; rfl
theorem termsTo_same (f : Nat → Int) : ∀ n, termsTo f f n = []
  | 0 => rfl
  | n + 1 => by rw [termsTo_succ, termsTo_same f n]; simp [stepT]
theorem termsTo_congr {f f' g g' : Nat → Int} (h : ∀ t, f t = f' t) (h2 : ∀ t, g t = g' t) (n : Nat) : termsTo f g n = termsTo f' g' n := by
  have e1 : f = f' := funext h
  have e2 : g = g' := funext h2
  rw [e1, e2]
theorem chgOne_congr {l x : List S28} {b a b' a' : Int} {k : S24} (h1 : ofM l k b = ofM x k b') (h2 : ofM l k a = ofM x k a') : chgOne l b a k = chgOne x b' a' k := by
  unfold chgOne
  rw [termsTo_congr (f' := fun t : Nat => valM x k b' (t : Int)) (g' := fun t : Nat => valM x k a' (t : Int)) (fun t => valM_congr h1 _) (fun t => valM_congr h2 _)]
theorem chgOne_none {l : List S28} {k : S24} (h : ∀ x ∈ l, x.f0 ≠ k) (b a : Int) : chgOne l b a k = none := by
  unfold chgOne
  rw [if_pos]
  rw [termsTo_congr (f' := fun _ => -1) (g' := fun _ => -1) (fun t => valM_none h _ _) (fun t => valM_none h _ _)]
  exact termsTo_same _ _
theorem keys_filter {l more : List S28} : (keysM (l ++ more)).filter (fun k => decide (k ∈ keysM l)) = keysM l := by
  refine rising_unique _ _ ((keysM_sorted _).filter _) (keysM_sorted l) (fun z => ?_)
  rw [List.mem_filter, mem_keysM, decide_eq_true_eq]
  constructor
  · exact fun h => h.2
  · intro h
    refine ⟨?_, h⟩
    obtain ⟨x, hx, e⟩ := (mem_keysM z l).1 h
    exact ⟨x, by simp [hx], e⟩
theorem filterMap_filter_none {α β : Type} (f : α → Option β) (p : α → Bool) : ∀ l : List α, (∀ x ∈ l, p x = false → f x = none) → (l.filter p).filterMap f = l.filterMap f
  | [], _ => rfl
  | x :: r, h => by
    have ih := filterMap_filter_none f p r (fun y hy => h y (by simp [hy]))
    cases hp : p x with
    | true => simp only [List.filter_cons, hp, if_true, List.filterMap_cons, ih]
    | false => simp [List.filter_cons, hp, List.filterMap_cons, h x (by simp) hp, ih]
theorem filterMap_congr' {α β : Type} {f g : α → Option β} : ∀ l : List α, (∀ x ∈ l, f x = g x) → l.filterMap f = l.filterMap g
  | [], _ => rfl
  | x :: r, h => by rw [List.filterMap_cons, List.filterMap_cons, h x (by simp), filterMap_congr' r (fun y hy => h y (by simp [hy]))]
theorem changed_later {l more : List S28} {known : Int} (h0 : 0 ≤ known) (h : ∀ x ∈ more, known < x.f3) : changedM (l ++ more) 0 known = changedM l 0 known := by
  unfold changedM
  have e1 : (keysM (l ++ more)).filterMap (chgOne (l ++ more) 0 known) = (keysM (l ++ more)).filterMap (chgOne l 0 known) := by
    apply filterMap_congr'
    intro k _
    exact chgOne_congr (of_later (fun x hx => by have := h x hx; omega)) (of_later h)
  rw [e1, ← filterMap_filter_none (chgOne l 0 known) (fun k => decide (k ∈ keysM l)), keys_filter]
  intro k _ hk
  exact chgOne_none (fun x hx e => by
    have : k ∈ keysM l := (mem_keysM k l).2 ⟨x, hx, e⟩
    simp [this] at hk) _ _
end Go.Proofs.Ytamajnhdibcpiaa.G
namespace Go.Proofs.Ytamajnhdibcpiaa.G
open Go.RowKit Go.Proofs.YtamajnhdibcpiaaW.PrintWords Go.Proofs.YtamajnhdibcpiaaW.PrintLast Go.Proofs.YtamajnhdibcpiaaW.PrintMore
set_option linter.unusedVariables false
theorem sane20 : sizarlaw07_sane.f 20 = some true := by kernel_rfl
theorem sane_all : Evt (fun k => sizarlaw07_sane.f k) true := by
  refine ⟨20, fun k hk => ?_⟩
  obtain ⟨d, rfl⟩ : ∃ d, k = 20 + d := ⟨k - 20, by omega⟩
  clear hk
  induction d with
  | zero => exact sane20
  | succ d ih => exact sizarlaw07_sane.mono (20 + d) _ ih
end Go.Proofs.Ytamajnhdibcpiaa.G
namespace Go.Proofs.Ytamajnhdibcpiaa.G
open Go.ChangeShapes Go.WideShapes Go.Deep Go.ChangeAt Go.RowKit Go.Proofs.YtamajnhdibcpiaaW.PrintWords Go.Proofs.YtamajnhdibcpiaaW.PrintLast
set_option linter.unusedVariables false
set_option maxRecDepth 100000
theorem own : ownKnob Try.prog.godebug = none := by kernel_rfl
def wfi (n : Int) : Bool := (Lit.int .i64 n).wf
def wf28 (x : S28) : Bool := wfK x.f0 && (wfi x.f1 && (wfi x.f2.f0 && (wfi x.f2.f1 && (wfi x.f3 && wfi x.f4))))
theorem cells26 : Try.prog.cellsOf 26 = 2 := by kernel_rfl
theorem cells28n : Try.prog.cellsOf 28 = 8 := by kernel_rfl
section
variable {H : Type} {enc : TypeId × Value → H} {w : World} {base : Nat} {spare : Nat → Bool} {held : Bool} {fuel : Nat} {cs : List Value} {x : DataW H × List MemPlace}
theorem t24 (hl : cs.length = 3) (h : DataW.trod enc Try.prog w base spare held fuel 24 cs = some x) : ∃ k : S24, cs = [.int .i64 k.f0, .int .i64 k.f1, .int .i64 k.f2] ∧ wfK k = true := by
  match cs, hl with
  | [c0, c1, c2], _ =>
    obtain ⟨xs, n, _, hx, _, hlen, hg⟩ := DataW.trod_struct Try.underlying24 h
    match xs, hlen with
    | [y0, y1, y2], _ =>
      have t0 : DataW.trod enc Try.prog w base spare held n 3 [c0] = some y0 := hg 0 _ rfl
      have t1 : DataW.trod enc Try.prog w base spare held n 3 [c1] = some y1 := hg 1 _ rfl
      have t2 : DataW.trod enc Try.prog w base spare held n 3 [c2] = some y2 := hg 2 _ rfl
      obtain ⟨n0, e0, _, w0⟩ := DataW.trod_int Try.underlying3 t0
      obtain ⟨n1, e1, _, w1⟩ := DataW.trod_int Try.underlying3 t1
      obtain ⟨n2, e2, _, w2⟩ := DataW.trod_int Try.underlying3 t2
      cases e0; cases e1; cases e2
      exact ⟨⟨n0, n1, n2⟩, rfl, by simp [wfK, w0, w1, w2]⟩
theorem t26 (hl : cs.length = 2) (h : DataW.trod enc Try.prog w base spare held fuel 26 cs = some x) : ∃ k : S26, cs = [.int .i64 k.f0, .int .i64 k.f1] ∧ (wfi k.f0 && wfi k.f1) = true := by
  match cs, hl with
  | [c0, c1], _ =>
    obtain ⟨xs, n, _, hx, _, hlen, hg⟩ := DataW.trod_struct Try.underlying26 h
    match xs, hlen with
    | [y0, y1], _ =>
      have t0 : DataW.trod enc Try.prog w base spare held n 3 [c0] = some y0 := hg 0 _ rfl
      have t1 : DataW.trod enc Try.prog w base spare held n 3 [c1] = some y1 := hg 1 _ rfl
      obtain ⟨n0, e0, _, w0⟩ := DataW.trod_int Try.underlying3 t0
      obtain ⟨n1, e1, _, w1⟩ := DataW.trod_int Try.underlying3 t1
      cases e0; cases e1
      exact ⟨⟨n0, n1⟩, rfl, by simp [wfi, w0, w1]⟩
theorem t28 (hl : cs.length = 8) (h : DataW.trod enc Try.prog w base spare held fuel 28 cs = some x) :
    ∃ k : S28, cs = [.int .i64 k.f0.f0, .int .i64 k.f0.f1, .int .i64 k.f0.f2, .int .i64 k.f1, .int .i64 k.f2.f0, .int .i64 k.f2.f1, .int .i64 k.f3, .int .i64 k.f4] ∧ wf28 k = true := by
  match cs, hl with
  | [c0, c1, c2, c3, c4, c5, c6, c7], _ =>
    obtain ⟨xs, n, _, hx, _, hlen, hg⟩ := DataW.trod_struct Try.underlying28 h
    match xs, hlen with
    | [y0, y1, y2, y3, y4], _ =>
      have t0 : DataW.trod enc Try.prog w base spare held n 24 (([c0, c1, c2, c3, c4, c5, c6, c7].drop 0).take (Try.prog.cellsOf 24)) = some y0 := hg 0 _ rfl
      have t1 : DataW.trod enc Try.prog w base spare held n 3 [c3] = some y1 := hg 1 _ rfl
      have t2 : DataW.trod enc Try.prog w base spare held n 26 (([c0, c1, c2, c3, c4, c5, c6, c7].drop 4).take (Try.prog.cellsOf 26)) = some y2 := hg 2 _ rfl
      have t3 : DataW.trod enc Try.prog w base spare held n 3 [c6] = some y3 := hg 3 _ rfl
      have t4 : DataW.trod enc Try.prog w base spare held n 3 [c7] = some y4 := hg 4 _ rfl
      rw [cells24] at t0
      rw [cells26] at t2
      obtain ⟨k0, e0, w0⟩ := t24 rfl t0
      obtain ⟨n1, e1, _, w1⟩ := DataW.trod_int Try.underlying3 t1
      obtain ⟨k2, e2, w2⟩ := t26 rfl t2
      obtain ⟨n3, e3, _, w3⟩ := DataW.trod_int Try.underlying3 t3
      obtain ⟨n4, e4, _, w4⟩ := DataW.trod_int Try.underlying3 t4
      cases e0; cases e1; cases e2; cases e3; cases e4
      refine ⟨⟨k0, n1, k2, n3, n4⟩, rfl, ?_⟩
      simp only [Bool.and_eq_true] at w2
      simp only [wf28, Bool.and_eq_true]
      exact ⟨w0, w1, w2.1, w2.2, w3, w4⟩
end
section
variable {H : Type} {enc : TypeId × Value → H} {W : World} {base b0 : Nat} {r : Reach} {spare : Nat → Bool} {held : Bool} {a : Option Addr} {len cap : Nat} {d : DataW H} {p : List MemPlace} {v : Value}
theorem open28 (h : DataW.Trod enc Try.prog W base spare held 22 (.slice a len cap) d p) : ∃ l : List S28, len = l.length ∧ Kd.C k28 W a l.length l ∧ l.length ≤ cap ∧ ∀ x ∈ l, wf28 x = true := by
  obtain ⟨fuel, hf⟩ := h
  rcases open_slice Try.underlying22 hf with ⟨hcs, _⟩ | ⟨x, l, c, m, n, D, Pl, hcs, _, hl, hm, hmm, _, hi⟩
  · simp [Value.cells] at hcs
    obtain ⟨rfl, rfl, rfl⟩ := hcs
    exact ⟨[], rfl, ⟨rfl, by simp, fun h => absurd h (by simp)⟩, by simp, by simp⟩
  · simp [Value.cells] at hcs
    obtain ⟨rfl, rfl, rfl⟩ := hcs
    have hlm : len ≤ m := by rw [hmm]; split <;> omega
    have hel : ∀ i, i < len → ∃ y : S28, (∀ q u, [Value.int .i64 y.f0.f0, .int .i64 y.f0.f1, .int .i64 y.f0.f2, .int .i64 y.f1, .int .i64 y.f2.f0, .int .i64 y.f2.f1, .int .i64 y.f3, .int .i64 y.f4][q]? = some u → W.cell? (x.add (i * 8 + q)) = some u) ∧ wf28 y = true := by
      intro i hi2
      obtain ⟨cs', hc, ht'⟩ := hi i (by omega)
      rw [cells28n] at hc
      obtain ⟨_, hcl, hat⟩ := World.cells?_some hc
      obtain ⟨k, rfl, hk⟩ := t28 hcl ht'
      refine ⟨k, fun q u hq => ?_, hk⟩
      have hq8 : q < 8 := (List.getElem?_eq_some_iff.1 hq).1
      rw [← Go.Deep.add_add, hat q hq8]
      exact hq
    refine ⟨(List.range len).map fun i => if h : i < len then (hel i h).choose else z28, by simp, ⟨rfl, by simp; unfold maxLen at hm; omega, fun _ => ⟨x, rfl, fun j y hj => ?_⟩⟩, by simp; exact hl, ?_⟩
    · obtain ⟨hj1, hj2⟩ := List.getElem?_eq_some_iff.1 hj
      simp only [List.length_map, List.length_range] at hj1
      simp only [List.getElem_map, List.getElem_range, hj1, dif_pos] at hj2
      subst hj2
      exact ⟨_, rfl, k28_mk W _, (hel j hj1).choose_spec.1⟩
    · intro y hy
      obtain ⟨j, hj, rfl⟩ := List.mem_map.1 hy
      have hj1 : j < len := by simpa using hj
      rw [dif_pos hj1]
      exact (hel j hj1).choose_spec.2
theorem open24 (hv : Value.okWide Try.prog W r b0 24 v) (h : DataW.Trod enc Try.prog W base spare held 24 v d p) :
    ∃ n0 n1 n2 : Int, v = .agg #[.int .i64 n0, .int .i64 n1, .int .i64 n2] ∧ wfK ⟨n0, n1, n2⟩ = true := by
  obtain ⟨cs, rfl, hsz⟩ := okWide_struct Try.underlying24 hv
  obtain ⟨l⟩ := cs
  obtain ⟨fuel, hf⟩ := h
  obtain ⟨k, e, hk⟩ := t24 (cs := l) (hsz.trans cells24) hf
  exact ⟨k.f0, k.f1, k.f2, by rw [e], hk⟩
end
end Go.Proofs.Ytamajnhdibcpiaa.G
namespace Go.Proofs.Ytamajnhdibcpiaa.G
open Go.RowKit Go.Proofs.YtamajnhdibcpiaaW.PrintWords Go.Proofs.YtamajnhdibcpiaaW.PrintLast Go.Proofs.YtamajnhdibcpiaaW.PrintMore
set_option linter.unusedVariables false
set_option linter.unusedSimpArgs false
theorem samePts_from (a : List S60) (hn : a.length ≤ 1000000) : ∀ (d i : Nat), a.length - i = d → i ≤ a.length → Evt (fun k => sizarref07_SamePoints.l0 k a a (i : Int)) true := by
  intro d
  induction d with
  | zero =>
    intro i hd hi
    exact ⟨1, fun k hk => by
      obtain ⟨m, rfl⟩ : ∃ m, k = m + 1 := ⟨k - 1, by omega⟩
      simp only [sizarref07_SamePoints.l0]; rw [if_neg (by omega)]⟩
  | succ d ih =>
    intro i hd hi
    refine (ih (i + 1) (by omega) (by omega)).succ fun k => ?_
    simp only [sizarref07_SamePoints.l0]
    rw [if_pos (by omega), if_pos (by omega), if_pos (by omega), if_neg (by simp), w64 (by omega) (by omega)]
    rfl
theorem samePts (a : List S60) (hn : a.length ≤ 1000000) : Evt (fun k => sizarref07_SamePoints.f k a a) true := by
  refine (samePts_from a hn a.length 0 (by omega) (by omega)).congr fun k => ?_
  unfold sizarref07_SamePoints.f
  rw [if_pos rfl]; rfl
theorem pointsM_length (l : List S28) (key : S24) (frm upt known : Int) : (pointsM l key frm upt known).length ≤ 1000000 := by
  have := ptsTo_length (fun t : Nat => valM l key known (t : Int)) frm upt 1024
  unfold pointsM; omega
theorem past_l2 (x0 more : List S28) (x3 x4 : Int) (h4 : 0 ≤ x4) (hl : ∀ x ∈ more, x4 < x.f3) (h0 : x0.length ≤ 10) (h6 : more.length ≤ 6) (hw : ∀ x ∈ x0 ++ more, wfK x.f0 = true) (x13 : List S24) (hx : x13.length ≤ 1000) :
    ∀ (d i : Nat), x13.length - i = d → i ≤ x13.length → Evt (fun k => sizarlaw07_FactsPast.l2 k x0 x3 x4 (x0 ++ more) x13 (i : Int)) true := by
  have hlen : (x0 ++ more).length ≤ 16 := by simp; omega
  have hc1 : facts_Changed.f (x0 ++ more) 0 x4 = some (changedM (x0 ++ more) 0 x4) := by
    unfold facts_Changed.f; rw [if_pos ⟨by omega, List.all_eq_true.2 hw⟩]
  have hc2 : facts_Changed.f x0 0 x4 = some (changedM x0 0 x4) := by
    unfold facts_Changed.f; rw [if_pos ⟨by omega, List.all_eq_true.2 fun x hx => hw x (by simp [hx])⟩]
  have hu1 : facts_Upto.f (x0 ++ more) x4 = some (uptoM x0 x4) := by
    unfold facts_Upto.f; rw [if_pos (by omega), upto_later hl]
  have hu2 : facts_Upto.f x0 x4 = some (uptoM x0 x4) := by
    unfold facts_Upto.f; rw [if_pos (by omega)]
  have hul : (uptoM x0 x4).length ≤ 1000000 := by
    have : (uptoM x0 x4).length ≤ x0.length := List.length_filter_le _ _
    omega
  have hcl : (changedM x0 0 x4).length ≤ 1000000 := by
    have h1 : (changedM x0 0 x4).length ≤ (keysM x0).length := List.length_filterMap_le _ _
    have h2 := keysM_length x0
    omega
  have hct : ∀ y ∈ changedM x0 0 x4, y.f1.length ≤ 1000000 := by
    intro y hy
    obtain ⟨k, _, hk⟩ := List.mem_filterMap.1 hy
    unfold chgOne at hk
    split at hk
    · cases hk
    · cases hk
      have := termsTo_length (fun t : Nat => valM x0 k 0 (t : Int)) (fun t : Nat => valM x0 k x4 (t : Int)) 1024
      generalize termsTo (fun t : Nat => valM x0 k 0 (t : Int)) (fun t : Nat => valM x0 k x4 (t : Int)) 1024 = T at this ⊢
      show T.length ≤ 1000000
      omega
  intro d
  induction d with
  | zero =>
    intro i hd hi
    have hs := same28 (uptoM x0 x4) hul
    have hs2 := sameCh (changedM x0 0 x4) hcl hct
    have : Evt (fun k => (sizarref07_Same.f k (uptoM x0 x4) (uptoM x0 x4)).bind fun t423 => (if t423 = true then ((sizarref07_SameChanges.f k (changedM x0 0 x4) (changedM x0 0 x4)).bind fun t430 => (some t430)) else none)) true := by
      refine hs.bind ?_
      simp only [if_true]
      exact hs2.bind (Evt.of fun _ => rfl)
    refine this.succ fun k => ?_
    simp only [sizarlaw07_FactsPast.l2, hu1, hu2, hc1, hc2, Option.bind_some, changed_later h4 hl]
    rw [if_neg (by omega)]
  | succ d ih =>
    intro i hd hi
    have hp := samePts (pointsM x0 (rd_T24 x13 (i : Int)) 0 40 x4) (pointsM_length _ _ _ _ _)
    have : Evt (fun k => (sizarref07_SamePoints.f k (pointsM x0 (rd_T24 x13 (i : Int)) 0 40 x4) (pointsM x0 (rd_T24 x13 (i : Int)) 0 40 x4)).bind fun t416 => (if t416 = true then (sizarlaw07_FactsPast.l2 k x0 x3 x4 (x0 ++ more) x13 ((i + 1 : Nat) : Int)) else none)) true := by
      refine hp.bind ?_
      simp only [if_true]
      exact ih (i + 1) (by omega) (by omega)
    refine this.succ fun k => ?_
    simp only [sizarlaw07_FactsPast.l2, facts_At.f, facts_Points.f, Option.bind_some]
    rw [if_pos (by omega), if_pos (by omega)]
    rw [atM_congr (of_later hl), pointsM_congr (of_later hl)]
    rw [if_pos rfl, if_neg (by simp), w64 (by omega) (by omega)]
    rfl
theorem past_l1 (x0 more : List S28) (x3 x4 : Int) (h4 : 0 ≤ x4) (hl : ∀ x ∈ more, x4 < x.f3) (h0 : x0.length ≤ 10) (h6 : more.length ≤ 6) (hw : ∀ x ∈ x0 ++ more, wfK x.f0 = true) :
    ∀ (d i : Nat), (x0 ++ more).length - i = d → i ≤ (x0 ++ more).length → ∀ x13 : List S24, x13.length ≤ 1 + i → Evt (fun k => sizarlaw07_FactsPast.l1 k x0 x3 x4 (x0 ++ more) x13 (i : Int)) true := by
  have hlen : (x0 ++ more).length ≤ 16 := by simp; omega
  intro d
  induction d with
  | zero =>
    intro i hd hi x13 hx
    refine (past_l2 x0 more x3 x4 h4 hl h0 h6 hw x13 (by omega) x13.length 0 (by omega) (by omega)).succ fun k => ?_
    simp only [sizarlaw07_FactsPast.l1]
    rw [if_neg (by omega)]
    rfl
  | succ d ih =>
    intro i hd hi x13 hx
    refine (ih (i + 1) (by omega) (by omega) (x13 ++ [⟨(rd_T28 (x0 ++ more) (i : Int)).f0.f0, (rd_T28 (x0 ++ more) (i : Int)).f0.f1, (rd_T28 (x0 ++ more) (i : Int)).f0.f2⟩]) (by simp; omega)).succ fun k => ?_
    simp only [sizarlaw07_FactsPast.l1]
    rw [if_pos (by omega), if_pos (by omega), if_pos (by omega), w64 (by omega) (by omega)]
    rfl
theorem past_l0 (x0 x1 : List S28) (x3 x4 : Int) (h4 : 0 ≤ x4) (h0 : x0.length ≤ 10) (h6 : x1.length ≤ 6) (hw : ∀ x ∈ x0 ++ x1, wfK x.f0 = true) (a b c : Int) :
    ∀ (d i : Nat), x1.length - i = d → i ≤ x1.length → (∀ j : Nat, j < i → x4 < (rd_T28 x1 (j : Int)).f3) → Evt (fun k => sizarlaw07_FactsPast.l0 k x0 x1 x3 x4 (i : Int) a b c) true := by
  intro d
  induction d with
  | zero =>
    intro i hd hi hall
    have hl : ∀ x ∈ x1, x4 < x.f3 := by
      intro x hx
      obtain ⟨j, hj, rfl⟩ := List.getElem_of_mem hx
      have := hall j (by omega)
      simpa [rd_T28, hj] using this
    refine (past_l1 x0 x1 x3 x4 h4 hl h0 h6 hw (x0 ++ x1).length 0 (by omega) (by omega) [⟨a, b, c⟩] (by simp)).succ fun k => ?_
    simp only [sizarlaw07_FactsPast.l0, Option.bind_some, List.nil_append]
    have hz : (([] : List S28).length + x0.length < 2199023255552) := by rw [List.length_nil]; omega
    rw [if_neg (by omega), if_pos hz, if_pos (by omega)]
    rfl
  | succ d ih =>
    intro i hd hi hall
    by_cases h : (rd_T28 x1 (i : Int)).f3 ≤ x4
    · refine (Evt.of (g := fun _ => some true) (r := true) fun _ => rfl).succ fun k => ?_
      simp only [sizarlaw07_FactsPast.l0]
      rw [if_pos (by omega), if_pos (by omega), if_pos h]
    · refine (ih (i + 1) (by omega) (by omega) (fun j hj => ?_)).succ fun k => ?_
      · by_cases e : j = i
        · subst e; omega
        · exact hall j (by omega)
      · simp only [sizarlaw07_FactsPast.l0]
        rw [if_pos (by omega), if_pos (by omega), if_neg h, w64 (by omega) (by omega)]
        rfl
theorem past_law (l0 l1 : List S28) (a b c x3 x4 : Int) (w0 : ∀ x ∈ l0, wf28 x = true) (w1 : ∀ x ∈ l1, wf28 x = true) : ∃ k, sizarlaw07_FactsPast.f k l0 l1 a b c x3 x4 = some true := by
  refine Evt.ex (r := true) ?_
  unfold sizarlaw07_FactsPast.f
  refine sane_all.bind ?_
  simp only [if_true]
  have hstop : Evt (fun k => sizarlaw07_FactsPast.j0 k l0 l1 x3 x4 true a b c) true := (Evt.of (g := fun _ => some true) (r := true) fun _ => rfl).succ fun k => by simp only [sizarlaw07_FactsPast.j0, if_true]
  by_cases h0 : (l0.length : Int) > 10
  · simp only [if_pos h0]; exact hstop
  · by_cases h1 : (l1.length : Int) > 6
    · simp only [if_neg h0, if_pos h1]; exact hstop
    · simp only [if_neg h0, if_neg h1]
      by_cases h4 : x4 < 0
      · simp only [h4, decide_true]; exact hstop
      · simp only [h4, decide_false]
        refine (past_l0 l0 l1 x3 x4 (by omega) (by omega) (by omega) (fun x hx => ?_) a b c l1.length 0 (by omega) (by omega) (fun j hj => absurd hj (by omega))).succ fun k => by simp only [sizarlaw07_FactsPast.j0, Bool.false_eq_true, if_false]; rfl
        have : wf28 x = true := by
          rcases List.mem_append.1 hx with h | h
          · exact w0 x h
          · exact w1 x h
        simp only [wf28, Bool.and_eq_true] at this
        exact this.1
end Go.Proofs.Ytamajnhdibcpiaa.G
namespace Go.Proofs.Ytamajnhdibcpiaa.factsPast
open Go.ChangeShapes Go.WideShapes Go.ChangeAt Go.RowKit Go.Proofs.Ytamajnhdibcpiaa.G
set_option linter.unusedVariables false
set_option maxRecDepth 100000 in
theorem lifted (os : Os) (started : os.Started) (H : Type) (enc : TypeId × Value → H) :
    ReturnsInHanded {} Try.checked os 6 .any (Rows.factsPastSpec.pre6 enc Try.prog Try.f6 Rows.factsPastRow.domain false) (Rows.factsPastSpec.post enc Try.prog Try.f6 false true false false) := by
  refine returnsInHanded_of_change_sized (C := Try.checked) own started (by kernel_rfl) Try.func6
    (ChangeSpec.witness6 (enc := enc) (C := Try.checked) false ⟨#[], #[.slice none 0 0, .slice none 0 0, .agg #[.int .i64 0, .int .i64 0, .int .i64 0], .int .i64 0, .int .i64 0], []⟩ 8 (by kernel_rfl) (by kernel_rfl) (by kernel_rfl) (by kernel_rfl)) ?_
  intro W base args ds gs before hval0 hW hcnd hsz0 _
  have hval : ∀ (j : Nat) t v, Try.f6.params[j]? = some t → args[j]? = some v → Value.okWide Try.prog W .any base t v := hval0
  have hW' := hW
  obtain ⟨p, q, hA0, hV, rfl, hfz, hnd⟩ := hW
  have hA : DataW.TrodAll enc Try.prog W 0 (fun _ => true) true Try.f6.params.toList args.toList ds p := hA0
  rw [Try.params6] at hA hval
  obtain ⟨v0, vs0, d0, ds0, p0, q0, hargs, rfl, rfl, h0, r0⟩ := trodAll_cons hA
  obtain ⟨v1, vs1, d1, ds1, p1, q1, rfl, rfl, rfl, h1, r1⟩ := trodAll_cons r0
  obtain ⟨v2, vs2, d2, ds2, p2, q2, rfl, rfl, rfl, h2, r2⟩ := trodAll_cons r1
  obtain ⟨v3, vs3, d3, ds3, p3, q3, rfl, rfl, rfl, h3, r3⟩ := trodAll_cons r2
  obtain ⟨v4, vs4, d4, ds4, p4, q4, rfl, rfl, rfl, h4, r4⟩ := trodAll_cons r3
  obtain ⟨rfl, rfl, rfl⟩ := trodAll_nil r4
  obtain rfl : args = #[v0, v1, v2, v3, v4] := by cases args; simp_all
  obtain ⟨rfl, rfl⟩ := trodVars_none hV
  obtain ⟨a0, len0, cap0, rfl⟩ := okWide_slice Try.underlying22 (hval 0 22 v0 rfl rfl)
  have k0 := h0
  have lt0 : ∀ x ∈ p0, x.block < W.heap.size := by obtain ⟨m, hm⟩ := k0; exact DataW.trod_lt m _ _ _ hm
  obtain ⟨z0, rfl, w0, y0, f0⟩ := open28 h0
  obtain ⟨a1, len1, cap1, rfl⟩ := okWide_slice Try.underlying22 (hval 1 22 v1 rfl rfl)
  have k1 := h1
  have lt1 : ∀ x ∈ p1, x.block < W.heap.size := by obtain ⟨m, hm⟩ := k1; exact DataW.trod_lt m _ _ _ hm
  obtain ⟨z1, rfl, w1, y1, f1⟩ := open28 h1
  have k2 := h2
  have lt2 : ∀ x ∈ p2, x.block < W.heap.size := by obtain ⟨m, hm⟩ := k2; exact DataW.trod_lt m _ _ _ hm
  obtain ⟨a2_0, a2_1, a2_2, rfl, f2⟩ := open24 (hval 2 24 v2 rfl rfl) h2
  obtain ⟨a3, rfl, rfl, rfl, w3⟩ := open_int Try.underlying3 (hval 3 3 v3 rfl rfl) h3
  obtain ⟨a4, rfl, rfl, rfl, w4⟩ := open_int Try.underlying3 (hval 4 3 v4 rfl rfl) h4
  clear hA0 hval0
  obtain ⟨k, hk⟩ := past_law z0 z1 a2_0 a2_1 a2_2 a3 a4 f0 f1
  refine (G.sizarlaw07_FactsPast.calls k a0 cap0 z0 a1 cap1 z1 a2_0 a2_1 a2_2 a3 a4 true W w0 y0 w1 y1 hk).mono fun e W' ⟨he, bel⟩ => ?_
  subst he
  exact ⟨_, rfl, _, _, _, [], _, [], hW', trodAll_mk1 (shut_bool Try.underlying4 _), (trodAll_cons_mk (Below.trod laidOut (by kernel_rfl) (of_decide_eq_true (by kernel_rfl)) k0 bel lt0) (trodAll_cons_mk (Below.trod laidOut (by kernel_rfl) (of_decide_eq_true (by kernel_rfl)) k1 bel lt1) (trodAll_cons_mk (Below.trod laidOut (by kernel_rfl) (of_decide_eq_true (by kernel_rfl)) k2 bel lt2) (trodAll_cons_mk (shut_int Try.underlying3 w3) (trodAll_cons_mk (shut_int Try.underlying3 w4) trodAll_mk0))))), rfl, bel.frame _, fun h => by cases h⟩
theorem over : Rows.factsPastRow.holds Try.pinned (OpenSpec.ofChange Rows.factsPastSpec) :=
  OpenClaim.holds_of_wide 6 Try.f6 rfl rfl rfl rfl rfl rfl rfl ⟨rfl, rfl, rfl, rfl, rfl⟩ rfl rfl rfl rfl rfl (by kernel_rfl) Try.func6 (by kernel_rfl)
    (of_decide_eq_true (by kernel_rfl)) (by unfold Func.isWrapper; first | (rw [if_pos (by decide +kernel)]; kernel_rfl) | (rw [if_neg (by decide +kernel)]; exact ⟨rfl, rfl⟩))
    (fun os started H enc _ => lifted os started H enc)
theorem proved : Rows.FactsPastSaid := over
end Go.Proofs.Ytamajnhdibcpiaa.factsPast
namespace Go.Proofs.Ytamajnhdibcpiaa
/-- The row, under a short name, for the claim. -/
theorem factsPast_holds : Rows.FactsPastSaid := factsPast.proved
end Go.Proofs.Ytamajnhdibcpiaa
