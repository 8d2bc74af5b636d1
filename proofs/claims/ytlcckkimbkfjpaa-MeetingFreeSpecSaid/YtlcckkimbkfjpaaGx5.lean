-- Printed by gp.py (ours) by way of the kit's print tool; Lean checks it.
import Derived.Test.YtlcckkimbkfjpaaGx0
import Derived.Test.YtlcckkimbkfjpaaGx3
import Derived.Test.YtlcckkimbkfjpaaGx4
import Derived.Test.YtlcckkimbkfjpaaGcheck
import Derived.Test.YtlcckkimbkfjpaaGclash
import Derived.Test.YtlcckkimbkfjpaaGfree
namespace Go.Proofs.Ytlcckkimbkfjpaa.G
open Go.RowKit Go.Proofs.YtlcckkimbkfjpaaW.PrintWords Go.Proofs.YtlcckkimbkfjpaaW.PrintLast Go.Proofs.YtlcckkimbkfjpaaW.PrintMore
attribute [local go_sem] max2_int min2_int max_two min_two max_three min_three max_four min_four   -- for this text's walks alone
set_option linter.unusedVariables false
set_option linter.unusedSimpArgs false

/-! ### sizarlaw22_sane: function 9 -/
def sizarlaw22_sane.f (k : Nat)  : Option (Bool) := (some (([(⟨1, 510, 600, 1, 10⟩ : S38)] : List (S38)) : List (S38))).bind fun y113 => ((meeting_Minutes.f k y113).bind fun bt119 => ((meeting_Clash.f y113 (([(⟨1, 600, 700, 1, 10⟩ : S38)] : List (S38)))).bind fun bt121 => ((meeting_Clash.f y113 y113).bind fun bt123 => ((meeting_Clash.f ([] : List (S38)) ([] : List (S38))).bind fun bt125 => ((meeting_Free.f ([] : List (S38)) 0 0).bind fun bt127 => ((meeting_Free.f ([] : List (S38)) 7 0).bind fun bt131 => (if bt119.2 = 0 then (if bt119.1 = 900 then (if bt121.2 = 0 then (if bt121.1 = true then (none) else (if bt123.2 = 0 then (if bt123.1 = true then (if bt125.2 = 0 then (if bt125.1 = true then (none) else (if bt127.2 = 0 then ((sizarref22_SameSpans.f k bt127.1 (([(⟨0, 1440⟩ : S42)] : List (S42)))).bind fun t138 => (if t138 = true then (if bt131.2 = 1 then ((meeting_Check.f ([] : List (S38))).bind fun t139 => (if t139 = 0 then (if y113.length + y113.length < 3518437208883 then ((meeting_Check.f (y113 ++ y113)).bind fun t143 => (some (t143 == 220))) else (none)) else (none))) else (none)) else (none))) else (none))) else (none)) else (none)) else (none))) else (none)) else (none)) else (none))))))))
theorem sizarlaw22_sane.mono : ∀ k, LeO (sizarlaw22_sane.f k ) (sizarlaw22_sane.f (k + 1) ) := by
  intro  k
  unfold sizarlaw22_sane.f
  repeat' first
      | (with_reducible exact meeting_Minutes.mono _ _)
      | (with_reducible exact sizarref22_SameSpans.mono _ _ _)
      | (with_reducible exact LeO.refl _)
      | (with_reducible exact LeO.none _)
      | (with_reducible refine LeO.ite ?_ ?_)
      | (with_reducible refine LeO.bind ?_ (fun _ => ?_))
      | exact meeting_Minutes.mono _ _
      | exact sizarref22_SameSpans.mono _ _ _
      | exact LeO.none _
      | refine LeO.ite ?_ ?_
      | refine LeO.bind ?_ (fun _ => ?_)
set_option maxHeartbeats 8000000 in
set_option maxRecDepth 100000 in
theorem sizarlaw22_sane.calls (k : Nat)  (r : Bool) (w : World) (h : sizarlaw22_sane.f k  = some r) :
    Calls Try.prog 9 #[] w fun e w' => e = .returned (.bool r) ∧ Below w.heap.size w w' := by
  have hu38 := Try.underlying38
  have hu42 := Try.underlying42
  have HB := Aside0.mk (Below.refl w.heap.size w)
  have H : ((some (([(⟨1, 510, 600, 1, 10⟩ : S38)] : List (S38)) : List (S38))).bind fun y113 => ((meeting_Minutes.f k y113).bind fun bt119 => ((meeting_Clash.f y113 (([(⟨1, 600, 700, 1, 10⟩ : S38)] : List (S38)))).bind fun bt121 => ((meeting_Clash.f y113 y113).bind fun bt123 => ((meeting_Clash.f ([] : List (S38)) ([] : List (S38))).bind fun bt125 => ((meeting_Free.f ([] : List (S38)) 0 0).bind fun bt127 => ((meeting_Free.f ([] : List (S38)) 7 0).bind fun bt131 => (if bt119.2 = 0 then (if bt119.1 = 900 then (if bt121.2 = 0 then (if bt121.1 = true then (none) else (if bt123.2 = 0 then (if bt123.1 = true then (if bt125.2 = 0 then (if bt125.1 = true then (none) else (if bt127.2 = 0 then ((sizarref22_SameSpans.f k bt127.1 (([(⟨0, 1440⟩ : S42)] : List (S42)))).bind fun t138 => (if t138 = true then (if bt131.2 = 1 then ((meeting_Check.f ([] : List (S38))).bind fun t139 => (if t139 = 0 then (if y113.length + y113.length < 3518437208883 then ((meeting_Check.f (y113 ++ y113)).bind fun t143 => (some (t143 == 220))) else (none)) else (none))) else (none)) else (none))) else (none))) else (none)) else (none)) else (none))) else (none)) else (none)) else (none))))))))) = some r := h
  clear h
  obtain ⟨y113, hy113⟩ : ∃ y_ : List (S38), y_ = (([(⟨1, 510, 600, 1, 10⟩ : S38)] : List (S38))) := ⟨_, rfl⟩
  replace H : ((meeting_Minutes.f k y113).bind fun bt119 => ((meeting_Clash.f y113 (([(⟨1, 600, 700, 1, 10⟩ : S38)] : List (S38)))).bind fun bt121 => ((meeting_Clash.f y113 y113).bind fun bt123 => ((meeting_Clash.f ([] : List (S38)) ([] : List (S38))).bind fun bt125 => ((meeting_Free.f ([] : List (S38)) 0 0).bind fun bt127 => ((meeting_Free.f ([] : List (S38)) 7 0).bind fun bt131 => (if bt119.2 = 0 then (if bt119.1 = 900 then (if bt121.2 = 0 then (if bt121.1 = true then (none) else (if bt123.2 = 0 then (if bt123.1 = true then (if bt125.2 = 0 then (if bt125.1 = true then (none) else (if bt127.2 = 0 then ((sizarref22_SameSpans.f k bt127.1 (([(⟨0, 1440⟩ : S42)] : List (S42)))).bind fun t138 => (if t138 = true then (if bt131.2 = 1 then ((meeting_Check.f ([] : List (S38))).bind fun t139 => (if t139 = 0 then (if y113.length + y113.length < 3518437208883 then ((meeting_Check.f (y113 ++ y113)).bind fun t143 => (some (t143 == 220))) else (none)) else (none))) else (none)) else (none))) else (none))) else (none)) else (none)) else (none))) else (none)) else (none)) else (none)))))))) = some r := by first | (rw [hy113]; with_reducible exact H) | (have H2_ := (Option.bind_some _ _).symm.trans H; rw [hy113]; with_reducible exact H2_) | (have H2_ := (Option.bind_some _ _).symm.trans H; with_reducible exact H2_) | with_reducible exact H | (rw [hy113]; exact H) | exact H
  have Ny113 := Aside0.mk hy113
  clear hy113
  obtain ⟨y116, hy116⟩ : ∃ y_ : List (S38), y_ = (([(⟨1, 600, 700, 1, 10⟩ : S38)] : List (S38))) := ⟨_, rfl⟩
  replace H : ((meeting_Minutes.f k y113).bind fun bt119 => ((meeting_Clash.f y113 y116).bind fun bt121 => ((meeting_Clash.f y113 y113).bind fun bt123 => ((meeting_Clash.f ([] : List (S38)) ([] : List (S38))).bind fun bt125 => ((meeting_Free.f ([] : List (S38)) 0 0).bind fun bt127 => ((meeting_Free.f ([] : List (S38)) 7 0).bind fun bt131 => (if bt119.2 = 0 then (if bt119.1 = 900 then (if bt121.2 = 0 then (if bt121.1 = true then (none) else (if bt123.2 = 0 then (if bt123.1 = true then (if bt125.2 = 0 then (if bt125.1 = true then (none) else (if bt127.2 = 0 then ((sizarref22_SameSpans.f k bt127.1 (([(⟨0, 1440⟩ : S42)] : List (S42)))).bind fun t138 => (if t138 = true then (if bt131.2 = 1 then ((meeting_Check.f ([] : List (S38))).bind fun t139 => (if t139 = 0 then (if y113.length + y113.length < 3518437208883 then ((meeting_Check.f (y113 ++ y113)).bind fun t143 => (some (t143 == 220))) else (none)) else (none))) else (none)) else (none))) else (none))) else (none)) else (none)) else (none))) else (none)) else (none)) else (none)))))))) = some r := by first | (rw [hy116]; with_reducible exact H) | (have H2_ := (Option.bind_some _ _).symm.trans H; rw [hy116]; with_reducible exact H2_) | (have H2_ := (Option.bind_some _ _).symm.trans H; with_reducible exact H2_) | with_reducible exact H | (rw [hy116]; exact H) | exact H
  have Ny116 := Aside0.mk hy116
  clear hy116
  replace H := Option.bind_eq_some_iff.mp H
  obtain ⟨⟨t119, t120⟩, A10, H⟩ := H
  replace H : ((meeting_Clash.f y113 y116).bind fun bt121 => ((meeting_Clash.f y113 y113).bind fun bt123 => ((meeting_Clash.f ([] : List (S38)) ([] : List (S38))).bind fun bt125 => ((meeting_Free.f ([] : List (S38)) 0 0).bind fun bt127 => ((meeting_Free.f ([] : List (S38)) 7 0).bind fun bt131 => (if t120 = 0 then (if t119 = 900 then (if bt121.2 = 0 then (if bt121.1 = true then (none) else (if bt123.2 = 0 then (if bt123.1 = true then (if bt125.2 = 0 then (if bt125.1 = true then (none) else (if bt127.2 = 0 then ((sizarref22_SameSpans.f k bt127.1 (([(⟨0, 1440⟩ : S42)] : List (S42)))).bind fun t138 => (if t138 = true then (if bt131.2 = 1 then ((meeting_Check.f ([] : List (S38))).bind fun t139 => (if t139 = 0 then (if y113.length + y113.length < 3518437208883 then ((meeting_Check.f (y113 ++ y113)).bind fun t143 => (some (t143 == 220))) else (none)) else (none))) else (none)) else (none))) else (none))) else (none)) else (none)) else (none))) else (none)) else (none)) else (none))))))) = some r := H
  have A1 := Aside0.mk A10
  clear A10
  replace H := Option.bind_eq_some_iff.mp H
  obtain ⟨⟨t121, t122⟩, A20, H⟩ := H
  replace H : ((meeting_Clash.f y113 y113).bind fun bt123 => ((meeting_Clash.f ([] : List (S38)) ([] : List (S38))).bind fun bt125 => ((meeting_Free.f ([] : List (S38)) 0 0).bind fun bt127 => ((meeting_Free.f ([] : List (S38)) 7 0).bind fun bt131 => (if t120 = 0 then (if t119 = 900 then (if t122 = 0 then (if t121 = true then (none) else (if bt123.2 = 0 then (if bt123.1 = true then (if bt125.2 = 0 then (if bt125.1 = true then (none) else (if bt127.2 = 0 then ((sizarref22_SameSpans.f k bt127.1 (([(⟨0, 1440⟩ : S42)] : List (S42)))).bind fun t138 => (if t138 = true then (if bt131.2 = 1 then ((meeting_Check.f ([] : List (S38))).bind fun t139 => (if t139 = 0 then (if y113.length + y113.length < 3518437208883 then ((meeting_Check.f (y113 ++ y113)).bind fun t143 => (some (t143 == 220))) else (none)) else (none))) else (none)) else (none))) else (none))) else (none)) else (none)) else (none))) else (none)) else (none)) else (none)))))) = some r := H
  have A2 := Aside0.mk A20
  clear A20
  replace H := Option.bind_eq_some_iff.mp H
  obtain ⟨⟨t123, t124⟩, A30, H⟩ := H
  replace H : ((meeting_Clash.f ([] : List (S38)) ([] : List (S38))).bind fun bt125 => ((meeting_Free.f ([] : List (S38)) 0 0).bind fun bt127 => ((meeting_Free.f ([] : List (S38)) 7 0).bind fun bt131 => (if t120 = 0 then (if t119 = 900 then (if t122 = 0 then (if t121 = true then (none) else (if t124 = 0 then (if t123 = true then (if bt125.2 = 0 then (if bt125.1 = true then (none) else (if bt127.2 = 0 then ((sizarref22_SameSpans.f k bt127.1 (([(⟨0, 1440⟩ : S42)] : List (S42)))).bind fun t138 => (if t138 = true then (if bt131.2 = 1 then ((meeting_Check.f ([] : List (S38))).bind fun t139 => (if t139 = 0 then (if y113.length + y113.length < 3518437208883 then ((meeting_Check.f (y113 ++ y113)).bind fun t143 => (some (t143 == 220))) else (none)) else (none))) else (none)) else (none))) else (none))) else (none)) else (none)) else (none))) else (none)) else (none)) else (none))))) = some r := H
  have A3 := Aside0.mk A30
  clear A30
  replace H := Option.bind_eq_some_iff.mp H
  obtain ⟨⟨t125, t126⟩, A40, H⟩ := H
  replace H : ((meeting_Free.f ([] : List (S38)) 0 0).bind fun bt127 => ((meeting_Free.f ([] : List (S38)) 7 0).bind fun bt131 => (if t120 = 0 then (if t119 = 900 then (if t122 = 0 then (if t121 = true then (none) else (if t124 = 0 then (if t123 = true then (if t126 = 0 then (if t125 = true then (none) else (if bt127.2 = 0 then ((sizarref22_SameSpans.f k bt127.1 (([(⟨0, 1440⟩ : S42)] : List (S42)))).bind fun t138 => (if t138 = true then (if bt131.2 = 1 then ((meeting_Check.f ([] : List (S38))).bind fun t139 => (if t139 = 0 then (if y113.length + y113.length < 3518437208883 then ((meeting_Check.f (y113 ++ y113)).bind fun t143 => (some (t143 == 220))) else (none)) else (none))) else (none)) else (none))) else (none))) else (none)) else (none)) else (none))) else (none)) else (none)) else (none)))) = some r := H
  have A4 := Aside0.mk A40
  clear A40
  replace H := Option.bind_eq_some_iff.mp H
  obtain ⟨⟨t127, t128⟩, A50, H⟩ := H
  replace H : ((meeting_Free.f ([] : List (S38)) 7 0).bind fun bt131 => (if t120 = 0 then (if t119 = 900 then (if t122 = 0 then (if t121 = true then (none) else (if t124 = 0 then (if t123 = true then (if t126 = 0 then (if t125 = true then (none) else (if t128 = 0 then ((sizarref22_SameSpans.f k t127 (([(⟨0, 1440⟩ : S42)] : List (S42)))).bind fun t138 => (if t138 = true then (if bt131.2 = 1 then ((meeting_Check.f ([] : List (S38))).bind fun t139 => (if t139 = 0 then (if y113.length + y113.length < 3518437208883 then ((meeting_Check.f (y113 ++ y113)).bind fun t143 => (some (t143 == 220))) else (none)) else (none))) else (none)) else (none))) else (none))) else (none)) else (none)) else (none))) else (none)) else (none)) else (none))) = some r := H
  have A5 := Aside0.mk A50
  clear A50
  replace H := Option.bind_eq_some_iff.mp H
  obtain ⟨⟨t131, t132⟩, A60, H⟩ := H
  replace H : (if t120 = 0 then (if t119 = 900 then (if t122 = 0 then (if t121 = true then (none) else (if t124 = 0 then (if t123 = true then (if t126 = 0 then (if t125 = true then (none) else (if t128 = 0 then ((sizarref22_SameSpans.f k t127 (([(⟨0, 1440⟩ : S42)] : List (S42)))).bind fun t138 => (if t138 = true then (if t132 = 1 then ((meeting_Check.f ([] : List (S38))).bind fun t139 => (if t139 = 0 then (if y113.length + y113.length < 3518437208883 then ((meeting_Check.f (y113 ++ y113)).bind fun t143 => (some (t143 == 220))) else (none)) else (none))) else (none)) else (none))) else (none))) else (none)) else (none)) else (none))) else (none)) else (none)) else (none)) = some r := H
  have A6 := Aside0.mk A60
  clear A60
  by_cases c7 : t120 = 0
  · rw [if_pos c7] at H
    have c7b0 : (t120 == 0) = true := beq_iff_eq.mpr c7
    have c7b1 : (t120 != 0) = false := bne_eq_false_iff_eq.mpr c7
    clear c7
    by_cases c8 : t119 = 900
    · rw [if_pos c8] at H
      have c8b0 : (t119 == 900) = true := beq_iff_eq.mpr c8
      have c8b1 : (t119 != 900) = false := bne_eq_false_iff_eq.mpr c8
      clear c8
      by_cases c9 : t122 = 0
      · rw [if_pos c9] at H
        have c9b0 : (t122 == 0) = true := beq_iff_eq.mpr c9
        have c9b1 : (t122 != 0) = false := bne_eq_false_iff_eq.mpr c9
        clear c9
        by_cases c10 : t121 = true
        · subst c10
          have H1 : (none) = some r := by rw [if_pos rfl] at H; exact H
          clear H
          have H := H1
          clear H1
          exact absurd H (by simp)
        · replace c10 := Bool.eq_false_iff.mpr c10
          subst c10
          have H1 : (if t124 = 0 then (if t123 = true then (if t126 = 0 then (if t125 = true then (none) else (if t128 = 0 then ((sizarref22_SameSpans.f k t127 (([(⟨0, 1440⟩ : S42)] : List (S42)))).bind fun t138 => (if t138 = true then (if t132 = 1 then ((meeting_Check.f ([] : List (S38))).bind fun t139 => (if t139 = 0 then (if y113.length + y113.length < 3518437208883 then ((meeting_Check.f (y113 ++ y113)).bind fun t143 => (some (t143 == 220))) else (none)) else (none))) else (none)) else (none))) else (none))) else (none)) else (none)) else (none)) = some r := by rw [if_neg (show ¬ (false = true) by decide)] at H; exact H
          clear H
          have H := H1
          clear H1
          by_cases c11 : t124 = 0
          · rw [if_pos c11] at H
            have c11b0 : (t124 == 0) = true := beq_iff_eq.mpr c11
            have c11b1 : (t124 != 0) = false := bne_eq_false_iff_eq.mpr c11
            clear c11
            by_cases c12 : t123 = true
            · subst c12
              have H1 : (if t126 = 0 then (if t125 = true then (none) else (if t128 = 0 then ((sizarref22_SameSpans.f k t127 (([(⟨0, 1440⟩ : S42)] : List (S42)))).bind fun t138 => (if t138 = true then (if t132 = 1 then ((meeting_Check.f ([] : List (S38))).bind fun t139 => (if t139 = 0 then (if y113.length + y113.length < 3518437208883 then ((meeting_Check.f (y113 ++ y113)).bind fun t143 => (some (t143 == 220))) else (none)) else (none))) else (none)) else (none))) else (none))) else (none)) = some r := by rw [if_pos rfl] at H; exact H
              clear H
              have H := H1
              clear H1
              by_cases c13 : t126 = 0
              · rw [if_pos c13] at H
                have c13b0 : (t126 == 0) = true := beq_iff_eq.mpr c13
                have c13b1 : (t126 != 0) = false := bne_eq_false_iff_eq.mpr c13
                clear c13
                by_cases c14 : t125 = true
                · subst c14
                  have H1 : (none) = some r := by rw [if_pos rfl] at H; exact H
                  clear H
                  have H := H1
                  clear H1
                  exact absurd H (by simp)
                · replace c14 := Bool.eq_false_iff.mpr c14
                  subst c14
                  have H1 : (if t128 = 0 then ((sizarref22_SameSpans.f k t127 (([(⟨0, 1440⟩ : S42)] : List (S42)))).bind fun t138 => (if t138 = true then (if t132 = 1 then ((meeting_Check.f ([] : List (S38))).bind fun t139 => (if t139 = 0 then (if y113.length + y113.length < 3518437208883 then ((meeting_Check.f (y113 ++ y113)).bind fun t143 => (some (t143 == 220))) else (none)) else (none))) else (none)) else (none))) else (none)) = some r := by rw [if_neg (show ¬ (false = true) by decide)] at H; exact H
                  clear H
                  have H := H1
                  clear H1
                  by_cases c15 : t128 = 0
                  · rw [if_pos c15] at H
                    have c15b0 : (t128 == 0) = true := beq_iff_eq.mpr c15
                    have c15b1 : (t128 != 0) = false := bne_eq_false_iff_eq.mpr c15
                    clear c15
                    obtain ⟨y135, hy135⟩ : ∃ y_ : List (S42), y_ = (([(⟨0, 1440⟩ : S42)] : List (S42))) := ⟨_, rfl⟩
                    replace H : ((sizarref22_SameSpans.f k t127 y135).bind fun t138 => (if t138 = true then (if t132 = 1 then ((meeting_Check.f ([] : List (S38))).bind fun t139 => (if t139 = 0 then (if y113.length + y113.length < 3518437208883 then ((meeting_Check.f (y113 ++ y113)).bind fun t143 => (some (t143 == 220))) else (none)) else (none))) else (none)) else (none))) = some r := by first | (rw [hy135]; with_reducible exact H) | (have H2_ := (Option.bind_some _ _).symm.trans H; rw [hy135]; with_reducible exact H2_) | (have H2_ := (Option.bind_some _ _).symm.trans H; with_reducible exact H2_) | with_reducible exact H | (rw [hy135]; exact H) | exact H
                    have Ny135 := Aside0.mk hy135
                    clear hy135
                    replace H := Option.bind_eq_some_iff.mp H
                    obtain ⟨t138, A160, H⟩ := H
                    replace H : (if t138 = true then (if t132 = 1 then ((meeting_Check.f ([] : List (S38))).bind fun t139 => (if t139 = 0 then (if y113.length + y113.length < 3518437208883 then ((meeting_Check.f (y113 ++ y113)).bind fun t143 => (some (t143 == 220))) else (none)) else (none))) else (none)) else (none)) = some r := H
                    have A16 := Aside0.mk A160
                    clear A160
                    by_cases c17 : t138 = true
                    · subst c17
                      have H1 : (if t132 = 1 then ((meeting_Check.f ([] : List (S38))).bind fun t139 => (if t139 = 0 then (if y113.length + y113.length < 3518437208883 then ((meeting_Check.f (y113 ++ y113)).bind fun t143 => (some (t143 == 220))) else (none)) else (none))) else (none)) = some r := by rw [if_pos rfl] at H; exact H
                      clear H
                      have H := H1
                      clear H1
                      by_cases c18 : t132 = 1
                      · rw [if_pos c18] at H
                        have c18b0 : (t132 == 1) = true := beq_iff_eq.mpr c18
                        have c18b1 : (t132 != 1) = false := bne_eq_false_iff_eq.mpr c18
                        clear c18
                        replace H := Option.bind_eq_some_iff.mp H
                        obtain ⟨t139, A190, H⟩ := H
                        replace H : (if t139 = 0 then (if y113.length + y113.length < 3518437208883 then ((meeting_Check.f (y113 ++ y113)).bind fun t143 => (some (t143 == 220))) else (none)) else (none)) = some r := H
                        have A19 := Aside0.mk A190
                        clear A190
                        by_cases c20 : t139 = 0
                        · rw [if_pos c20] at H
                          have c20b0 : (t139 == 0) = true := beq_iff_eq.mpr c20
                          have c20b1 : (t139 != 0) = false := bne_eq_false_iff_eq.mpr c20
                          clear c20
                          by_cases c21 : y113.length + y113.length < 3518437208883
                          · rw [if_pos c21] at H
                            have LMc21 := Aside0.mk c21
                            clear c21
                            obtain ⟨y140, hy140⟩ : ∃ y_ : List (S38), y_ = (y113 ++ y113) := ⟨_, rfl⟩
                            replace H : ((meeting_Check.f y140).bind fun t143 => (some (t143 == 220))) = some r := by first | (rw [hy140]; with_reducible exact H) | (have H2_ := (Option.bind_some _ _).symm.trans H; rw [hy140]; with_reducible exact H2_) | (have H2_ := (Option.bind_some _ _).symm.trans H; with_reducible exact H2_) | with_reducible exact H | (rw [hy140]; exact H) | exact H
                            have Ny140 := Aside0.mk hy140
                            clear hy140
                            replace H := Option.bind_eq_some_iff.mp H
                            obtain ⟨t143, A220, H⟩ := H
                            replace H : (some (t143 == 220)) = some r := H
                            have A22 := Aside0.mk A220
                            clear A220
                            obtain rfl := Option.some.inj H
                            go_enter Try.func9, Try.ntmps9
                            go_wp2_with (first | ((with_reducible refine gate_dst (N := 16) rfl ?_); (try (refine gate_guard (by rfl) ?_; dsimp only)); refine Kd.R_lit k38 _ 38 ?hg (N := 16) ?hd (xs := ([(⟨1, 510, 600, 1, 10⟩ : S38)] : List (S38))) (inner := [.int .i64 1, .int .i64 510, .int .i64 600, .int .i64 1, .int .i64 10]) (ok := fun _ => True) (okp := fun _ => True) ?hr ?hp (fun _ hk => hk) trivial (Below.refl _ _) (Nat.le_refl _) (by simp) ?_; (case hd => rfl); (case hg => rfl); (case hr => first | (go_simp; done) | (go_simp; rfl)); (case hp => exact (Reps.c5 (show Kd.M k38 _ _ _ (⟨1, 510, 600, 1, 10⟩ : S38) [.int .i64 1, .int .i64 510, .int .i64 600, .int .i64 1, .int .i64 10] from (k38_mkM _ _ _ (⟨1, 510, 600, 1, 10⟩ : S38) )) (Reps.none _ _))); intro v114 w23 ho24 hb hg_ hnew_; clear hg_ hnew_; (first | rw [← Ny113.out] at ho24 | (simp only [Int.reduceToNat] at ho24; rw [← Ny113.out] at ho24)); have n0_ := Aside0.mk (Kd.R_lower ho24 (below_size (by repeat (first | (with_reducible first | exact HB.out | apply below_alloc | apply pw_below_drewN | apply below_drew1) | exact HB.out)))); have n1_ := Aside0.mk (below_step (by repeat (first | (with_reducible first | exact HB.out | apply below_alloc | apply pw_below_drewN | apply below_drew1) | exact HB.out)) hb); clear HB; have HO115 := n0_; have HB := n1_; clear n0_ n1_; clear hb ho24) | ((with_reducible refine gate_dst (N := 18) rfl ?_); (try (refine gate_guard (by rfl) ?_; dsimp only)); refine Kd.R_lit k38 _ 38 ?hg (N := 18) ?hd (xs := ([(⟨1, 600, 700, 1, 10⟩ : S38)] : List (S38))) (inner := [.int .i64 1, .int .i64 600, .int .i64 700, .int .i64 1, .int .i64 10]) (ok := fun _ => True) (okp := fun _ => True) ?hr ?hp (fun _ hk => hk) trivial (Below.refl _ _) (Nat.le_refl _) (by simp) ?_; (case hd => rfl); (case hg => rfl); (case hr => first | (go_simp; done) | (go_simp; rfl)); (case hp => exact (Reps.c5 (show Kd.M k38 _ _ _ (⟨1, 600, 700, 1, 10⟩ : S38) [.int .i64 1, .int .i64 600, .int .i64 700, .int .i64 1, .int .i64 10] from (k38_mkM _ _ _ (⟨1, 600, 700, 1, 10⟩ : S38) )) (Reps.none _ _))); intro v117 w25 ho26 hb hg_ hnew_; clear hg_ hnew_; (first | rw [← Ny116.out] at ho26 | (simp only [Int.reduceToNat] at ho26; rw [← Ny116.out] at ho26)); have n0_ := Aside0.mk (Kd.R_elder' (by (with_reducible repeat (first | apply Kd.R_alloc | apply Kd.R_drewN | apply Kd.R_drew)); exact HO115.out) (Kd.R_base ho26) hb); have n1_ := Aside0.mk (Kd.R_lower (Kd.R_new' ho26 (Kd.R_lt (by (with_reducible repeat (first | apply Kd.R_alloc | apply Kd.R_drewN | apply Kd.R_drew)); exact HO115.out))) (below_size (by repeat (first | (with_reducible first | exact HB.out | apply below_alloc | apply pw_below_drewN | apply below_drew1) | exact HB.out)))); have n2_ := Aside0.mk (below_step (by repeat (first | (with_reducible first | exact HB.out | apply below_alloc | apply pw_below_drewN | apply below_drew1) | exact HB.out)) hb); clear HO115; clear HB; have HO115 := n0_; have HO118 := n1_; have HB := n2_; clear n0_ n1_ n2_; clear hb ho26; obtain ⟨Ao27, co27, eo27⟩ := Kd.R_slice HO115.out; subst eo27) | ((with_reducible refine gate_callee (f := 11) rfl ?_); refine goesL_ (some 21) rfl rfl Try.func11 (by kernel_rfl) rfl #[.slice Ao27 y113.length co27] rfl (by (try simp only [List.map_toArray, List.map_cons, List.map_nil]); first | done | rfl | (simp only [List.length_drop, List.length_take]; rfl)) ?_; (with_reducible refine (meeting_Minutes.calls k _ _ y113 t119 t120 _ ?side1 ?side2 A1.out).mono ?_); (case side1 => repeat (first | exact (Kd.R_reads' HO115.out).2.2 | (with_reducible refine Kd.C_alloc ?_ _) | (with_reducible refine Kd.C_drewN ?_ _) | (with_reducible refine Kd.C_drew ?_))); (case side2 => exact (Kd.R_reads' HO115.out).2.1); rintro e w28 ⟨rfl, hb⟩; refine ⟨_, rfl, ?_⟩; have n0_ := Aside0.mk (Kd.R_below (by (with_reducible repeat (first | apply Kd.R_alloc | apply Kd.R_drewN | apply Kd.R_drew)); exact HO115.out) hb); have n1_ := Aside0.mk (Kd.R_below (by (with_reducible repeat (first | apply Kd.R_alloc | apply Kd.R_drewN | apply Kd.R_drew)); exact HO118.out) hb); have n2_ := Aside0.mk (below_step (by repeat (first | (with_reducible first | exact HB.out | apply below_alloc | apply pw_below_drewN | apply below_drew1) | exact HB.out)) hb); clear HO115; clear HO118; clear HB; have HO115 := n0_; have HO118 := n1_; have HB := n2_; clear n0_ n1_ n2_; (try clear hb); (try clear hb2); (try clear hk); (try clear hi); obtain ⟨Ao29, co29, eo29⟩ := Kd.R_slice HO118.out; subst eo29) | ((with_reducible refine gate_callee (f := 16) rfl ?_); refine goesL_ (some 27) rfl rfl Try.func16 (by kernel_rfl) rfl #[.slice Ao27 y113.length co27, .slice Ao29 y116.length co29] rfl (by (try simp only [List.map_toArray, List.map_cons, List.map_nil]); first | done | rfl | (simp only [List.length_drop, List.length_take]; rfl)) ?_; (with_reducible refine (meeting_Clash.calls _ _ y113 _ _ y116 false t122 _ ?side1 ?side2 ?side3 ?side4 A2.out).mono ?_); (case side1 => repeat (first | exact (Kd.R_reads' HO115.out).2.2 | (with_reducible refine Kd.C_alloc ?_ _) | (with_reducible refine Kd.C_drewN ?_ _) | (with_reducible refine Kd.C_drew ?_))); (case side2 => exact (Kd.R_reads' HO115.out).2.1); (case side3 => repeat (first | exact (Kd.R_reads' HO118.out).2.2 | (with_reducible refine Kd.C_alloc ?_ _) | (with_reducible refine Kd.C_drewN ?_ _) | (with_reducible refine Kd.C_drew ?_))); (case side4 => exact (Kd.R_reads' HO118.out).2.1); rintro e w30 ⟨rfl, hb⟩; refine ⟨_, rfl, ?_⟩; have n0_ := Aside0.mk (Kd.R_below (by (with_reducible repeat (first | apply Kd.R_alloc | apply Kd.R_drewN | apply Kd.R_drew)); exact HO115.out) hb); have n1_ := Aside0.mk (Kd.R_below (by (with_reducible repeat (first | apply Kd.R_alloc | apply Kd.R_drewN | apply Kd.R_drew)); exact HO118.out) hb); have n2_ := Aside0.mk (below_step (by repeat (first | (with_reducible first | exact HB.out | apply below_alloc | apply pw_below_drewN | apply below_drew1) | exact HB.out)) hb); clear HO115; clear HO118; clear HB; have HO115 := n0_; have HO118 := n1_; have HB := n2_; clear n0_ n1_ n2_; (try clear hb); (try clear hb2); (try clear hk); (try clear hi)) | ((with_reducible refine gate_callee (f := 16) rfl ?_); refine goesL_ (some 33) rfl rfl Try.func16 (by kernel_rfl) rfl #[.slice Ao27 y113.length co27, .slice Ao27 y113.length co27] rfl (by (try simp only [List.map_toArray, List.map_cons, List.map_nil]); first | done | rfl | (simp only [List.length_drop, List.length_take]; rfl)) ?_; (with_reducible refine (meeting_Clash.calls _ _ y113 _ _ y113 true t124 _ ?side1 ?side2 ?side3 ?side4 A3.out).mono ?_); (case side1 => repeat (first | exact (Kd.R_reads' HO115.out).2.2 | (with_reducible refine Kd.C_alloc ?_ _) | (with_reducible refine Kd.C_drewN ?_ _) | (with_reducible refine Kd.C_drew ?_))); (case side2 => exact (Kd.R_reads' HO115.out).2.1); (case side3 => repeat (first | exact (Kd.R_reads' HO115.out).2.2 | (with_reducible refine Kd.C_alloc ?_ _) | (with_reducible refine Kd.C_drewN ?_ _) | (with_reducible refine Kd.C_drew ?_))); (case side4 => exact (Kd.R_reads' HO115.out).2.1); rintro e w31 ⟨rfl, hb⟩; refine ⟨_, rfl, ?_⟩; have n0_ := Aside0.mk (Kd.R_below (by (with_reducible repeat (first | apply Kd.R_alloc | apply Kd.R_drewN | apply Kd.R_drew)); exact HO115.out) hb); have n1_ := Aside0.mk (Kd.R_below (by (with_reducible repeat (first | apply Kd.R_alloc | apply Kd.R_drewN | apply Kd.R_drew)); exact HO118.out) hb); have n2_ := Aside0.mk (below_step (by repeat (first | (with_reducible first | exact HB.out | apply below_alloc | apply pw_below_drewN | apply below_drew1) | exact HB.out)) hb); clear HO115; clear HO118; clear HB; have HO115 := n0_; have HO118 := n1_; have HB := n2_; clear n0_ n1_ n2_; (try clear hb); (try clear hb2); (try clear hk); (try clear hi)) | ((with_reducible refine gate_callee (f := 16) rfl ?_); refine goesL_ (some 37) rfl rfl Try.func16 (by kernel_rfl) rfl #[.slice none 0 0, .slice none 0 0] rfl (by (try simp only [List.map_toArray, List.map_cons, List.map_nil]); first | done | rfl | (simp only [List.length_drop, List.length_take]; rfl)) ?_; (refine (meeting_Clash.calls _ _ ([] : List (S38)) _ _ ([] : List (S38)) false t126 _ ?side1 ?side2 ?side3 ?side4 A4.out).mono ?_); (case side1 => exact Kd.C_nil _ _); (case side2 => exact Nat.le_refl _); (case side3 => exact Kd.C_nil _ _); (case side4 => exact Nat.le_refl _); rintro e w32 ⟨rfl, hb⟩; refine ⟨_, rfl, ?_⟩; have n0_ := Aside0.mk (Kd.R_below (by (with_reducible repeat (first | apply Kd.R_alloc | apply Kd.R_drewN | apply Kd.R_drew)); exact HO115.out) hb); have n1_ := Aside0.mk (Kd.R_below (by (with_reducible repeat (first | apply Kd.R_alloc | apply Kd.R_drewN | apply Kd.R_drew)); exact HO118.out) hb); have n2_ := Aside0.mk (below_step (by repeat (first | (with_reducible first | exact HB.out | apply below_alloc | apply pw_below_drewN | apply below_drew1) | exact HB.out)) hb); clear HO115; clear HO118; clear HB; have HO115 := n0_; have HO118 := n1_; have HB := n2_; clear n0_ n1_ n2_; (try clear hb); (try clear hb2); (try clear hk); (try clear hi)) | ((with_reducible refine gate_callee (f := 13) rfl ?_); refine goesL_ (some 41) rfl rfl Try.func13 (by kernel_rfl) rfl #[.slice none 0 0, .int .i64 0, .int .i64 0] rfl (by (try simp only [List.map_toArray, List.map_cons, List.map_nil]); first | done | rfl | (simp only [List.length_drop, List.length_take]; rfl)) ?_; (refine (meeting_Free.calls _ _ ([] : List (S38)) 0 0 t127 t128 _ ?side1 ?side2 A5.out).mono ?_); (case side1 => exact Kd.C_nil _ _); (case side2 => exact Nat.le_refl _); rintro e w33 ⟨v129, rfl, ho0, hb⟩; refine ⟨_, rfl, ?_⟩; have n0_ := Aside0.mk (Kd.R_below (by (with_reducible repeat (first | apply Kd.R_alloc | apply Kd.R_drewN | apply Kd.R_drew)); exact HO115.out) hb); have n1_ := Aside0.mk (Kd.R_below (by (with_reducible repeat (first | apply Kd.R_alloc | apply Kd.R_drewN | apply Kd.R_drew)); exact HO118.out) hb); have n2_ := Aside0.mk (Kd.R_lower ho0 (below_size (by repeat (first | (with_reducible first | exact HB.out | apply below_alloc | apply pw_below_drewN | apply below_drew1) | exact HB.out)))); have n3_ := Aside0.mk (below_step (by repeat (first | (with_reducible first | exact HB.out | apply below_alloc | apply pw_below_drewN | apply below_drew1) | exact HB.out)) hb); clear HO115; clear HO118; clear HB; have HO115 := n0_; have HO118 := n1_; have HO130 := n2_; have HB := n3_; clear n0_ n1_ n2_ n3_; (try clear hb); (try clear hb2); (try clear hk); (try clear hi); (try clear ho0)) | ((with_reducible refine gate_callee (f := 13) rfl ?_); refine goesL_ (some 45) rfl rfl Try.func13 (by kernel_rfl) rfl #[.slice none 0 0, .int .i64 7, .int .i64 0] rfl (by (try simp only [List.map_toArray, List.map_cons, List.map_nil]); first | done | rfl | (simp only [List.length_drop, List.length_take]; rfl)) ?_; (refine (meeting_Free.calls _ _ ([] : List (S38)) 7 0 t131 t132 _ ?side1 ?side2 A6.out).mono ?_); (case side1 => exact Kd.C_nil _ _); (case side2 => exact Nat.le_refl _); rintro e w34 ⟨v133, rfl, ho0, hb⟩; refine ⟨_, rfl, ?_⟩; have n0_ := Aside0.mk (Kd.R_below (by (with_reducible repeat (first | apply Kd.R_alloc | apply Kd.R_drewN | apply Kd.R_drew)); exact HO115.out) hb); have n1_ := Aside0.mk (Kd.R_below (by (with_reducible repeat (first | apply Kd.R_alloc | apply Kd.R_drewN | apply Kd.R_drew)); exact HO118.out) hb); have n2_ := Aside0.mk (Kd.R_elder' (by (with_reducible repeat (first | apply Kd.R_alloc | apply Kd.R_drewN | apply Kd.R_drew)); exact HO130.out) (Kd.R_base ho0) hb); have n3_ := Aside0.mk (Kd.R_lower (Kd.R_new' ho0 (Kd.R_lt (by (with_reducible repeat (first | apply Kd.R_alloc | apply Kd.R_drewN | apply Kd.R_drew)); exact HO130.out))) (below_size (by repeat (first | (with_reducible first | exact HB.out | apply below_alloc | apply pw_below_drewN | apply below_drew1) | exact HB.out)))); have n4_ := Aside0.mk (below_step (by repeat (first | (with_reducible first | exact HB.out | apply below_alloc | apply pw_below_drewN | apply below_drew1) | exact HB.out)) hb); clear HO115; clear HO118; clear HO130; clear HB; have HO115 := n0_; have HO118 := n1_; have HO130 := n2_; have HO134 := n3_; have HB := n4_; clear n0_ n1_ n2_ n3_ n4_; (try clear hb); (try clear hb2); (try clear hk); (try clear hi); (try clear ho0)) | ((with_reducible refine gate_dst (N := 84) rfl ?_); (try (refine gate_guard (by rfl) ?_; dsimp only)); refine Kd.R_lit k42 _ 42 ?hg (N := 84) ?hd (xs := ([(⟨0, 1440⟩ : S42)] : List (S42))) (inner := [.int .i64 0, .int .i64 1440]) (ok := fun _ => True) (okp := fun _ => True) ?hr ?hp (fun _ hk => hk) trivial (Below.refl _ _) (Nat.le_refl _) (by simp) ?_; (case hd => rfl); (case hg => rfl); (case hr => first | (go_simp; done) | (go_simp; rfl)); (case hp => exact (Reps.c2 (show Kd.M k42 _ _ _ (⟨0, 1440⟩ : S42) [.int .i64 0, .int .i64 1440] from (k42_mkM _ _ _ (⟨0, 1440⟩ : S42) )) (Reps.none _ _))); intro v136 w35 ho36 hb hg_ hnew_; clear hg_ hnew_; (first | rw [← Ny135.out] at ho36 | (simp only [Int.reduceToNat] at ho36; rw [← Ny135.out] at ho36)); have n0_ := Aside0.mk (Kd.R_below (by (with_reducible repeat (first | apply Kd.R_alloc | apply Kd.R_drewN | apply Kd.R_drew)); exact HO115.out) hb); have n1_ := Aside0.mk (Kd.R_below (by (with_reducible repeat (first | apply Kd.R_alloc | apply Kd.R_drewN | apply Kd.R_drew)); exact HO118.out) hb); have n2_ := Aside0.mk (Kd.R_elder' (by (with_reducible repeat (first | apply Kd.R_alloc | apply Kd.R_drewN | apply Kd.R_drew)); exact HO130.out) (Kd.R_base ho36) hb); have n3_ := Aside0.mk (Kd.R_elder' (by (with_reducible repeat (first | apply Kd.R_alloc | apply Kd.R_drewN | apply Kd.R_drew)); exact HO134.out) (Kd.R_base ho36) hb); have n4_ := Aside0.mk (Kd.R_lower (Kd.R_new' (Kd.R_new' ho36 (Kd.R_lt (by (with_reducible repeat (first | apply Kd.R_alloc | apply Kd.R_drewN | apply Kd.R_drew)); exact HO130.out))) (Kd.R_lt (by (with_reducible repeat (first | apply Kd.R_alloc | apply Kd.R_drewN | apply Kd.R_drew)); exact HO134.out))) (below_size (by repeat (first | (with_reducible first | exact HB.out | apply below_alloc | apply pw_below_drewN | apply below_drew1) | exact HB.out)))); have n5_ := Aside0.mk (below_step (by repeat (first | (with_reducible first | exact HB.out | apply below_alloc | apply pw_below_drewN | apply below_drew1) | exact HB.out)) hb); clear HO115; clear HO118; clear HO130; clear HO134; clear HB; have HO115 := n0_; have HO118 := n1_; have HO130 := n2_; have HO134 := n3_; have HO137 := n4_; have HB := n5_; clear n0_ n1_ n2_ n3_ n4_ n5_; clear hb ho36; obtain ⟨Ao37, co37, eo37⟩ := Kd.R_slice HO130.out; subst eo37; obtain ⟨Ao38, co38, eo38⟩ := Kd.R_slice HO137.out; subst eo38) | (go_at_call 15; (with_reducible refine (sizarref22_SameSpans.calls k _ _ t127 _ _ y135 true _ ?side1 ?side2 ?side3 ?side4 A16.out).mono ?_); (case side1 => repeat (first | exact (Kd.R_reads' HO130.out).2.2 | (with_reducible refine Kd.C_alloc ?_ _) | (with_reducible refine Kd.C_drewN ?_ _) | (with_reducible refine Kd.C_drew ?_))); (case side2 => exact (Kd.R_reads' HO130.out).2.1); (case side3 => repeat (first | exact (Kd.R_reads' HO137.out).2.2 | (with_reducible refine Kd.C_alloc ?_ _) | (with_reducible refine Kd.C_drewN ?_ _) | (with_reducible refine Kd.C_drew ?_))); (case side4 => exact (Kd.R_reads' HO137.out).2.1); rintro e w' ⟨rfl, ⟨nd, rfl⟩⟩) | (go_at_call_of 17 (Value.slice none 0 0); (refine (meeting_Check.calls _ _ ([] : List (S38)) t139 _ ?side1 ?side2 A19.out).mono ?_); (case side1 => exact Kd.C_nil _ _); (case side2 => exact Nat.le_refl _); rintro e w39 ⟨rfl, hb⟩; have n0_ := Aside0.mk (Kd.R_below (by (with_reducible repeat (first | apply Kd.R_alloc | apply Kd.R_drewN | apply Kd.R_drew)); exact HO115.out) hb); have n1_ := Aside0.mk (Kd.R_below (by (with_reducible repeat (first | apply Kd.R_alloc | apply Kd.R_drewN | apply Kd.R_drew)); exact HO118.out) hb); have n2_ := Aside0.mk (Kd.R_below (by (with_reducible repeat (first | apply Kd.R_alloc | apply Kd.R_drewN | apply Kd.R_drew)); exact HO130.out) hb); have n3_ := Aside0.mk (Kd.R_below (by (with_reducible repeat (first | apply Kd.R_alloc | apply Kd.R_drewN | apply Kd.R_drew)); exact HO134.out) hb); have n4_ := Aside0.mk (Kd.R_below (by (with_reducible repeat (first | apply Kd.R_alloc | apply Kd.R_drewN | apply Kd.R_drew)); exact HO137.out) hb); have n5_ := Aside0.mk (below_step (by repeat (first | (with_reducible first | exact HB.out | apply below_alloc | apply pw_below_drewN | apply below_drew1) | exact HB.out)) hb); clear HO115; clear HO118; clear HO130; clear HO134; clear HO137; clear HB; have HO115 := n0_; have HO118 := n1_; have HO130 := n2_; have HO134 := n3_; have HO137 := n4_; have HB := n5_; clear n0_ n1_ n2_ n3_ n4_ n5_; (try clear hb); (try clear hb2); (try clear hk); (try clear hi)) | ((with_reducible refine gate_builtin (b := .append) (xs := #[.tmp 96, .tmp 97]) rfl ?_); (try (refine gate_guard (by rfl) ?_; dsimp only)); at_builtin; refine Kd.R_append_rows k38 (w0 := w) w.heap.size rfl (.tmp 96) (.tmp 97) 22 38 (.agg #[(.int .i64 0), (.int .i64 0), (.int .i64 0), (.int .i64 0), (.int .i64 0)]) 40 rfl Try.underlying22 info38 rfl (by decide) (by omega) (.slice Ao27 y113.length co27) y113 y113 _ _ _ (fun k_ => some k_ ≠ (.slice Ao29 y116.length co29 : Value).ownBlock) (fun _ => False) rfl rfl ?aO ?aR (fun _ _ h => h) (fun _ h => h.elim) ?aF ?aB ?aS ?aL ?_; (case aR => repeat (first | exact (Kd.R_reads' HO115.out).2.2 | (with_reducible refine Kd.C_alloc ?_ _) | (with_reducible refine Kd.C_drewN ?_ _) | (with_reducible refine Kd.C_drew ?_))); (case aB => exact (by repeat (first | (with_reducible first | exact HB.out | apply below_alloc | apply pw_below_drewN | apply below_drew1) | exact HB.out))); (case aF => exact (fun k_ hk => Kd.fresh' (Kd.R_lt (by (with_reducible repeat (first | apply Kd.R_alloc | apply Kd.R_drewN | apply Kd.R_drew)); exact HO118.out)) k_ hk)); (case aO => exact (by (with_reducible repeat (first | apply Kd.R_alloc | apply Kd.R_drewN | apply Kd.R_drew)); exact Kd.R_mono HO115.out (fun _ hk => hk.2))); (case aS => exact (below_size (by repeat (first | (with_reducible first | exact HB.out | apply below_alloc | apply pw_below_drewN | apply below_drew1) | exact HB.out)))); (case aL => have := LMc21.out; omega); intro v141 w40 ho hb hg hat; rw [← Ny140.out] at ho; have n0_ := Aside0.mk (Kd.R_after (ok := (fun _ => True)) (by (with_reducible repeat (first | apply Kd.R_alloc | apply Kd.R_drewN | apply Kd.R_drew)); exact HO118.out) hg hat); have n1_ := Aside0.mk (Kd.R_over' (by (with_reducible repeat (first | apply Kd.R_alloc | apply Kd.R_drewN | apply Kd.R_drew)); exact HO130.out) (Kd.R_typed (by (with_reducible repeat (first | apply Kd.R_alloc | apply Kd.R_drewN | apply Kd.R_drew)); exact HO115.out)) (by decide) hg); have n2_ := Aside0.mk (Kd.R_over' (by (with_reducible repeat (first | apply Kd.R_alloc | apply Kd.R_drewN | apply Kd.R_drew)); exact HO134.out) (Kd.R_typed (by (with_reducible repeat (first | apply Kd.R_alloc | apply Kd.R_drewN | apply Kd.R_drew)); exact HO115.out)) (by decide) hg); have n3_ := Aside0.mk (Kd.R_over' (by (with_reducible repeat (first | apply Kd.R_alloc | apply Kd.R_drewN | apply Kd.R_drew)); exact HO137.out) (Kd.R_typed (by (with_reducible repeat (first | apply Kd.R_alloc | apply Kd.R_drewN | apply Kd.R_drew)); exact HO115.out)) (by decide) hg); have n4_ := Aside0.mk (hb); have n5_ := Aside0.mk (ho); clear HO118; clear HO130; clear HO134; clear HO137; clear HB; clear HO115; have HO118 := n0_; have HO130 := n1_; have HO134 := n2_; have HO137 := n3_; have HB := n4_; have HO142 := n5_; clear n0_ n1_ n2_ n3_ n4_ n5_; clear ho hb hg hat; obtain ⟨Ao41, co41, eo41⟩ := Kd.R_slice HO142.out; subst eo41) | (go_at_call 17; (with_reducible refine (meeting_Check.calls _ _ y140 t143 _ ?side1 ?side2 A22.out).mono ?_); (case side1 => repeat (first | exact (Kd.R_reads' HO142.out).2.2 | (with_reducible refine Kd.C_alloc ?_ _) | (with_reducible refine Kd.C_drewN ?_ _) | (with_reducible refine Kd.C_drew ?_))); (case side2 => exact (Kd.R_reads' HO142.out).2.1); rintro e w42 ⟨rfl, hb⟩; have n0_ := Aside0.mk (Kd.R_below (by (with_reducible repeat (first | apply Kd.R_alloc | apply Kd.R_drewN | apply Kd.R_drew)); exact HO118.out) hb); have n1_ := Aside0.mk (Kd.R_below (by (with_reducible repeat (first | apply Kd.R_alloc | apply Kd.R_drewN | apply Kd.R_drew)); exact HO130.out) hb); have n2_ := Aside0.mk (Kd.R_below (by (with_reducible repeat (first | apply Kd.R_alloc | apply Kd.R_drewN | apply Kd.R_drew)); exact HO134.out) hb); have n3_ := Aside0.mk (Kd.R_below (by (with_reducible repeat (first | apply Kd.R_alloc | apply Kd.R_drewN | apply Kd.R_drew)); exact HO137.out) hb); have n4_ := Aside0.mk (Kd.R_below (by (with_reducible repeat (first | apply Kd.R_alloc | apply Kd.R_drewN | apply Kd.R_drew)); exact HO142.out) hb); have n5_ := Aside0.mk (below_step (by repeat (first | (with_reducible first | exact HB.out | apply below_alloc | apply pw_below_drewN | apply below_drew1) | exact HB.out)) hb); clear HO118; clear HO130; clear HO134; clear HO137; clear HO142; clear HB; have HO118 := n0_; have HO130 := n1_; have HO134 := n2_; have HO137 := n3_; have HO142 := n4_; have HB := n5_; clear n0_ n1_ n2_ n3_ n4_ n5_; (try clear hb); (try clear hb2); (try clear hk); (try clear hi)))
                            go_ret
                            exact ⟨by first | rfl | (simp [errW_none, errW_some] <;> rfl) | (simp [*, errW_none, errW_some] <;> rfl), by repeat (first | (with_reducible first | exact HB.out | apply below_alloc | apply pw_below_drewN | apply below_drew1) | exact HB.out)⟩
                          · rw [if_neg c21] at H
                            exact absurd H (by simp)
                        · rw [if_neg c20] at H
                          exact absurd H (by simp)
                      · rw [if_neg c18] at H
                        exact absurd H (by simp)
                    · replace c17 := Bool.eq_false_iff.mpr c17
                      subst c17
                      have H1 : (none) = some r := by rw [if_neg (show ¬ (false = true) by decide)] at H; exact H
                      clear H
                      have H := H1
                      clear H1
                      exact absurd H (by simp)
                  · rw [if_neg c15] at H
                    exact absurd H (by simp)
              · rw [if_neg c13] at H
                exact absurd H (by simp)
            · replace c12 := Bool.eq_false_iff.mpr c12
              subst c12
              have H1 : (none) = some r := by rw [if_neg (show ¬ (false = true) by decide)] at H; exact H
              clear H
              have H := H1
              clear H1
              exact absurd H (by simp)
          · rw [if_neg c11] at H
            exact absurd H (by simp)
      · rw [if_neg c9] at H
        exact absurd H (by simp)
    · rw [if_neg c8] at H
      exact absurd H (by simp)
  · rw [if_neg c7] at H
    exact absurd H (by simp)

end Go.Proofs.Ytlcckkimbkfjpaa.G
