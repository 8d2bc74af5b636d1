-- Printed by gp.py (ours) by way of the kit's print tool; Lean checks it.
import Derived.Test.YtlcckkimbkfjpaaGx0
import Derived.Test.YtlcckkimbkfjpaaGx3
import Derived.Test.YtlcckkimbkfjpaaGx4
import Derived.Test.YtlcckkimbkfjpaaGx5
import Derived.Test.YtlcckkimbkfjpaaGx8
import Derived.Test.YtlcckkimbkfjpaaGx9
import Derived.Test.YtlcckkimbkfjpaaGfew
import Derived.Test.YtlcckkimbkfjpaaGfree
namespace Go.Proofs.Ytlcckkimbkfjpaa.G
open Go.RowKit Go.Proofs.YtlcckkimbkfjpaaW.PrintWords Go.Proofs.YtlcckkimbkfjpaaW.PrintLast Go.Proofs.YtlcckkimbkfjpaaW.PrintMore
attribute [local go_sem] max2_int min2_int max_two min_two max_three min_three max_four min_four   -- for this text's walks alone
set_option linter.unusedVariables false
set_option linter.unusedSimpArgs false

/-! ### sizarlaw22_MeetingFreeSpec: function 3 -/
def sizarlaw22_MeetingFreeSpec.f (k : Nat) (l0 : List (S38)) (a1 : Int) (a2 : Int) : Option (Bool) := (sizarlaw22_sane.f k).bind fun t172 => (if t172 = true then ((few1.f l0).bind fun t173 => (if t173 = true then ((meeting_Minutes.f k l0).bind fun bt174 => ((sizarref22_Minutes.f k l0).bind fun bt176 => ((meeting_Free.f l0 a1 a2).bind fun bt178 => ((sizarref22_Free.f k l0 a1 a2).bind fun bt182 => (if bt174.1 = bt176.1 then (if bt174.2 = bt176.2 then ((sizarref22_SameSpans.f k bt178.1 bt182.1).bind fun t186 => (if t186 = true then (some (bt178.2 == bt182.2)) else (none))) else (none)) else (none)))))) else (some true))) else (none))
theorem sizarlaw22_MeetingFreeSpec.mono : ∀ a0 a1 a2 k, LeO (sizarlaw22_MeetingFreeSpec.f k a0 a1 a2) (sizarlaw22_MeetingFreeSpec.f (k + 1) a0 a1 a2) := by
  intro a0 a1 a2 k
  unfold sizarlaw22_MeetingFreeSpec.f
  repeat' first
      | (with_reducible exact meeting_Minutes.mono _ _)
      | (with_reducible exact sizarlaw22_sane.mono _)
      | (with_reducible exact sizarref22_Free.mono _ _ _ _)
      | (with_reducible exact sizarref22_Minutes.mono _ _)
      | (with_reducible exact sizarref22_SameSpans.mono _ _ _)
      | (with_reducible exact LeO.refl _)
      | (with_reducible exact LeO.none _)
      | (with_reducible refine LeO.ite ?_ ?_)
      | (with_reducible refine LeO.bind ?_ (fun _ => ?_))
      | exact meeting_Minutes.mono _ _
      | exact sizarlaw22_sane.mono _
      | exact sizarref22_Free.mono _ _ _ _
      | exact sizarref22_Minutes.mono _ _
      | exact sizarref22_SameSpans.mono _ _ _
      | exact LeO.none _
      | refine LeO.ite ?_ ?_
      | refine LeO.bind ?_ (fun _ => ?_)
set_option maxHeartbeats 8000000 in
set_option maxRecDepth 100000 in
theorem sizarlaw22_MeetingFreeSpec.calls (k : Nat) (A0 : Option Addr) (c0 : Nat) (l0 : List (S38)) (a1 : Int) (a2 : Int) (r : Bool) (w : World) (hr0 : Kd.C k38 w A0 l0.length l0) (hc0 : l0.length ≤ c0) (h : sizarlaw22_MeetingFreeSpec.f k l0 a1 a2 = some r) :
    Calls Try.prog 3 #[.slice A0 l0.length c0, .int .i64 a1, .int .i64 a2] w fun e w' => e = .returned (.bool r) ∧ Below w.heap.size w w' := by
  have HR0 := Aside0.mk hr0
  have HC0 := Aside0.mk hc0
  clear hr0 hc0
  have HB := Aside0.mk (Below.refl w.heap.size w)
  have H : ((sizarlaw22_sane.f k).bind fun t172 => (if t172 = true then ((few1.f l0).bind fun t173 => (if t173 = true then ((meeting_Minutes.f k l0).bind fun bt174 => ((sizarref22_Minutes.f k l0).bind fun bt176 => ((meeting_Free.f l0 a1 a2).bind fun bt178 => ((sizarref22_Free.f k l0 a1 a2).bind fun bt182 => (if bt174.1 = bt176.1 then (if bt174.2 = bt176.2 then ((sizarref22_SameSpans.f k bt178.1 bt182.1).bind fun t186 => (if t186 = true then (some (bt178.2 == bt182.2)) else (none))) else (none)) else (none)))))) else (some true))) else (none))) = some r := h
  clear h
  replace H := Option.bind_eq_some_iff.mp H
  obtain ⟨t172, A40, H⟩ := H
  replace H : (if t172 = true then ((few1.f l0).bind fun t173 => (if t173 = true then ((meeting_Minutes.f k l0).bind fun bt174 => ((sizarref22_Minutes.f k l0).bind fun bt176 => ((meeting_Free.f l0 a1 a2).bind fun bt178 => ((sizarref22_Free.f k l0 a1 a2).bind fun bt182 => (if bt174.1 = bt176.1 then (if bt174.2 = bt176.2 then ((sizarref22_SameSpans.f k bt178.1 bt182.1).bind fun t186 => (if t186 = true then (some (bt178.2 == bt182.2)) else (none))) else (none)) else (none)))))) else (some true))) else (none)) = some r := H
  have A4 := Aside0.mk A40
  clear A40
  by_cases c5 : t172 = true
  · subst c5
    have H1 : ((few1.f l0).bind fun t173 => (if t173 = true then ((meeting_Minutes.f k l0).bind fun bt174 => ((sizarref22_Minutes.f k l0).bind fun bt176 => ((meeting_Free.f l0 a1 a2).bind fun bt178 => ((sizarref22_Free.f k l0 a1 a2).bind fun bt182 => (if bt174.1 = bt176.1 then (if bt174.2 = bt176.2 then ((sizarref22_SameSpans.f k bt178.1 bt182.1).bind fun t186 => (if t186 = true then (some (bt178.2 == bt182.2)) else (none))) else (none)) else (none)))))) else (some true))) = some r := by rw [if_pos rfl] at H; exact H
    clear H
    have H := H1
    clear H1
    replace H := Option.bind_eq_some_iff.mp H
    obtain ⟨t173, A60, H⟩ := H
    replace H : (if t173 = true then ((meeting_Minutes.f k l0).bind fun bt174 => ((sizarref22_Minutes.f k l0).bind fun bt176 => ((meeting_Free.f l0 a1 a2).bind fun bt178 => ((sizarref22_Free.f k l0 a1 a2).bind fun bt182 => (if bt174.1 = bt176.1 then (if bt174.2 = bt176.2 then ((sizarref22_SameSpans.f k bt178.1 bt182.1).bind fun t186 => (if t186 = true then (some (bt178.2 == bt182.2)) else (none))) else (none)) else (none)))))) else (some true)) = some r := H
    have A6 := Aside0.mk A60
    clear A60
    by_cases c7 : t173 = true
    · subst c7
      have H1 : ((meeting_Minutes.f k l0).bind fun bt174 => ((sizarref22_Minutes.f k l0).bind fun bt176 => ((meeting_Free.f l0 a1 a2).bind fun bt178 => ((sizarref22_Free.f k l0 a1 a2).bind fun bt182 => (if bt174.1 = bt176.1 then (if bt174.2 = bt176.2 then ((sizarref22_SameSpans.f k bt178.1 bt182.1).bind fun t186 => (if t186 = true then (some (bt178.2 == bt182.2)) else (none))) else (none)) else (none)))))) = some r := by rw [if_pos rfl] at H; exact H
      clear H
      have H := H1
      clear H1
      replace H := Option.bind_eq_some_iff.mp H
      obtain ⟨⟨t174, t175⟩, A80, H⟩ := H
      replace H : ((sizarref22_Minutes.f k l0).bind fun bt176 => ((meeting_Free.f l0 a1 a2).bind fun bt178 => ((sizarref22_Free.f k l0 a1 a2).bind fun bt182 => (if t174 = bt176.1 then (if t175 = bt176.2 then ((sizarref22_SameSpans.f k bt178.1 bt182.1).bind fun t186 => (if t186 = true then (some (bt178.2 == bt182.2)) else (none))) else (none)) else (none))))) = some r := H
      have A8 := Aside0.mk A80
      clear A80
      replace H := Option.bind_eq_some_iff.mp H
      obtain ⟨⟨t176, t177⟩, A90, H⟩ := H
      replace H : ((meeting_Free.f l0 a1 a2).bind fun bt178 => ((sizarref22_Free.f k l0 a1 a2).bind fun bt182 => (if t174 = t176 then (if t175 = t177 then ((sizarref22_SameSpans.f k bt178.1 bt182.1).bind fun t186 => (if t186 = true then (some (bt178.2 == bt182.2)) else (none))) else (none)) else (none)))) = some r := H
      have A9 := Aside0.mk A90
      clear A90
      replace H := Option.bind_eq_some_iff.mp H
      obtain ⟨⟨t178, t179⟩, A100, H⟩ := H
      replace H : ((sizarref22_Free.f k l0 a1 a2).bind fun bt182 => (if t174 = t176 then (if t175 = t177 then ((sizarref22_SameSpans.f k t178 bt182.1).bind fun t186 => (if t186 = true then (some (t179 == bt182.2)) else (none))) else (none)) else (none))) = some r := H
      have A10 := Aside0.mk A100
      clear A100
      replace H := Option.bind_eq_some_iff.mp H
      obtain ⟨⟨t182, t183⟩, A110, H⟩ := H
      replace H : (if t174 = t176 then (if t175 = t177 then ((sizarref22_SameSpans.f k t178 t182).bind fun t186 => (if t186 = true then (some (t179 == t183)) else (none))) else (none)) else (none)) = some r := H
      have A11 := Aside0.mk A110
      clear A110
      by_cases c12 : t174 = t176
      · rw [if_pos c12] at H
        have c12b0 : (t174 == t176) = true := beq_iff_eq.mpr c12
        have c12b1 : (t174 != t176) = false := bne_eq_false_iff_eq.mpr c12
        clear c12
        by_cases c13 : t175 = t177
        · rw [if_pos c13] at H
          have c13b0 : (t175 == t177) = true := beq_iff_eq.mpr c13
          have c13b1 : (t175 != t177) = false := bne_eq_false_iff_eq.mpr c13
          clear c13
          replace H := Option.bind_eq_some_iff.mp H
          obtain ⟨t186, A140, H⟩ := H
          replace H : (if t186 = true then (some (t179 == t183)) else (none)) = some r := H
          have A14 := Aside0.mk A140
          clear A140
          by_cases c15 : t186 = true
          · subst c15
            have H1 : (some (t179 == t183)) = some r := by rw [if_pos rfl] at H; exact H
            clear H
            have H := H1
            clear H1
            obtain rfl := Option.some.inj H
            go_enter Try.func3, Try.ntmps3
            go_wp2_with (first | ((with_reducible refine gate_callee (f := 9) rfl ?_); refine goesL_ (some 15) rfl rfl Try.func9 (by kernel_rfl) rfl #[] rfl (by (try simp only [List.map_toArray, List.map_cons, List.map_nil]); first | done | rfl | (simp only [List.length_drop, List.length_take]; rfl)) ?_; (with_reducible refine (sizarlaw22_sane.calls k  true _ A4.out).mono ?_); rintro e w16 ⟨rfl, hb⟩; refine ⟨_, rfl, ?_⟩; have n0_ := Aside0.mk (below_step (by repeat (first | (with_reducible first | exact HB.out | apply below_alloc | apply pw_below_drewN | apply below_drew1) | exact HB.out)) hb); clear HB; have HB := n0_; clear n0_; (try clear hb); (try clear hb2); (try clear hk); (try clear hi)) | ((with_reducible refine gate_callee (f := 10) rfl ?_); refine goesL_ (some 19) rfl rfl Try.func10 (by kernel_rfl) rfl #[.slice (some ⟨_, 0, none⟩) 1 1] rfl (by (try simp only [List.map_toArray, List.map_cons, List.map_nil]); first | done | rfl | (simp only [List.length_drop, List.length_take]; rfl)) ?_; (with_reducible refine (few1.calls _ _ l0 true _ ?side1 ?side2 A6.out).mono ?_); (case side1 => repeat (first | exact (Kd.C_below HR0.out HB.out) | (with_reducible refine Kd.C_alloc ?_ _) | (with_reducible refine Kd.C_drewN ?_ _) | (with_reducible refine Kd.C_drew ?_))); (case side2 => exact HC0.out); rintro e w17 ⟨rfl, hb⟩; refine ⟨_, rfl, ?_⟩; have n0_ := Aside0.mk (below_step (by repeat (first | (with_reducible first | exact HB.out | apply below_alloc | apply pw_below_drewN | apply below_drew1) | exact HB.out)) hb); clear HB; have HB := n0_; clear n0_; (try clear hb); (try clear hb2); (try clear hk); (try clear hi)) | ((with_reducible refine gate_callee (f := 11) rfl ?_); refine goesL_ (some 23) rfl rfl Try.func11 (by kernel_rfl) rfl #[.slice A0 l0.length c0] rfl (by (try simp only [List.map_toArray, List.map_cons, List.map_nil]); first | done | rfl | (simp only [List.length_drop, List.length_take]; rfl)) ?_; (with_reducible refine (meeting_Minutes.calls k _ _ l0 t174 t175 _ ?side1 ?side2 A8.out).mono ?_); (case side1 => repeat (first | exact (Kd.C_below HR0.out HB.out) | (with_reducible refine Kd.C_alloc ?_ _) | (with_reducible refine Kd.C_drewN ?_ _) | (with_reducible refine Kd.C_drew ?_))); (case side2 => exact HC0.out); rintro e w18 ⟨rfl, hb⟩; refine ⟨_, rfl, ?_⟩; have n0_ := Aside0.mk (below_step (by repeat (first | (with_reducible first | exact HB.out | apply below_alloc | apply pw_below_drewN | apply below_drew1) | exact HB.out)) hb); clear HB; have HB := n0_; clear n0_; (try clear hb); (try clear hb2); (try clear hk); (try clear hi)) | ((with_reducible refine gate_callee (f := 12) rfl ?_); refine goesL_ (some 28) rfl rfl Try.func12 (by kernel_rfl) rfl #[.slice A0 l0.length c0] rfl (by (try simp only [List.map_toArray, List.map_cons, List.map_nil]); first | done | rfl | (simp only [List.length_drop, List.length_take]; rfl)) ?_; (with_reducible refine (sizarref22_Minutes.calls k _ _ l0 t176 t177 _ ?side1 ?side2 A9.out).mono ?_); (case side1 => repeat (first | exact (Kd.C_below HR0.out HB.out) | (with_reducible refine Kd.C_alloc ?_ _) | (with_reducible refine Kd.C_drewN ?_ _) | (with_reducible refine Kd.C_drew ?_))); (case side2 => exact HC0.out); rintro e w19 ⟨rfl, hb⟩; refine ⟨_, rfl, ?_⟩; have n0_ := Aside0.mk (below_step (by repeat (first | (with_reducible first | exact HB.out | apply below_alloc | apply pw_below_drewN | apply below_drew1) | exact HB.out)) hb); clear HB; have HB := n0_; clear n0_; (try clear hb); (try clear hb2); (try clear hk); (try clear hi)) | ((with_reducible refine gate_callee (f := 13) rfl ?_); refine goesL_ (some 35) rfl rfl Try.func13 (by kernel_rfl) rfl #[.slice A0 l0.length c0, .int .i64 a1, .int .i64 a2] rfl (by (try simp only [List.map_toArray, List.map_cons, List.map_nil]); first | done | rfl | (simp only [List.length_drop, List.length_take]; rfl)) ?_; (with_reducible refine (meeting_Free.calls _ _ l0 a1 a2 t178 t179 _ ?side1 ?side2 A10.out).mono ?_); (case side1 => repeat (first | exact (Kd.C_below HR0.out HB.out) | (with_reducible refine Kd.C_alloc ?_ _) | (with_reducible refine Kd.C_drewN ?_ _) | (with_reducible refine Kd.C_drew ?_))); (case side2 => exact HC0.out); rintro e w20 ⟨v180, rfl, ho0, hb⟩; refine ⟨_, rfl, ?_⟩; have n0_ := Aside0.mk (Kd.R_lower ho0 (below_size (by repeat (first | (with_reducible first | exact HB.out | apply below_alloc | apply pw_below_drewN | apply below_drew1) | exact HB.out)))); have n1_ := Aside0.mk (below_step (by repeat (first | (with_reducible first | exact HB.out | apply below_alloc | apply pw_below_drewN | apply below_drew1) | exact HB.out)) hb); clear HB; have HO181 := n0_; have HB := n1_; clear n0_ n1_; (try clear hb); (try clear hb2); (try clear hk); (try clear hi); (try clear ho0)) | ((with_reducible refine gate_callee (f := 14) rfl ?_); refine goesL_ (some 42) rfl rfl Try.func14 (by kernel_rfl) rfl #[.slice A0 l0.length c0, .int .i64 a1, .int .i64 a2] rfl (by (try simp only [List.map_toArray, List.map_cons, List.map_nil]); first | done | rfl | (simp only [List.length_drop, List.length_take]; rfl)) ?_; (with_reducible refine (sizarref22_Free.calls k _ _ l0 a1 a2 t182 t183 _ ?side1 ?side2 A11.out).mono ?_); (case side1 => repeat (first | exact (Kd.C_below HR0.out HB.out) | (with_reducible refine Kd.C_alloc ?_ _) | (with_reducible refine Kd.C_drewN ?_ _) | (with_reducible refine Kd.C_drew ?_))); (case side2 => exact HC0.out); rintro e w21 ⟨v184, rfl, ho0, hb⟩; refine ⟨_, rfl, ?_⟩; have n0_ := Aside0.mk (Kd.R_elder' (by (with_reducible repeat (first | apply Kd.R_alloc | apply Kd.R_drewN | apply Kd.R_drew)); exact HO181.out) (Kd.R_base ho0) hb); have n1_ := Aside0.mk (Kd.R_lower (Kd.R_new' ho0 (Kd.R_lt (by (with_reducible repeat (first | apply Kd.R_alloc | apply Kd.R_drewN | apply Kd.R_drew)); exact HO181.out))) (below_size (by repeat (first | (with_reducible first | exact HB.out | apply below_alloc | apply pw_below_drewN | apply below_drew1) | exact HB.out)))); have n2_ := Aside0.mk (below_step (by repeat (first | (with_reducible first | exact HB.out | apply below_alloc | apply pw_below_drewN | apply below_drew1) | exact HB.out)) hb); clear HO181; clear HB; have HO181 := n0_; have HO185 := n1_; have HB := n2_; clear n0_ n1_ n2_; (try clear hb); (try clear hb2); (try clear hk); (try clear hi); (try clear ho0); obtain ⟨Ao22, co22, eo22⟩ := Kd.R_slice HO181.out; subst eo22; obtain ⟨Ao23, co23, eo23⟩ := Kd.R_slice HO185.out; subst eo23) | (go_at_call 15; (with_reducible refine (sizarref22_SameSpans.calls k _ _ t178 _ _ t182 true _ ?side1 ?side2 ?side3 ?side4 A14.out).mono ?_); (case side1 => repeat (first | exact (Kd.R_reads' HO181.out).2.2 | (with_reducible refine Kd.C_alloc ?_ _) | (with_reducible refine Kd.C_drewN ?_ _) | (with_reducible refine Kd.C_drew ?_))); (case side2 => exact (Kd.R_reads' HO181.out).2.1); (case side3 => repeat (first | exact (Kd.R_reads' HO185.out).2.2 | (with_reducible refine Kd.C_alloc ?_ _) | (with_reducible refine Kd.C_drewN ?_ _) | (with_reducible refine Kd.C_drew ?_))); (case side4 => exact (Kd.R_reads' HO185.out).2.1); rintro e w' ⟨rfl, ⟨nd, rfl⟩⟩))
            go_ret
            exact ⟨by first | rfl | (simp [errW_none, errW_some] <;> rfl) | (simp [*, errW_none, errW_some] <;> rfl), by repeat (first | (with_reducible first | exact HB.out | apply below_alloc | apply pw_below_drewN | apply below_drew1) | exact HB.out)⟩
          · replace c15 := Bool.eq_false_iff.mpr c15
            subst c15
            have H1 : (none) = some r := by rw [if_neg (show ¬ (false = true) by decide)] at H; exact H
            clear H
            have H := H1
            clear H1
            exact absurd H (by simp)
        · rw [if_neg c13] at H
          exact absurd H (by simp)
      · rw [if_neg c12] at H
        exact absurd H (by simp)
    · replace c7 := Bool.eq_false_iff.mpr c7
      subst c7
      have H1 : (some true) = some r := by rw [if_neg (show ¬ (false = true) by decide)] at H; exact H
      clear H
      have H := H1
      clear H1
      obtain rfl := Option.some.inj H
      go_enter Try.func3, Try.ntmps3
      go_wp2_with (first | ((with_reducible refine gate_callee (f := 9) rfl ?_); refine goesL_ (some 15) rfl rfl Try.func9 (by kernel_rfl) rfl #[] rfl (by (try simp only [List.map_toArray, List.map_cons, List.map_nil]); first | done | rfl | (simp only [List.length_drop, List.length_take]; rfl)) ?_; (with_reducible refine (sizarlaw22_sane.calls k  true _ A4.out).mono ?_); rintro e w24 ⟨rfl, hb⟩; refine ⟨_, rfl, ?_⟩; have n0_ := Aside0.mk (below_step (by repeat (first | (with_reducible first | exact HB.out | apply below_alloc | apply pw_below_drewN | apply below_drew1) | exact HB.out)) hb); clear HB; have HB := n0_; clear n0_; (try clear hb); (try clear hb2); (try clear hk); (try clear hi)) | ((with_reducible refine gate_callee (f := 10) rfl ?_); refine goesL_ (some 19) rfl rfl Try.func10 (by kernel_rfl) rfl #[.slice (some ⟨_, 0, none⟩) 1 1] rfl (by (try simp only [List.map_toArray, List.map_cons, List.map_nil]); first | done | rfl | (simp only [List.length_drop, List.length_take]; rfl)) ?_; (with_reducible refine (few1.calls _ _ l0 false _ ?side1 ?side2 A6.out).mono ?_); (case side1 => repeat (first | exact (Kd.C_below HR0.out HB.out) | (with_reducible refine Kd.C_alloc ?_ _) | (with_reducible refine Kd.C_drewN ?_ _) | (with_reducible refine Kd.C_drew ?_))); (case side2 => exact HC0.out); rintro e w25 ⟨rfl, hb⟩; refine ⟨_, rfl, ?_⟩; have n0_ := Aside0.mk (below_step (by repeat (first | (with_reducible first | exact HB.out | apply below_alloc | apply pw_below_drewN | apply below_drew1) | exact HB.out)) hb); clear HB; have HB := n0_; clear n0_; (try clear hb); (try clear hb2); (try clear hk); (try clear hi)))
      go_ret
      exact ⟨by first | rfl | (simp [errW_none, errW_some] <;> rfl) | (simp [*, errW_none, errW_some] <;> rfl), by repeat (first | (with_reducible first | exact HB.out | apply below_alloc | apply pw_below_drewN | apply below_drew1) | exact HB.out)⟩
  · replace c5 := Bool.eq_false_iff.mpr c5
    subst c5
    have H1 : (none) = some r := by rw [if_neg (show ¬ (false = true) by decide)] at H; exact H
    clear H
    have H := H1
    clear H1
    exact absurd H (by simp)

end Go.Proofs.Ytlcckkimbkfjpaa.G
