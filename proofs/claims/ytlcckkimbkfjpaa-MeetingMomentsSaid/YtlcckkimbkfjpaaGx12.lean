-- Printed by gp.py (ours) by way of the kit's print tool; Lean checks it.
import Derived.Test.YtlcckkimbkfjpaaGx0
import Derived.Test.YtlcckkimbkfjpaaGx5
import Derived.Test.YtlcckkimbkfjpaaGx11
import Derived.Test.YtlcckkimbkfjpaaGcheck
import Derived.Test.YtlcckkimbkfjpaaGclash
import Derived.Test.YtlcckkimbkfjpaaGfew
namespace Go.Proofs.Ytlcckkimbkfjpaa.G
open Go.RowKit Go.Proofs.YtlcckkimbkfjpaaW.PrintWords Go.Proofs.YtlcckkimbkfjpaaW.PrintLast Go.Proofs.YtlcckkimbkfjpaaW.PrintMore
attribute [local go_sem] max2_int min2_int max_two min_two max_three min_three max_four min_four   -- for this text's walks alone
set_option linter.unusedVariables false
set_option linter.unusedSimpArgs false

/-! ### sizarlaw22_MeetingMoments: function 4 -/
mutual
def sizarlaw22_MeetingMoments.j0 : Nat → List (S38) → List (S38) → Bool → Bool → Option (Bool)
  | 0, _, _, _, _ => none
  | k + 1, x0, x1, x11, x65 => if x65 = true then (none) else ((some (([] : List (S38)) : List (S38))).bind fun y197 => (if y197.length + x0.length < 3518437208883 then ((some (y197 ++ x0 : List (S38))).bind fun y200 => (if y200.length + x1.length < 3518437208883 then ((some (y200 ++ x1 : List (S38))).bind fun y203 => (sizarlaw22_MeetingMoments.l0 k x0 x1 x11 y203 false y203 (y203.length : Int) 0)) else (none))) else (none)))
def sizarlaw22_MeetingMoments.l0 : Nat → List (S38) → List (S38) → Bool → List (S38) → Bool → List (S38) → Int → Int → Option (Bool)
  | 0, _, _, _, _, _, _, _, _ => none
  | k + 1, x0, x1, x11, x13, x14, x71, x72, x73 => if x73 < x72 then (if 0 ≤ x73 then (if x73 < (x71.length : Int) then (sizarlaw22_MeetingMoments.l1 k x0 x1 x11 x13 x14 x71 x72 x73 x13 (x13.length : Int) 0 ((rd_T38 x71 x73).f0) ((rd_T38 x71 x73).f1) ((rd_T38 x71 x73).f2) ((rd_T38 x71 x73).f3) ((rd_T38 x71 x73).f4)) else (none)) else (none)) else (some (x14 == x11))
def sizarlaw22_MeetingMoments.l1 : Nat → List (S38) → List (S38) → Bool → List (S38) → Bool → List (S38) → Int → Int → List (S38) → Int → Int → Int → Int → Int → Int → Int → Option (Bool)
  | 0, _, _, _, _, _, _, _, _, _, _, _, _, _, _, _, _ => none
  | k + 1, x0, x1, x11, x13, x14, x71, x72, x73, x77, x78, x79, x208000, x208001, x208002, x208003, x208004 => if x79 < x78 then (if 0 ≤ x79 then (if x79 < (x77.length : Int) then (if x14 = true then (sizarlaw22_MeetingMoments.l1 k x0 x1 x11 x13 true x71 x72 x73 x77 x78 (wrap64 (x79 + 1)) x208000 x208001 x208002 x208003 x208004) else ((sizarlaw22_covered.f k x0 x208000 ((rd_T38 x77 x79).f3) x208001).bind fun t210 => (if t210 = true then ((sizarlaw22_covered.f k x1 x208000 ((rd_T38 x77 x79).f3) x208001).bind fun t211 => (sizarlaw22_MeetingMoments.l1 k x0 x1 x11 x13 t211 x71 x72 x73 x77 x78 (wrap64 (x79 + 1)) x208000 x208001 x208002 x208003 x208004)) else (sizarlaw22_MeetingMoments.l1 k x0 x1 x11 x13 false x71 x72 x73 x77 x78 (wrap64 (x79 + 1)) x208000 x208001 x208002 x208003 x208004)))) else (none)) else (none)) else (sizarlaw22_MeetingMoments.l0 k x0 x1 x11 x13 x14 x71 x72 (wrap64 (x73 + 1)))
end
def sizarlaw22_MeetingMoments.f (k : Nat) (l0 : List (S38)) (l1 : List (S38)) (a2 : Int) (a3 : Int) (a4 : Int) : Option (Bool) := (sizarlaw22_sane.f k).bind fun t189 => (if t189 = true then ((few2.f l0 l1).bind fun t190 => (if t190 = true then ((meeting_Clash.f l0 l1).bind fun bt191 => (if bt191.2 = 0 then ((sizarlaw22_covered.f k l0 a2 a3 a4).bind fun t195 => (if t195 = true then ((sizarlaw22_covered.f k l1 a2 a3 a4).bind fun t196 => (if t196 = true then (sizarlaw22_MeetingMoments.j0 k l0 l1 bt191.1 (!bt191.1)) else (sizarlaw22_MeetingMoments.j0 k l0 l1 bt191.1 false))) else (sizarlaw22_MeetingMoments.j0 k l0 l1 bt191.1 false))) else (if bt191.2 = 220 then (if bt191.1 = true then (none) else ((meeting_Check.f l0).bind fun t193 => (if t193 = 0 then ((meeting_Check.f l1).bind fun t194 => (some (t194 != 0))) else (some true)))) else (none)))) else (some true))) else (none))
theorem sizarlaw22_MeetingMoments.mono_l : ∀ k, (∀ y0 y1 y2 y3, LeO (sizarlaw22_MeetingMoments.j0 k y0 y1 y2 y3) (sizarlaw22_MeetingMoments.j0 (k + 1) y0 y1 y2 y3)) ∧ (∀ y0 y1 y2 y3 y4 y5 y6 y7, LeO (sizarlaw22_MeetingMoments.l0 k y0 y1 y2 y3 y4 y5 y6 y7) (sizarlaw22_MeetingMoments.l0 (k + 1) y0 y1 y2 y3 y4 y5 y6 y7)) ∧ (∀ y0 y1 y2 y3 y4 y5 y6 y7 y8 y9 y10 y11 y12 y13 y14 y15, LeO (sizarlaw22_MeetingMoments.l1 k y0 y1 y2 y3 y4 y5 y6 y7 y8 y9 y10 y11 y12 y13 y14 y15) (sizarlaw22_MeetingMoments.l1 (k + 1) y0 y1 y2 y3 y4 y5 y6 y7 y8 y9 y10 y11 y12 y13 y14 y15))
  | 0 => ⟨fun _ _ _ _ r h => by simp [sizarlaw22_MeetingMoments.j0] at h, fun _ _ _ _ _ _ _ _ r h => by simp [sizarlaw22_MeetingMoments.l0] at h, fun _ _ _ _ _ _ _ _ _ _ _ _ _ _ _ _ r h => by simp [sizarlaw22_MeetingMoments.l1] at h⟩
  | k + 1 => by
    obtain ⟨ih0, ih1, ih2⟩ := sizarlaw22_MeetingMoments.mono_l k
    refine ⟨?_, ?_, ?_⟩
    · intro y0 y1 y2 y3
      unfold sizarlaw22_MeetingMoments.j0
      repeat' first
      | (with_reducible exact ih0 _ _ _ _)
      | (with_reducible exact ih1 _ _ _ _ _ _ _ _)
      | (with_reducible exact ih2 _ _ _ _ _ _ _ _ _ _ _ _ _ _ _ _)
      | (with_reducible exact sizarlaw22_covered.mono _ _ _ _ _)
      | (with_reducible exact sizarlaw22_sane.mono _)
      | (with_reducible exact LeO.refl _)
      | (with_reducible exact LeO.none _)
      | (with_reducible refine LeO.ite ?_ ?_)
      | (with_reducible refine LeO.bind ?_ (fun _ => ?_))
      | exact ih0 _ _ _ _
      | exact ih1 _ _ _ _ _ _ _ _
      | exact ih2 _ _ _ _ _ _ _ _ _ _ _ _ _ _ _ _
      | exact sizarlaw22_covered.mono _ _ _ _ _
      | exact sizarlaw22_sane.mono _
      | exact LeO.none _
      | refine LeO.ite ?_ ?_
      | refine LeO.bind ?_ (fun _ => ?_)
    · intro y0 y1 y2 y3 y4 y5 y6 y7
      unfold sizarlaw22_MeetingMoments.l0
      repeat' first
      | (with_reducible exact ih0 _ _ _ _)
      | (with_reducible exact ih1 _ _ _ _ _ _ _ _)
      | (with_reducible exact ih2 _ _ _ _ _ _ _ _ _ _ _ _ _ _ _ _)
      | (with_reducible exact sizarlaw22_covered.mono _ _ _ _ _)
      | (with_reducible exact sizarlaw22_sane.mono _)
      | (with_reducible exact LeO.refl _)
      | (with_reducible exact LeO.none _)
      | (with_reducible refine LeO.ite ?_ ?_)
      | (with_reducible refine LeO.bind ?_ (fun _ => ?_))
      | exact ih0 _ _ _ _
      | exact ih1 _ _ _ _ _ _ _ _
      | exact ih2 _ _ _ _ _ _ _ _ _ _ _ _ _ _ _ _
      | exact sizarlaw22_covered.mono _ _ _ _ _
      | exact sizarlaw22_sane.mono _
      | exact LeO.none _
      | refine LeO.ite ?_ ?_
      | refine LeO.bind ?_ (fun _ => ?_)
    · intro y0 y1 y2 y3 y4 y5 y6 y7 y8 y9 y10 y11 y12 y13 y14 y15
      unfold sizarlaw22_MeetingMoments.l1
      repeat' first
      | (with_reducible exact ih0 _ _ _ _)
      | (with_reducible exact ih1 _ _ _ _ _ _ _ _)
      | (with_reducible exact ih2 _ _ _ _ _ _ _ _ _ _ _ _ _ _ _ _)
      | (with_reducible exact sizarlaw22_covered.mono _ _ _ _ _)
      | (with_reducible exact sizarlaw22_sane.mono _)
      | (with_reducible exact LeO.refl _)
      | (with_reducible exact LeO.none _)
      | (with_reducible refine LeO.ite ?_ ?_)
      | (with_reducible refine LeO.bind ?_ (fun _ => ?_))
      | exact ih0 _ _ _ _
      | exact ih1 _ _ _ _ _ _ _ _
      | exact ih2 _ _ _ _ _ _ _ _ _ _ _ _ _ _ _ _
      | exact sizarlaw22_covered.mono _ _ _ _ _
      | exact sizarlaw22_sane.mono _
      | exact LeO.none _
      | refine LeO.ite ?_ ?_
      | refine LeO.bind ?_ (fun _ => ?_)
theorem sizarlaw22_MeetingMoments.mono : ∀ a0 a1 a2 a3 a4 k, LeO (sizarlaw22_MeetingMoments.f k a0 a1 a2 a3 a4) (sizarlaw22_MeetingMoments.f (k + 1) a0 a1 a2 a3 a4) := by
  intro a0 a1 a2 a3 a4 k
  obtain ⟨ih0, ih1, ih2⟩ := sizarlaw22_MeetingMoments.mono_l k
  unfold sizarlaw22_MeetingMoments.f
  repeat' first
      | (with_reducible exact ih0 _ _ _ _)
      | (with_reducible exact ih1 _ _ _ _ _ _ _ _)
      | (with_reducible exact ih2 _ _ _ _ _ _ _ _ _ _ _ _ _ _ _ _)
      | (with_reducible exact sizarlaw22_covered.mono _ _ _ _ _)
      | (with_reducible exact sizarlaw22_sane.mono _)
      | (with_reducible exact LeO.refl _)
      | (with_reducible exact LeO.none _)
      | (with_reducible refine LeO.ite ?_ ?_)
      | (with_reducible refine LeO.bind ?_ (fun _ => ?_))
      | exact ih0 _ _ _ _
      | exact ih1 _ _ _ _ _ _ _ _
      | exact ih2 _ _ _ _ _ _ _ _ _ _ _ _ _ _ _ _
      | exact sizarlaw22_covered.mono _ _ _ _ _
      | exact sizarlaw22_sane.mono _
      | exact LeO.none _
      | refine LeO.ite ?_ ?_
      | refine LeO.bind ?_ (fun _ => ?_)
set_option maxHeartbeats 8000000 in
set_option maxRecDepth 100000 in
theorem sizarlaw22_MeetingMoments.calls (k : Nat) (A0 : Option Addr) (c0 : Nat) (l0 : List (S38)) (A1 : Option Addr) (c1 : Nat) (l1 : List (S38)) (a2 : Int) (a3 : Int) (a4 : Int) (r : Bool) (w : World) (hr0 : Kd.C k38 w A0 l0.length l0) (hc0 : l0.length ≤ c0) (hr1 : Kd.C k38 w A1 l1.length l1) (hc1 : l1.length ≤ c1) (h : sizarlaw22_MeetingMoments.f k l0 l1 a2 a3 a4 = some r) :
    Calls Try.prog 4 #[.slice A0 l0.length c0, .slice A1 l1.length c1, .int .i64 a2, .int .i64 a3, .int .i64 a4] w fun e w' => e = .returned (.bool r) ∧ Below w.heap.size w w' := by
  have hu38 := Try.underlying38
  have HR0 := Aside0.mk hr0
  have HC0 := Aside0.mk hc0
  clear hr0 hc0
  have HR1 := Aside0.mk hr1
  have HC1 := Aside0.mk hc1
  clear hr1 hc1
  have HB := Aside0.mk (Below.refl w.heap.size w)
  have H : ((sizarlaw22_sane.f k).bind fun t189 => (if t189 = true then ((few2.f l0 l1).bind fun t190 => (if t190 = true then ((meeting_Clash.f l0 l1).bind fun bt191 => (if bt191.2 = 0 then ((sizarlaw22_covered.f k l0 a2 a3 a4).bind fun t195 => (if t195 = true then ((sizarlaw22_covered.f k l1 a2 a3 a4).bind fun t196 => (if t196 = true then (sizarlaw22_MeetingMoments.j0 k l0 l1 bt191.1 (!bt191.1)) else (sizarlaw22_MeetingMoments.j0 k l0 l1 bt191.1 false))) else (sizarlaw22_MeetingMoments.j0 k l0 l1 bt191.1 false))) else (if bt191.2 = 220 then (if bt191.1 = true then (none) else ((meeting_Check.f l0).bind fun t193 => (if t193 = 0 then ((meeting_Check.f l1).bind fun t194 => (some (t194 != 0))) else (some true)))) else (none)))) else (some true))) else (none))) = some r := h
  clear h
  replace H := Option.bind_eq_some_iff.mp H
  obtain ⟨t189, A60, H⟩ := H
  replace H : (if t189 = true then ((few2.f l0 l1).bind fun t190 => (if t190 = true then ((meeting_Clash.f l0 l1).bind fun bt191 => (if bt191.2 = 0 then ((sizarlaw22_covered.f k l0 a2 a3 a4).bind fun t195 => (if t195 = true then ((sizarlaw22_covered.f k l1 a2 a3 a4).bind fun t196 => (if t196 = true then (sizarlaw22_MeetingMoments.j0 k l0 l1 bt191.1 (!bt191.1)) else (sizarlaw22_MeetingMoments.j0 k l0 l1 bt191.1 false))) else (sizarlaw22_MeetingMoments.j0 k l0 l1 bt191.1 false))) else (if bt191.2 = 220 then (if bt191.1 = true then (none) else ((meeting_Check.f l0).bind fun t193 => (if t193 = 0 then ((meeting_Check.f l1).bind fun t194 => (some (t194 != 0))) else (some true)))) else (none)))) else (some true))) else (none)) = some r := H
  have A6 := Aside0.mk A60
  clear A60
  by_cases c7 : t189 = true
  · subst c7
    have H1 : ((few2.f l0 l1).bind fun t190 => (if t190 = true then ((meeting_Clash.f l0 l1).bind fun bt191 => (if bt191.2 = 0 then ((sizarlaw22_covered.f k l0 a2 a3 a4).bind fun t195 => (if t195 = true then ((sizarlaw22_covered.f k l1 a2 a3 a4).bind fun t196 => (if t196 = true then (sizarlaw22_MeetingMoments.j0 k l0 l1 bt191.1 (!bt191.1)) else (sizarlaw22_MeetingMoments.j0 k l0 l1 bt191.1 false))) else (sizarlaw22_MeetingMoments.j0 k l0 l1 bt191.1 false))) else (if bt191.2 = 220 then (if bt191.1 = true then (none) else ((meeting_Check.f l0).bind fun t193 => (if t193 = 0 then ((meeting_Check.f l1).bind fun t194 => (some (t194 != 0))) else (some true)))) else (none)))) else (some true))) = some r := by rw [if_pos rfl] at H; exact H
    clear H
    have H := H1
    clear H1
    replace H := Option.bind_eq_some_iff.mp H
    obtain ⟨t190, A80, H⟩ := H
    replace H : (if t190 = true then ((meeting_Clash.f l0 l1).bind fun bt191 => (if bt191.2 = 0 then ((sizarlaw22_covered.f k l0 a2 a3 a4).bind fun t195 => (if t195 = true then ((sizarlaw22_covered.f k l1 a2 a3 a4).bind fun t196 => (if t196 = true then (sizarlaw22_MeetingMoments.j0 k l0 l1 bt191.1 (!bt191.1)) else (sizarlaw22_MeetingMoments.j0 k l0 l1 bt191.1 false))) else (sizarlaw22_MeetingMoments.j0 k l0 l1 bt191.1 false))) else (if bt191.2 = 220 then (if bt191.1 = true then (none) else ((meeting_Check.f l0).bind fun t193 => (if t193 = 0 then ((meeting_Check.f l1).bind fun t194 => (some (t194 != 0))) else (some true)))) else (none)))) else (some true)) = some r := H
    have A8 := Aside0.mk A80
    clear A80
    by_cases c9 : t190 = true
    · subst c9
      have H1 : ((meeting_Clash.f l0 l1).bind fun bt191 => (if bt191.2 = 0 then ((sizarlaw22_covered.f k l0 a2 a3 a4).bind fun t195 => (if t195 = true then ((sizarlaw22_covered.f k l1 a2 a3 a4).bind fun t196 => (if t196 = true then (sizarlaw22_MeetingMoments.j0 k l0 l1 bt191.1 (!bt191.1)) else (sizarlaw22_MeetingMoments.j0 k l0 l1 bt191.1 false))) else (sizarlaw22_MeetingMoments.j0 k l0 l1 bt191.1 false))) else (if bt191.2 = 220 then (if bt191.1 = true then (none) else ((meeting_Check.f l0).bind fun t193 => (if t193 = 0 then ((meeting_Check.f l1).bind fun t194 => (some (t194 != 0))) else (some true)))) else (none)))) = some r := by rw [if_pos rfl] at H; exact H
      clear H
      have H := H1
      clear H1
      replace H := Option.bind_eq_some_iff.mp H
      obtain ⟨⟨t191, t192⟩, A100, H⟩ := H
      replace H : (if t192 = 0 then ((sizarlaw22_covered.f k l0 a2 a3 a4).bind fun t195 => (if t195 = true then ((sizarlaw22_covered.f k l1 a2 a3 a4).bind fun t196 => (if t196 = true then (sizarlaw22_MeetingMoments.j0 k l0 l1 t191 (!t191)) else (sizarlaw22_MeetingMoments.j0 k l0 l1 t191 false))) else (sizarlaw22_MeetingMoments.j0 k l0 l1 t191 false))) else (if t192 = 220 then (if t191 = true then (none) else ((meeting_Check.f l0).bind fun t193 => (if t193 = 0 then ((meeting_Check.f l1).bind fun t194 => (some (t194 != 0))) else (some true)))) else (none))) = some r := H
      have A10 := Aside0.mk A100
      clear A100
      by_cases c11 : t192 = 0
      · rw [if_pos c11] at H
        have c11b0 : (t192 == 0) = true := beq_iff_eq.mpr c11
        have c11b1 : (t192 != 0) = false := bne_eq_false_iff_eq.mpr c11
        clear c11
        have HC12 := Aside0.mk H
        clear H
        go_enter Try.func4, Try.ntmps4
        go_upto_region 8 with (first | ((with_reducible refine gate_callee (f := 9) rfl ?_); refine goesL_ (some 19) rfl rfl Try.func9 (by kernel_rfl) rfl #[] rfl (by (try simp only [List.map_toArray, List.map_cons, List.map_nil]); first | done | rfl | (simp only [List.length_drop, List.length_take]; rfl)) ?_; (with_reducible refine (sizarlaw22_sane.calls k  true _ A6.out).mono ?_); rintro e w13 ⟨rfl, hb⟩; refine ⟨_, rfl, ?_⟩; have n0_ := Aside0.mk (below_step (by repeat (first | (with_reducible first | exact HB.out | apply below_alloc | apply pw_below_drewN | apply below_drew1) | exact HB.out)) hb); clear HB; have HB := n0_; clear n0_; (try clear hb); (try clear hb2); (try clear hk); (try clear hi)) | ((with_reducible refine gate_callee (f := 10) rfl ?_); refine goesL_ (some 24) rfl rfl Try.func10 (by kernel_rfl) rfl #[.slice (some ⟨_, 0, none⟩) 2 2] rfl (by (try simp only [List.map_toArray, List.map_cons, List.map_nil]); first | done | rfl | (simp only [List.length_drop, List.length_take]; rfl)) ?_; (with_reducible refine (few2.calls _ _ l0 _ _ l1 true _ ?side1 ?side2 ?side3 ?side4 A8.out).mono ?_); (case side1 => repeat (first | exact (Kd.C_below HR0.out HB.out) | (with_reducible refine Kd.C_alloc ?_ _) | (with_reducible refine Kd.C_drewN ?_ _) | (with_reducible refine Kd.C_drew ?_))); (case side2 => exact HC0.out); (case side3 => repeat (first | exact (Kd.C_below HR1.out HB.out) | (with_reducible refine Kd.C_alloc ?_ _) | (with_reducible refine Kd.C_drewN ?_ _) | (with_reducible refine Kd.C_drew ?_))); (case side4 => exact HC1.out); rintro e w14 ⟨rfl, hb⟩; refine ⟨_, rfl, ?_⟩; have n0_ := Aside0.mk (below_step (by repeat (first | (with_reducible first | exact HB.out | apply below_alloc | apply pw_below_drewN | apply below_drew1) | exact HB.out)) hb); clear HB; have HB := n0_; clear n0_; (try clear hb); (try clear hb2); (try clear hk); (try clear hi)) | ((with_reducible refine gate_callee (f := 16) rfl ?_); refine goesL_ (some 29) rfl rfl Try.func16 (by kernel_rfl) rfl #[.slice A0 l0.length c0, .slice A1 l1.length c1] rfl (by (try simp only [List.map_toArray, List.map_cons, List.map_nil]); first | done | rfl | (simp only [List.length_drop, List.length_take]; rfl)) ?_; (with_reducible refine (meeting_Clash.calls _ _ l0 _ _ l1 t191 t192 _ ?side1 ?side2 ?side3 ?side4 A10.out).mono ?_); (case side1 => repeat (first | exact (Kd.C_below HR0.out HB.out) | (with_reducible refine Kd.C_alloc ?_ _) | (with_reducible refine Kd.C_drewN ?_ _) | (with_reducible refine Kd.C_drew ?_))); (case side2 => exact HC0.out); (case side3 => repeat (first | exact (Kd.C_below HR1.out HB.out) | (with_reducible refine Kd.C_alloc ?_ _) | (with_reducible refine Kd.C_drewN ?_ _) | (with_reducible refine Kd.C_drew ?_))); (case side4 => exact HC1.out); rintro e w15 ⟨rfl, hb⟩; refine ⟨_, rfl, ?_⟩; have n0_ := Aside0.mk (below_step (by repeat (first | (with_reducible first | exact HB.out | apply below_alloc | apply pw_below_drewN | apply below_drew1) | exact HB.out)) hb); clear HB; have HB := n0_; clear n0_; (try clear hb); (try clear hb2); (try clear hk); (try clear hi)))
        (try simp only [Act.put, List.setIfInBounds_toArray, List.set_cons_zero, List.set_cons_succ])
        go_cut [65] (fun v65 wc => ∃ (kq : Nat) (x65_11 : Bool), v65 = .bool x65_11 ∧ Aside0 (sizarlaw22_MeetingMoments.j0 kq l0 l1 t191 x65_11 = some r) ∧ Aside0 (kq ≤ k) ∧ Aside0 (Below w.heap.size w wc))
        case first =>
          have H := HC12.out
          clear HC12
          replace H := Option.bind_eq_some_iff.mp H
          obtain ⟨t195, A160, H⟩ := H
          replace H : (if t195 = true then ((sizarlaw22_covered.f k l1 a2 a3 a4).bind fun t196 => (if t196 = true then (sizarlaw22_MeetingMoments.j0 k l0 l1 t191 (!t191)) else (sizarlaw22_MeetingMoments.j0 k l0 l1 t191 false))) else (sizarlaw22_MeetingMoments.j0 k l0 l1 t191 false)) = some r := H
          have A16 := Aside0.mk A160
          clear A160
          by_cases c17 : t195 = true
          · subst c17
            have H1 : ((sizarlaw22_covered.f k l1 a2 a3 a4).bind fun t196 => (if t196 = true then (sizarlaw22_MeetingMoments.j0 k l0 l1 t191 (!t191)) else (sizarlaw22_MeetingMoments.j0 k l0 l1 t191 false))) = some r := by rw [if_pos rfl] at H; exact H
            clear H
            have H := H1
            clear H1
            replace H := Option.bind_eq_some_iff.mp H
            obtain ⟨t196, A180, H⟩ := H
            replace H : (if t196 = true then (sizarlaw22_MeetingMoments.j0 k l0 l1 t191 (!t191)) else (sizarlaw22_MeetingMoments.j0 k l0 l1 t191 false)) = some r := H
            have A18 := Aside0.mk A180
            clear A180
            by_cases c19 : t196 = true
            · subst c19
              have H1 : (sizarlaw22_MeetingMoments.j0 k l0 l1 t191 (!t191)) = some r := by rw [if_pos rfl] at H; exact H
              clear H
              have H := H1
              clear H1
              have H' := Aside0.mk H
              clear H
              go_wp2_with (first | ((with_reducible refine gate_callee (f := 18) rfl ?_); refine goesL_ (some 54) rfl rfl Try.func18 (by kernel_rfl) rfl #[.slice A0 l0.length c0, .int .i64 a2, .int .i64 a3, .int .i64 a4] rfl (by (try simp only [List.map_toArray, List.map_cons, List.map_nil]); first | done | rfl | (simp only [List.length_drop, List.length_take]; rfl)) ?_; (with_reducible refine (sizarlaw22_covered.calls k _ _ l0 a2 a3 a4 true _ ?side1 ?side2 A16.out).mono ?_); (case side1 => repeat (first | exact (Kd.C_below HR0.out HB.out) | (with_reducible refine Kd.C_alloc ?_ _) | (with_reducible refine Kd.C_drewN ?_ _) | (with_reducible refine Kd.C_drew ?_))); (case side2 => exact HC0.out); rintro e w20 ⟨rfl, hb⟩; refine ⟨_, rfl, ?_⟩; have n0_ := Aside0.mk (below_step (by repeat (first | (with_reducible first | exact HB.out | apply below_alloc | apply pw_below_drewN | apply below_drew1) | exact HB.out)) hb); clear HB; have HB := n0_; clear n0_; (try clear hb); (try clear hb2); (try clear hk); (try clear hi)) | (go_at_call 18; (with_reducible refine (sizarlaw22_covered.calls k _ _ l1 a2 a3 a4 true _ ?side1 ?side2 A18.out).mono ?_); (case side1 => repeat (first | exact (Kd.C_below HR1.out HB.out) | (with_reducible refine Kd.C_alloc ?_ _) | (with_reducible refine Kd.C_drewN ?_ _) | (with_reducible refine Kd.C_drew ?_))); (case side2 => exact HC1.out); rintro e w21 ⟨rfl, hb⟩; have n0_ := Aside0.mk (below_step (by repeat (first | (with_reducible first | exact HB.out | apply below_alloc | apply pw_below_drewN | apply below_drew1) | exact HB.out)) hb); clear HB; have HB := n0_; clear n0_; (try clear hb); (try clear hb2); (try clear hk); (try clear hi)))
              go_meet
              case rel => exact ⟨_, (!t191), (by first | rfl | (simp; done) | (simp [*]; done)), H', ⟨by first | omega | exact Nat.le_refl _⟩, ⟨by repeat (first | (with_reducible first | exact HB.out | apply below_alloc | apply pw_below_drewN | apply below_drew1) | exact HB.out)⟩⟩
            · replace c19 := Bool.eq_false_iff.mpr c19
              subst c19
              have H1 : (sizarlaw22_MeetingMoments.j0 k l0 l1 t191 false) = some r := by rw [if_neg (show ¬ (false = true) by decide)] at H; exact H
              clear H
              have H := H1
              clear H1
              have H' := Aside0.mk H
              clear H
              go_wp2_with (first | ((with_reducible refine gate_callee (f := 18) rfl ?_); refine goesL_ (some 54) rfl rfl Try.func18 (by kernel_rfl) rfl #[.slice A0 l0.length c0, .int .i64 a2, .int .i64 a3, .int .i64 a4] rfl (by (try simp only [List.map_toArray, List.map_cons, List.map_nil]); first | done | rfl | (simp only [List.length_drop, List.length_take]; rfl)) ?_; (with_reducible refine (sizarlaw22_covered.calls k _ _ l0 a2 a3 a4 true _ ?side1 ?side2 A16.out).mono ?_); (case side1 => repeat (first | exact (Kd.C_below HR0.out HB.out) | (with_reducible refine Kd.C_alloc ?_ _) | (with_reducible refine Kd.C_drewN ?_ _) | (with_reducible refine Kd.C_drew ?_))); (case side2 => exact HC0.out); rintro e w22 ⟨rfl, hb⟩; refine ⟨_, rfl, ?_⟩; have n0_ := Aside0.mk (below_step (by repeat (first | (with_reducible first | exact HB.out | apply below_alloc | apply pw_below_drewN | apply below_drew1) | exact HB.out)) hb); clear HB; have HB := n0_; clear n0_; (try clear hb); (try clear hb2); (try clear hk); (try clear hi)) | (go_at_call 18; (with_reducible refine (sizarlaw22_covered.calls k _ _ l1 a2 a3 a4 false _ ?side1 ?side2 A18.out).mono ?_); (case side1 => repeat (first | exact (Kd.C_below HR1.out HB.out) | (with_reducible refine Kd.C_alloc ?_ _) | (with_reducible refine Kd.C_drewN ?_ _) | (with_reducible refine Kd.C_drew ?_))); (case side2 => exact HC1.out); rintro e w23 ⟨rfl, hb⟩; have n0_ := Aside0.mk (below_step (by repeat (first | (with_reducible first | exact HB.out | apply below_alloc | apply pw_below_drewN | apply below_drew1) | exact HB.out)) hb); clear HB; have HB := n0_; clear n0_; (try clear hb); (try clear hb2); (try clear hk); (try clear hi)))
              go_meet
              case rel => exact ⟨_, (false), (by first | rfl | (simp; done) | (simp [*]; done)), H', ⟨by first | omega | exact Nat.le_refl _⟩, ⟨by repeat (first | (with_reducible first | exact HB.out | apply below_alloc | apply pw_below_drewN | apply below_drew1) | exact HB.out)⟩⟩
          · replace c17 := Bool.eq_false_iff.mpr c17
            subst c17
            have H1 : (sizarlaw22_MeetingMoments.j0 k l0 l1 t191 false) = some r := by rw [if_neg (show ¬ (false = true) by decide)] at H; exact H
            clear H
            have H := H1
            clear H1
            have H' := Aside0.mk H
            clear H
            go_wp2_with (first | ((with_reducible refine gate_callee (f := 18) rfl ?_); refine goesL_ (some 54) rfl rfl Try.func18 (by kernel_rfl) rfl #[.slice A0 l0.length c0, .int .i64 a2, .int .i64 a3, .int .i64 a4] rfl (by (try simp only [List.map_toArray, List.map_cons, List.map_nil]); first | done | rfl | (simp only [List.length_drop, List.length_take]; rfl)) ?_; (with_reducible refine (sizarlaw22_covered.calls k _ _ l0 a2 a3 a4 false _ ?side1 ?side2 A16.out).mono ?_); (case side1 => repeat (first | exact (Kd.C_below HR0.out HB.out) | (with_reducible refine Kd.C_alloc ?_ _) | (with_reducible refine Kd.C_drewN ?_ _) | (with_reducible refine Kd.C_drew ?_))); (case side2 => exact HC0.out); rintro e w24 ⟨rfl, hb⟩; refine ⟨_, rfl, ?_⟩; have n0_ := Aside0.mk (below_step (by repeat (first | (with_reducible first | exact HB.out | apply below_alloc | apply pw_below_drewN | apply below_drew1) | exact HB.out)) hb); clear HB; have HB := n0_; clear n0_; (try clear hb); (try clear hb2); (try clear hk); (try clear hi)))
            go_meet
            case rel => exact ⟨_, (false), (by first | rfl | (simp; done) | (simp [*]; done)), H', ⟨by first | omega | exact Nat.le_refl _⟩, ⟨by repeat (first | (with_reducible first | exact HB.out | apply below_alloc | apply pw_below_drewN | apply below_drew1) | exact HB.out)⟩⟩
        case rest =>
          clear HC12
          try clear c1
          try clear p2
          try clear c4
          try clear c7
          try clear c9
          try clear c10
          try clear c11
          try clear c11b0
          try clear c11b1
          try clear c16
          try clear c17
          try clear c18
          try clear c19
          obtain ⟨kq, x65_11, rfl, HA, HJ11, HB⟩ := hcut
          cases kq with
          | zero => exact absurd HA.out (by simp [sizarlaw22_MeetingMoments.j0])
          | succ kj11 =>
            have H := HA.out
            clear HA
            simp only [sizarlaw22_MeetingMoments.j0] at H
            by_cases c25 : x65_11 = true
            · subst c25
              have H1 : (none) = some r := by rw [if_pos rfl] at H; exact H
              clear H
              have H := H1
              clear H1
              exact absurd H (by simp)
            · replace c25 := Bool.eq_false_iff.mpr c25
              subst c25
              have H1 : ((some (([] : List (S38)) : List (S38))).bind fun y197 => (if y197.length + l0.length < 3518437208883 then ((some (y197 ++ l0 : List (S38))).bind fun y200 => (if y200.length + l1.length < 3518437208883 then ((some (y200 ++ l1 : List (S38))).bind fun y203 => (sizarlaw22_MeetingMoments.l0 kj11 l0 l1 t191 y203 false y203 (y203.length : Int) 0)) else (none))) else (none))) = some r := by rw [if_neg (show ¬ (false = true) by decide)] at H; exact H
              clear H
              have H := H1
              clear H1
              obtain ⟨y197, hy197⟩ : ∃ y_ : List (S38), y_ = (([] : List (S38))) := ⟨_, rfl⟩
              replace H : (if y197.length + l0.length < 3518437208883 then ((some (y197 ++ l0 : List (S38))).bind fun y200 => (if y200.length + l1.length < 3518437208883 then ((some (y200 ++ l1 : List (S38))).bind fun y203 => (sizarlaw22_MeetingMoments.l0 kj11 l0 l1 t191 y203 false y203 (y203.length : Int) 0)) else (none))) else (none)) = some r := by first | (rw [hy197]; with_reducible exact H) | (have H2_ := (Option.bind_some _ _).symm.trans H; rw [hy197]; with_reducible exact H2_) | (have H2_ := (Option.bind_some _ _).symm.trans H; with_reducible exact H2_) | with_reducible exact H | (rw [hy197]; exact H) | exact H
              have Ny197 := Aside0.mk hy197
              clear hy197
              by_cases c26 : y197.length + l0.length < 3518437208883
              · rw [if_pos c26] at H
                have LMc26 := Aside0.mk c26
                clear c26
                obtain ⟨y200, hy200⟩ : ∃ y_ : List (S38), y_ = (y197 ++ l0) := ⟨_, rfl⟩
                replace H : (if y200.length + l1.length < 3518437208883 then ((some (y200 ++ l1 : List (S38))).bind fun y203 => (sizarlaw22_MeetingMoments.l0 kj11 l0 l1 t191 y203 false y203 (y203.length : Int) 0)) else (none)) = some r := by first | (rw [hy200]; with_reducible exact H) | (have H2_ := (Option.bind_some _ _).symm.trans H; rw [hy200]; with_reducible exact H2_) | (have H2_ := (Option.bind_some _ _).symm.trans H; with_reducible exact H2_) | with_reducible exact H | (rw [hy200]; exact H) | exact H
                have Ny200 := Aside0.mk hy200
                clear hy200
                by_cases c27 : y200.length + l1.length < 3518437208883
                · rw [if_pos c27] at H
                  have LMc27 := Aside0.mk c27
                  clear c27
                  obtain ⟨y203, hy203⟩ : ∃ y_ : List (S38), y_ = (y200 ++ l1) := ⟨_, rfl⟩
                  replace H : (sizarlaw22_MeetingMoments.l0 kj11 l0 l1 t191 y203 false y203 (y203.length : Int) 0) = some r := by first | (rw [hy203]; with_reducible exact H) | (have H2_ := (Option.bind_some _ _).symm.trans H; rw [hy203]; with_reducible exact H2_) | (have H2_ := (Option.bind_some _ _).symm.trans H; with_reducible exact H2_) | with_reducible exact H | (rw [hy203]; exact H) | exact H
                  have Ny203 := Aside0.mk hy203
                  clear hy203
                  have H' := Aside0.mk H
                  clear H
                  go_wp2_with (first | ((with_reducible refine gate_dst (N := 66) rfl ?_); refine Kd.R_lit k38 _ 38 ?hg (N := 66) ?hd (xs := ([] : List (S38))) (inner := []) (ok := fun _ => True) (okp := fun _ => True) ?hr ?hp (fun _ hk => hk) trivial (Below.refl _ _) (Nat.le_refl _) (by simp) ?_; (case hd => rfl); (case hg => rfl); (case hr => first | (go_simp; done) | (go_simp; rfl)); (case hp => exact (Reps.none _ _)); intro v198 w28 ho29 hb hg_ hnew_; clear hg_ hnew_; (first | rw [← Ny197.out] at ho29 | (simp only [Int.reduceToNat] at ho29; rw [← Ny197.out] at ho29)); have n0_ := Aside0.mk (Kd.R_lower ho29 (below_size (by repeat (first | (with_reducible first | exact HB.out | apply below_alloc | apply pw_below_drewN | apply below_drew1) | exact HB.out)))); have n1_ := Aside0.mk (below_step (by repeat (first | (with_reducible first | exact HB.out | apply below_alloc | apply pw_below_drewN | apply below_drew1) | exact HB.out)) hb); clear HB; have HO199 := n0_; have HB := n1_; clear n0_ n1_; clear hb ho29) | ((with_reducible refine gate_builtin (b := .append) (xs := #[.tmp 66, .tmp 67]) rfl ?_); at_builtin; refine Kd.R_append_rows k38 (w0 := w) w.heap.size rfl (.tmp 66) (.tmp 67) 22 38 (.agg #[(.int .i64 0), (.int .i64 0), (.int .i64 0), (.int .i64 0), (.int .i64 0)]) 40 rfl Try.underlying22 info38 rfl (by decide) (by omega) v198 y197 l0 _ _ _ (fun _ => True) (fun _ => False) rfl rfl ?aO ?aR (fun _ _ h => h) (fun _ h => h.elim) ?aF ?aB ?aS ?aL ?_; (case aR => repeat (first | exact (Kd.C_below HR0.out HB.out) | (with_reducible refine Kd.C_alloc ?_ _) | (with_reducible refine Kd.C_drewN ?_ _) | (with_reducible refine Kd.C_drew ?_))); (case aB => exact (by repeat (first | (with_reducible first | exact HB.out | apply below_alloc | apply pw_below_drewN | apply below_drew1) | exact HB.out))); (case aF => exact (fun _ _ => trivial)); (case aO => exact (by (with_reducible repeat (first | apply Kd.R_alloc | apply Kd.R_drewN | apply Kd.R_drew)); exact HO199.out)); (case aS => exact (below_size (by repeat (first | (with_reducible first | exact HB.out | apply below_alloc | apply pw_below_drewN | apply below_drew1) | exact HB.out)))); (case aL => have := LMc26.out; omega); intro v201 w30 ho hb hg hat; rw [← Ny200.out] at ho; have n0_ := Aside0.mk (hb); have n1_ := Aside0.mk (ho); clear HB; clear HO199; have HB := n0_; have HO202 := n1_; clear n0_ n1_; clear ho hb hg hat) | ((with_reducible refine gate_builtin (b := .append) (xs := #[.tmp 68, .tmp 69]) rfl ?_); at_builtin; refine Kd.R_append_rows k38 (w0 := w) w.heap.size rfl (.tmp 68) (.tmp 69) 22 38 (.agg #[(.int .i64 0), (.int .i64 0), (.int .i64 0), (.int .i64 0), (.int .i64 0)]) 40 rfl Try.underlying22 info38 rfl (by decide) (by omega) v201 y200 l1 _ _ _ (fun _ => True) (fun _ => False) rfl rfl ?aO ?aR (fun _ _ h => h) (fun _ h => h.elim) ?aF ?aB ?aS ?aL ?_; (case aR => repeat (first | exact (Kd.C_below HR1.out HB.out) | (with_reducible refine Kd.C_alloc ?_ _) | (with_reducible refine Kd.C_drewN ?_ _) | (with_reducible refine Kd.C_drew ?_))); (case aB => exact (by repeat (first | (with_reducible first | exact HB.out | apply below_alloc | apply pw_below_drewN | apply below_drew1) | exact HB.out))); (case aF => exact (fun _ _ => trivial)); (case aO => exact (by (with_reducible repeat (first | apply Kd.R_alloc | apply Kd.R_drewN | apply Kd.R_drew)); exact HO202.out)); (case aS => exact (below_size (by repeat (first | (with_reducible first | exact HB.out | apply below_alloc | apply pw_below_drewN | apply below_drew1) | exact HB.out)))); (case aL => have := LMc27.out; omega); intro v204 w31 ho hb hg hat; rw [← Ny203.out] at ho; have n0_ := Aside0.mk (hb); have n1_ := Aside0.mk (ho); clear HB; clear HO202; have HB := n0_; have HO205 := n1_; clear n0_ n1_; clear ho hb hg hat; obtain ⟨Ao32, co32, eo32⟩ := Kd.R_slice HO205.out; subst eo32))
                  go_loopg [14, 73] kj11 (fun kq v14 v73 w' => ∃ (x14_2 : Bool) (x73_2 : Int), v14 = .bool x14_2 ∧ v73 = .int .i64 x73_2 ∧ Aside0 (sizarlaw22_MeetingMoments.l0 kq l0 l1 t191 y203 x14_2 y203 (y203.length : Int) x73_2 = some r) ∧ Aside0 (kq ≤ kj11) ∧ Aside0 (Kd.R k38 38 w' w.heap.size (fun _ => True) (.slice Ao32 y203.length co32) y203) ∧ Aside0 (Kd.R k38 38 w' w.heap.size (fun _ => True) (.slice Ao32 y203.length co32) y203) ∧ Aside0 (Below w.heap.size w w'))
                  case atStart => exact ⟨(false), (0), (by first | rfl | (simp; done) | (simp [*]; done)), (by first | rfl | (simp; done) | (simp [*]; done)), H', ⟨Nat.le_refl _⟩, ⟨by (with_reducible repeat (first | apply Kd.R_alloc | apply Kd.R_drewN | apply Kd.R_drew)); exact HO205.out⟩, ⟨by (with_reducible repeat (first | apply Kd.R_alloc | apply Kd.R_drewN | apply Kd.R_drew)); exact HO205.out⟩, ⟨by repeat (first | (with_reducible first | exact HB.out | apply below_alloc | apply pw_below_drewN | apply below_drew1) | exact HB.out)⟩⟩
                  case round =>
                    clear H'
                    try clear c1
                    try clear c2
                    try clear p2
                    try clear c4
                    try clear c7
                    try clear c9
                    try clear c10
                    try clear c11
                    try clear c11b0
                    try clear c11b1
                    try clear c16
                    try clear c17
                    try clear c18
                    try clear c19
                    try clear c25
                    try clear c26
                    try clear c27
                    try clear p2
                    obtain ⟨x14_2, x73_2, rfl, rfl, HA, HK2, HO_13, HO_71, HB⟩ := hrel
                    cases gk with
                    | zero => exact absurd HA.out (by simp [sizarlaw22_MeetingMoments.l0])
                    | succ k2 =>
                      have H := HA.out
                      clear HA
                      simp only [sizarlaw22_MeetingMoments.l0] at H
                      by_cases c33 : x73_2 < (y203.length : Int)
                      · rw [if_pos c33] at H
                        have c33b0 : decide (x73_2 < (y203.length : Int)) = true := decide_eq_true c33
                        clear c33
                        by_cases c34 : 0 ≤ x73_2
                        · rw [if_pos c34] at H
                          have c34b0 : decide (0 ≤ x73_2) = true := decide_eq_true c34
                          clear c34
                          by_cases c35 : x73_2 < (y203.length : Int)
                          · rw [if_pos c35] at H
                            have c35b0 : decide (x73_2 < (y203.length : Int)) = true := decide_eq_true c35
                            clear c35
                            have H' := Aside0.mk H
                            clear H
                            have p206 : 0 ≤ (x73_2 : Int) := of_decide_eq_true (by first | (with_reducible assumption) | assumption)
                            have q206 : x73_2 < (y203.length : Int) := of_decide_eq_true (by first | (with_reducible assumption) | assumption)
                            obtain ⟨ad206, e206, hx206_0, hx206_1, hx206_2, hx206_3, hx206_4⟩ := at_T38 (Kd.R_reads' HO_71.out).2.2 x73_2 p206 q206
                            cases e206
                            replace p206 := eq_true p206
                            replace q206 := eq_true q206
                            go_wp2_with (first | ((with_reducible refine gate_dst (N := 16) rfl ?_); refine box_event ?hg (N := 16) ?hd (cs := #[.int .i64 0, .int .i64 0, .int .i64 0, .int .i64 0, .int .i64 0]) (t := 38) ?hr ?_; (case hd => rfl); (case hg => rfl); (case hr => first | (go_simp; done) | (go_simp; rfl)); intro gb207 hg w36 hbox hb; have n0_ := Aside0.mk (Kd.R_below (Kd.R_elderB (by (with_reducible repeat (first | apply Kd.R_alloc | apply Kd.R_drewN | apply Kd.R_drew)); exact HO_13.out) gb207 (Nat.le_of_eq hg.symm)) hb); have n1_ := Aside0.mk (Kd.R_below (Kd.R_elderB (by (with_reducible repeat (first | apply Kd.R_alloc | apply Kd.R_drewN | apply Kd.R_drew)); exact HO_71.out) gb207 (Nat.le_of_eq hg.symm)) hb); have n2_ := Aside0.mk (below_step (by repeat (first | (with_reducible first | exact HB.out | apply below_alloc | apply pw_below_drewN | apply below_drew1) | exact HB.out)) hb); have n3_ := Aside0.mk (hbox); have n4_ := Aside0.mk ((by rw [hg]; exact (below_size (by repeat (first | (with_reducible first | exact HB.out | apply below_alloc | apply pw_below_drewN | apply below_drew1) | exact HB.out))) : w.heap.size ≤ gb207)); have n5_ := Aside0.mk ((by rw [hg]; exact (below_size (by repeat (first | (with_reducible first | exact HB.out | apply below_alloc | apply pw_below_drewN | apply below_drew1) | exact HB.out))) : w.heap.size ≤ gb207)); clear HO_13; clear HO_71; clear HB; have HO_13 := n0_; have HO_71 := n1_; have HB := n2_; have BK207 := n3_; have GW207 := n4_; have GE207 := n5_; clear n0_ n1_ n2_ n3_ n4_ n5_; clear hb hbox hg; have hcz37_0 : w36.cell? ⟨gb207, 0, none⟩ = some (.int .i64 0) := (blk_cell BK207.out 0).trans rfl; have hcz37_1 : w36.cell? ⟨gb207, 1, none⟩ = some (.int .i64 0) := (blk_cell BK207.out 1).trans rfl; have hcz37_2 : w36.cell? ⟨gb207, 2, none⟩ = some (.int .i64 0) := (blk_cell BK207.out 2).trans rfl; have hcz37_3 : w36.cell? ⟨gb207, 3, none⟩ = some (.int .i64 0) := (blk_cell BK207.out 3).trans rfl; have hcz37_4 : w36.cell? ⟨gb207, 4, none⟩ = some (.int .i64 0) := (blk_cell BK207.out 4).trans rfl; have hfz37_0 := blk_frozen BK207.out 0; have hfz37_1 := blk_frozen BK207.out 1; have hfz37_2 := blk_frozen BK207.out 2; have hfz37_3 := blk_frozen BK207.out 3; have hfz37_4 := blk_frozen BK207.out 4))
                            go_loopg [14, 79] k2 (fun kq v14 v79 w' => ∃ (x14_3 : Bool) (x79_3 : Int), v14 = .bool x14_3 ∧ v79 = .int .i64 x79_3 ∧ Aside0 (sizarlaw22_MeetingMoments.l1 kq l0 l1 t191 y203 x14_3 y203 (y203.length : Int) x73_2 y203 (y203.length : Int) x79_3 ((rd_T38 y203 x73_2).f0) ((rd_T38 y203 x73_2).f1) ((rd_T38 y203 x73_2).f2) ((rd_T38 y203 x73_2).f3) ((rd_T38 y203 x73_2).f4) = some r) ∧ Aside0 (kq ≤ k2) ∧ Aside0 (Kd.R k38 38 w' w.heap.size (fun k_ => k_ ≠ gb207) (.slice (some ad206) y203.length co32) y203) ∧ Aside0 (Kd.R k38 38 w' w.heap.size (fun k_ => k_ ≠ gb207) (.slice (some ad206) y203.length co32) y203) ∧ Aside0 (Kd.R k38 38 w' w.heap.size (fun k_ => k_ ≠ gb207) (.slice (some ad206) y203.length co32) y203) ∧ Aside0 (w'.heap[gb207]? = some (.cells #[.int .i64 ((rd_T38 y203 x73_2).f0), .int .i64 ((rd_T38 y203 x73_2).f1), .int .i64 ((rd_T38 y203 x73_2).f2), .int .i64 ((rd_T38 y203 x73_2).f3), .int .i64 ((rd_T38 y203 x73_2).f4)] 38 (0, 0))) ∧ Aside0 (Below w.heap.size w w'))
                            case atStart => exact ⟨(x14_2), (0), (by first | rfl | (simp; done) | (simp [*]; done)), (by first | rfl | (simp; done) | (simp [*]; done)), H', ⟨Nat.le_refl _⟩, ⟨by (with_reducible repeat (first | apply Kd.R_alloc | apply Kd.R_drewN | apply Kd.R_drew)); exact Kd.R_mono (Kd.R_far (p := ⟨gb207, 4, none⟩) (Kd.R_far (p := ⟨gb207, 3, none⟩) (Kd.R_far (p := ⟨gb207, 2, none⟩) (Kd.R_far (p := ⟨gb207, 1, none⟩) (Kd.R_far (p := ⟨gb207, 0, none⟩) (Kd.R_mono HO_13.out (fun k_ hk => (⟨hk, hk.2⟩ : _ ∧ k_ ≠ gb207))) (fun _ hk => hk.2) (.int .i64 ((rd_T38 y203 x73_2).f0))) (fun _ hk => hk.2) (.int .i64 ((rd_T38 y203 x73_2).f1))) (fun _ hk => hk.2) (.int .i64 ((rd_T38 y203 x73_2).f2))) (fun _ hk => hk.2) (.int .i64 ((rd_T38 y203 x73_2).f3))) (fun _ hk => hk.2) (.int .i64 ((rd_T38 y203 x73_2).f4))) (fun _ hk => hk.1.2)⟩, ⟨by (with_reducible repeat (first | apply Kd.R_alloc | apply Kd.R_drewN | apply Kd.R_drew)); exact Kd.R_mono (Kd.R_far (p := ⟨gb207, 4, none⟩) (Kd.R_far (p := ⟨gb207, 3, none⟩) (Kd.R_far (p := ⟨gb207, 2, none⟩) (Kd.R_far (p := ⟨gb207, 1, none⟩) (Kd.R_far (p := ⟨gb207, 0, none⟩) (Kd.R_mono HO_71.out (fun k_ hk => (⟨hk, hk.2⟩ : _ ∧ k_ ≠ gb207))) (fun _ hk => hk.2) (.int .i64 ((rd_T38 y203 x73_2).f0))) (fun _ hk => hk.2) (.int .i64 ((rd_T38 y203 x73_2).f1))) (fun _ hk => hk.2) (.int .i64 ((rd_T38 y203 x73_2).f2))) (fun _ hk => hk.2) (.int .i64 ((rd_T38 y203 x73_2).f3))) (fun _ hk => hk.2) (.int .i64 ((rd_T38 y203 x73_2).f4))) (fun _ hk => hk.1.2)⟩, ⟨by (with_reducible repeat (first | apply Kd.R_alloc | apply Kd.R_drewN | apply Kd.R_drew)); exact Kd.R_mono (Kd.R_far (p := ⟨gb207, 4, none⟩) (Kd.R_far (p := ⟨gb207, 3, none⟩) (Kd.R_far (p := ⟨gb207, 2, none⟩) (Kd.R_far (p := ⟨gb207, 1, none⟩) (Kd.R_far (p := ⟨gb207, 0, none⟩) (Kd.R_mono HO_13.out (fun k_ hk => (⟨hk, hk.2⟩ : _ ∧ k_ ≠ gb207))) (fun _ hk => hk.2) (.int .i64 ((rd_T38 y203 x73_2).f0))) (fun _ hk => hk.2) (.int .i64 ((rd_T38 y203 x73_2).f1))) (fun _ hk => hk.2) (.int .i64 ((rd_T38 y203 x73_2).f2))) (fun _ hk => hk.2) (.int .i64 ((rd_T38 y203 x73_2).f3))) (fun _ hk => hk.2) (.int .i64 ((rd_T38 y203 x73_2).f4))) (fun _ hk => hk.1.2)⟩, ⟨by (with_reducible repeat (first | refine blk_drewN ?_ _ | refine blk_drew ?_ | refine blk_alloc ?_ _)); refine blk_put (cs := #[.int .i64 ((rd_T38 y203 x73_2).f0), .int .i64 ((rd_T38 y203 x73_2).f1), .int .i64 ((rd_T38 y203 x73_2).f2), .int .i64 ((rd_T38 y203 x73_2).f3), .int .i64 0]) ?_ 4 _ rfl; (with_reducible repeat (first | refine blk_drewN ?_ _ | refine blk_drew ?_ | refine blk_alloc ?_ _)); refine blk_put (cs := #[.int .i64 ((rd_T38 y203 x73_2).f0), .int .i64 ((rd_T38 y203 x73_2).f1), .int .i64 ((rd_T38 y203 x73_2).f2), .int .i64 0, .int .i64 0]) ?_ 3 _ rfl; (with_reducible repeat (first | refine blk_drewN ?_ _ | refine blk_drew ?_ | refine blk_alloc ?_ _)); refine blk_put (cs := #[.int .i64 ((rd_T38 y203 x73_2).f0), .int .i64 ((rd_T38 y203 x73_2).f1), .int .i64 0, .int .i64 0, .int .i64 0]) ?_ 2 _ rfl; (with_reducible repeat (first | refine blk_drewN ?_ _ | refine blk_drew ?_ | refine blk_alloc ?_ _)); refine blk_put (cs := #[.int .i64 ((rd_T38 y203 x73_2).f0), .int .i64 0, .int .i64 0, .int .i64 0, .int .i64 0]) ?_ 1 _ rfl; (with_reducible repeat (first | refine blk_drewN ?_ _ | refine blk_drew ?_ | refine blk_alloc ?_ _)); refine blk_put (cs := #[.int .i64 0, .int .i64 0, .int .i64 0, .int .i64 0, .int .i64 0]) ?_ 0 _ rfl; (with_reducible repeat (first | refine blk_drewN ?_ _ | refine blk_drew ?_ | refine blk_alloc ?_ _)); exact BK207.out⟩, ⟨by repeat (first | (with_reducible first | exact HB.out | apply below_alloc | apply pw_below_drewN | apply below_drew1 | refine below_set ?_ GE207.out) | exact HB.out)⟩⟩
                            case round =>
                              clear H'
                              try clear c1
                              try clear c2
                              try clear p2
                              try clear q2
                              try clear hx2
                              try clear c3
                              try clear c4
                              try clear c7
                              try clear c9
                              try clear c10
                              try clear c11
                              try clear c11b0
                              try clear c11b1
                              try clear c16
                              try clear c17
                              try clear c18
                              try clear c19
                              try clear p20
                              try clear q20
                              try clear hx20
                              try clear c25
                              try clear c26
                              try clear c27
                              try clear c33
                              try clear c33b0
                              try clear c34
                              try clear c34b0
                              try clear c35
                              try clear c35b0
                              try clear hcz37_0
                              try clear hcz37_1
                              try clear hcz37_2
                              try clear hcz37_3
                              try clear hcz37_4
                              try clear hfz37_0
                              try clear hfz37_1
                              try clear hfz37_2
                              try clear hfz37_3
                              try clear hfz37_4
                              try clear hx206_0
                              try clear hx206_1
                              try clear hx206_2
                              try clear hx206_3
                              try clear hx206_4
                              try clear p2
                              try clear p206
                              try clear q206
                              obtain ⟨x14_3, x79_3, rfl, rfl, HA, HK3, HO_13, HO_71, HO_77, BK207, HB⟩ := hrel
                              cases gk with
                              | zero => exact absurd HA.out (by simp [sizarlaw22_MeetingMoments.l1])
                              | succ k3 =>
                                have H := HA.out
                                clear HA
                                simp only [sizarlaw22_MeetingMoments.l1] at H
                                by_cases c38 : x79_3 < (y203.length : Int)
                                · rw [if_pos c38] at H
                                  have c38b0 : decide (x79_3 < (y203.length : Int)) = true := decide_eq_true c38
                                  clear c38
                                  by_cases c39 : 0 ≤ x79_3
                                  · rw [if_pos c39] at H
                                    have c39b0 : decide (0 ≤ x79_3) = true := decide_eq_true c39
                                    clear c39
                                    by_cases c40 : x79_3 < (y203.length : Int)
                                    · rw [if_pos c40] at H
                                      have c40b0 : decide (x79_3 < (y203.length : Int)) = true := decide_eq_true c40
                                      clear c40
                                      by_cases c41 : x14_3 = true
                                      · subst c41
                                        have H1 : (sizarlaw22_MeetingMoments.l1 k3 l0 l1 t191 y203 true y203 (y203.length : Int) x73_2 y203 (y203.length : Int) (wrap64 (x79_3 + 1)) ((rd_T38 y203 x73_2).f0) ((rd_T38 y203 x73_2).f1) ((rd_T38 y203 x73_2).f2) ((rd_T38 y203 x73_2).f3) ((rd_T38 y203 x73_2).f4)) = some r := by rw [if_pos rfl] at H; exact H
                                        clear H
                                        have H := H1
                                        clear H1
                                        have H' := Aside0.mk H
                                        clear H
                                        have p208 : 0 ≤ (x79_3 : Int) := of_decide_eq_true (by first | (with_reducible assumption) | assumption)
                                        have q208 : x79_3 < (y203.length : Int) := of_decide_eq_true (by first | (with_reducible assumption) | assumption)
                                        obtain ⟨ad208, e208, hx208_0, hx208_1, hx208_2, hx208_3, hx208_4⟩ := at_T38 (Kd.R_reads' HO_77.out).2.2 x79_3 p208 q208
                                        obtain rfl : ad206 = ad208 := (by injection e208)
                                        replace p208 := eq_true p208
                                        replace q208 := eq_true q208
                                        go_wp2_with (first | ((with_reducible refine gate_dst (N := 18) rfl ?_); refine box_event ?hg (N := 18) ?hd (cs := #[.int .i64 0, .int .i64 0, .int .i64 0, .int .i64 0, .int .i64 0]) (t := 38) ?hr ?_; (case hd => rfl); (case hg => rfl); (case hr => first | (go_simp; done) | (go_simp; rfl)); intro gb209 hg w42 hbox hb; have n0_ := Aside0.mk (Kd.R_below (Kd.R_elderB (by (with_reducible repeat (first | apply Kd.R_alloc | apply Kd.R_drewN | apply Kd.R_drew)); exact HO_13.out) gb209 (Nat.le_of_eq hg.symm)) hb); have n1_ := Aside0.mk (Kd.R_below (Kd.R_elderB (by (with_reducible repeat (first | apply Kd.R_alloc | apply Kd.R_drewN | apply Kd.R_drew)); exact HO_71.out) gb209 (Nat.le_of_eq hg.symm)) hb); have n2_ := Aside0.mk (Kd.R_below (Kd.R_elderB (by (with_reducible repeat (first | apply Kd.R_alloc | apply Kd.R_drewN | apply Kd.R_drew)); exact HO_77.out) gb209 (Nat.le_of_eq hg.symm)) hb); have n3_ := Aside0.mk (blk_below (g := gb207) (o := .cells #[.int .i64 ((rd_T38 y203 x73_2).f0), .int .i64 ((rd_T38 y203 x73_2).f1), .int .i64 ((rd_T38 y203 x73_2).f2), .int .i64 ((rd_T38 y203 x73_2).f3), .int .i64 ((rd_T38 y203 x73_2).f4)] 38 (0, 0)) (by (with_reducible repeat (first | refine blk_drewN ?_ _ | refine blk_drew ?_ | refine blk_alloc ?_ _)); exact BK207.out) hb); have n4_ := Aside0.mk (below_step (by repeat (first | (with_reducible first | exact HB.out | apply below_alloc | apply pw_below_drewN | apply below_drew1 | refine below_set ?_ GE207.out) | exact HB.out)) hb); have n5_ := Aside0.mk (hbox); have n6_ := Aside0.mk ((by rw [hg]; exact (below_size (by repeat (first | (with_reducible first | exact HB.out | apply below_alloc | apply pw_below_drewN | apply below_drew1 | refine below_set ?_ GE207.out) | exact HB.out))) : w.heap.size ≤ gb209)); have n7_ := Aside0.mk ((by rw [hg]; exact (below_size (by repeat (first | (with_reducible first | exact HB.out | apply below_alloc | apply pw_below_drewN | apply below_drew1 | refine below_set ?_ GE207.out) | exact HB.out))) : w.heap.size ≤ gb209)); have n8_ := Aside0.mk ((by rw [hg]; exact Nat.ne_of_lt (blk_lt (g := gb207) (o := .cells #[.int .i64 ((rd_T38 y203 x73_2).f0), .int .i64 ((rd_T38 y203 x73_2).f1), .int .i64 ((rd_T38 y203 x73_2).f2), .int .i64 ((rd_T38 y203 x73_2).f3), .int .i64 ((rd_T38 y203 x73_2).f4)] 38 (0, 0)) (by (with_reducible repeat (first | refine blk_drewN ?_ _ | refine blk_drew ?_ | refine blk_alloc ?_ _)); exact BK207.out)) : gb207 ≠ gb209)); have n9_ := Aside0.mk ((by rw [hg]; exact Nat.ne_of_gt (blk_lt (g := gb207) (o := .cells #[.int .i64 ((rd_T38 y203 x73_2).f0), .int .i64 ((rd_T38 y203 x73_2).f1), .int .i64 ((rd_T38 y203 x73_2).f2), .int .i64 ((rd_T38 y203 x73_2).f3), .int .i64 ((rd_T38 y203 x73_2).f4)] 38 (0, 0)) (by (with_reducible repeat (first | refine blk_drewN ?_ _ | refine blk_drew ?_ | refine blk_alloc ?_ _)); exact BK207.out)) : gb209 ≠ gb207)); clear HO_13; clear HO_71; clear HO_77; clear BK207; clear HB; have HO_13 := n0_; have HO_71 := n1_; have HO_77 := n2_; have BK207 := n3_; have HB := n4_; have BK209 := n5_; have GW209 := n6_; have GE209 := n7_; have NB207_209 := n8_; have NB209_207 := n9_; clear n0_ n1_ n2_ n3_ n4_ n5_ n6_ n7_ n8_ n9_; clear hb hbox hg; have hnb43 := NB209_207.out; have hnc43 := NB207_209.out; have hcz44_0 : w42.cell? ⟨gb209, 0, none⟩ = some (.int .i64 0) := (blk_cell BK209.out 0).trans rfl; have hcz44_1 : w42.cell? ⟨gb209, 1, none⟩ = some (.int .i64 0) := (blk_cell BK209.out 1).trans rfl; have hcz44_2 : w42.cell? ⟨gb209, 2, none⟩ = some (.int .i64 0) := (blk_cell BK209.out 2).trans rfl; have hcz44_3 : w42.cell? ⟨gb209, 3, none⟩ = some (.int .i64 0) := (blk_cell BK209.out 3).trans rfl; have hcz44_4 : w42.cell? ⟨gb209, 4, none⟩ = some (.int .i64 0) := (blk_cell BK209.out 4).trans rfl; have hfz44_0 := blk_frozen BK209.out 0; have hfz44_1 := blk_frozen BK209.out 1; have hfz44_2 := blk_frozen BK209.out 2; have hfz44_3 := blk_frozen BK209.out 3; have hfz44_4 := blk_frozen BK209.out 4))
                                        go_roundg k3
                                        case measure => have := HJ11.out; have := HK2.out; have := HK3.out; omega
                                        case rel => exact ⟨(true), (wrap64 (x79_3 + 1)), (by first | rfl | (simp; done) | (simp [*]; done)), (by first | rfl | (simp; done) | (simp [*]; done)), H', ⟨by have := HJ11.out; have := HK2.out; have := HK3.out; omega⟩, ⟨by (with_reducible repeat (first | apply Kd.R_alloc | apply Kd.R_drewN | apply Kd.R_drew)); exact Kd.R_mono (Kd.R_far (p := ⟨gb209, 4, none⟩) (Kd.R_far (p := ⟨gb209, 3, none⟩) (Kd.R_far (p := ⟨gb209, 2, none⟩) (Kd.R_far (p := ⟨gb209, 1, none⟩) (Kd.R_far (p := ⟨gb209, 0, none⟩) (Kd.R_mono HO_13.out (fun k_ hk => (⟨hk, hk.2⟩ : _ ∧ k_ ≠ gb209))) (fun _ hk => hk.2) (.int .i64 ((rd_T38 y203 x79_3).f0))) (fun _ hk => hk.2) (.int .i64 ((rd_T38 y203 x79_3).f1))) (fun _ hk => hk.2) (.int .i64 ((rd_T38 y203 x79_3).f2))) (fun _ hk => hk.2) (.int .i64 ((rd_T38 y203 x79_3).f3))) (fun _ hk => hk.2) (.int .i64 ((rd_T38 y203 x79_3).f4))) (fun _ hk => hk.1.1)⟩, ⟨by (with_reducible repeat (first | apply Kd.R_alloc | apply Kd.R_drewN | apply Kd.R_drew)); exact Kd.R_mono (Kd.R_far (p := ⟨gb209, 4, none⟩) (Kd.R_far (p := ⟨gb209, 3, none⟩) (Kd.R_far (p := ⟨gb209, 2, none⟩) (Kd.R_far (p := ⟨gb209, 1, none⟩) (Kd.R_far (p := ⟨gb209, 0, none⟩) (Kd.R_mono HO_71.out (fun k_ hk => (⟨hk, hk.2⟩ : _ ∧ k_ ≠ gb209))) (fun _ hk => hk.2) (.int .i64 ((rd_T38 y203 x79_3).f0))) (fun _ hk => hk.2) (.int .i64 ((rd_T38 y203 x79_3).f1))) (fun _ hk => hk.2) (.int .i64 ((rd_T38 y203 x79_3).f2))) (fun _ hk => hk.2) (.int .i64 ((rd_T38 y203 x79_3).f3))) (fun _ hk => hk.2) (.int .i64 ((rd_T38 y203 x79_3).f4))) (fun _ hk => hk.1.1)⟩, ⟨by (with_reducible repeat (first | apply Kd.R_alloc | apply Kd.R_drewN | apply Kd.R_drew)); exact Kd.R_mono (Kd.R_far (p := ⟨gb209, 4, none⟩) (Kd.R_far (p := ⟨gb209, 3, none⟩) (Kd.R_far (p := ⟨gb209, 2, none⟩) (Kd.R_far (p := ⟨gb209, 1, none⟩) (Kd.R_far (p := ⟨gb209, 0, none⟩) (Kd.R_mono HO_77.out (fun k_ hk => (⟨hk, hk.2⟩ : _ ∧ k_ ≠ gb209))) (fun _ hk => hk.2) (.int .i64 ((rd_T38 y203 x79_3).f0))) (fun _ hk => hk.2) (.int .i64 ((rd_T38 y203 x79_3).f1))) (fun _ hk => hk.2) (.int .i64 ((rd_T38 y203 x79_3).f2))) (fun _ hk => hk.2) (.int .i64 ((rd_T38 y203 x79_3).f3))) (fun _ hk => hk.2) (.int .i64 ((rd_T38 y203 x79_3).f4))) (fun _ hk => hk.1.1)⟩, ⟨by (with_reducible repeat (first | refine blk_drewN ?_ _ | refine blk_drew ?_ | refine blk_alloc ?_ _)); refine blk_far ?_ NB207_209.out _; (with_reducible repeat (first | refine blk_drewN ?_ _ | refine blk_drew ?_ | refine blk_alloc ?_ _)); refine blk_far ?_ NB207_209.out _; (with_reducible repeat (first | refine blk_drewN ?_ _ | refine blk_drew ?_ | refine blk_alloc ?_ _)); refine blk_far ?_ NB207_209.out _; (with_reducible repeat (first | refine blk_drewN ?_ _ | refine blk_drew ?_ | refine blk_alloc ?_ _)); refine blk_far ?_ NB207_209.out _; (with_reducible repeat (first | refine blk_drewN ?_ _ | refine blk_drew ?_ | refine blk_alloc ?_ _)); refine blk_far ?_ NB207_209.out _; (with_reducible repeat (first | refine blk_drewN ?_ _ | refine blk_drew ?_ | refine blk_alloc ?_ _)); exact BK207.out⟩, ⟨by repeat (first | (with_reducible first | exact HB.out | apply below_alloc | apply pw_below_drewN | apply below_drew1 | refine below_set ?_ GE207.out | refine below_set ?_ GE209.out) | exact HB.out)⟩⟩
                                      · replace c41 := Bool.eq_false_iff.mpr c41
                                        subst c41
                                        have H1 : ((sizarlaw22_covered.f k3 l0 ((rd_T38 y203 x73_2).f0) ((rd_T38 y203 x79_3).f3) ((rd_T38 y203 x73_2).f1)).bind fun t210 => (if t210 = true then ((sizarlaw22_covered.f k3 l1 ((rd_T38 y203 x73_2).f0) ((rd_T38 y203 x79_3).f3) ((rd_T38 y203 x73_2).f1)).bind fun t211 => (sizarlaw22_MeetingMoments.l1 k3 l0 l1 t191 y203 t211 y203 (y203.length : Int) x73_2 y203 (y203.length : Int) (wrap64 (x79_3 + 1)) ((rd_T38 y203 x73_2).f0) ((rd_T38 y203 x73_2).f1) ((rd_T38 y203 x73_2).f2) ((rd_T38 y203 x73_2).f3) ((rd_T38 y203 x73_2).f4))) else (sizarlaw22_MeetingMoments.l1 k3 l0 l1 t191 y203 false y203 (y203.length : Int) x73_2 y203 (y203.length : Int) (wrap64 (x79_3 + 1)) ((rd_T38 y203 x73_2).f0) ((rd_T38 y203 x73_2).f1) ((rd_T38 y203 x73_2).f2) ((rd_T38 y203 x73_2).f3) ((rd_T38 y203 x73_2).f4)))) = some r := by rw [if_neg (show ¬ (false = true) by decide)] at H; exact H
                                        clear H
                                        have H := H1
                                        clear H1
                                        replace H := Option.bind_eq_some_iff.mp H
                                        obtain ⟨t210, A450, H⟩ := H
                                        replace H : (if t210 = true then ((sizarlaw22_covered.f k3 l1 ((rd_T38 y203 x73_2).f0) ((rd_T38 y203 x79_3).f3) ((rd_T38 y203 x73_2).f1)).bind fun t211 => (sizarlaw22_MeetingMoments.l1 k3 l0 l1 t191 y203 t211 y203 (y203.length : Int) x73_2 y203 (y203.length : Int) (wrap64 (x79_3 + 1)) ((rd_T38 y203 x73_2).f0) ((rd_T38 y203 x73_2).f1) ((rd_T38 y203 x73_2).f2) ((rd_T38 y203 x73_2).f3) ((rd_T38 y203 x73_2).f4))) else (sizarlaw22_MeetingMoments.l1 k3 l0 l1 t191 y203 false y203 (y203.length : Int) x73_2 y203 (y203.length : Int) (wrap64 (x79_3 + 1)) ((rd_T38 y203 x73_2).f0) ((rd_T38 y203 x73_2).f1) ((rd_T38 y203 x73_2).f2) ((rd_T38 y203 x73_2).f3) ((rd_T38 y203 x73_2).f4))) = some r := H
                                        have A45 := Aside0.mk A450
                                        clear A450
                                        by_cases c46 : t210 = true
                                        · subst c46
                                          have H1 : ((sizarlaw22_covered.f k3 l1 ((rd_T38 y203 x73_2).f0) ((rd_T38 y203 x79_3).f3) ((rd_T38 y203 x73_2).f1)).bind fun t211 => (sizarlaw22_MeetingMoments.l1 k3 l0 l1 t191 y203 t211 y203 (y203.length : Int) x73_2 y203 (y203.length : Int) (wrap64 (x79_3 + 1)) ((rd_T38 y203 x73_2).f0) ((rd_T38 y203 x73_2).f1) ((rd_T38 y203 x73_2).f2) ((rd_T38 y203 x73_2).f3) ((rd_T38 y203 x73_2).f4))) = some r := by rw [if_pos rfl] at H; exact H
                                          clear H
                                          have H := H1
                                          clear H1
                                          replace H := Option.bind_eq_some_iff.mp H
                                          obtain ⟨t211, A470, H⟩ := H
                                          replace H : (sizarlaw22_MeetingMoments.l1 k3 l0 l1 t191 y203 t211 y203 (y203.length : Int) x73_2 y203 (y203.length : Int) (wrap64 (x79_3 + 1)) ((rd_T38 y203 x73_2).f0) ((rd_T38 y203 x73_2).f1) ((rd_T38 y203 x73_2).f2) ((rd_T38 y203 x73_2).f3) ((rd_T38 y203 x73_2).f4)) = some r := H
                                          have A47 := Aside0.mk A470
                                          clear A470
                                          have H' := Aside0.mk H
                                          clear H
                                          have p208 : 0 ≤ (x79_3 : Int) := of_decide_eq_true (by first | (with_reducible assumption) | assumption)
                                          have q208 : x79_3 < (y203.length : Int) := of_decide_eq_true (by first | (with_reducible assumption) | assumption)
                                          obtain ⟨ad208, e208, hx208_0, hx208_1, hx208_2, hx208_3, hx208_4⟩ := at_T38 (Kd.R_reads' HO_77.out).2.2 x79_3 p208 q208
                                          obtain rfl : ad206 = ad208 := (by injection e208)
                                          replace p208 := eq_true p208
                                          replace q208 := eq_true q208
                                          go_wp2_with (first | ((with_reducible refine gate_dst (N := 18) rfl ?_); refine box_event ?hg (N := 18) ?hd (cs := #[.int .i64 0, .int .i64 0, .int .i64 0, .int .i64 0, .int .i64 0]) (t := 38) ?hr ?_; (case hd => rfl); (case hg => rfl); (case hr => first | (go_simp; done) | (go_simp; rfl)); intro gb209 hg w48 hbox hb; have n0_ := Aside0.mk (Kd.R_below (Kd.R_elderB (by (with_reducible repeat (first | apply Kd.R_alloc | apply Kd.R_drewN | apply Kd.R_drew)); exact HO_13.out) gb209 (Nat.le_of_eq hg.symm)) hb); have n1_ := Aside0.mk (Kd.R_below (Kd.R_elderB (by (with_reducible repeat (first | apply Kd.R_alloc | apply Kd.R_drewN | apply Kd.R_drew)); exact HO_71.out) gb209 (Nat.le_of_eq hg.symm)) hb); have n2_ := Aside0.mk (Kd.R_below (Kd.R_elderB (by (with_reducible repeat (first | apply Kd.R_alloc | apply Kd.R_drewN | apply Kd.R_drew)); exact HO_77.out) gb209 (Nat.le_of_eq hg.symm)) hb); have n3_ := Aside0.mk (blk_below (g := gb207) (o := .cells #[.int .i64 ((rd_T38 y203 x73_2).f0), .int .i64 ((rd_T38 y203 x73_2).f1), .int .i64 ((rd_T38 y203 x73_2).f2), .int .i64 ((rd_T38 y203 x73_2).f3), .int .i64 ((rd_T38 y203 x73_2).f4)] 38 (0, 0)) (by (with_reducible repeat (first | refine blk_drewN ?_ _ | refine blk_drew ?_ | refine blk_alloc ?_ _)); exact BK207.out) hb); have n4_ := Aside0.mk (below_step (by repeat (first | (with_reducible first | exact HB.out | apply below_alloc | apply pw_below_drewN | apply below_drew1 | refine below_set ?_ GE207.out) | exact HB.out)) hb); have n5_ := Aside0.mk (hbox); have n6_ := Aside0.mk ((by rw [hg]; exact (below_size (by repeat (first | (with_reducible first | exact HB.out | apply below_alloc | apply pw_below_drewN | apply below_drew1 | refine below_set ?_ GE207.out) | exact HB.out))) : w.heap.size ≤ gb209)); have n7_ := Aside0.mk ((by rw [hg]; exact (below_size (by repeat (first | (with_reducible first | exact HB.out | apply below_alloc | apply pw_below_drewN | apply below_drew1 | refine below_set ?_ GE207.out) | exact HB.out))) : w.heap.size ≤ gb209)); have n8_ := Aside0.mk ((by rw [hg]; exact Nat.ne_of_lt (blk_lt (g := gb207) (o := .cells #[.int .i64 ((rd_T38 y203 x73_2).f0), .int .i64 ((rd_T38 y203 x73_2).f1), .int .i64 ((rd_T38 y203 x73_2).f2), .int .i64 ((rd_T38 y203 x73_2).f3), .int .i64 ((rd_T38 y203 x73_2).f4)] 38 (0, 0)) (by (with_reducible repeat (first | refine blk_drewN ?_ _ | refine blk_drew ?_ | refine blk_alloc ?_ _)); exact BK207.out)) : gb207 ≠ gb209)); have n9_ := Aside0.mk ((by rw [hg]; exact Nat.ne_of_gt (blk_lt (g := gb207) (o := .cells #[.int .i64 ((rd_T38 y203 x73_2).f0), .int .i64 ((rd_T38 y203 x73_2).f1), .int .i64 ((rd_T38 y203 x73_2).f2), .int .i64 ((rd_T38 y203 x73_2).f3), .int .i64 ((rd_T38 y203 x73_2).f4)] 38 (0, 0)) (by (with_reducible repeat (first | refine blk_drewN ?_ _ | refine blk_drew ?_ | refine blk_alloc ?_ _)); exact BK207.out)) : gb209 ≠ gb207)); clear HO_13; clear HO_71; clear HO_77; clear BK207; clear HB; have HO_13 := n0_; have HO_71 := n1_; have HO_77 := n2_; have BK207 := n3_; have HB := n4_; have BK209 := n5_; have GW209 := n6_; have GE209 := n7_; have NB207_209 := n8_; have NB209_207 := n9_; clear n0_ n1_ n2_ n3_ n4_ n5_ n6_ n7_ n8_ n9_; clear hb hbox hg; have hnb49 := NB209_207.out; have hnc49 := NB207_209.out; have hcz50_0 : w48.cell? ⟨gb209, 0, none⟩ = some (.int .i64 0) := (blk_cell BK209.out 0).trans rfl; have hcz50_1 : w48.cell? ⟨gb209, 1, none⟩ = some (.int .i64 0) := (blk_cell BK209.out 1).trans rfl; have hcz50_2 : w48.cell? ⟨gb209, 2, none⟩ = some (.int .i64 0) := (blk_cell BK209.out 2).trans rfl; have hcz50_3 : w48.cell? ⟨gb209, 3, none⟩ = some (.int .i64 0) := (blk_cell BK209.out 3).trans rfl; have hcz50_4 : w48.cell? ⟨gb209, 4, none⟩ = some (.int .i64 0) := (blk_cell BK209.out 4).trans rfl; have hfz50_0 := blk_frozen BK209.out 0; have hfz50_1 := blk_frozen BK209.out 1; have hfz50_2 := blk_frozen BK209.out 2; have hfz50_3 := blk_frozen BK209.out 3; have hfz50_4 := blk_frozen BK209.out 4; have hcz51_0 : w48.cell? ⟨gb207, 0, none⟩ = some (.int .i64 ((rd_T38 y203 x73_2).f0)) := (blk_cell BK207.out 0).trans rfl; have hcz51_1 : w48.cell? ⟨gb207, 1, none⟩ = some (.int .i64 ((rd_T38 y203 x73_2).f1)) := (blk_cell BK207.out 1).trans rfl; have hcz51_2 : w48.cell? ⟨gb207, 2, none⟩ = some (.int .i64 ((rd_T38 y203 x73_2).f2)) := (blk_cell BK207.out 2).trans rfl; have hcz51_3 : w48.cell? ⟨gb207, 3, none⟩ = some (.int .i64 ((rd_T38 y203 x73_2).f3)) := (blk_cell BK207.out 3).trans rfl; have hcz51_4 : w48.cell? ⟨gb207, 4, none⟩ = some (.int .i64 ((rd_T38 y203 x73_2).f4)) := (blk_cell BK207.out 4).trans rfl; have hfz51_0 := blk_frozen BK207.out 0; have hfz51_1 := blk_frozen BK207.out 1; have hfz51_2 := blk_frozen BK207.out 2; have hfz51_3 := blk_frozen BK207.out 3; have hfz51_4 := blk_frozen BK207.out 4) | (go_at_call 18; (with_reducible refine (sizarlaw22_covered.calls k3 _ _ l0 ((rd_T38 y203 x73_2).f0) ((rd_T38 y203 x79_3).f3) ((rd_T38 y203 x73_2).f1) true _ ?side1 ?side2 A45.out).mono ?_); (case side1 => exact Kd.C_below HR0.out (by repeat (first | (with_reducible first | exact HB.out | apply below_alloc | apply pw_below_drewN | apply below_drew1 | refine below_set ?_ GE207.out | refine below_set ?_ GE209.out) | exact HB.out))); (case side2 => exact HC0.out); rintro e w52 ⟨rfl, hb⟩; have n0_ := Aside0.mk (Kd.R_below (by (with_reducible repeat (first | apply Kd.R_alloc | apply Kd.R_drewN | apply Kd.R_drew)); exact (Kd.R_mono (Kd.R_far (p := ⟨gb209, 4, none⟩) (Kd.R_far (p := ⟨gb209, 3, none⟩) (Kd.R_far (p := ⟨gb209, 2, none⟩) (Kd.R_far (p := ⟨gb209, 1, none⟩) (Kd.R_far (p := ⟨gb209, 0, none⟩) (Kd.R_mono HO_13.out (fun k_ hk => (⟨hk, hk.2⟩ : _ ∧ k_ ≠ gb209))) (fun _ hk => hk.2) (.int .i64 ((rd_T38 y203 x79_3).f0))) (fun _ hk => hk.2) (.int .i64 ((rd_T38 y203 x79_3).f1))) (fun _ hk => hk.2) (.int .i64 ((rd_T38 y203 x79_3).f2))) (fun _ hk => hk.2) (.int .i64 ((rd_T38 y203 x79_3).f3))) (fun _ hk => hk.2) (.int .i64 ((rd_T38 y203 x79_3).f4))) (fun _ h_ => h_.1))) hb); have n1_ := Aside0.mk (Kd.R_below (by (with_reducible repeat (first | apply Kd.R_alloc | apply Kd.R_drewN | apply Kd.R_drew)); exact (Kd.R_mono (Kd.R_far (p := ⟨gb209, 4, none⟩) (Kd.R_far (p := ⟨gb209, 3, none⟩) (Kd.R_far (p := ⟨gb209, 2, none⟩) (Kd.R_far (p := ⟨gb209, 1, none⟩) (Kd.R_far (p := ⟨gb209, 0, none⟩) (Kd.R_mono HO_71.out (fun k_ hk => (⟨hk, hk.2⟩ : _ ∧ k_ ≠ gb209))) (fun _ hk => hk.2) (.int .i64 ((rd_T38 y203 x79_3).f0))) (fun _ hk => hk.2) (.int .i64 ((rd_T38 y203 x79_3).f1))) (fun _ hk => hk.2) (.int .i64 ((rd_T38 y203 x79_3).f2))) (fun _ hk => hk.2) (.int .i64 ((rd_T38 y203 x79_3).f3))) (fun _ hk => hk.2) (.int .i64 ((rd_T38 y203 x79_3).f4))) (fun _ h_ => h_.1))) hb); have n2_ := Aside0.mk (Kd.R_below (by (with_reducible repeat (first | apply Kd.R_alloc | apply Kd.R_drewN | apply Kd.R_drew)); exact (Kd.R_mono (Kd.R_far (p := ⟨gb209, 4, none⟩) (Kd.R_far (p := ⟨gb209, 3, none⟩) (Kd.R_far (p := ⟨gb209, 2, none⟩) (Kd.R_far (p := ⟨gb209, 1, none⟩) (Kd.R_far (p := ⟨gb209, 0, none⟩) (Kd.R_mono HO_77.out (fun k_ hk => (⟨hk, hk.2⟩ : _ ∧ k_ ≠ gb209))) (fun _ hk => hk.2) (.int .i64 ((rd_T38 y203 x79_3).f0))) (fun _ hk => hk.2) (.int .i64 ((rd_T38 y203 x79_3).f1))) (fun _ hk => hk.2) (.int .i64 ((rd_T38 y203 x79_3).f2))) (fun _ hk => hk.2) (.int .i64 ((rd_T38 y203 x79_3).f3))) (fun _ hk => hk.2) (.int .i64 ((rd_T38 y203 x79_3).f4))) (fun _ h_ => h_.1))) hb); have n3_ := Aside0.mk (blk_below (g := gb207) (o := .cells #[.int .i64 ((rd_T38 y203 x73_2).f0), .int .i64 ((rd_T38 y203 x73_2).f1), .int .i64 ((rd_T38 y203 x73_2).f2), .int .i64 ((rd_T38 y203 x73_2).f3), .int .i64 ((rd_T38 y203 x73_2).f4)] 38 (0, 0)) (by (with_reducible repeat (first | refine blk_drewN ?_ _ | refine blk_drew ?_ | refine blk_alloc ?_ _)); refine blk_far ?_ NB207_209.out _; (with_reducible repeat (first | refine blk_drewN ?_ _ | refine blk_drew ?_ | refine blk_alloc ?_ _)); refine blk_far ?_ NB207_209.out _; (with_reducible repeat (first | refine blk_drewN ?_ _ | refine blk_drew ?_ | refine blk_alloc ?_ _)); refine blk_far ?_ NB207_209.out _; (with_reducible repeat (first | refine blk_drewN ?_ _ | refine blk_drew ?_ | refine blk_alloc ?_ _)); refine blk_far ?_ NB207_209.out _; (with_reducible repeat (first | refine blk_drewN ?_ _ | refine blk_drew ?_ | refine blk_alloc ?_ _)); refine blk_far ?_ NB207_209.out _; (with_reducible repeat (first | refine blk_drewN ?_ _ | refine blk_drew ?_ | refine blk_alloc ?_ _)); exact BK207.out) hb); have n4_ := Aside0.mk (blk_below (g := gb209) (o := .cells #[.int .i64 ((rd_T38 y203 x79_3).f0), .int .i64 ((rd_T38 y203 x79_3).f1), .int .i64 ((rd_T38 y203 x79_3).f2), .int .i64 ((rd_T38 y203 x79_3).f3), .int .i64 ((rd_T38 y203 x79_3).f4)] 38 (0, 0)) (by (with_reducible repeat (first | refine blk_drewN ?_ _ | refine blk_drew ?_ | refine blk_alloc ?_ _)); refine blk_put (cs := #[.int .i64 ((rd_T38 y203 x79_3).f0), .int .i64 ((rd_T38 y203 x79_3).f1), .int .i64 ((rd_T38 y203 x79_3).f2), .int .i64 ((rd_T38 y203 x79_3).f3), .int .i64 0]) ?_ 4 _ rfl; (with_reducible repeat (first | refine blk_drewN ?_ _ | refine blk_drew ?_ | refine blk_alloc ?_ _)); refine blk_put (cs := #[.int .i64 ((rd_T38 y203 x79_3).f0), .int .i64 ((rd_T38 y203 x79_3).f1), .int .i64 ((rd_T38 y203 x79_3).f2), .int .i64 0, .int .i64 0]) ?_ 3 _ rfl; (with_reducible repeat (first | refine blk_drewN ?_ _ | refine blk_drew ?_ | refine blk_alloc ?_ _)); refine blk_put (cs := #[.int .i64 ((rd_T38 y203 x79_3).f0), .int .i64 ((rd_T38 y203 x79_3).f1), .int .i64 0, .int .i64 0, .int .i64 0]) ?_ 2 _ rfl; (with_reducible repeat (first | refine blk_drewN ?_ _ | refine blk_drew ?_ | refine blk_alloc ?_ _)); refine blk_put (cs := #[.int .i64 ((rd_T38 y203 x79_3).f0), .int .i64 0, .int .i64 0, .int .i64 0, .int .i64 0]) ?_ 1 _ rfl; (with_reducible repeat (first | refine blk_drewN ?_ _ | refine blk_drew ?_ | refine blk_alloc ?_ _)); refine blk_put (cs := #[.int .i64 0, .int .i64 0, .int .i64 0, .int .i64 0, .int .i64 0]) ?_ 0 _ rfl; (with_reducible repeat (first | refine blk_drewN ?_ _ | refine blk_drew ?_ | refine blk_alloc ?_ _)); exact BK209.out) hb); have n5_ := Aside0.mk (below_step (by repeat (first | (with_reducible first | exact HB.out | apply below_alloc | apply pw_below_drewN | apply below_drew1 | refine below_set ?_ GE207.out | refine below_set ?_ GE209.out) | exact HB.out)) hb); clear HO_13; clear HO_71; clear HO_77; clear BK207; clear BK209; clear HB; have HO_13 := n0_; have HO_71 := n1_; have HO_77 := n2_; have BK207 := n3_; have BK209 := n4_; have HB := n5_; clear n0_ n1_ n2_ n3_ n4_ n5_; (try clear hb); (try clear hb2); (try clear hk); (try clear hi); have hcz53_0 : w52.cell? ⟨gb207, 0, none⟩ = some (.int .i64 ((rd_T38 y203 x73_2).f0)) := (blk_cell BK207.out 0).trans rfl; have hcz53_1 : w52.cell? ⟨gb207, 1, none⟩ = some (.int .i64 ((rd_T38 y203 x73_2).f1)) := (blk_cell BK207.out 1).trans rfl; have hcz53_2 : w52.cell? ⟨gb207, 2, none⟩ = some (.int .i64 ((rd_T38 y203 x73_2).f2)) := (blk_cell BK207.out 2).trans rfl; have hcz53_3 : w52.cell? ⟨gb207, 3, none⟩ = some (.int .i64 ((rd_T38 y203 x73_2).f3)) := (blk_cell BK207.out 3).trans rfl; have hcz53_4 : w52.cell? ⟨gb207, 4, none⟩ = some (.int .i64 ((rd_T38 y203 x73_2).f4)) := (blk_cell BK207.out 4).trans rfl; have hfz53_0 := blk_frozen BK207.out 0; have hfz53_1 := blk_frozen BK207.out 1; have hfz53_2 := blk_frozen BK207.out 2; have hfz53_3 := blk_frozen BK207.out 3; have hfz53_4 := blk_frozen BK207.out 4; have hcz54_0 : w52.cell? ⟨gb209, 0, none⟩ = some (.int .i64 ((rd_T38 y203 x79_3).f0)) := (blk_cell BK209.out 0).trans rfl; have hcz54_1 : w52.cell? ⟨gb209, 1, none⟩ = some (.int .i64 ((rd_T38 y203 x79_3).f1)) := (blk_cell BK209.out 1).trans rfl; have hcz54_2 : w52.cell? ⟨gb209, 2, none⟩ = some (.int .i64 ((rd_T38 y203 x79_3).f2)) := (blk_cell BK209.out 2).trans rfl; have hcz54_3 : w52.cell? ⟨gb209, 3, none⟩ = some (.int .i64 ((rd_T38 y203 x79_3).f3)) := (blk_cell BK209.out 3).trans rfl; have hcz54_4 : w52.cell? ⟨gb209, 4, none⟩ = some (.int .i64 ((rd_T38 y203 x79_3).f4)) := (blk_cell BK209.out 4).trans rfl; have hfz54_0 := blk_frozen BK209.out 0; have hfz54_1 := blk_frozen BK209.out 1; have hfz54_2 := blk_frozen BK209.out 2; have hfz54_3 := blk_frozen BK209.out 3; have hfz54_4 := blk_frozen BK209.out 4) | (go_at_call 18; (with_reducible refine (sizarlaw22_covered.calls k3 _ _ l1 ((rd_T38 y203 x73_2).f0) ((rd_T38 y203 x79_3).f3) ((rd_T38 y203 x73_2).f1) t211 _ ?side1 ?side2 A47.out).mono ?_); (case side1 => repeat (first | exact (Kd.C_below HR1.out HB.out) | (with_reducible refine Kd.C_alloc ?_ _) | (with_reducible refine Kd.C_drewN ?_ _) | (with_reducible refine Kd.C_drew ?_))); (case side2 => exact HC1.out); rintro e w55 ⟨rfl, hb⟩; have n0_ := Aside0.mk (Kd.R_below (by (with_reducible repeat (first | apply Kd.R_alloc | apply Kd.R_drewN | apply Kd.R_drew)); exact HO_13.out) hb); have n1_ := Aside0.mk (Kd.R_below (by (with_reducible repeat (first | apply Kd.R_alloc | apply Kd.R_drewN | apply Kd.R_drew)); exact HO_71.out) hb); have n2_ := Aside0.mk (Kd.R_below (by (with_reducible repeat (first | apply Kd.R_alloc | apply Kd.R_drewN | apply Kd.R_drew)); exact HO_77.out) hb); have n3_ := Aside0.mk (blk_below (g := gb207) (o := .cells #[.int .i64 ((rd_T38 y203 x73_2).f0), .int .i64 ((rd_T38 y203 x73_2).f1), .int .i64 ((rd_T38 y203 x73_2).f2), .int .i64 ((rd_T38 y203 x73_2).f3), .int .i64 ((rd_T38 y203 x73_2).f4)] 38 (0, 0)) (by (with_reducible repeat (first | refine blk_drewN ?_ _ | refine blk_drew ?_ | refine blk_alloc ?_ _)); exact BK207.out) hb); have n4_ := Aside0.mk (blk_below (g := gb209) (o := .cells #[.int .i64 ((rd_T38 y203 x79_3).f0), .int .i64 ((rd_T38 y203 x79_3).f1), .int .i64 ((rd_T38 y203 x79_3).f2), .int .i64 ((rd_T38 y203 x79_3).f3), .int .i64 ((rd_T38 y203 x79_3).f4)] 38 (0, 0)) (by (with_reducible repeat (first | refine blk_drewN ?_ _ | refine blk_drew ?_ | refine blk_alloc ?_ _)); exact BK209.out) hb); have n5_ := Aside0.mk (below_step (by repeat (first | (with_reducible first | exact HB.out | apply below_alloc | apply pw_below_drewN | apply below_drew1 | refine below_set ?_ GE207.out | refine below_set ?_ GE209.out) | exact HB.out)) hb); clear HO_13; clear HO_71; clear HO_77; clear BK207; clear BK209; clear HB; have HO_13 := n0_; have HO_71 := n1_; have HO_77 := n2_; have BK207 := n3_; have BK209 := n4_; have HB := n5_; clear n0_ n1_ n2_ n3_ n4_ n5_; (try clear hb); (try clear hb2); (try clear hk); (try clear hi)))
                                          go_roundg k3
                                          case measure => have := HJ11.out; have := HK2.out; have := HK3.out; omega
                                          case rel => exact ⟨(t211), (wrap64 (x79_3 + 1)), (by first | rfl | (simp; done) | (simp [*]; done)), (by first | rfl | (simp; done) | (simp [*]; done)), H', ⟨by have := HJ11.out; have := HK2.out; have := HK3.out; omega⟩, ⟨by (with_reducible repeat (first | apply Kd.R_alloc | apply Kd.R_drewN | apply Kd.R_drew)); exact Kd.R_mono HO_13.out (fun _ hk => hk.1)⟩, ⟨by (with_reducible repeat (first | apply Kd.R_alloc | apply Kd.R_drewN | apply Kd.R_drew)); exact Kd.R_mono HO_71.out (fun _ hk => hk.1)⟩, ⟨by (with_reducible repeat (first | apply Kd.R_alloc | apply Kd.R_drewN | apply Kd.R_drew)); exact Kd.R_mono HO_77.out (fun _ hk => hk.1)⟩, ⟨by (with_reducible repeat (first | refine blk_drewN ?_ _ | refine blk_drew ?_ | refine blk_alloc ?_ _)); exact BK207.out⟩, ⟨by repeat (first | (with_reducible first | exact HB.out | apply below_alloc | apply pw_below_drewN | apply below_drew1 | refine below_set ?_ GE207.out | refine below_set ?_ GE209.out) | exact HB.out)⟩⟩
                                        · replace c46 := Bool.eq_false_iff.mpr c46
                                          subst c46
                                          have H1 : (sizarlaw22_MeetingMoments.l1 k3 l0 l1 t191 y203 false y203 (y203.length : Int) x73_2 y203 (y203.length : Int) (wrap64 (x79_3 + 1)) ((rd_T38 y203 x73_2).f0) ((rd_T38 y203 x73_2).f1) ((rd_T38 y203 x73_2).f2) ((rd_T38 y203 x73_2).f3) ((rd_T38 y203 x73_2).f4)) = some r := by rw [if_neg (show ¬ (false = true) by decide)] at H; exact H
                                          clear H
                                          have H := H1
                                          clear H1
                                          have H' := Aside0.mk H
                                          clear H
                                          have p208 : 0 ≤ (x79_3 : Int) := of_decide_eq_true (by first | (with_reducible assumption) | assumption)
                                          have q208 : x79_3 < (y203.length : Int) := of_decide_eq_true (by first | (with_reducible assumption) | assumption)
                                          obtain ⟨ad208, e208, hx208_0, hx208_1, hx208_2, hx208_3, hx208_4⟩ := at_T38 (Kd.R_reads' HO_77.out).2.2 x79_3 p208 q208
                                          obtain rfl : ad206 = ad208 := (by injection e208)
                                          replace p208 := eq_true p208
                                          replace q208 := eq_true q208
                                          go_wp2_with (first | ((with_reducible refine gate_dst (N := 18) rfl ?_); refine box_event ?hg (N := 18) ?hd (cs := #[.int .i64 0, .int .i64 0, .int .i64 0, .int .i64 0, .int .i64 0]) (t := 38) ?hr ?_; (case hd => rfl); (case hg => rfl); (case hr => first | (go_simp; done) | (go_simp; rfl)); intro gb209 hg w56 hbox hb; have n0_ := Aside0.mk (Kd.R_below (Kd.R_elderB (by (with_reducible repeat (first | apply Kd.R_alloc | apply Kd.R_drewN | apply Kd.R_drew)); exact HO_13.out) gb209 (Nat.le_of_eq hg.symm)) hb); have n1_ := Aside0.mk (Kd.R_below (Kd.R_elderB (by (with_reducible repeat (first | apply Kd.R_alloc | apply Kd.R_drewN | apply Kd.R_drew)); exact HO_71.out) gb209 (Nat.le_of_eq hg.symm)) hb); have n2_ := Aside0.mk (Kd.R_below (Kd.R_elderB (by (with_reducible repeat (first | apply Kd.R_alloc | apply Kd.R_drewN | apply Kd.R_drew)); exact HO_77.out) gb209 (Nat.le_of_eq hg.symm)) hb); have n3_ := Aside0.mk (blk_below (g := gb207) (o := .cells #[.int .i64 ((rd_T38 y203 x73_2).f0), .int .i64 ((rd_T38 y203 x73_2).f1), .int .i64 ((rd_T38 y203 x73_2).f2), .int .i64 ((rd_T38 y203 x73_2).f3), .int .i64 ((rd_T38 y203 x73_2).f4)] 38 (0, 0)) (by (with_reducible repeat (first | refine blk_drewN ?_ _ | refine blk_drew ?_ | refine blk_alloc ?_ _)); exact BK207.out) hb); have n4_ := Aside0.mk (below_step (by repeat (first | (with_reducible first | exact HB.out | apply below_alloc | apply pw_below_drewN | apply below_drew1 | refine below_set ?_ GE207.out) | exact HB.out)) hb); have n5_ := Aside0.mk (hbox); have n6_ := Aside0.mk ((by rw [hg]; exact (below_size (by repeat (first | (with_reducible first | exact HB.out | apply below_alloc | apply pw_below_drewN | apply below_drew1 | refine below_set ?_ GE207.out) | exact HB.out))) : w.heap.size ≤ gb209)); have n7_ := Aside0.mk ((by rw [hg]; exact (below_size (by repeat (first | (with_reducible first | exact HB.out | apply below_alloc | apply pw_below_drewN | apply below_drew1 | refine below_set ?_ GE207.out) | exact HB.out))) : w.heap.size ≤ gb209)); have n8_ := Aside0.mk ((by rw [hg]; exact Nat.ne_of_lt (blk_lt (g := gb207) (o := .cells #[.int .i64 ((rd_T38 y203 x73_2).f0), .int .i64 ((rd_T38 y203 x73_2).f1), .int .i64 ((rd_T38 y203 x73_2).f2), .int .i64 ((rd_T38 y203 x73_2).f3), .int .i64 ((rd_T38 y203 x73_2).f4)] 38 (0, 0)) (by (with_reducible repeat (first | refine blk_drewN ?_ _ | refine blk_drew ?_ | refine blk_alloc ?_ _)); exact BK207.out)) : gb207 ≠ gb209)); have n9_ := Aside0.mk ((by rw [hg]; exact Nat.ne_of_gt (blk_lt (g := gb207) (o := .cells #[.int .i64 ((rd_T38 y203 x73_2).f0), .int .i64 ((rd_T38 y203 x73_2).f1), .int .i64 ((rd_T38 y203 x73_2).f2), .int .i64 ((rd_T38 y203 x73_2).f3), .int .i64 ((rd_T38 y203 x73_2).f4)] 38 (0, 0)) (by (with_reducible repeat (first | refine blk_drewN ?_ _ | refine blk_drew ?_ | refine blk_alloc ?_ _)); exact BK207.out)) : gb209 ≠ gb207)); clear HO_13; clear HO_71; clear HO_77; clear BK207; clear HB; have HO_13 := n0_; have HO_71 := n1_; have HO_77 := n2_; have BK207 := n3_; have HB := n4_; have BK209 := n5_; have GW209 := n6_; have GE209 := n7_; have NB207_209 := n8_; have NB209_207 := n9_; clear n0_ n1_ n2_ n3_ n4_ n5_ n6_ n7_ n8_ n9_; clear hb hbox hg; have hnb57 := NB209_207.out; have hnc57 := NB207_209.out; have hcz58_0 : w56.cell? ⟨gb209, 0, none⟩ = some (.int .i64 0) := (blk_cell BK209.out 0).trans rfl; have hcz58_1 : w56.cell? ⟨gb209, 1, none⟩ = some (.int .i64 0) := (blk_cell BK209.out 1).trans rfl; have hcz58_2 : w56.cell? ⟨gb209, 2, none⟩ = some (.int .i64 0) := (blk_cell BK209.out 2).trans rfl; have hcz58_3 : w56.cell? ⟨gb209, 3, none⟩ = some (.int .i64 0) := (blk_cell BK209.out 3).trans rfl; have hcz58_4 : w56.cell? ⟨gb209, 4, none⟩ = some (.int .i64 0) := (blk_cell BK209.out 4).trans rfl; have hfz58_0 := blk_frozen BK209.out 0; have hfz58_1 := blk_frozen BK209.out 1; have hfz58_2 := blk_frozen BK209.out 2; have hfz58_3 := blk_frozen BK209.out 3; have hfz58_4 := blk_frozen BK209.out 4; have hcz59_0 : w56.cell? ⟨gb207, 0, none⟩ = some (.int .i64 ((rd_T38 y203 x73_2).f0)) := (blk_cell BK207.out 0).trans rfl; have hcz59_1 : w56.cell? ⟨gb207, 1, none⟩ = some (.int .i64 ((rd_T38 y203 x73_2).f1)) := (blk_cell BK207.out 1).trans rfl; have hcz59_2 : w56.cell? ⟨gb207, 2, none⟩ = some (.int .i64 ((rd_T38 y203 x73_2).f2)) := (blk_cell BK207.out 2).trans rfl; have hcz59_3 : w56.cell? ⟨gb207, 3, none⟩ = some (.int .i64 ((rd_T38 y203 x73_2).f3)) := (blk_cell BK207.out 3).trans rfl; have hcz59_4 : w56.cell? ⟨gb207, 4, none⟩ = some (.int .i64 ((rd_T38 y203 x73_2).f4)) := (blk_cell BK207.out 4).trans rfl; have hfz59_0 := blk_frozen BK207.out 0; have hfz59_1 := blk_frozen BK207.out 1; have hfz59_2 := blk_frozen BK207.out 2; have hfz59_3 := blk_frozen BK207.out 3; have hfz59_4 := blk_frozen BK207.out 4) | (go_at_call 18; (with_reducible refine (sizarlaw22_covered.calls k3 _ _ l0 ((rd_T38 y203 x73_2).f0) ((rd_T38 y203 x79_3).f3) ((rd_T38 y203 x73_2).f1) false _ ?side1 ?side2 A45.out).mono ?_); (case side1 => exact Kd.C_below HR0.out (by repeat (first | (with_reducible first | exact HB.out | apply below_alloc | apply pw_below_drewN | apply below_drew1 | refine below_set ?_ GE207.out | refine below_set ?_ GE209.out) | exact HB.out))); (case side2 => exact HC0.out); rintro e w60 ⟨rfl, hb⟩; have n0_ := Aside0.mk (Kd.R_below (by (with_reducible repeat (first | apply Kd.R_alloc | apply Kd.R_drewN | apply Kd.R_drew)); exact (Kd.R_mono (Kd.R_far (p := ⟨gb209, 4, none⟩) (Kd.R_far (p := ⟨gb209, 3, none⟩) (Kd.R_far (p := ⟨gb209, 2, none⟩) (Kd.R_far (p := ⟨gb209, 1, none⟩) (Kd.R_far (p := ⟨gb209, 0, none⟩) (Kd.R_mono HO_13.out (fun k_ hk => (⟨hk, hk.2⟩ : _ ∧ k_ ≠ gb209))) (fun _ hk => hk.2) (.int .i64 ((rd_T38 y203 x79_3).f0))) (fun _ hk => hk.2) (.int .i64 ((rd_T38 y203 x79_3).f1))) (fun _ hk => hk.2) (.int .i64 ((rd_T38 y203 x79_3).f2))) (fun _ hk => hk.2) (.int .i64 ((rd_T38 y203 x79_3).f3))) (fun _ hk => hk.2) (.int .i64 ((rd_T38 y203 x79_3).f4))) (fun _ h_ => h_.1))) hb); have n1_ := Aside0.mk (Kd.R_below (by (with_reducible repeat (first | apply Kd.R_alloc | apply Kd.R_drewN | apply Kd.R_drew)); exact (Kd.R_mono (Kd.R_far (p := ⟨gb209, 4, none⟩) (Kd.R_far (p := ⟨gb209, 3, none⟩) (Kd.R_far (p := ⟨gb209, 2, none⟩) (Kd.R_far (p := ⟨gb209, 1, none⟩) (Kd.R_far (p := ⟨gb209, 0, none⟩) (Kd.R_mono HO_71.out (fun k_ hk => (⟨hk, hk.2⟩ : _ ∧ k_ ≠ gb209))) (fun _ hk => hk.2) (.int .i64 ((rd_T38 y203 x79_3).f0))) (fun _ hk => hk.2) (.int .i64 ((rd_T38 y203 x79_3).f1))) (fun _ hk => hk.2) (.int .i64 ((rd_T38 y203 x79_3).f2))) (fun _ hk => hk.2) (.int .i64 ((rd_T38 y203 x79_3).f3))) (fun _ hk => hk.2) (.int .i64 ((rd_T38 y203 x79_3).f4))) (fun _ h_ => h_.1))) hb); have n2_ := Aside0.mk (Kd.R_below (by (with_reducible repeat (first | apply Kd.R_alloc | apply Kd.R_drewN | apply Kd.R_drew)); exact (Kd.R_mono (Kd.R_far (p := ⟨gb209, 4, none⟩) (Kd.R_far (p := ⟨gb209, 3, none⟩) (Kd.R_far (p := ⟨gb209, 2, none⟩) (Kd.R_far (p := ⟨gb209, 1, none⟩) (Kd.R_far (p := ⟨gb209, 0, none⟩) (Kd.R_mono HO_77.out (fun k_ hk => (⟨hk, hk.2⟩ : _ ∧ k_ ≠ gb209))) (fun _ hk => hk.2) (.int .i64 ((rd_T38 y203 x79_3).f0))) (fun _ hk => hk.2) (.int .i64 ((rd_T38 y203 x79_3).f1))) (fun _ hk => hk.2) (.int .i64 ((rd_T38 y203 x79_3).f2))) (fun _ hk => hk.2) (.int .i64 ((rd_T38 y203 x79_3).f3))) (fun _ hk => hk.2) (.int .i64 ((rd_T38 y203 x79_3).f4))) (fun _ h_ => h_.1))) hb); have n3_ := Aside0.mk (blk_below (g := gb207) (o := .cells #[.int .i64 ((rd_T38 y203 x73_2).f0), .int .i64 ((rd_T38 y203 x73_2).f1), .int .i64 ((rd_T38 y203 x73_2).f2), .int .i64 ((rd_T38 y203 x73_2).f3), .int .i64 ((rd_T38 y203 x73_2).f4)] 38 (0, 0)) (by (with_reducible repeat (first | refine blk_drewN ?_ _ | refine blk_drew ?_ | refine blk_alloc ?_ _)); refine blk_far ?_ NB207_209.out _; (with_reducible repeat (first | refine blk_drewN ?_ _ | refine blk_drew ?_ | refine blk_alloc ?_ _)); refine blk_far ?_ NB207_209.out _; (with_reducible repeat (first | refine blk_drewN ?_ _ | refine blk_drew ?_ | refine blk_alloc ?_ _)); refine blk_far ?_ NB207_209.out _; (with_reducible repeat (first | refine blk_drewN ?_ _ | refine blk_drew ?_ | refine blk_alloc ?_ _)); refine blk_far ?_ NB207_209.out _; (with_reducible repeat (first | refine blk_drewN ?_ _ | refine blk_drew ?_ | refine blk_alloc ?_ _)); refine blk_far ?_ NB207_209.out _; (with_reducible repeat (first | refine blk_drewN ?_ _ | refine blk_drew ?_ | refine blk_alloc ?_ _)); exact BK207.out) hb); have n4_ := Aside0.mk (blk_below (g := gb209) (o := .cells #[.int .i64 ((rd_T38 y203 x79_3).f0), .int .i64 ((rd_T38 y203 x79_3).f1), .int .i64 ((rd_T38 y203 x79_3).f2), .int .i64 ((rd_T38 y203 x79_3).f3), .int .i64 ((rd_T38 y203 x79_3).f4)] 38 (0, 0)) (by (with_reducible repeat (first | refine blk_drewN ?_ _ | refine blk_drew ?_ | refine blk_alloc ?_ _)); refine blk_put (cs := #[.int .i64 ((rd_T38 y203 x79_3).f0), .int .i64 ((rd_T38 y203 x79_3).f1), .int .i64 ((rd_T38 y203 x79_3).f2), .int .i64 ((rd_T38 y203 x79_3).f3), .int .i64 0]) ?_ 4 _ rfl; (with_reducible repeat (first | refine blk_drewN ?_ _ | refine blk_drew ?_ | refine blk_alloc ?_ _)); refine blk_put (cs := #[.int .i64 ((rd_T38 y203 x79_3).f0), .int .i64 ((rd_T38 y203 x79_3).f1), .int .i64 ((rd_T38 y203 x79_3).f2), .int .i64 0, .int .i64 0]) ?_ 3 _ rfl; (with_reducible repeat (first | refine blk_drewN ?_ _ | refine blk_drew ?_ | refine blk_alloc ?_ _)); refine blk_put (cs := #[.int .i64 ((rd_T38 y203 x79_3).f0), .int .i64 ((rd_T38 y203 x79_3).f1), .int .i64 0, .int .i64 0, .int .i64 0]) ?_ 2 _ rfl; (with_reducible repeat (first | refine blk_drewN ?_ _ | refine blk_drew ?_ | refine blk_alloc ?_ _)); refine blk_put (cs := #[.int .i64 ((rd_T38 y203 x79_3).f0), .int .i64 0, .int .i64 0, .int .i64 0, .int .i64 0]) ?_ 1 _ rfl; (with_reducible repeat (first | refine blk_drewN ?_ _ | refine blk_drew ?_ | refine blk_alloc ?_ _)); refine blk_put (cs := #[.int .i64 0, .int .i64 0, .int .i64 0, .int .i64 0, .int .i64 0]) ?_ 0 _ rfl; (with_reducible repeat (first | refine blk_drewN ?_ _ | refine blk_drew ?_ | refine blk_alloc ?_ _)); exact BK209.out) hb); have n5_ := Aside0.mk (below_step (by repeat (first | (with_reducible first | exact HB.out | apply below_alloc | apply pw_below_drewN | apply below_drew1 | refine below_set ?_ GE207.out | refine below_set ?_ GE209.out) | exact HB.out)) hb); clear HO_13; clear HO_71; clear HO_77; clear BK207; clear BK209; clear HB; have HO_13 := n0_; have HO_71 := n1_; have HO_77 := n2_; have BK207 := n3_; have BK209 := n4_; have HB := n5_; clear n0_ n1_ n2_ n3_ n4_ n5_; (try clear hb); (try clear hb2); (try clear hk); (try clear hi)))
                                          go_roundg k3
                                          case measure => have := HJ11.out; have := HK2.out; have := HK3.out; omega
                                          case rel => exact ⟨(false), (wrap64 (x79_3 + 1)), (by first | rfl | (simp; done) | (simp [*]; done)), (by first | rfl | (simp; done) | (simp [*]; done)), H', ⟨by have := HJ11.out; have := HK2.out; have := HK3.out; omega⟩, ⟨by (with_reducible repeat (first | apply Kd.R_alloc | apply Kd.R_drewN | apply Kd.R_drew)); exact Kd.R_mono HO_13.out (fun _ hk => hk.1)⟩, ⟨by (with_reducible repeat (first | apply Kd.R_alloc | apply Kd.R_drewN | apply Kd.R_drew)); exact Kd.R_mono HO_71.out (fun _ hk => hk.1)⟩, ⟨by (with_reducible repeat (first | apply Kd.R_alloc | apply Kd.R_drewN | apply Kd.R_drew)); exact Kd.R_mono HO_77.out (fun _ hk => hk.1)⟩, ⟨by (with_reducible repeat (first | refine blk_drewN ?_ _ | refine blk_drew ?_ | refine blk_alloc ?_ _)); exact BK207.out⟩, ⟨by repeat (first | (with_reducible first | exact HB.out | apply below_alloc | apply pw_below_drewN | apply below_drew1 | refine below_set ?_ GE207.out | refine below_set ?_ GE209.out) | exact HB.out)⟩⟩
                                    · rw [if_neg c40] at H
                                      exact absurd H (by simp)
                                  · rw [if_neg c39] at H
                                    exact absurd H (by simp)
                                · rw [if_neg c38] at H
                                  have c38b0 : decide (x79_3 < (y203.length : Int)) = false := decide_eq_false c38
                                  clear c38
                                  have H' := Aside0.mk H
                                  clear H
                                  go_wp2
                                  go_roundg k3
                                  case measure => have := HJ11.out; have := HK2.out; have := HK3.out; omega
                                  case rel => exact ⟨(x14_3), (wrap64 (x73_2 + 1)), (by first | rfl | (simp; done) | (simp [*]; done)), (by first | rfl | (simp; done) | (simp [*]; done)), H', ⟨by have := HJ11.out; have := HK2.out; have := HK3.out; omega⟩, ⟨by (with_reducible repeat (first | apply Kd.R_alloc | apply Kd.R_drewN | apply Kd.R_drew)); exact Kd.R_mono HO_13.out (fun _ hk => trivial)⟩, ⟨by (with_reducible repeat (first | apply Kd.R_alloc | apply Kd.R_drewN | apply Kd.R_drew)); exact Kd.R_mono HO_71.out (fun _ hk => trivial)⟩, ⟨by repeat (first | (with_reducible first | exact HB.out | apply below_alloc | apply pw_below_drewN | apply below_drew1 | refine below_set ?_ GE207.out) | exact HB.out)⟩⟩
                          · rw [if_neg c35] at H
                            exact absurd H (by simp)
                        · rw [if_neg c34] at H
                          exact absurd H (by simp)
                      · rw [if_neg c33] at H
                        have c33b0 : decide (x73_2 < (y203.length : Int)) = false := decide_eq_false c33
                        clear c33
                        obtain rfl := Option.some.inj H
                        go_wp2
                        go_ret
                        exact ⟨by first | rfl | (simp [errW_none, errW_some] <;> rfl) | (simp [*, errW_none, errW_some] <;> rfl), by repeat (first | (with_reducible first | exact HB.out | apply below_alloc | apply pw_below_drewN | apply below_drew1) | exact HB.out)⟩
                · rw [if_neg c27] at H
                  exact absurd H (by simp)
              · rw [if_neg c26] at H
                exact absurd H (by simp)
      · rw [if_neg c11] at H
        have c11b0 : (t192 == 0) = false := beq_eq_false_iff_ne.mpr c11
        have c11b1 : (t192 != 0) = true := bne_iff_ne.mpr c11
        by_cases c61 : t192 = 220
        · rw [if_pos c61] at H
          have c61b0 : (t192 == 220) = true := beq_iff_eq.mpr c61
          have c61b1 : (t192 != 220) = false := bne_eq_false_iff_eq.mpr c61
          clear c61
          by_cases c62 : t191 = true
          · subst c62
            have H1 : (none) = some r := by rw [if_pos rfl] at H; exact H
            clear H
            have H := H1
            clear H1
            exact absurd H (by simp)
          · replace c62 := Bool.eq_false_iff.mpr c62
            subst c62
            have H1 : ((meeting_Check.f l0).bind fun t193 => (if t193 = 0 then ((meeting_Check.f l1).bind fun t194 => (some (t194 != 0))) else (some true))) = some r := by rw [if_neg (show ¬ (false = true) by decide)] at H; exact H
            clear H
            have H := H1
            clear H1
            replace H := Option.bind_eq_some_iff.mp H
            obtain ⟨t193, A630, H⟩ := H
            replace H : (if t193 = 0 then ((meeting_Check.f l1).bind fun t194 => (some (t194 != 0))) else (some true)) = some r := H
            have A63 := Aside0.mk A630
            clear A630
            by_cases c64 : t193 = 0
            · rw [if_pos c64] at H
              have c64b0 : (t193 == 0) = true := beq_iff_eq.mpr c64
              have c64b1 : (t193 != 0) = false := bne_eq_false_iff_eq.mpr c64
              clear c64
              replace H := Option.bind_eq_some_iff.mp H
              obtain ⟨t194, A650, H⟩ := H
              replace H : (some (t194 != 0)) = some r := H
              have A65 := Aside0.mk A650
              clear A650
              obtain rfl := Option.some.inj H
              go_enter Try.func4, Try.ntmps4
              go_wp2_with (first | ((with_reducible refine gate_callee (f := 9) rfl ?_); refine goesL_ (some 19) rfl rfl Try.func9 (by kernel_rfl) rfl #[] rfl (by (try simp only [List.map_toArray, List.map_cons, List.map_nil]); first | done | rfl | (simp only [List.length_drop, List.length_take]; rfl)) ?_; (with_reducible refine (sizarlaw22_sane.calls k  true _ A6.out).mono ?_); rintro e w66 ⟨rfl, hb⟩; refine ⟨_, rfl, ?_⟩; have n0_ := Aside0.mk (below_step (by repeat (first | (with_reducible first | exact HB.out | apply below_alloc | apply pw_below_drewN | apply below_drew1) | exact HB.out)) hb); clear HB; have HB := n0_; clear n0_; (try clear hb); (try clear hb2); (try clear hk); (try clear hi)) | ((with_reducible refine gate_callee (f := 10) rfl ?_); refine goesL_ (some 24) rfl rfl Try.func10 (by kernel_rfl) rfl #[.slice (some ⟨_, 0, none⟩) 2 2] rfl (by (try simp only [List.map_toArray, List.map_cons, List.map_nil]); first | done | rfl | (simp only [List.length_drop, List.length_take]; rfl)) ?_; (with_reducible refine (few2.calls _ _ l0 _ _ l1 true _ ?side1 ?side2 ?side3 ?side4 A8.out).mono ?_); (case side1 => repeat (first | exact (Kd.C_below HR0.out HB.out) | (with_reducible refine Kd.C_alloc ?_ _) | (with_reducible refine Kd.C_drewN ?_ _) | (with_reducible refine Kd.C_drew ?_))); (case side2 => exact HC0.out); (case side3 => repeat (first | exact (Kd.C_below HR1.out HB.out) | (with_reducible refine Kd.C_alloc ?_ _) | (with_reducible refine Kd.C_drewN ?_ _) | (with_reducible refine Kd.C_drew ?_))); (case side4 => exact HC1.out); rintro e w67 ⟨rfl, hb⟩; refine ⟨_, rfl, ?_⟩; have n0_ := Aside0.mk (below_step (by repeat (first | (with_reducible first | exact HB.out | apply below_alloc | apply pw_below_drewN | apply below_drew1) | exact HB.out)) hb); clear HB; have HB := n0_; clear n0_; (try clear hb); (try clear hb2); (try clear hk); (try clear hi)) | ((with_reducible refine gate_callee (f := 16) rfl ?_); refine goesL_ (some 29) rfl rfl Try.func16 (by kernel_rfl) rfl #[.slice A0 l0.length c0, .slice A1 l1.length c1] rfl (by (try simp only [List.map_toArray, List.map_cons, List.map_nil]); first | done | rfl | (simp only [List.length_drop, List.length_take]; rfl)) ?_; (with_reducible refine (meeting_Clash.calls _ _ l0 _ _ l1 false t192 _ ?side1 ?side2 ?side3 ?side4 A10.out).mono ?_); (case side1 => repeat (first | exact (Kd.C_below HR0.out HB.out) | (with_reducible refine Kd.C_alloc ?_ _) | (with_reducible refine Kd.C_drewN ?_ _) | (with_reducible refine Kd.C_drew ?_))); (case side2 => exact HC0.out); (case side3 => repeat (first | exact (Kd.C_below HR1.out HB.out) | (with_reducible refine Kd.C_alloc ?_ _) | (with_reducible refine Kd.C_drewN ?_ _) | (with_reducible refine Kd.C_drew ?_))); (case side4 => exact HC1.out); rintro e w68 ⟨rfl, hb⟩; refine ⟨_, rfl, ?_⟩; have n0_ := Aside0.mk (below_step (by repeat (first | (with_reducible first | exact HB.out | apply below_alloc | apply pw_below_drewN | apply below_drew1) | exact HB.out)) hb); clear HB; have HB := n0_; clear n0_; (try clear hb); (try clear hb2); (try clear hk); (try clear hi)) | (go_at_call 17; (with_reducible refine (meeting_Check.calls _ _ l0 t193 _ ?side1 ?side2 A63.out).mono ?_); (case side1 => repeat (first | exact (Kd.C_below HR0.out HB.out) | (with_reducible refine Kd.C_alloc ?_ _) | (with_reducible refine Kd.C_drewN ?_ _) | (with_reducible refine Kd.C_drew ?_))); (case side2 => exact HC0.out); rintro e w69 ⟨rfl, hb⟩; have n0_ := Aside0.mk (below_step (by repeat (first | (with_reducible first | exact HB.out | apply below_alloc | apply pw_below_drewN | apply below_drew1) | exact HB.out)) hb); clear HB; have HB := n0_; clear n0_; (try clear hb); (try clear hb2); (try clear hk); (try clear hi)) | (go_at_call 17; (with_reducible refine (meeting_Check.calls _ _ l1 t194 _ ?side1 ?side2 A65.out).mono ?_); (case side1 => repeat (first | exact (Kd.C_below HR1.out HB.out) | (with_reducible refine Kd.C_alloc ?_ _) | (with_reducible refine Kd.C_drewN ?_ _) | (with_reducible refine Kd.C_drew ?_))); (case side2 => exact HC1.out); rintro e w70 ⟨rfl, hb⟩; have n0_ := Aside0.mk (below_step (by repeat (first | (with_reducible first | exact HB.out | apply below_alloc | apply pw_below_drewN | apply below_drew1) | exact HB.out)) hb); clear HB; have HB := n0_; clear n0_; (try clear hb); (try clear hb2); (try clear hk); (try clear hi)))
              go_ret
              exact ⟨by first | rfl | (simp [errW_none, errW_some] <;> rfl) | (simp [*, errW_none, errW_some] <;> rfl), by repeat (first | (with_reducible first | exact HB.out | apply below_alloc | apply pw_below_drewN | apply below_drew1) | exact HB.out)⟩
            · rw [if_neg c64] at H
              have c64b0 : (t193 == 0) = false := beq_eq_false_iff_ne.mpr c64
              have c64b1 : (t193 != 0) = true := bne_iff_ne.mpr c64
              obtain rfl := Option.some.inj H
              go_enter Try.func4, Try.ntmps4
              go_wp2_with (first | ((with_reducible refine gate_callee (f := 9) rfl ?_); refine goesL_ (some 19) rfl rfl Try.func9 (by kernel_rfl) rfl #[] rfl (by (try simp only [List.map_toArray, List.map_cons, List.map_nil]); first | done | rfl | (simp only [List.length_drop, List.length_take]; rfl)) ?_; (with_reducible refine (sizarlaw22_sane.calls k  true _ A6.out).mono ?_); rintro e w71 ⟨rfl, hb⟩; refine ⟨_, rfl, ?_⟩; have n0_ := Aside0.mk (below_step (by repeat (first | (with_reducible first | exact HB.out | apply below_alloc | apply pw_below_drewN | apply below_drew1) | exact HB.out)) hb); clear HB; have HB := n0_; clear n0_; (try clear hb); (try clear hb2); (try clear hk); (try clear hi)) | ((with_reducible refine gate_callee (f := 10) rfl ?_); refine goesL_ (some 24) rfl rfl Try.func10 (by kernel_rfl) rfl #[.slice (some ⟨_, 0, none⟩) 2 2] rfl (by (try simp only [List.map_toArray, List.map_cons, List.map_nil]); first | done | rfl | (simp only [List.length_drop, List.length_take]; rfl)) ?_; (with_reducible refine (few2.calls _ _ l0 _ _ l1 true _ ?side1 ?side2 ?side3 ?side4 A8.out).mono ?_); (case side1 => repeat (first | exact (Kd.C_below HR0.out HB.out) | (with_reducible refine Kd.C_alloc ?_ _) | (with_reducible refine Kd.C_drewN ?_ _) | (with_reducible refine Kd.C_drew ?_))); (case side2 => exact HC0.out); (case side3 => repeat (first | exact (Kd.C_below HR1.out HB.out) | (with_reducible refine Kd.C_alloc ?_ _) | (with_reducible refine Kd.C_drewN ?_ _) | (with_reducible refine Kd.C_drew ?_))); (case side4 => exact HC1.out); rintro e w72 ⟨rfl, hb⟩; refine ⟨_, rfl, ?_⟩; have n0_ := Aside0.mk (below_step (by repeat (first | (with_reducible first | exact HB.out | apply below_alloc | apply pw_below_drewN | apply below_drew1) | exact HB.out)) hb); clear HB; have HB := n0_; clear n0_; (try clear hb); (try clear hb2); (try clear hk); (try clear hi)) | ((with_reducible refine gate_callee (f := 16) rfl ?_); refine goesL_ (some 29) rfl rfl Try.func16 (by kernel_rfl) rfl #[.slice A0 l0.length c0, .slice A1 l1.length c1] rfl (by (try simp only [List.map_toArray, List.map_cons, List.map_nil]); first | done | rfl | (simp only [List.length_drop, List.length_take]; rfl)) ?_; (with_reducible refine (meeting_Clash.calls _ _ l0 _ _ l1 false t192 _ ?side1 ?side2 ?side3 ?side4 A10.out).mono ?_); (case side1 => repeat (first | exact (Kd.C_below HR0.out HB.out) | (with_reducible refine Kd.C_alloc ?_ _) | (with_reducible refine Kd.C_drewN ?_ _) | (with_reducible refine Kd.C_drew ?_))); (case side2 => exact HC0.out); (case side3 => repeat (first | exact (Kd.C_below HR1.out HB.out) | (with_reducible refine Kd.C_alloc ?_ _) | (with_reducible refine Kd.C_drewN ?_ _) | (with_reducible refine Kd.C_drew ?_))); (case side4 => exact HC1.out); rintro e w73 ⟨rfl, hb⟩; refine ⟨_, rfl, ?_⟩; have n0_ := Aside0.mk (below_step (by repeat (first | (with_reducible first | exact HB.out | apply below_alloc | apply pw_below_drewN | apply below_drew1) | exact HB.out)) hb); clear HB; have HB := n0_; clear n0_; (try clear hb); (try clear hb2); (try clear hk); (try clear hi)) | (go_at_call 17; (with_reducible refine (meeting_Check.calls _ _ l0 t193 _ ?side1 ?side2 A63.out).mono ?_); (case side1 => repeat (first | exact (Kd.C_below HR0.out HB.out) | (with_reducible refine Kd.C_alloc ?_ _) | (with_reducible refine Kd.C_drewN ?_ _) | (with_reducible refine Kd.C_drew ?_))); (case side2 => exact HC0.out); rintro e w74 ⟨rfl, hb⟩; have n0_ := Aside0.mk (below_step (by repeat (first | (with_reducible first | exact HB.out | apply below_alloc | apply pw_below_drewN | apply below_drew1) | exact HB.out)) hb); clear HB; have HB := n0_; clear n0_; (try clear hb); (try clear hb2); (try clear hk); (try clear hi)))
              go_ret
              exact ⟨by first | rfl | (simp [errW_none, errW_some] <;> rfl) | (simp [*, errW_none, errW_some] <;> rfl), by repeat (first | (with_reducible first | exact HB.out | apply below_alloc | apply pw_below_drewN | apply below_drew1) | exact HB.out)⟩
        · rw [if_neg c61] at H
          exact absurd H (by simp)
    · replace c9 := Bool.eq_false_iff.mpr c9
      subst c9
      have H1 : (some true) = some r := by rw [if_neg (show ¬ (false = true) by decide)] at H; exact H
      clear H
      have H := H1
      clear H1
      obtain rfl := Option.some.inj H
      go_enter Try.func4, Try.ntmps4
      go_wp2_with (first | ((with_reducible refine gate_callee (f := 9) rfl ?_); refine goesL_ (some 19) rfl rfl Try.func9 (by kernel_rfl) rfl #[] rfl (by (try simp only [List.map_toArray, List.map_cons, List.map_nil]); first | done | rfl | (simp only [List.length_drop, List.length_take]; rfl)) ?_; (with_reducible refine (sizarlaw22_sane.calls k  true _ A6.out).mono ?_); rintro e w75 ⟨rfl, hb⟩; refine ⟨_, rfl, ?_⟩; have n0_ := Aside0.mk (below_step (by repeat (first | (with_reducible first | exact HB.out | apply below_alloc | apply pw_below_drewN | apply below_drew1) | exact HB.out)) hb); clear HB; have HB := n0_; clear n0_; (try clear hb); (try clear hb2); (try clear hk); (try clear hi)) | ((with_reducible refine gate_callee (f := 10) rfl ?_); refine goesL_ (some 24) rfl rfl Try.func10 (by kernel_rfl) rfl #[.slice (some ⟨_, 0, none⟩) 2 2] rfl (by (try simp only [List.map_toArray, List.map_cons, List.map_nil]); first | done | rfl | (simp only [List.length_drop, List.length_take]; rfl)) ?_; (with_reducible refine (few2.calls _ _ l0 _ _ l1 false _ ?side1 ?side2 ?side3 ?side4 A8.out).mono ?_); (case side1 => repeat (first | exact (Kd.C_below HR0.out HB.out) | (with_reducible refine Kd.C_alloc ?_ _) | (with_reducible refine Kd.C_drewN ?_ _) | (with_reducible refine Kd.C_drew ?_))); (case side2 => exact HC0.out); (case side3 => repeat (first | exact (Kd.C_below HR1.out HB.out) | (with_reducible refine Kd.C_alloc ?_ _) | (with_reducible refine Kd.C_drewN ?_ _) | (with_reducible refine Kd.C_drew ?_))); (case side4 => exact HC1.out); rintro e w76 ⟨rfl, hb⟩; refine ⟨_, rfl, ?_⟩; have n0_ := Aside0.mk (below_step (by repeat (first | (with_reducible first | exact HB.out | apply below_alloc | apply pw_below_drewN | apply below_drew1) | exact HB.out)) hb); clear HB; have HB := n0_; clear n0_; (try clear hb); (try clear hb2); (try clear hk); (try clear hi)))
      go_ret
      exact ⟨by first | rfl | (simp [errW_none, errW_some] <;> rfl) | (simp [*, errW_none, errW_some] <;> rfl), by repeat (first | (with_reducible first | exact HB.out | apply below_alloc | apply pw_below_drewN | apply below_drew1) | exact HB.out)⟩
  · replace c7 := Bool.eq_false_iff.mpr c7
    subst c7
    have H1 : (none) = some r := by rw [if_neg (show ¬ (false = true) by decide)] at H; exact H
    clear H
    have H := H1
    clear H1
    exact absurd H (by simp)

end Go.Proofs.Ytlcckkimbkfjpaa.G
