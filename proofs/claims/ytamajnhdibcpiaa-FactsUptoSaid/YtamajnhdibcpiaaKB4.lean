/- Part 26 of the proof of the claim; the conditions are the statement's own. Own texts and printed texts, merged by pack.py (ours). -/
import Derived.Test.YtamajnhdibcpiaaRows
import Derived.Deep.Slices
import Derived.Deep.Fields
import Derived.ChangeSame
import Derived.WalkKit
import Derived.ProofKit
import Derived.OpenShut
import Derived.ChangeOld
import Derived.Below
import Derived.SizedLaws
import Derived.ShutString
import Derived.Test.YtamajnhdibcpiaaKB3
namespace Go.Proofs.Ytamajnhdibcpiaa.G
open Go.RowKit Go.Proofs.YtamajnhdibcpiaaW.PrintWords Go.Proofs.YtamajnhdibcpiaaW.PrintLast Go.Proofs.YtamajnhdibcpiaaW.PrintMore
attribute [local go_sem] max2_int min2_int max_two min_two max_three min_three max_four min_four   -- for this text's walks alone
set_option linter.unusedVariables false
set_option linter.unusedSimpArgs false
mutual
def sizarlaw07_FactsUpto.j0 : Nat → List (S28) → Int → Int → Int → Bool → Int → Int → Int → Option (Bool)
  | 0, _, _, _, _, _, _, _, _ => none
  | k + 1, x0, x2, x3, x4, x27, x432000, x432001, x432002 => if x27 = true then (some true) else ((facts_Upto.f x0 x3).bind fun t434 => ((some (([(⟨x432000, x432001, x432002⟩ : S24)] : List (S24)) : List (S24))).bind fun y437 => (if (x0.length : Int) > 0 then (if 0 < (x0.length : Int) then (if 0 ≤ (wrap64 ((x0.length : Int) / 2)) then (if (wrap64 ((x0.length : Int) / 2)) < (x0.length : Int) then ((some (([(⟨(rd_T28 x0 0).f0.f0, (rd_T28 x0 0).f0.f1, (rd_T28 x0 0).f0.f2⟩ : S24), (⟨(rd_T28 x0 (wrap64 ((x0.length : Int) / 2))).f0.f0, (rd_T28 x0 (wrap64 ((x0.length : Int) / 2))).f0.f1, (rd_T28 x0 (wrap64 ((x0.length : Int) / 2))).f0.f2⟩ : S24)] : List (S24)) : List (S24))).bind fun y442 => (if y437.length + y442.length < 5864062014805 then (sizarlaw07_FactsUpto.j1 k x0 x2 x3 x4 t434 (y437 ++ y442)) else (none))) else (none)) else (none)) else (none)) else (sizarlaw07_FactsUpto.j1 k x0 x2 x3 x4 t434 y437))))
def sizarlaw07_FactsUpto.j1 : Nat → List (S28) → Int → Int → Int → List (S28) → List (S24) → Option (Bool)
  | 0, _, _, _, _, _, _ => none
  | k + 1, x0, x2, x3, x4, x11, x12 => sizarlaw07_FactsUpto.l0 k x0 x2 x3 x4 x11 x12 0
def sizarlaw07_FactsUpto.l0 : Nat → List (S28) → Int → Int → Int → List (S28) → List (S24) → Int → Option (Bool)
  | 0, _, _, _, _, _, _, _ => none
  | k + 1, x0, x2, x3, x4, x11, x12, x13 => if x13 < (x12.length : Int) then (if 0 ≤ x13 then ((facts_At.f x0 ((rd_T24 x12 x13).f0) ((rd_T24 x12 x13).f1) ((rd_T24 x12 x13).f2) x2 x3).bind fun bt449 => ((facts_At.f x11 ((rd_T24 x12 x13).f0) ((rd_T24 x12 x13).f1) ((rd_T24 x12 x13).f2) x2 x4).bind fun bt452 => (if bt449.1 = bt452.1 then (if (bt449.2 != bt452.2) = true then (none) else (sizarlaw07_FactsUpto.l0 k x0 x2 x3 x4 x11 x12 (wrap64 (x13 + 1)))) else (none)))) else (none)) else (some (decide ((x11.length : Int) ≤ (x0.length : Int))))
end
def sizarlaw07_FactsUpto.f (k : Nat) (l0 : List (S28)) (a1_0 : Int) (a1_1 : Int) (a1_2 : Int) (a2 : Int) (a3 : Int) (a4 : Int) : Option (Bool) := (sizarlaw07_sane.f k).bind fun t432 => (if t432 = true then ((sizarref07_Few.f l0).bind fun t433 => (if t433 = true then (sizarlaw07_FactsUpto.j0 k l0 a2 a3 a4 (decide (a4 < a3)) a1_0 a1_1 a1_2) else (sizarlaw07_FactsUpto.j0 k l0 a2 a3 a4 true a1_0 a1_1 a1_2))) else (none))
theorem sizarlaw07_FactsUpto.mono_l : ∀ k, (∀ y0 y1 y2 y3 y4 y5 y6 y7, LeO (sizarlaw07_FactsUpto.j0 k y0 y1 y2 y3 y4 y5 y6 y7) (sizarlaw07_FactsUpto.j0 (k + 1) y0 y1 y2 y3 y4 y5 y6 y7)) ∧ (∀ y0 y1 y2 y3 y4 y5, LeO (sizarlaw07_FactsUpto.j1 k y0 y1 y2 y3 y4 y5) (sizarlaw07_FactsUpto.j1 (k + 1) y0 y1 y2 y3 y4 y5)) ∧ (∀ y0 y1 y2 y3 y4 y5 y6, LeO (sizarlaw07_FactsUpto.l0 k y0 y1 y2 y3 y4 y5 y6) (sizarlaw07_FactsUpto.l0 (k + 1) y0 y1 y2 y3 y4 y5 y6))
  | 0 => ⟨fun _ _ _ _ _ _ _ _ r h => by simp [sizarlaw07_FactsUpto.j0] at h, fun _ _ _ _ _ _ r h => by simp [sizarlaw07_FactsUpto.j1] at h, fun _ _ _ _ _ _ _ r h => by simp [sizarlaw07_FactsUpto.l0] at h⟩
  | k + 1 => by
    obtain ⟨ih0, ih1, ih2⟩ := sizarlaw07_FactsUpto.mono_l k
    refine ⟨?_, ?_, ?_⟩
    · intro y0 y1 y2 y3 y4 y5 y6 y7
      unfold sizarlaw07_FactsUpto.j0
      repeat' first
      | (with_reducible exact ih0 _ _ _ _ _ _ _ _)
      | (with_reducible exact ih1 _ _ _ _ _ _)
      | (with_reducible exact ih2 _ _ _ _ _ _ _)
      | (with_reducible exact sizarlaw07_sane.mono _)
      | (with_reducible exact LeO.refl _)
      | (with_reducible exact LeO.none _)
      | (with_reducible refine LeO.ite ?_ ?_)
      | (with_reducible refine LeO.bind ?_ (fun _ => ?_))
      | exact ih0 _ _ _ _ _ _ _ _
      | exact ih1 _ _ _ _ _ _
      | exact ih2 _ _ _ _ _ _ _
      | exact sizarlaw07_sane.mono _
      | exact LeO.none _
      | refine LeO.ite ?_ ?_
      | refine LeO.bind ?_ (fun _ => ?_)
    · intro y0 y1 y2 y3 y4 y5
      unfold sizarlaw07_FactsUpto.j1
      repeat' first
      | (with_reducible exact ih0 _ _ _ _ _ _ _ _)
      | (with_reducible exact ih1 _ _ _ _ _ _)
      | (with_reducible exact ih2 _ _ _ _ _ _ _)
      | (with_reducible exact sizarlaw07_sane.mono _)
      | (with_reducible exact LeO.refl _)
      | (with_reducible exact LeO.none _)
      | (with_reducible refine LeO.ite ?_ ?_)
      | (with_reducible refine LeO.bind ?_ (fun _ => ?_))
      | exact ih0 _ _ _ _ _ _ _ _
      | exact ih1 _ _ _ _ _ _
      | exact ih2 _ _ _ _ _ _ _
      | exact sizarlaw07_sane.mono _
      | exact LeO.none _
      | refine LeO.ite ?_ ?_
      | refine LeO.bind ?_ (fun _ => ?_)
    · intro y0 y1 y2 y3 y4 y5 y6
      unfold sizarlaw07_FactsUpto.l0
      repeat' first
      | (with_reducible exact ih0 _ _ _ _ _ _ _ _)
      | (with_reducible exact ih1 _ _ _ _ _ _)
      | (with_reducible exact ih2 _ _ _ _ _ _ _)
      | (with_reducible exact sizarlaw07_sane.mono _)
      | (with_reducible exact LeO.refl _)
      | (with_reducible exact LeO.none _)
      | (with_reducible refine LeO.ite ?_ ?_)
      | (with_reducible refine LeO.bind ?_ (fun _ => ?_))
      | exact ih0 _ _ _ _ _ _ _ _
      | exact ih1 _ _ _ _ _ _
      | exact ih2 _ _ _ _ _ _ _
      | exact sizarlaw07_sane.mono _
      | exact LeO.none _
      | refine LeO.ite ?_ ?_
      | refine LeO.bind ?_ (fun _ => ?_)
theorem sizarlaw07_FactsUpto.mono : ∀ a0 a1 a2 a3 a4 a5 a6 k, LeO (sizarlaw07_FactsUpto.f k a0 a1 a2 a3 a4 a5 a6) (sizarlaw07_FactsUpto.f (k + 1) a0 a1 a2 a3 a4 a5 a6) := by
  intro a0 a1 a2 a3 a4 a5 a6 k
  obtain ⟨ih0, ih1, ih2⟩ := sizarlaw07_FactsUpto.mono_l k
  unfold sizarlaw07_FactsUpto.f
  repeat' first
      | (with_reducible exact ih0 _ _ _ _ _ _ _ _)
      | (with_reducible exact ih1 _ _ _ _ _ _)
      | (with_reducible exact ih2 _ _ _ _ _ _ _)
      | (with_reducible exact sizarlaw07_sane.mono _)
      | (with_reducible exact LeO.refl _)
      | (with_reducible exact LeO.none _)
      | (with_reducible refine LeO.ite ?_ ?_)
      | (with_reducible refine LeO.bind ?_ (fun _ => ?_))
      | exact ih0 _ _ _ _ _ _ _ _
      | exact ih1 _ _ _ _ _ _
      | exact ih2 _ _ _ _ _ _ _
      | exact sizarlaw07_sane.mono _
      | exact LeO.none _
      | refine LeO.ite ?_ ?_
      | refine LeO.bind ?_ (fun _ => ?_)
def sizarlaw07_FactsUpto.T8 : Bool × List (List Nat × List Nat) := (true, [([], []), ([], []), ([1], [1]), ([2], [2]), ([3], [3]), ([], []), ([], []), ([6], [6]), ([7], [7]), ([5, 8], [5, 8]), ([9], [9]), ([10], [10]), ([4, 11], [4, 11]), ([0, 12], [0, 12]), ([13, 13, 0, 1, 2, 3, 4, 5, 6, 7, 8, 9, 10, 11, 12, 13], [0, 13])])
def sizarlaw07_FactsUpto.B8 : List Nat := [0, 0, 2, 6, 14, 0, 0, 64, 192, 480, 992, 2016, 4094, 8191, 16383]
theorem sizarlaw07_FactsUpto.tab8 : rtab .any (opsOf Try.f7 8) = sizarlaw07_FactsUpto.T8 := by kernel_rfl
theorem sizarlaw07_FactsUpto.bits8 : waitsOk sizarlaw07_FactsUpto.T8.2 sizarlaw07_FactsUpto.B8 = true := by kernel_rfl
set_option maxHeartbeats 8000000 in
set_option maxRecDepth 100000 in
theorem sizarlaw07_FactsUpto.calls (k : Nat) (A0 : Option Addr) (c0 : Nat) (l0 : List (S28)) (a1_0 : Int) (a1_1 : Int) (a1_2 : Int) (a2 : Int) (a3 : Int) (a4 : Int) (r : Bool) (w : World) (hr0 : Kd.C k28 w A0 l0.length l0) (hc0 : l0.length ≤ c0) (h : sizarlaw07_FactsUpto.f k l0 a1_0 a1_1 a1_2 a2 a3 a4 = some r) :
    Calls Try.prog 7 #[.slice A0 l0.length c0, .agg #[.int .i64 a1_0, .int .i64 a1_1, .int .i64 a1_2], .int .i64 a2, .int .i64 a3, .int .i64 a4] w fun e w' => e = .returned (.bool r) ∧ Below w.heap.size w w' := by
  have hu24 := Try.underlying24
  have HR0 := Aside0.mk hr0
  have HC0 := Aside0.mk hc0
  clear hr0 hc0
  have HB := Aside0.mk (Below.refl w.heap.size w)
  have H : ((sizarlaw07_sane.f k).bind fun t432 => (if t432 = true then ((sizarref07_Few.f l0).bind fun t433 => (if t433 = true then (sizarlaw07_FactsUpto.j0 k l0 a2 a3 a4 (decide (a4 < a3)) a1_0 a1_1 a1_2) else (sizarlaw07_FactsUpto.j0 k l0 a2 a3 a4 true a1_0 a1_1 a1_2))) else (none))) = some r := h
  clear h
  replace H := Option.bind_eq_some_iff.mp H
  obtain ⟨t432, A60, H⟩ := H
  replace H : (if t432 = true then ((sizarref07_Few.f l0).bind fun t433 => (if t433 = true then (sizarlaw07_FactsUpto.j0 k l0 a2 a3 a4 (decide (a4 < a3)) a1_0 a1_1 a1_2) else (sizarlaw07_FactsUpto.j0 k l0 a2 a3 a4 true a1_0 a1_1 a1_2))) else (none)) = some r := H
  have A6 := Aside0.mk A60
  clear A60
  by_cases c7 : t432 = true
  · subst c7
    have H1 : ((sizarref07_Few.f l0).bind fun t433 => (if t433 = true then (sizarlaw07_FactsUpto.j0 k l0 a2 a3 a4 (decide (a4 < a3)) a1_0 a1_1 a1_2) else (sizarlaw07_FactsUpto.j0 k l0 a2 a3 a4 true a1_0 a1_1 a1_2))) = some r := by rw [if_pos rfl] at H; exact H
    clear H
    have H := H1
    clear H1
    have HC8 := Aside0.mk H
    clear H
    go_enter Try.func7, Try.ntmps7
    go_upto_region 3 with (first | ((with_reducible refine gate_dst (N := 6) rfl ?_); refine box_event ?hg (N := 6) ?hd (cs := #[.int .i64 a1_0, .int .i64 a1_1, .int .i64 a1_2]) (t := 24) ?hr ?_; (case hd => rfl); (case hg => rfl); (case hr => first | (go_simp; done) | (go_simp; rfl)); intro gb431 hg w9 hbox hb; have n0_ := Aside0.mk (below_step (by repeat (first | (with_reducible first | exact HB.out | apply below_alloc | apply pw_below_drewN | apply below_drew1) | exact HB.out)) hb); have n1_ := Aside0.mk (hbox); have n2_ := Aside0.mk ((by rw [hg]; exact (below_size (by repeat (first | (with_reducible first | exact HB.out | apply below_alloc | apply pw_below_drewN | apply below_drew1) | exact HB.out))) : w.heap.size ≤ gb431)); have n3_ := Aside0.mk ((by rw [hg]; exact (below_size (by repeat (first | (with_reducible first | exact HB.out | apply below_alloc | apply pw_below_drewN | apply below_drew1) | exact HB.out))) : w.heap.size ≤ gb431)); clear HB; have HB := n0_; have BK431 := n1_; have GW431 := n2_; have GE431 := n3_; clear n0_ n1_ n2_ n3_; clear hb hbox hg) | ((with_reducible refine gate_callee (f := 11) rfl ?_); refine goesL_ (some 18) rfl rfl Try.func11 (by kernel_rfl) rfl #[] rfl (by (try simp only [List.map_toArray, List.map_cons, List.map_nil]); first | done | rfl | (simp only [List.length_drop, List.length_take]; rfl)) ?_; (with_reducible refine (sizarlaw07_sane.calls k  true _ A6.out).mono ?_); rintro e w10 ⟨rfl, hb⟩; refine ⟨_, rfl, ?_⟩; have n0_ := Aside0.mk (blk_below (g := gb431) (o := .cells #[.int .i64 a1_0, .int .i64 a1_1, .int .i64 a1_2] 24 (0, 0)) (by (with_reducible repeat (first | refine blk_drewN ?_ _ | refine blk_drew ?_ | refine blk_alloc ?_ _)); exact BK431.out) hb); have n1_ := Aside0.mk (below_step (by repeat (first | (with_reducible first | exact HB.out | apply below_alloc | apply pw_below_drewN | apply below_drew1 | refine below_set ?_ GE431.out) | exact HB.out)) hb); clear BK431; clear HB; have BK431 := n0_; have HB := n1_; clear n0_ n1_; (try clear hb); (try clear hb2); (try clear hk); (try clear hi)))
    (try simp only [Act.put, List.setIfInBounds_toArray, List.set_cons_zero, List.set_cons_succ])
    go_cut [27] (fun v27 wc => ∃ (kq : Nat) (x27_7 : Bool), v27 = .bool x27_7 ∧ Aside0 (sizarlaw07_FactsUpto.j0 kq l0 a2 a3 a4 x27_7 a1_0 a1_1 a1_2 = some r) ∧ Aside0 (kq ≤ k) ∧ Aside0 (wc.heap[gb431]? = some (.cells #[.int .i64 a1_0, .int .i64 a1_1, .int .i64 a1_2] 24 (0, 0))) ∧ Aside0 (Below w.heap.size w wc))
    case first =>
      have H := HC8.out
      clear HC8
      replace H := Option.bind_eq_some_iff.mp H
      obtain ⟨t433, A110, H⟩ := H
      replace H : (if t433 = true then (sizarlaw07_FactsUpto.j0 k l0 a2 a3 a4 (decide (a4 < a3)) a1_0 a1_1 a1_2) else (sizarlaw07_FactsUpto.j0 k l0 a2 a3 a4 true a1_0 a1_1 a1_2)) = some r := H
      have A11 := Aside0.mk A110
      clear A110
      by_cases c12 : t433 = true
      · subst c12
        have H1 : (sizarlaw07_FactsUpto.j0 k l0 a2 a3 a4 (decide (a4 < a3)) a1_0 a1_1 a1_2) = some r := by rw [if_pos rfl] at H; exact H
        clear H
        have H := H1
        clear H1
        have H' := Aside0.mk H
        clear H
        go_wp2_with (first | ((with_reducible refine gate_callee (f := 12) rfl ?_); refine goesL_ (some 21) rfl rfl Try.func12 (by kernel_rfl) rfl #[.slice A0 l0.length c0] rfl (by (try simp only [List.map_toArray, List.map_cons, List.map_nil]); first | done | rfl | (simp only [List.length_drop, List.length_take]; rfl)) ?_; (with_reducible refine (sizarref07_Few.calls _ _ l0 true _ ?side1 ?side2 A11.out).mono ?_); (case side1 => repeat (first | exact (Kd.C_below HR0.out HB.out) | (with_reducible refine Kd.C_alloc ?_ _) | (with_reducible refine Kd.C_drewN ?_ _) | (with_reducible refine Kd.C_drew ?_))); (case side2 => exact HC0.out); rintro e w' ⟨rfl, ⟨nd, rfl⟩⟩; refine ⟨_, rfl, ?_⟩))
        go_meet
        case rel => exact ⟨_, (decide (a4 < a3)), (by first | rfl | (simp; done) | (simp [*]; done)), H', ⟨by first | omega | exact Nat.le_refl _⟩, ⟨by (with_reducible repeat (first | refine blk_drewN ?_ _ | refine blk_drew ?_ | refine blk_alloc ?_ _)); exact BK431.out⟩, ⟨by repeat (first | (with_reducible first | exact HB.out | apply below_alloc | apply pw_below_drewN | apply below_drew1 | refine below_set ?_ GE431.out) | exact HB.out)⟩⟩
      · replace c12 := Bool.eq_false_iff.mpr c12
        subst c12
        have H1 : (sizarlaw07_FactsUpto.j0 k l0 a2 a3 a4 true a1_0 a1_1 a1_2) = some r := by rw [if_neg (show ¬ (false = true) by decide)] at H; exact H
        clear H
        have H := H1
        clear H1
        have H' := Aside0.mk H
        clear H
        go_wp2_with (first | ((with_reducible refine gate_callee (f := 12) rfl ?_); refine goesL_ (some 21) rfl rfl Try.func12 (by kernel_rfl) rfl #[.slice A0 l0.length c0] rfl (by (try simp only [List.map_toArray, List.map_cons, List.map_nil]); first | done | rfl | (simp only [List.length_drop, List.length_take]; rfl)) ?_; (with_reducible refine (sizarref07_Few.calls _ _ l0 false _ ?side1 ?side2 A11.out).mono ?_); (case side1 => repeat (first | exact (Kd.C_below HR0.out HB.out) | (with_reducible refine Kd.C_alloc ?_ _) | (with_reducible refine Kd.C_drewN ?_ _) | (with_reducible refine Kd.C_drew ?_))); (case side2 => exact HC0.out); rintro e w' ⟨rfl, ⟨nd, rfl⟩⟩; refine ⟨_, rfl, ?_⟩))
        go_meet
        case rel => exact ⟨_, (true), (by first | rfl | (simp; done) | (simp [*]; done)), H', ⟨by first | omega | exact Nat.le_refl _⟩, ⟨by (with_reducible repeat (first | refine blk_drewN ?_ _ | refine blk_drew ?_ | refine blk_alloc ?_ _)); exact BK431.out⟩, ⟨by repeat (first | (with_reducible first | exact HB.out | apply below_alloc | apply pw_below_drewN | apply below_drew1 | refine below_set ?_ GE431.out) | exact HB.out)⟩⟩
    case rest =>
      clear HC8
      try clear c1
      try clear p2
      try clear c7
      try clear c11
      try clear c12
      obtain ⟨kq, x27_7, rfl, HA, HJ7, BK431, HB⟩ := hcut
      cases kq with
      | zero => exact absurd HA.out (by simp [sizarlaw07_FactsUpto.j0])
      | succ kj7 =>
        have H := HA.out
        clear HA
        simp only [sizarlaw07_FactsUpto.j0] at H
        by_cases c13 : x27_7 = true
        · subst c13
          have H1 : (some true) = some r := by rw [if_pos rfl] at H; exact H
          clear H
          have H := H1
          clear H1
          obtain rfl := Option.some.inj H
          go_wp2
          go_ret
          exact ⟨by first | rfl | (simp [errW_none, errW_some] <;> rfl) | (simp [*, errW_none, errW_some] <;> rfl), by repeat (first | (with_reducible first | exact HB.out | apply below_alloc | apply pw_below_drewN | apply below_drew1 | refine below_set ?_ GE431.out) | exact HB.out)⟩
        · replace c13 := Bool.eq_false_iff.mpr c13
          subst c13
          have H1 : ((facts_Upto.f l0 a3).bind fun t434 => ((some (([(⟨a1_0, a1_1, a1_2⟩ : S24)] : List (S24)) : List (S24))).bind fun y437 => (if (l0.length : Int) > 0 then (if 0 < (l0.length : Int) then (if 0 ≤ (wrap64 ((l0.length : Int) / 2)) then (if (wrap64 ((l0.length : Int) / 2)) < (l0.length : Int) then ((some (([(⟨(rd_T28 l0 0).f0.f0, (rd_T28 l0 0).f0.f1, (rd_T28 l0 0).f0.f2⟩ : S24), (⟨(rd_T28 l0 (wrap64 ((l0.length : Int) / 2))).f0.f0, (rd_T28 l0 (wrap64 ((l0.length : Int) / 2))).f0.f1, (rd_T28 l0 (wrap64 ((l0.length : Int) / 2))).f0.f2⟩ : S24)] : List (S24)) : List (S24))).bind fun y442 => (if y437.length + y442.length < 5864062014805 then (sizarlaw07_FactsUpto.j1 kj7 l0 a2 a3 a4 t434 (y437 ++ y442)) else (none))) else (none)) else (none)) else (none)) else (sizarlaw07_FactsUpto.j1 kj7 l0 a2 a3 a4 t434 y437)))) = some r := by rw [if_neg (show ¬ (false = true) by decide)] at H; exact H
          clear H
          have H := H1
          clear H1
          replace H := Option.bind_eq_some_iff.mp H
          obtain ⟨t434, A140, H⟩ := H
          replace H : ((some (([(⟨a1_0, a1_1, a1_2⟩ : S24)] : List (S24)) : List (S24))).bind fun y437 => (if (l0.length : Int) > 0 then (if 0 < (l0.length : Int) then (if 0 ≤ (wrap64 ((l0.length : Int) / 2)) then (if (wrap64 ((l0.length : Int) / 2)) < (l0.length : Int) then ((some (([(⟨(rd_T28 l0 0).f0.f0, (rd_T28 l0 0).f0.f1, (rd_T28 l0 0).f0.f2⟩ : S24), (⟨(rd_T28 l0 (wrap64 ((l0.length : Int) / 2))).f0.f0, (rd_T28 l0 (wrap64 ((l0.length : Int) / 2))).f0.f1, (rd_T28 l0 (wrap64 ((l0.length : Int) / 2))).f0.f2⟩ : S24)] : List (S24)) : List (S24))).bind fun y442 => (if y437.length + y442.length < 5864062014805 then (sizarlaw07_FactsUpto.j1 kj7 l0 a2 a3 a4 t434 (y437 ++ y442)) else (none))) else (none)) else (none)) else (none)) else (sizarlaw07_FactsUpto.j1 kj7 l0 a2 a3 a4 t434 y437))) = some r := H
          have A14 := Aside0.mk A140
          clear A140
          obtain ⟨y437, hy437⟩ : ∃ y_ : List (S24), y_ = (([(⟨a1_0, a1_1, a1_2⟩ : S24)] : List (S24))) := ⟨_, rfl⟩
          replace H : (if (l0.length : Int) > 0 then (if 0 < (l0.length : Int) then (if 0 ≤ (wrap64 ((l0.length : Int) / 2)) then (if (wrap64 ((l0.length : Int) / 2)) < (l0.length : Int) then ((some (([(⟨(rd_T28 l0 0).f0.f0, (rd_T28 l0 0).f0.f1, (rd_T28 l0 0).f0.f2⟩ : S24), (⟨(rd_T28 l0 (wrap64 ((l0.length : Int) / 2))).f0.f0, (rd_T28 l0 (wrap64 ((l0.length : Int) / 2))).f0.f1, (rd_T28 l0 (wrap64 ((l0.length : Int) / 2))).f0.f2⟩ : S24)] : List (S24)) : List (S24))).bind fun y442 => (if y437.length + y442.length < 5864062014805 then (sizarlaw07_FactsUpto.j1 kj7 l0 a2 a3 a4 t434 (y437 ++ y442)) else (none))) else (none)) else (none)) else (none)) else (sizarlaw07_FactsUpto.j1 kj7 l0 a2 a3 a4 t434 y437)) = some r := by first | (rw [hy437]; with_reducible exact H) | (have H2_ := (Option.bind_some _ _).symm.trans H; rw [hy437]; with_reducible exact H2_) | (have H2_ := (Option.bind_some _ _).symm.trans H; with_reducible exact H2_) | with_reducible exact H | (rw [hy437]; exact H) | exact H
          have Ny437 := Aside0.mk hy437
          clear hy437
          have HC15 := Aside0.mk H
          clear H
          go_upto_if 35 with (first | ((with_reducible refine gate_callee (f := 28) rfl ?_); refine goesL_ (some 30) rfl rfl Try.func28 (by kernel_rfl) rfl #[.slice A0 l0.length c0, .int .i64 a3] rfl (by (try simp only [List.map_toArray, List.map_cons, List.map_nil]); first | done | rfl | (simp only [List.length_drop, List.length_take]; rfl)) ?_; (with_reducible refine (facts_Upto.calls _ _ l0 a3 t434 _ ?side1 ?side2 A14.out).mono ?_); (case side1 => repeat (first | exact (Kd.C_below HR0.out HB.out) | (with_reducible refine Kd.C_alloc ?_ _) | (with_reducible refine Kd.C_drewN ?_ _) | (with_reducible refine Kd.C_drew ?_))); (case side2 => exact HC0.out); rintro e w16 ⟨v435, rfl, ho0, hb⟩; refine ⟨_, rfl, ?_⟩; have n0_ := Aside0.mk (Kd.R_lower ho0 (below_size (by repeat (first | (with_reducible first | exact HB.out | apply below_alloc | apply pw_below_drewN | apply below_drew1 | refine below_set ?_ GE431.out) | exact HB.out)))); have n1_ := Aside0.mk (blk_below (g := gb431) (o := .cells #[.int .i64 a1_0, .int .i64 a1_1, .int .i64 a1_2] 24 (0, 0)) (by (with_reducible repeat (first | refine blk_drewN ?_ _ | refine blk_drew ?_ | refine blk_alloc ?_ _)); exact BK431.out) hb); have n2_ := Aside0.mk (below_step (by repeat (first | (with_reducible first | exact HB.out | apply below_alloc | apply pw_below_drewN | apply below_drew1 | refine below_set ?_ GE431.out) | exact HB.out)) hb); clear BK431; clear HB; have HO436 := n0_; have BK431 := n1_; have HB := n2_; clear n0_ n1_ n2_; (try clear hb); (try clear hb2); (try clear hk); (try clear hi); (try clear ho0); have hcz17_0 : w16.cell? ⟨gb431, 0, none⟩ = some (.int .i64 a1_0) := (blk_cell BK431.out 0).trans rfl; have hcz17_1 : w16.cell? ⟨gb431, 1, none⟩ = some (.int .i64 a1_1) := (blk_cell BK431.out 1).trans rfl; have hcz17_2 : w16.cell? ⟨gb431, 2, none⟩ = some (.int .i64 a1_2) := (blk_cell BK431.out 2).trans rfl; have hfz17_0 := blk_frozen BK431.out 0; have hfz17_1 := blk_frozen BK431.out 1; have hfz17_2 := blk_frozen BK431.out 2) | ((with_reducible refine gate_dst (N := 32) rfl ?_); refine Kd.R_lit k24 _ 24 ?hg (N := 32) ?hd (xs := ([(⟨a1_0, a1_1, a1_2⟩ : S24)] : List (S24))) (inner := [.int .i64 a1_0, .int .i64 a1_1, .int .i64 a1_2]) (ok := fun _ => True) (okp := fun _ => True) ?hr ?hp (fun _ hk => hk) trivial (Below.refl _ _) (Nat.le_refl _) (by simp) ?_; (case hd => rfl); (case hg => rfl); (case hr => first | (go_simp; done) | (go_simp; rfl)); (case hp => exact (Reps.c3 (show Kd.M k24 _ _ _ (⟨a1_0, a1_1, a1_2⟩ : S24) [.int .i64 a1_0, .int .i64 a1_1, .int .i64 a1_2] from (k24_mkM _ _ _ (⟨a1_0, a1_1, a1_2⟩ : S24) )) (Reps.none _ _))); intro v438 w18 ho19 hb hg_ hnew_; clear hg_ hnew_; (first | rw [← Ny437.out] at ho19 | (simp only [Int.reduceToNat] at ho19; rw [← Ny437.out] at ho19)); have n0_ := Aside0.mk (Kd.R_below (by (with_reducible repeat (first | apply Kd.R_alloc | apply Kd.R_drewN | apply Kd.R_drew)); exact HO436.out) hb); have n1_ := Aside0.mk (Kd.R_lower (Kd.R_newB ho19 (g := gb431) (o := .cells #[.int .i64 a1_0, .int .i64 a1_1, .int .i64 a1_2] 24 (0, 0)) (by (with_reducible repeat (first | refine blk_drewN ?_ _ | refine blk_drew ?_ | refine blk_alloc ?_ _)); exact BK431.out)) (below_size (by repeat (first | (with_reducible first | exact HB.out | apply below_alloc | apply pw_below_drewN | apply below_drew1 | refine below_set ?_ GE431.out) | exact HB.out)))); have n2_ := Aside0.mk (blk_below (g := gb431) (o := .cells #[.int .i64 a1_0, .int .i64 a1_1, .int .i64 a1_2] 24 (0, 0)) (by (with_reducible repeat (first | refine blk_drewN ?_ _ | refine blk_drew ?_ | refine blk_alloc ?_ _)); exact BK431.out) hb); have n3_ := Aside0.mk (below_step (by repeat (first | (with_reducible first | exact HB.out | apply below_alloc | apply pw_below_drewN | apply below_drew1 | refine below_set ?_ GE431.out) | exact HB.out)) hb); clear HO436; clear BK431; clear HB; have HO436 := n0_; have HO439 := n1_; have BK431 := n2_; have HB := n3_; clear n0_ n1_ n2_ n3_; clear hb ho19))
          (try simp only [Act.put, List.setIfInBounds_toArray, List.set_cons_zero, List.set_cons_succ])
          go_cut [12] (fun v12 wc => ∃ (kq : Nat) (x12_14 : List (S24)), Aside0 (sizarlaw07_FactsUpto.j1 kq l0 a2 a3 a4 t434 x12_14 = some r) ∧ Aside0 (kq ≤ kj7) ∧ Aside0 (Kd.R k28 28 wc w.heap.size (fun _ => True) v435 t434) ∧ Aside0 (Kd.R k24 24 wc w.heap.size (fun k_ => k_ ≠ gb431) v12 x12_14) ∧ Aside0 (wc.heap[gb431]? = some (.cells #[.int .i64 a1_0, .int .i64 a1_1, .int .i64 a1_2] 24 (0, 0))) ∧ Aside0 (Below w.heap.size w wc))
          case first =>
            have H := HC15.out
            clear HC15
            by_cases c20 : (l0.length : Int) > 0
            · rw [if_pos c20] at H
              have c20b0 : decide (0 < (l0.length : Int)) = true := decide_eq_true c20
              have c20b1 : decide (0 < l0.length) = true := decide_eq_true (by omega)
              clear c20
              (first | rw [c20b0] | rw [c20b1] | (simp only [i64_w, i32_w]; rw [c20b0]) | skip)
              by_cases c21 : 0 < (l0.length : Int)
              · rw [if_pos c21] at H
                have c21b0 : decide (0 < (l0.length : Int)) = true := decide_eq_true c21
                have c21b1 : decide (0 < l0.length) = true := decide_eq_true (by omega)
                clear c21
                obtain ⟨ji22, hji22⟩ : ∃ j_ : Int, (wrap64 ((l0.length : Int) / 2)) = j_ := ⟨_, rfl⟩
                replace H : (if 0 ≤ (ji22) then (if (ji22) < (l0.length : Int) then ((some (([(⟨(rd_T28 l0 0).f0.f0, (rd_T28 l0 0).f0.f1, (rd_T28 l0 0).f0.f2⟩ : S24), (⟨(rd_T28 l0 (ji22)).f0.f0, (rd_T28 l0 (ji22)).f0.f1, (rd_T28 l0 (ji22)).f0.f2⟩ : S24)] : List (S24)) : List (S24))).bind fun y442 => (if y437.length + y442.length < 5864062014805 then (sizarlaw07_FactsUpto.j1 kj7 l0 a2 a3 a4 t434 (y437 ++ y442)) else (none))) else (none)) else (none)) = some r := by first | (rw [hji22] at H; exact H) | (simp only [hji22] at H ⊢; exact H)
                have hji22w : (IntKind.i64.wrap ((l0.length : Int) / 2)) = ji22 := (i64_w _).trans hji22
                by_cases c23 : 0 ≤ (ji22)
                · rw [if_pos c23] at H
                  have c23b0 : decide (0 ≤ (ji22)) = true := decide_eq_true c23
                  clear c23
                  by_cases c24 : (ji22) < (l0.length : Int)
                  · rw [if_pos c24] at H
                    have c24b0 : decide ((ji22) < (l0.length : Int)) = true := decide_eq_true c24
                    clear c24
                    obtain ⟨y442, hy442⟩ : ∃ y_ : List (S24), y_ = (([(⟨(rd_T28 l0 0).f0.f0, (rd_T28 l0 0).f0.f1, (rd_T28 l0 0).f0.f2⟩ : S24), (⟨(rd_T28 l0 (ji22)).f0.f0, (rd_T28 l0 (ji22)).f0.f1, (rd_T28 l0 (ji22)).f0.f2⟩ : S24)] : List (S24))) := ⟨_, rfl⟩
                    replace H : (if y437.length + y442.length < 5864062014805 then (sizarlaw07_FactsUpto.j1 kj7 l0 a2 a3 a4 t434 (y437 ++ y442)) else (none)) = some r := by first | (rw [hy442]; with_reducible exact H) | (have H2_ := (Option.bind_some _ _).symm.trans H; rw [hy442]; with_reducible exact H2_) | (have H2_ := (Option.bind_some _ _).symm.trans H; with_reducible exact H2_) | with_reducible exact H | (rw [hy442]; exact H) | exact H
                    have Ny442 := Aside0.mk hy442
                    clear hy442
                    by_cases c25 : y437.length + y442.length < 5864062014805
                    · rw [if_pos c25] at H
                      have LMc25 := Aside0.mk c25
                      clear c25
                      obtain ⟨y445, hy445⟩ : ∃ y_ : List (S24), y_ = (y437 ++ y442) := ⟨_, rfl⟩
                      replace H : (sizarlaw07_FactsUpto.j1 kj7 l0 a2 a3 a4 t434 y445) = some r := by first | (rw [hy445]; with_reducible exact H) | (have H2_ := (Option.bind_some _ _).symm.trans H; rw [hy445]; with_reducible exact H2_) | (have H2_ := (Option.bind_some _ _).symm.trans H; with_reducible exact H2_) | with_reducible exact H | (rw [hy445]; exact H) | exact H
                      have Ny445 := Aside0.mk hy445
                      clear hy445
                      have H' := Aside0.mk H
                      clear H
                      try go_wp2
                      have n0_ := Aside0.mk (Kd.R_drew HO436.out)
                      have n1_ := Aside0.mk (Kd.R_drew HO439.out)
                      have n2_ := Aside0.mk (blk_drew BK431.out)
                      have n3_ := Aside0.mk (below_drew1 HB.out)
                      clear HO436
                      clear HO439
                      clear BK431
                      clear HB
                      have HO436 := n0_
                      have HO439 := n1_
                      have BK431 := n2_
                      have HB := n3_
                      clear n0_ n1_ n2_ n3_
                      have p440 : 0 ≤ (0 : Int) := (by omega)
                      have q440 : 0 < (l0.length : Int) := of_decide_eq_true (by first | (with_reducible assumption) | assumption)
                      obtain ⟨ad440, e440, hx440_0, hx440_1, hx440_2, hx440_3, hx440_4, hx440_5, hx440_6, hx440_7⟩ := at_T28 HR0.out 0 p440 q440
                      have hw440_7 := hx440_7
                      (try rw [show ((0 : Int)).toNat = 0 from rfl] at hw440_7)
                      (try rw [show 0 * 8 = 0 from rfl] at hw440_7)
                      (try rw [Addr.add_zero'] at hw440_7)
                      have hw440_6 := hx440_6
                      (try rw [show ((0 : Int)).toNat = 0 from rfl] at hw440_6)
                      (try rw [show 0 * 8 = 0 from rfl] at hw440_6)
                      (try rw [Addr.add_zero'] at hw440_6)
                      have hw440_5 := hx440_5
                      (try rw [show ((0 : Int)).toNat = 0 from rfl] at hw440_5)
                      (try rw [show 0 * 8 = 0 from rfl] at hw440_5)
                      (try rw [Addr.add_zero'] at hw440_5)
                      have hw440_4 := hx440_4
                      (try rw [show ((0 : Int)).toNat = 0 from rfl] at hw440_4)
                      (try rw [show 0 * 8 = 0 from rfl] at hw440_4)
                      (try rw [Addr.add_zero'] at hw440_4)
                      have hw440_3 := hx440_3
                      (try rw [show ((0 : Int)).toNat = 0 from rfl] at hw440_3)
                      (try rw [show 0 * 8 = 0 from rfl] at hw440_3)
                      (try rw [Addr.add_zero'] at hw440_3)
                      have hw440_2 := hx440_2
                      (try rw [show ((0 : Int)).toNat = 0 from rfl] at hw440_2)
                      (try rw [show 0 * 8 = 0 from rfl] at hw440_2)
                      (try rw [Addr.add_zero'] at hw440_2)
                      have hw440_1 := hx440_1
                      (try rw [show ((0 : Int)).toNat = 0 from rfl] at hw440_1)
                      (try rw [show 0 * 8 = 0 from rfl] at hw440_1)
                      (try rw [Addr.add_zero'] at hw440_1)
                      have hw440_0 := hx440_0
                      (try rw [show ((0 : Int)).toNat = 0 from rfl] at hw440_0)
                      (try rw [show 0 * 8 = 0 from rfl] at hw440_0)
                      (try rw [Addr.add_zero'] at hw440_0)
                      cases e440
                      have qi440 : (0 < l0.length) = True := eq_true (by omega)
                      (try rw [show ((0 : Int)).toNat = 0 from rfl] at hx440_0)
                      (try rw [show 0 * 8 = 0 from rfl] at hx440_0)
                      (try rw [Addr.add_zero'] at hx440_0)
                      (try rw [show ((0 : Int)).toNat = 0 from rfl] at hx440_1)
                      (try rw [show 0 * 8 = 0 from rfl] at hx440_1)
                      (try rw [Addr.add_zero'] at hx440_1)
                      (try rw [show ((0 : Int)).toNat = 0 from rfl] at hx440_2)
                      (try rw [show 0 * 8 = 0 from rfl] at hx440_2)
                      (try rw [Addr.add_zero'] at hx440_2)
                      (try rw [show ((0 : Int)).toNat = 0 from rfl] at hx440_3)
                      (try rw [show 0 * 8 = 0 from rfl] at hx440_3)
                      (try rw [Addr.add_zero'] at hx440_3)
                      (try rw [show ((0 : Int)).toNat = 0 from rfl] at hx440_4)
                      (try rw [show 0 * 8 = 0 from rfl] at hx440_4)
                      (try rw [Addr.add_zero'] at hx440_4)
                      (try rw [show ((0 : Int)).toNat = 0 from rfl] at hx440_5)
                      (try rw [show 0 * 8 = 0 from rfl] at hx440_5)
                      (try rw [Addr.add_zero'] at hx440_5)
                      (try rw [show ((0 : Int)).toNat = 0 from rfl] at hx440_6)
                      (try rw [show 0 * 8 = 0 from rfl] at hx440_6)
                      (try rw [Addr.add_zero'] at hx440_6)
                      (try rw [show ((0 : Int)).toNat = 0 from rfl] at hx440_7)
                      (try rw [show 0 * 8 = 0 from rfl] at hx440_7)
                      (try rw [Addr.add_zero'] at hx440_7)
                      replace hx440_0 := (HB.out.cell (World.block_lt_of_cell? w _ hx440_0)).trans hx440_0
                      replace hx440_1 := (HB.out.cell (World.block_lt_of_cell? w _ hx440_1)).trans hx440_1
                      replace hx440_2 := (HB.out.cell (World.block_lt_of_cell? w _ hx440_2)).trans hx440_2
                      replace hx440_3 := (HB.out.cell (World.block_lt_of_cell? w _ hx440_3)).trans hx440_3
                      replace hx440_4 := (HB.out.cell (World.block_lt_of_cell? w _ hx440_4)).trans hx440_4
                      replace hx440_5 := (HB.out.cell (World.block_lt_of_cell? w _ hx440_5)).trans hx440_5
                      replace hx440_6 := (HB.out.cell (World.block_lt_of_cell? w _ hx440_6)).trans hx440_6
                      replace hx440_7 := (HB.out.cell (World.block_lt_of_cell? w _ hx440_7)).trans hx440_7
                      replace p440 := eq_true p440
                      replace q440 := eq_true q440
                      have p441 : 0 ≤ ((ji22) : Int) := of_decide_eq_true (by first | (with_reducible assumption) | assumption)
                      have q441 : (ji22) < (l0.length : Int) := of_decide_eq_true (by first | (with_reducible assumption) | assumption)
                      obtain ⟨ad441, e441, hx441_0, hx441_1, hx441_2, hx441_3, hx441_4, hx441_5, hx441_6, hx441_7⟩ := at_T28 HR0.out (ji22) p441 q441
                      have hw441_7 := hx441_7
                      have hw441_6 := hx441_6
                      have hw441_5 := hx441_5
                      have hw441_4 := hx441_4
                      have hw441_3 := hx441_3
                      have hw441_2 := hx441_2
                      have hw441_1 := hx441_1
                      have hw441_0 := hx441_0
                      obtain rfl : ad440 = ad441 := (by injection e441)
                      replace hx441_0 := (HB.out.cell (World.block_lt_of_cell? w _ hx441_0)).trans hx441_0
                      replace hx441_1 := (HB.out.cell (World.block_lt_of_cell? w _ hx441_1)).trans hx441_1
                      replace hx441_2 := (HB.out.cell (World.block_lt_of_cell? w _ hx441_2)).trans hx441_2
                      replace hx441_3 := (HB.out.cell (World.block_lt_of_cell? w _ hx441_3)).trans hx441_3
                      replace hx441_4 := (HB.out.cell (World.block_lt_of_cell? w _ hx441_4)).trans hx441_4
                      replace hx441_5 := (HB.out.cell (World.block_lt_of_cell? w _ hx441_5)).trans hx441_5
                      replace hx441_6 := (HB.out.cell (World.block_lt_of_cell? w _ hx441_6)).trans hx441_6
                      replace hx441_7 := (HB.out.cell (World.block_lt_of_cell? w _ hx441_7)).trans hx441_7
                      replace p441 := eq_true p441
                      replace q441 := eq_true q441
                      refine start_ (n := 15) (S := fun w' => w'.cell? ad440 = some (.int .i64 ((rd_T28 l0 0).f0.f0)) ∧ w'.cell? ⟨ad440.block, ad440.off + 1, none⟩ = some (.int .i64 ((rd_T28 l0 0).f0.f1)) ∧ w'.cell? ⟨ad440.block, ad440.off + 2, none⟩ = some (.int .i64 ((rd_T28 l0 0).f0.f2)) ∧ w'.cell? ⟨ad440.block, ad440.off + 3, none⟩ = some (.int .i64 ((rd_T28 l0 0).f1)) ∧ w'.cell? ⟨ad440.block, ad440.off + 4, none⟩ = some (.int .i64 ((rd_T28 l0 0).f2.f0)) ∧ w'.cell? ⟨ad440.block, ad440.off + 5, none⟩ = some (.int .i64 ((rd_T28 l0 0).f2.f1)) ∧ w'.cell? ⟨ad440.block, ad440.off + 6, none⟩ = some (.int .i64 ((rd_T28 l0 0).f3)) ∧ w'.cell? ⟨ad440.block, ad440.off + 7, none⟩ = some (.int .i64 ((rd_T28 l0 0).f4)) ∧ w'.cell? (ad440.add (((ji22)).toNat * 8)) = some (.int .i64 ((rd_T28 l0 (ji22)).f0.f0)) ∧ w'.cell? ⟨(ad440.add (((ji22)).toNat * 8)).block, (ad440.add (((ji22)).toNat * 8)).off + 1, none⟩ = some (.int .i64 ((rd_T28 l0 (ji22)).f0.f1)) ∧ w'.cell? ⟨(ad440.add (((ji22)).toNat * 8)).block, (ad440.add (((ji22)).toNat * 8)).off + 2, none⟩ = some (.int .i64 ((rd_T28 l0 (ji22)).f0.f2)) ∧ w'.cell? ⟨(ad440.add (((ji22)).toNat * 8)).block, (ad440.add (((ji22)).toNat * 8)).off + 3, none⟩ = some (.int .i64 ((rd_T28 l0 (ji22)).f1)) ∧ w'.cell? ⟨(ad440.add (((ji22)).toNat * 8)).block, (ad440.add (((ji22)).toNat * 8)).off + 4, none⟩ = some (.int .i64 ((rd_T28 l0 (ji22)).f2.f0)) ∧ w'.cell? ⟨(ad440.add (((ji22)).toNat * 8)).block, (ad440.add (((ji22)).toNat * 8)).off + 5, none⟩ = some (.int .i64 ((rd_T28 l0 (ji22)).f2.f1)) ∧ w'.cell? ⟨(ad440.add (((ji22)).toNat * 8)).block, (ad440.add (((ji22)).toNat * 8)).off + 6, none⟩ = some (.int .i64 ((rd_T28 l0 (ji22)).f3)) ∧ w'.cell? ⟨(ad440.add (((ji22)).toNat * 8)).block, (ad440.add (((ji22)).toNat * 8)).off + 7, none⟩ = some (.int .i64 ((rd_T28 l0 (ji22)).f4))) (ds := []) #[false, false, false, false, false, false, false, false, false, false, false, false, false, false, false] (by kernel_rfl) rfl rfl ⟨((HB.out.cell (World.block_lt_of_cell? w _ hw440_0)).trans hw440_0), ((HB.out.cell (World.block_lt_of_cell? w _ hw440_1)).trans hw440_1), ((HB.out.cell (World.block_lt_of_cell? w _ hw440_2)).trans hw440_2), ((HB.out.cell (World.block_lt_of_cell? w _ hw440_3)).trans hw440_3), ((HB.out.cell (World.block_lt_of_cell? w _ hw440_4)).trans hw440_4), ((HB.out.cell (World.block_lt_of_cell? w _ hw440_5)).trans hw440_5), ((HB.out.cell (World.block_lt_of_cell? w _ hw440_6)).trans hw440_6), ((HB.out.cell (World.block_lt_of_cell? w _ hw440_7)).trans hw440_7), ((HB.out.cell (World.block_lt_of_cell? w _ hw441_0)).trans hw441_0), ((HB.out.cell (World.block_lt_of_cell? w _ hw441_1)).trans hw441_1), ((HB.out.cell (World.block_lt_of_cell? w _ hw441_2)).trans hw441_2), ((HB.out.cell (World.block_lt_of_cell? w _ hw441_3)).trans hw441_3), ((HB.out.cell (World.block_lt_of_cell? w _ hw441_4)).trans hw441_4), ((HB.out.cell (World.block_lt_of_cell? w _ hw441_5)).trans hw441_5), ((HB.out.cell (World.block_lt_of_cell? w _ hw441_6)).trans hw441_6), ((HB.out.cell (World.block_lt_of_cell? w _ hw441_7)).trans hw441_7)⟩ (fun hHeld => ?_); refine with_tabW sizarlaw07_FactsUpto.tab8 sizarlaw07_FactsUpto.bits8 (fun HT_ HW_ => ?_)
                      generalize w18.drew = w26 at HO436 HO439 BK431 HB hx440_0 hx440_1 hx440_2 hx440_3 hx440_4 hx440_5 hx440_6 hx440_7 hx441_0 hx441_1 hx441_2 hx441_3 hx441_4 hx441_5 hx441_6 hx441_7 hHeld ⊢
                      refine pure_ (i := 0) (N := some 36) (v := ?_) (a' := ?_) #[true, false, false, false, false, false, false, false, false, false, false, false, false, false, false] rfl rfl (any_of HT_.out (by kernel_rfl)) (fun _ _ _ h => h) (Or.inl ⟨by rfl, ?_⟩) ?_ ?_
                      rotate_left
                      · intro w'
                        go_simp
                        with_reducible rfl
                      rotate_left
                      · simp only [Act.put, List.setIfInBounds_toArray, List.set_cons_zero, List.set_cons_succ, i64_w, i32_w]
                        rfl
                      refine pure_ (i := 1) (N := some 37) (v := ?_) (a' := ?_) #[true, true, false, false, false, false, false, false, false, false, false, false, false, false, false] rfl rfl (any_of HT_.out (by kernel_rfl)) (fun _ _ _ h => h) (Or.inl ⟨by rfl, ?_⟩) ?_ ?_
                      rotate_left
                      · intro w'
                        go_simp
                        with_reducible rfl
                      rotate_left
                      · simp only [Act.put, List.setIfInBounds_toArray, List.set_cons_zero, List.set_cons_succ, i64_w, i32_w]
                        rfl
                      refine pure_ (i := 2) (N := some 38) (v := ?_) (a' := ?_) #[true, true, true, false, false, false, false, false, false, false, false, false, false, false, false] rfl rfl (any_of HT_.out (by kernel_rfl)) (fun _ _ _ h => h) (Or.inl ⟨by rfl, ?_⟩) ?_ ?_
                      rotate_left
                      · intro w'
                        go_simp
                        with_reducible rfl
                      rotate_left
                      · simp only [Act.put, List.setIfInBounds_toArray, List.set_cons_zero, List.set_cons_succ, i64_w, i32_w]
                        rfl
                      refine pure_ (i := 3) (N := some 39) (v := ?_) (a' := ?_) #[true, true, true, true, false, false, false, false, false, false, false, false, false, false, false] rfl rfl (any_of HT_.out (by kernel_rfl)) (fun _ _ _ h => h) (Or.inl ⟨by rfl, ?_⟩) ?_ ?_
                      rotate_left
                      · intro w'
                        go_simp
                        with_reducible rfl
                      rotate_left
                      · simp only [Act.put, List.setIfInBounds_toArray, List.set_cons_zero, List.set_cons_succ, i64_w, i32_w]
                        rfl
                      refine pure_ (i := 5) (N := some 41) (v := ?_) (a' := ?_) #[true, true, true, true, false, true, false, false, false, false, false, false, false, false, false] rfl rfl (any_of HT_.out (by kernel_rfl)) (fun _ _ _ h => h) (Or.inl ⟨by rfl, ?_⟩) ?_ ?_
                      rotate_left
                      · intro w'
                        go_simp
                        with_reducible rfl
                      rotate_left
                      · simp only [Act.put, List.setIfInBounds_toArray, List.set_cons_zero, List.set_cons_succ, i64_w, i32_w]
                        rfl
                      refine pure_ (i := 6) (N := some 42) (v := ?_) (a' := ?_) #[true, true, true, true, false, true, true, false, false, false, false, false, false, false, false] rfl rfl (any_of HT_.out (by kernel_rfl)) (fun _ _ _ h => h) (Or.inl ⟨by rfl, ?_⟩) ?_ ?_
                      rotate_left
                      · intro w'
                        go_simp
                        with_reducible rfl
                      rotate_left
                      · simp only [Act.put, List.setIfInBounds_toArray, List.set_cons_zero, List.set_cons_succ, i64_w, i32_w]
                        rfl
                      refine pure_ (i := 7) (N := some 43) (v := ?_) (a' := ?_) #[true, true, true, true, false, true, true, true, false, false, false, false, false, false, false] rfl rfl (any_of HT_.out (by kernel_rfl)) (fun _ _ _ h => h) (Or.inl ⟨by rfl, ?_⟩) ?_ ?_
                      rotate_left
                      · intro w'
                        go_simp
                        with_reducible rfl
                      rotate_left
                      · simp only [Act.put, List.setIfInBounds_toArray, List.set_cons_zero, List.set_cons_succ, i64_w, i32_w]
                        rfl
                      refine pure_ (i := 8) (N := some 44) (v := ?_) (a' := ?_) #[true, true, true, true, false, true, true, true, true, false, false, false, false, false, false] rfl rfl (any_of HT_.out (by kernel_rfl)) (fun _ _ _ h => h) (Or.inl ⟨by rfl, ?_⟩) ?_ ?_
                      rotate_left
                      · intro w'
                        go_simp
                        with_reducible rfl
                      rotate_left
                      · simp only [Act.put, List.setIfInBounds_toArray, List.set_cons_zero, List.set_cons_succ, i64_w, i32_w]
                        rfl
                      refine pure_ (i := 9) (N := some 45) (v := ?_) (a' := ?_) #[true, true, true, true, false, true, true, true, true, true, false, false, false, false, false] rfl rfl (any_of HT_.out (by kernel_rfl)) (fun _ _ _ h => h) (Or.inl ⟨by rfl, ?_⟩) ?_ ?_
                      rotate_left
                      · intro w'
                        go_simp
                        with_reducible rfl
                      rotate_left
                      · simp only [Act.put, List.setIfInBounds_toArray, List.set_cons_zero, List.set_cons_succ, i64_w, i32_w]
                        rfl
                      refine pure_ (i := 10) (N := some 46) (v := ?_) (a' := ?_) #[true, true, true, true, false, true, true, true, true, true, true, false, false, false, false] rfl rfl (any_of HT_.out (by kernel_rfl)) (fun _ _ _ h => h) (Or.inl ⟨by rfl, ?_⟩) ?_ ?_
                      rotate_left
                      · intro w'
                        go_simp
                        with_reducible rfl
                      rotate_left
                      · simp only [Act.put, List.setIfInBounds_toArray, List.set_cons_zero, List.set_cons_succ, i64_w, i32_w]
                        rfl
                      refine take_ (i := 4) (N := some 40) (v := ?_) (a' := ?_) #[true, true, true, true, true, true, true, true, true, true, true, false, false, false, false] rfl rfl (take_ofW HT_.out HW_.out (by kernel_rfl)) (fun _ _ _ h => h) (Or.inl ⟨by rfl, ?_⟩) hHeld ?_ ?_
                      rotate_left
                      · rintro w' ⟨s0, s1, s2, s3, s4, s5, s6, s7, s8, s9, s10, s11, s12, s13, s14, s15⟩
                        go_simp
                        with_reducible rfl
                      rotate_left
                      · simp only [Act.put, List.setIfInBounds_toArray, List.set_cons_zero, List.set_cons_succ, i64_w, i32_w]
                        rfl
                      refine take_ (i := 11) (N := some 47) (v := ?_) (a' := ?_) #[true, true, true, true, true, true, true, true, true, true, true, true, false, false, false] rfl rfl (take_ofW HT_.out HW_.out (by kernel_rfl)) (fun _ _ _ h => h) (Or.inl ⟨by rfl, ?_⟩) hHeld ?_ ?_
                      rotate_left
                      · rintro w' ⟨s0, s1, s2, s3, s4, s5, s6, s7, s8, s9, s10, s11, s12, s13, s14, s15⟩
                        go_simp
                        with_reducible rfl
                      rotate_left
                      · simp only [Act.put, List.setIfInBounds_toArray, List.set_cons_zero, List.set_cons_succ, i64_w, i32_w]
                        rfl
                      refine one_ (i := 12) (N := some 48) #[true, true, true, true, true, true, true, true, true, true, true, true, true, false, false] rfl rfl (one_of HT_.out (by kernel_rfl)) (by decide) (fun K hK => ?_)
                      refine Kd.R_lit_step k24 _ 24 ?hg (N := 48) ?hd (xs := ([(⟨(rd_T28 l0 0).f0.f0, (rd_T28 l0 0).f0.f1, (rd_T28 l0 0).f0.f2⟩ : S24), (⟨(rd_T28 l0 (ji22)).f0.f0, (rd_T28 l0 (ji22)).f0.f1, (rd_T28 l0 (ji22)).f0.f2⟩ : S24)] : List (S24))) (inner := [.int .i64 ((rd_T28 l0 0).f0.f0), .int .i64 ((rd_T28 l0 0).f0.f1), .int .i64 ((rd_T28 l0 0).f0.f2), .int .i64 ((rd_T28 l0 (ji22)).f0.f0), .int .i64 ((rd_T28 l0 (ji22)).f0.f1), .int .i64 ((rd_T28 l0 (ji22)).f0.f2)]) (ok := fun _ => True) (okp := fun _ => True) ?hr ?hp (fun _ hk => hk) trivial (Below.refl _ _) (Nat.le_refl _) (by simp) ?_; (case hd => rfl); (case hg => rfl); (case hr => first | (go_simp; done) | (go_simp; rfl)); (case hp => exact (Reps.c3 (show Kd.M k24 _ _ _ (⟨(rd_T28 l0 0).f0.f0, (rd_T28 l0 0).f0.f1, (rd_T28 l0 0).f0.f2⟩ : S24) [.int .i64 ((rd_T28 l0 0).f0.f0), .int .i64 ((rd_T28 l0 0).f0.f1), .int .i64 ((rd_T28 l0 0).f0.f2)] from (k24_mkM _ _ _ (⟨(rd_T28 l0 0).f0.f0, (rd_T28 l0 0).f0.f1, (rd_T28 l0 0).f0.f2⟩ : S24) )) (Reps.c3 (show Kd.M k24 _ _ _ (⟨(rd_T28 l0 (ji22)).f0.f0, (rd_T28 l0 (ji22)).f0.f1, (rd_T28 l0 (ji22)).f0.f2⟩ : S24) [.int .i64 ((rd_T28 l0 (ji22)).f0.f0), .int .i64 ((rd_T28 l0 (ji22)).f0.f1), .int .i64 ((rd_T28 l0 (ji22)).f0.f2)] from (k24_mkM _ _ _ (⟨(rd_T28 l0 (ji22)).f0.f0, (rd_T28 l0 (ji22)).f0.f1, (rd_T28 l0 (ji22)).f0.f2⟩ : S24) )) (Reps.none _ _))))
                      intro v443 w27 ho28 hb hg_ hnew_
                      clear hg_ hnew_
                      (first | rw [← Ny442.out] at ho28 | (simp only [Int.reduceToNat] at ho28; rw [← Ny442.out] at ho28))
                      have n0_ := Aside0.mk (Kd.R_below (by (with_reducible repeat (first | apply Kd.R_alloc | apply Kd.R_drewN | apply Kd.R_drew)); exact HO436.out) hb)
                      have n1_ := Aside0.mk (Kd.R_elder' (by (with_reducible repeat (first | apply Kd.R_alloc | apply Kd.R_drewN | apply Kd.R_drew)); exact HO439.out) (Kd.R_base ho28) hb)
                      have n2_ := Aside0.mk (Kd.R_lower (Kd.R_newB (Kd.R_new' ho28 (Kd.R_lt (by (with_reducible repeat (first | apply Kd.R_alloc | apply Kd.R_drewN | apply Kd.R_drew)); exact HO439.out))) (g := gb431) (o := .cells #[.int .i64 a1_0, .int .i64 a1_1, .int .i64 a1_2] 24 (0, 0)) (by (with_reducible repeat (first | refine blk_drewN ?_ _ | refine blk_drew ?_ | refine blk_alloc ?_ _)); exact BK431.out)) (below_size (by repeat (first | (with_reducible first | exact HB.out | apply below_alloc | apply pw_below_drewN | apply below_drew1 | refine below_set ?_ GE431.out) | exact HB.out))))
                      have n3_ := Aside0.mk (blk_below (g := gb431) (o := .cells #[.int .i64 a1_0, .int .i64 a1_1, .int .i64 a1_2] 24 (0, 0)) (by (with_reducible repeat (first | refine blk_drewN ?_ _ | refine blk_drew ?_ | refine blk_alloc ?_ _)); exact BK431.out) hb)
                      have n4_ := Aside0.mk (below_step (by repeat (first | (with_reducible first | exact HB.out | apply below_alloc | apply pw_below_drewN | apply below_drew1 | refine below_set ?_ GE431.out) | exact HB.out)) hb)
                      clear HO436
                      clear HO439
                      clear BK431
                      clear HB
                      have HO436 := n0_
                      have HO439 := n1_
                      have HO444 := n2_
                      have BK431 := n3_
                      have HB := n4_
                      clear n0_ n1_ n2_ n3_ n4_
                      clear hb ho28
                      obtain ⟨Ao30, co30, eo30⟩ := Kd.R_slice HO444.out
                      (first | subst eo30 | (injection eo30 with f1_ f2_ f3_; have f4_ := f1_.symm; have f5_ := f3_.symm; clear f1_ f2_ f3_; subst f4_; subst f5_))
                      refine hK.out _ _ ⟨((HB.out.cell (World.block_lt_of_cell? w _ hw440_0)).trans hw440_0), ((HB.out.cell (World.block_lt_of_cell? w _ hw440_1)).trans hw440_1), ((HB.out.cell (World.block_lt_of_cell? w _ hw440_2)).trans hw440_2), ((HB.out.cell (World.block_lt_of_cell? w _ hw440_3)).trans hw440_3), ((HB.out.cell (World.block_lt_of_cell? w _ hw440_4)).trans hw440_4), ((HB.out.cell (World.block_lt_of_cell? w _ hw440_5)).trans hw440_5), ((HB.out.cell (World.block_lt_of_cell? w _ hw440_6)).trans hw440_6), ((HB.out.cell (World.block_lt_of_cell? w _ hw440_7)).trans hw440_7), ((HB.out.cell (World.block_lt_of_cell? w _ hw441_0)).trans hw441_0), ((HB.out.cell (World.block_lt_of_cell? w _ hw441_1)).trans hw441_1), ((HB.out.cell (World.block_lt_of_cell? w _ hw441_2)).trans hw441_2), ((HB.out.cell (World.block_lt_of_cell? w _ hw441_3)).trans hw441_3), ((HB.out.cell (World.block_lt_of_cell? w _ hw441_4)).trans hw441_4), ((HB.out.cell (World.block_lt_of_cell? w _ hw441_5)).trans hw441_5), ((HB.out.cell (World.block_lt_of_cell? w _ hw441_6)).trans hw441_6), ((HB.out.cell (World.block_lt_of_cell? w _ hw441_7)).trans hw441_7)⟩ (fun hHeld => ?_)
                      clear hK K
                      refine norm_ (a' := ?_) ?_ ?_
                      rotate_left
                      · show Act.put _ (some 48) _ = _
                        simp only [Act.put, List.setIfInBounds_toArray, List.set_cons_zero, List.set_cons_succ, i64_w, i32_w]
                        rfl
                      refine one_ (i := 13) (N := some 49) #[true, true, true, true, true, true, true, true, true, true, true, true, true, true, false] rfl rfl (one_of HT_.out (by kernel_rfl)) (by decide) (fun K hK => ?_)
                      refine Kd.R_append_rows_step k24 (w0 := w) w.heap.size (by rfl) (.tmp 36) (.tmp 48) 37 24 (.agg #[(.int .i64 0), (.int .i64 0), (.int .i64 0)]) 24 rfl Try.underlying37 info24 rfl (by decide) (by omega) v438 y437 y442 _ _ _ (fun k_ => some k_ ≠ (.slice Ao30 y442.length co30 : Value).ownBlock ∧ k_ ≠ gb431) (fun _ => False) rfl rfl ?aO ?aR (fun _ _ h => h) (fun _ h => h.elim) ?aF ?aB ?aS ?aL ?_
                      (case aR => repeat (first | exact (Kd.R_reads' HO444.out).2.2 | (with_reducible refine Kd.C_alloc ?_ _) | (with_reducible refine Kd.C_drewN ?_ _) | (with_reducible refine Kd.C_drew ?_)))
                      (case aB => exact (by repeat (first | (with_reducible first | exact HB.out | apply below_alloc | apply pw_below_drewN | apply below_drew1 | refine below_set ?_ GE431.out) | exact HB.out)))
                      (case aF => exact (fun k_ hk => ⟨Kd.fresh' (Kd.R_lt (by (with_reducible repeat (first | apply Kd.R_alloc | apply Kd.R_drewN | apply Kd.R_drew)); exact HO444.out)) k_ hk, Kd.freshB (g := gb431) (o := .cells #[.int .i64 a1_0, .int .i64 a1_1, .int .i64 a1_2] 24 (0, 0)) (by (with_reducible repeat (first | refine blk_drewN ?_ _ | refine blk_drew ?_ | refine blk_alloc ?_ _)); exact BK431.out) k_ hk⟩))
                      (case aO => exact (by (with_reducible repeat (first | apply Kd.R_alloc | apply Kd.R_drewN | apply Kd.R_drew)); exact Kd.R_mono HO439.out (fun _ hk => ⟨hk.2, hk.1.2⟩)))
                      (case aS => exact (below_size (by repeat (first | (with_reducible first | exact HB.out | apply below_alloc | apply pw_below_drewN | apply below_drew1 | refine below_set ?_ GE431.out) | exact HB.out))))
                      (case aL => have := LMc25.out; omega)
                      intro v446 w29 ho hb hg hat
                      rw [← Ny445.out] at ho
                      have n0_ := Aside0.mk (blk_grown (g := gb431) (o := .cells #[.int .i64 a1_0, .int .i64 a1_1, .int .i64 a1_2] 24 (0, 0)) (by (with_reducible repeat (first | refine blk_drewN ?_ _ | refine blk_drew ?_ | refine blk_alloc ?_ _)); exact BK431.out) hg (Kd.R_away HO439.out (fun _ hk => hk.1.2)))
                      have n1_ := Aside0.mk (Kd.R_over' (by (with_reducible repeat (first | apply Kd.R_alloc | apply Kd.R_drewN | apply Kd.R_drew)); exact HO436.out) (Kd.R_typed (by (with_reducible repeat (first | apply Kd.R_alloc | apply Kd.R_drewN | apply Kd.R_drew)); exact HO439.out)) (by decide) hg)
                      have n2_ := Aside0.mk (Kd.R_after (ok := (fun k_ => k_ ≠ gb431)) (by (with_reducible repeat (first | apply Kd.R_alloc | apply Kd.R_drewN | apply Kd.R_drew)); exact Kd.R_mono HO444.out (fun _ hk => ⟨hk.2, hk.1.2⟩)) hg hat)
                      have n3_ := Aside0.mk (hb)
                      have n4_ := Aside0.mk (ho)
                      clear BK431
                      clear HO436
                      clear HO444
                      clear HB
                      clear HO439
                      have BK431 := n0_
                      have HO436 := n1_
                      have HO444 := n2_
                      have HB := n3_
                      have HO447 := n4_
                      clear n0_ n1_ n2_ n3_ n4_
                      clear ho hb hg hat
                      refine hK.out _ _ ⟨((HB.out.cell (World.block_lt_of_cell? w _ hw440_0)).trans hw440_0), ((HB.out.cell (World.block_lt_of_cell? w _ hw440_1)).trans hw440_1), ((HB.out.cell (World.block_lt_of_cell? w _ hw440_2)).trans hw440_2), ((HB.out.cell (World.block_lt_of_cell? w _ hw440_3)).trans hw440_3), ((HB.out.cell (World.block_lt_of_cell? w _ hw440_4)).trans hw440_4), ((HB.out.cell (World.block_lt_of_cell? w _ hw440_5)).trans hw440_5), ((HB.out.cell (World.block_lt_of_cell? w _ hw440_6)).trans hw440_6), ((HB.out.cell (World.block_lt_of_cell? w _ hw440_7)).trans hw440_7), ((HB.out.cell (World.block_lt_of_cell? w _ hw441_0)).trans hw441_0), ((HB.out.cell (World.block_lt_of_cell? w _ hw441_1)).trans hw441_1), ((HB.out.cell (World.block_lt_of_cell? w _ hw441_2)).trans hw441_2), ((HB.out.cell (World.block_lt_of_cell? w _ hw441_3)).trans hw441_3), ((HB.out.cell (World.block_lt_of_cell? w _ hw441_4)).trans hw441_4), ((HB.out.cell (World.block_lt_of_cell? w _ hw441_5)).trans hw441_5), ((HB.out.cell (World.block_lt_of_cell? w _ hw441_6)).trans hw441_6), ((HB.out.cell (World.block_lt_of_cell? w _ hw441_7)).trans hw441_7)⟩ (fun hHeld => ?_)
                      clear hK K
                      refine norm_ (a' := ?_) ?_ ?_
                      rotate_left
                      · show Act.put _ (some 49) _ = _
                        simp only [Act.put, List.setIfInBounds_toArray, List.set_cons_zero, List.set_cons_succ, i64_w, i32_w]
                        rfl
                      refine pure_ (i := 14) (N := some 12) (v := ?_) (a' := ?_) #[true, true, true, true, true, true, true, true, true, true, true, true, true, true, true] rfl rfl (any_of HT_.out (by kernel_rfl)) (fun _ _ _ h => h) (Or.inl ⟨by rfl, ?_⟩) ?_ ?_
                      rotate_left
                      · intro w'
                        go_simp
                        with_reducible rfl
                      rotate_left
                      · simp only [Act.put, List.setIfInBounds_toArray, List.set_cons_zero, List.set_cons_succ, i64_w, i32_w]
                        rfl
                      refine done_ (done_of HT_.out (by kernel_rfl)) ?_
                      try go_wp2
                      go_meet
                      case rel => exact ⟨_, (y445), H', ⟨by have := HJ7.out; first | omega | exact Nat.le_refl _⟩, ⟨by (with_reducible repeat (first | apply Kd.R_alloc | apply Kd.R_drewN | apply Kd.R_drew)); exact HO436.out⟩, ⟨by (with_reducible repeat (first | apply Kd.R_alloc | apply Kd.R_drewN | apply Kd.R_drew)); exact Kd.R_mono HO447.out (fun _ hk => hk.2)⟩, ⟨by (with_reducible repeat (first | refine blk_drewN ?_ _ | refine blk_drew ?_ | refine blk_alloc ?_ _)); exact BK431.out⟩, ⟨by repeat (first | (with_reducible first | exact HB.out | apply below_alloc | apply pw_below_drewN | apply below_drew1 | refine below_set ?_ GE431.out) | exact HB.out)⟩⟩
                    · rw [if_neg c25] at H
                      exact absurd H (by simp)
                  · rw [if_neg c24] at H
                    exact absurd H (by simp)
                · rw [if_neg c23] at H
                  exact absurd H (by simp)
              · rw [if_neg c21] at H
                exact absurd H (by simp)
            · rw [if_neg c20] at H
              have c20b0 : decide (0 < (l0.length : Int)) = false := decide_eq_false c20
              have c20b1 : decide (0 < l0.length) = false := decide_eq_false (by omega)
              clear c20
              (first | rw [c20b0] | rw [c20b1] | (simp only [i64_w, i32_w]; rw [c20b0]) | skip)
              have H' := Aside0.mk H
              clear H
              go_wp2
              go_meet
              case rel => exact ⟨_, (y437), H', ⟨by have := HJ7.out; first | omega | exact Nat.le_refl _⟩, ⟨by (with_reducible repeat (first | apply Kd.R_alloc | apply Kd.R_drewN | apply Kd.R_drew)); exact HO436.out⟩, ⟨by (with_reducible repeat (first | apply Kd.R_alloc | apply Kd.R_drewN | apply Kd.R_drew)); exact Kd.R_mono HO439.out (fun _ hk => hk.2)⟩, ⟨by (with_reducible repeat (first | refine blk_drewN ?_ _ | refine blk_drew ?_ | refine blk_alloc ?_ _)); exact BK431.out⟩, ⟨by repeat (first | (with_reducible first | exact HB.out | apply below_alloc | apply pw_below_drewN | apply below_drew1 | refine below_set ?_ GE431.out) | exact HB.out)⟩⟩
          case rest =>
            clear HC15
            try clear c1
            try clear c2
            try clear p2
            try clear c3
            try clear p4
            try clear q4
            try clear hx4
            try clear qi4
            try clear p6
            try clear c7
            try clear c11
            try clear c12
            try clear c13
            try clear c20
            try clear c20b0
            try clear c20b1
            try clear c21
            try clear c21b0
            try clear c21b1
            try clear c23
            try clear c23b0
            try clear c24
            try clear c24b0
            try clear c25
            try clear c28
            try clear hcz17_0
            try clear hcz17_1
            try clear hcz17_2
            try clear hfz17_0
            try clear hfz17_1
            try clear hfz17_2
            try clear hx440_0
            try clear hx440_1
            try clear hx440_2
            try clear hx440_3
            try clear hx440_4
            try clear hx440_5
            try clear hx440_6
            try clear hx440_7
            try clear hx441_0
            try clear hx441_1
            try clear hx441_2
            try clear hx441_3
            try clear hx441_4
            try clear hx441_5
            try clear hx441_6
            try clear hx441_7
            try clear p2
            try clear p440
            try clear p441
            try clear q440
            try clear q441
            obtain ⟨kq, x12_14, HA, HJ14, HO_11, HO_12, BK431, HB⟩ := hcut
            cases kq with
            | zero => exact absurd HA.out (by simp [sizarlaw07_FactsUpto.j1])
            | succ kj14 =>
              have H := HA.out
              clear HA
              simp only [sizarlaw07_FactsUpto.j1] at H
              have H' := Aside0.mk H
              clear H
              go_wp2
              go_loopg [13] kj14 (fun kq v13 w' => ∃ (x13_3 : Int), v13 = .int .i64 x13_3 ∧ Aside0 (sizarlaw07_FactsUpto.l0 kq l0 a2 a3 a4 t434 x12_14 x13_3 = some r) ∧ Aside0 (kq ≤ kj14) ∧ Aside0 (Kd.R k28 28 w' w.heap.size (fun _ => True) v435 t434) ∧ Aside0 (Kd.R k24 24 w' w.heap.size (fun k_ => k_ ≠ gb431) u12 x12_14) ∧ Aside0 (w'.heap[gb431]? = some (.cells #[.int .i64 a1_0, .int .i64 a1_1, .int .i64 a1_2] 24 (0, 0))) ∧ Aside0 (Below w.heap.size w w'))
              case atStart => exact ⟨(0), (by first | rfl | (simp; done) | (simp [*]; done)), H', ⟨Nat.le_refl _⟩, ⟨by (with_reducible repeat (first | apply Kd.R_alloc | apply Kd.R_drewN | apply Kd.R_drew)); exact HO_11.out⟩, ⟨by (with_reducible repeat (first | apply Kd.R_alloc | apply Kd.R_drewN | apply Kd.R_drew)); exact HO_12.out⟩, ⟨by (with_reducible repeat (first | refine blk_drewN ?_ _ | refine blk_drew ?_ | refine blk_alloc ?_ _)); exact BK431.out⟩, ⟨by repeat (first | (with_reducible first | exact HB.out | apply below_alloc | apply pw_below_drewN | apply below_drew1 | refine below_set ?_ GE431.out) | exact HB.out)⟩⟩
              case round =>
                clear H'
                try clear c1
                try clear c2
                try clear p2
                try clear c3
                try clear p4
                try clear q4
                try clear hx4
                try clear qi4
                try clear p6
                try clear c7
                try clear c11
                try clear c12
                try clear c13
                try clear c20
                try clear c20b0
                try clear c20b1
                try clear c21
                try clear c21b0
                try clear c21b1
                try clear c23
                try clear c23b0
                try clear c24
                try clear c24b0
                try clear c25
                try clear c28
                try clear hcz17_0
                try clear hcz17_1
                try clear hcz17_2
                try clear hfz17_0
                try clear hfz17_1
                try clear hfz17_2
                try clear hx440_0
                try clear hx440_1
                try clear hx440_2
                try clear hx440_3
                try clear hx440_4
                try clear hx440_5
                try clear hx440_6
                try clear hx440_7
                try clear hx441_0
                try clear hx441_1
                try clear hx441_2
                try clear hx441_3
                try clear hx441_4
                try clear hx441_5
                try clear hx441_6
                try clear hx441_7
                try clear p2
                try clear p4
                try clear p440
                try clear p441
                try clear p6
                try clear q4
                try clear q440
                try clear q441
                obtain ⟨x13_3, rfl, HA, HK3, HO_11, HO_12, BK431, HB⟩ := hrel
                cases gk with
                | zero => exact absurd HA.out (by simp [sizarlaw07_FactsUpto.l0])
                | succ k3 =>
                  have H := HA.out
                  clear HA
                  simp only [sizarlaw07_FactsUpto.l0] at H
                  by_cases c31 : x13_3 < (x12_14.length : Int)
                  · rw [if_pos c31] at H
                    have c31b0 : decide (x13_3 < (x12_14.length : Int)) = true := decide_eq_true c31
                    clear c31
                    by_cases c32 : 0 ≤ x13_3
                    · rw [if_pos c32] at H
                      have c32b0 : decide (0 ≤ x13_3) = true := decide_eq_true c32
                      clear c32
                      replace H := Option.bind_eq_some_iff.mp H
                      obtain ⟨⟨t449, t450⟩, A330, H⟩ := H
                      replace H : ((facts_At.f t434 ((rd_T24 x12_14 x13_3).f0) ((rd_T24 x12_14 x13_3).f1) ((rd_T24 x12_14 x13_3).f2) a2 a4).bind fun bt452 => (if t449 = bt452.1 then (if (t450 != bt452.2) = true then (none) else (sizarlaw07_FactsUpto.l0 k3 l0 a2 a3 a4 t434 x12_14 (wrap64 (x13_3 + 1)))) else (none))) = some r := H
                      have A33 := Aside0.mk A330
                      clear A330
                      replace H := Option.bind_eq_some_iff.mp H
                      obtain ⟨⟨t452, t453⟩, A340, H⟩ := H
                      replace H : (if t449 = t452 then (if (t450 != t453) = true then (none) else (sizarlaw07_FactsUpto.l0 k3 l0 a2 a3 a4 t434 x12_14 (wrap64 (x13_3 + 1)))) else (none)) = some r := H
                      have A34 := Aside0.mk A340
                      clear A340
                      by_cases c35 : t449 = t452
                      · rw [if_pos c35] at H
                        have c35b0 : (t449 == t452) = true := beq_iff_eq.mpr c35
                        have c35b1 : (t449 != t452) = false := bne_eq_false_iff_eq.mpr c35
                        clear c35
                        by_cases c36 : (t450 != t453) = true
                        · rw [if_pos c36] at H
                          exact absurd H (by simp)
                        · rw [if_neg c36] at H
                          have c36b0 : (t450 != t453) = false := by simpa using c36
                          (try (have c36b1 : decide (t450 = t453) = true := by simpa using c36))
                          (try (have c36b2 : (t450 == t453) = true := by first | simpa using c36 | (have b_ : (!(t450 == t453)) = false := c36b0; cases h_ : (t450 == t453) with | true => rfl | false => rw [h_] at b_; cases b_)))
                          clear c36
                          have H' := Aside0.mk H
                          clear H
                          obtain ⟨Ao37, co37, eo37⟩ := Kd.R_slice HO_12.out
                          subst eo37
                          have p448 : 0 ≤ (x13_3 : Int) := of_decide_eq_true (by first | (with_reducible assumption) | assumption)
                          have q448 : x13_3 < (x12_14.length : Int) := of_decide_eq_true (by first | (with_reducible assumption) | assumption)
                          obtain ⟨ad448, e448, hx448_0, hx448_1, hx448_2⟩ := at_T24 (Kd.R_reads' HO_12.out).2.2 x13_3 p448 q448
                          cases e448
                          replace p448 := eq_true p448
                          replace q448 := eq_true q448
                          go_wp2_with (first | ((with_reducible refine gate_callee (f := 18) rfl ?_); refine goesL_ (some 64) rfl rfl Try.func18 (by kernel_rfl) rfl #[.slice A0 l0.length c0, .agg #[.int .i64 ((rd_T24 x12_14 x13_3).f0), .int .i64 ((rd_T24 x12_14 x13_3).f1), .int .i64 ((rd_T24 x12_14 x13_3).f2)], .int .i64 a2, .int .i64 a3] rfl (by (try simp only [List.map_toArray, List.map_cons, List.map_nil]); first | done | rfl | (simp only [List.length_drop, List.length_take]; rfl)) ?_; (with_reducible refine (facts_At.calls _ _ l0 ((rd_T24 x12_14 x13_3).f0) ((rd_T24 x12_14 x13_3).f1) ((rd_T24 x12_14 x13_3).f2) a2 a3 t449 t450 _ ?side1 ?side2 A33.out).mono ?_); (case side1 => repeat (first | exact (Kd.C_below HR0.out HB.out) | (with_reducible refine Kd.C_alloc ?_ _) | (with_reducible refine Kd.C_drewN ?_ _) | (with_reducible refine Kd.C_drew ?_))); (case side2 => exact HC0.out); rintro e w38 ⟨rfl, hb⟩; refine ⟨_, rfl, ?_⟩; have n0_ := Aside0.mk (Kd.R_below (by (with_reducible repeat (first | apply Kd.R_alloc | apply Kd.R_drewN | apply Kd.R_drew)); exact HO_11.out) hb); have n1_ := Aside0.mk (Kd.R_below (by (with_reducible repeat (first | apply Kd.R_alloc | apply Kd.R_drewN | apply Kd.R_drew)); exact HO_12.out) hb); have n2_ := Aside0.mk (blk_below (g := gb431) (o := .cells #[.int .i64 a1_0, .int .i64 a1_1, .int .i64 a1_2] 24 (0, 0)) (by (with_reducible repeat (first | refine blk_drewN ?_ _ | refine blk_drew ?_ | refine blk_alloc ?_ _)); exact BK431.out) hb); have n3_ := Aside0.mk (below_step (by repeat (first | (with_reducible first | exact HB.out | apply below_alloc | apply pw_below_drewN | apply below_drew1 | refine below_set ?_ GE431.out) | exact HB.out)) hb); clear HO_11; clear HO_12; clear BK431; clear HB; have HO_11 := n0_; have HO_12 := n1_; have BK431 := n2_; have HB := n3_; clear n0_ n1_ n2_ n3_; (try clear hb); (try clear hb2); (try clear hk); (try clear hi); have p451 : 0 ≤ (x13_3 : Int) := of_decide_eq_true (by first | (with_reducible assumption) | assumption); have q451 : x13_3 < (x12_14.length : Int) := of_decide_eq_true (by first | (with_reducible assumption) | assumption); obtain ⟨ad451, e451, hx451_0, hx451_1, hx451_2⟩ := at_T24 (Kd.R_reads' HO_12.out).2.2 x13_3 p451 q451; obtain rfl : ad448 = ad451 := (by injection e451); replace p451 := eq_true p451; replace q451 := eq_true q451; obtain ⟨Ao39, co39, eo39⟩ := Kd.R_slice HO_11.out; subst eo39) | ((with_reducible refine gate_callee (f := 18) rfl ?_); refine goesL_ (some 75) rfl rfl Try.func18 (by kernel_rfl) rfl #[.slice Ao39 t434.length co39, .agg #[.int .i64 ((rd_T24 x12_14 x13_3).f0), .int .i64 ((rd_T24 x12_14 x13_3).f1), .int .i64 ((rd_T24 x12_14 x13_3).f2)], .int .i64 a2, .int .i64 a4] rfl (by (try simp only [List.map_toArray, List.map_cons, List.map_nil]); first | done | rfl | (simp only [List.length_drop, List.length_take]; rfl)) ?_; (with_reducible refine (facts_At.calls _ _ t434 ((rd_T24 x12_14 x13_3).f0) ((rd_T24 x12_14 x13_3).f1) ((rd_T24 x12_14 x13_3).f2) a2 a4 t452 t453 _ ?side1 ?side2 A34.out).mono ?_); (case side1 => repeat (first | exact (Kd.R_reads' HO_11.out).2.2 | (with_reducible refine Kd.C_alloc ?_ _) | (with_reducible refine Kd.C_drewN ?_ _) | (with_reducible refine Kd.C_drew ?_))); (case side2 => exact (Kd.R_reads' HO_11.out).2.1); rintro e w40 ⟨rfl, hb⟩; refine ⟨_, rfl, ?_⟩; have n0_ := Aside0.mk (Kd.R_below (by (with_reducible repeat (first | apply Kd.R_alloc | apply Kd.R_drewN | apply Kd.R_drew)); exact HO_11.out) hb); have n1_ := Aside0.mk (Kd.R_below (by (with_reducible repeat (first | apply Kd.R_alloc | apply Kd.R_drewN | apply Kd.R_drew)); exact HO_12.out) hb); have n2_ := Aside0.mk (blk_below (g := gb431) (o := .cells #[.int .i64 a1_0, .int .i64 a1_1, .int .i64 a1_2] 24 (0, 0)) (by (with_reducible repeat (first | refine blk_drewN ?_ _ | refine blk_drew ?_ | refine blk_alloc ?_ _)); exact BK431.out) hb); have n3_ := Aside0.mk (below_step (by repeat (first | (with_reducible first | exact HB.out | apply below_alloc | apply pw_below_drewN | apply below_drew1 | refine below_set ?_ GE431.out) | exact HB.out)) hb); clear HO_11; clear HO_12; clear BK431; clear HB; have HO_11 := n0_; have HO_12 := n1_; have BK431 := n2_; have HB := n3_; clear n0_ n1_ n2_ n3_; (try clear hb); (try clear hb2); (try clear hk); (try clear hi)))
                          go_roundg k3
                          case measure => have := HJ7.out; have := HJ14.out; have := HK3.out; omega
                          case rel => exact ⟨(wrap64 (x13_3 + 1)), (by first | rfl | (simp; done) | (simp [*]; done)), H', ⟨by have := HJ7.out; have := HJ14.out; have := HK3.out; omega⟩, ⟨by (with_reducible repeat (first | apply Kd.R_alloc | apply Kd.R_drewN | apply Kd.R_drew)); exact HO_11.out⟩, ⟨by (with_reducible repeat (first | apply Kd.R_alloc | apply Kd.R_drewN | apply Kd.R_drew)); exact HO_12.out⟩, ⟨by (with_reducible repeat (first | refine blk_drewN ?_ _ | refine blk_drew ?_ | refine blk_alloc ?_ _)); exact BK431.out⟩, ⟨by repeat (first | (with_reducible first | exact HB.out | apply below_alloc | apply pw_below_drewN | apply below_drew1 | refine below_set ?_ GE431.out) | exact HB.out)⟩⟩
                      · rw [if_neg c35] at H
                        exact absurd H (by simp)
                    · rw [if_neg c32] at H
                      exact absurd H (by simp)
                  · rw [if_neg c31] at H
                    have c31b0 : decide (x13_3 < (x12_14.length : Int)) = false := decide_eq_false c31
                    clear c31
                    obtain rfl := Option.some.inj H
                    obtain ⟨Ao41, co41, eo41⟩ := Kd.R_slice HO_12.out
                    subst eo41
                    obtain ⟨Ao42, co42, eo42⟩ := Kd.R_slice HO_11.out
                    subst eo42
                    go_wp2
                    go_ret
                    exact ⟨by first | rfl | (simp [errW_none, errW_some] <;> rfl) | (simp [*, errW_none, errW_some] <;> rfl), by repeat (first | (with_reducible first | exact HB.out | apply below_alloc | apply pw_below_drewN | apply below_drew1 | refine below_set ?_ GE431.out) | exact HB.out)⟩
  · replace c7 := Bool.eq_false_iff.mpr c7
    subst c7
    have H1 : (none) = some r := by rw [if_neg (show ¬ (false = true) by decide)] at H; exact H
    clear H
    have H := H1
    clear H1
    exact absurd H (by simp)
end Go.Proofs.Ytamajnhdibcpiaa.G
namespace Go.Proofs.Ytamajnhdibcpiaa.G
open Go.RowKit Go.Proofs.YtamajnhdibcpiaaW.PrintWords Go.Proofs.YtamajnhdibcpiaaW.PrintLast Go.Proofs.YtamajnhdibcpiaaW.PrintMore
set_option linter.unusedVariables false
set_option linter.unusedSimpArgs false
theorem w64 {i : Int} (h0 : -9223372036854775808 ≤ i) (h : i ≤ 9223372036854775807) : wrap64 i = i := by unfold wrap64; omega
/-- From some number of rounds on. -/
def Evt {α : Type} (g : Nat → Option α) (r : α) : Prop := ∃ K, ∀ k, K ≤ k → g k = some r
theorem Evt.of {α : Type} {g : Nat → Option α} {r : α} (h : ∀ k, g k = some r) : Evt g r := ⟨0, fun k _ => h k⟩
theorem Evt.succ {α : Type} {g g' : Nat → Option α} {r : α} (h : Evt g' r) (hs : ∀ k, g (k + 1) = g' k) : Evt g r := by
  obtain ⟨K, hK⟩ := h
  refine ⟨K + 1, fun k hk => ?_⟩
  obtain ⟨m, rfl⟩ : ∃ m, k = m + 1 := ⟨k - 1, by omega⟩
  rw [hs]; exact hK m (by omega)
theorem Evt.bind {α β : Type} {g : Nat → Option α} {f : Nat → α → Option β} {a : α} {r : β} (h : Evt g a) (h2 : Evt (fun k => f k a) r) : Evt (fun k => (g k).bind (f k)) r := by
  obtain ⟨K, hK⟩ := h
  obtain ⟨M, hM⟩ := h2
  refine ⟨max K M, fun k hk => ?_⟩
  show (g k).bind (f k) = some r
  rw [hK k (by omega), Option.bind_some]
  exact hM k (by omega)
theorem Evt.congr {α : Type} {g g' : Nat → Option α} {r : α} (h : Evt g' r) (hs : ∀ k, g k = g' k) : Evt g r := by
  obtain ⟨K, hK⟩ := h
  exact ⟨K, fun k hk => by rw [hs]; exact hK k hk⟩
theorem Evt.ex {α : Type} {g : Nat → Option α} {r : α} (h : Evt g r) : ∃ k, g k = some r := by obtain ⟨K, hK⟩ := h; exact ⟨K, hK K (Nat.le_refl _)⟩
end Go.Proofs.Ytamajnhdibcpiaa.G
namespace Go.Proofs.Ytamajnhdibcpiaa.G
open Go.RowKit Go.Proofs.YtamajnhdibcpiaaW.PrintWords Go.Proofs.YtamajnhdibcpiaaW.PrintLast Go.Proofs.YtamajnhdibcpiaaW.PrintMore
set_option linter.unusedVariables false
set_option linter.unusedSimpArgs false
theorem atM_congr {l x : List S28} {key : S24} {k1 k2 : Int} (h : ofM l key k1 = ofM x key k2) (t : Int) : atM l key t k1 = atM x key t k2 := by unfold atM; rw [h]
theorem of_upto {l : List S28} {key : S24} {known later : Int} (h : known ≤ later) : ofM (uptoM l known) key later = ofM l key known := by
  unfold ofM uptoM
  rw [List.filter_filter]
  apply List.filter_congr
  intro x _
  unfold selB lateB
  rw [Bool.eq_iff_iff]
  simp only [Bool.and_eq_true, decide_eq_true_eq, Bool.not_eq_true', decide_eq_false_iff_not]
  omega
end Go.Proofs.Ytamajnhdibcpiaa.G
namespace Go.Proofs.Ytamajnhdibcpiaa.G
open Go.RowKit Go.Proofs.YtamajnhdibcpiaaW.PrintWords Go.Proofs.YtamajnhdibcpiaaW.PrintLast Go.Proofs.YtamajnhdibcpiaaW.PrintMore
set_option linter.unusedVariables false
theorem sane20 : sizarlaw07_sane.f 20 = some true := by kernel_rfl
theorem sane_all : Evt (fun k => sizarlaw07_sane.f k) true := by
  refine ⟨20, fun k hk => ?_⟩
  obtain ⟨d, rfl⟩ : ∃ d, k = 20 + d := ⟨k - 20, by omega⟩
  clear hk
  induction d with
  | zero => exact sane20
  | succ d ih => exact sizarlaw07_sane.mono (20 + d) _ ih
end Go.Proofs.Ytamajnhdibcpiaa.G
namespace Go.Proofs.Ytamajnhdibcpiaa.G
open Go.RowKit Go.Proofs.YtamajnhdibcpiaaW.PrintWords Go.Proofs.YtamajnhdibcpiaaW.PrintLast Go.Proofs.YtamajnhdibcpiaaW.PrintMore
set_option linter.unusedVariables false
set_option linter.unusedSimpArgs false
theorem upto_from (x0 : List S28) (x2 x3 x4 : Int) (h34 : x3 ≤ x4) (x12 : List S24) (hx : x12.length ≤ 1000) : ∀ (d i : Nat), x12.length - i = d → i ≤ x12.length → Evt (fun k => sizarlaw07_FactsUpto.l0 k x0 x2 x3 x4 (uptoM x0 x3) x12 (i : Int)) true := by
  intro d
  induction d with
  | zero =>
    intro i hd hi
    exact ⟨1, fun k hk => by
      obtain ⟨m, rfl⟩ : ∃ m, k = m + 1 := ⟨k - 1, by omega⟩
      simp only [sizarlaw07_FactsUpto.l0]
      rw [if_neg (by omega)]
      have : (uptoM x0 x3).length ≤ x0.length := List.length_filter_le _ _
      simp only [Option.some.injEq, decide_eq_true_eq]
      omega⟩
  | succ d ih =>
    intro i hd hi
    refine (ih (i + 1) (by omega) (by omega)).succ fun k => ?_
    simp only [sizarlaw07_FactsUpto.l0, facts_At.f, Option.bind_some]
    rw [atM_congr (of_upto h34), if_pos (by omega), if_pos (by omega), if_pos rfl, if_neg (by simp), w64 (by omega) (by omega)]
    rfl
theorem upto_j1 (x0 : List S28) (x2 x3 x4 : Int) (h34 : x3 ≤ x4) (x12 : List S24) (hx : x12.length ≤ 1000) : Evt (fun k => sizarlaw07_FactsUpto.j1 k x0 x2 x3 x4 (uptoM x0 x3) x12) true :=
  (upto_from x0 x2 x3 x4 h34 x12 hx x12.length 0 (by omega) (by omega)).succ fun k => by
    simp only [sizarlaw07_FactsUpto.j1]; rfl
theorem upto_j0 (x0 : List S28) (h0 : x0.length ≤ 30) (x2 x3 x4 a b c : Int) (h34 : x3 ≤ x4) : Evt (fun k => sizarlaw07_FactsUpto.j0 k x0 x2 x3 x4 false a b c) true := by
  by_cases hp : (x0.length : Int) > 0
  · refine (upto_j1 x0 x2 x3 x4 h34 ([⟨a, b, c⟩] ++ [⟨(rd_T28 x0 0).f0.f0, (rd_T28 x0 0).f0.f1, (rd_T28 x0 0).f0.f2⟩, ⟨(rd_T28 x0 (wrap64 ((x0.length : Int) / 2))).f0.f0, (rd_T28 x0 (wrap64 ((x0.length : Int) / 2))).f0.f1, (rd_T28 x0 (wrap64 ((x0.length : Int) / 2))).f0.f2⟩]) (by simp)).succ fun k => ?_
    have hw : wrap64 ((x0.length : Int) / 2) = (x0.length : Int) / 2 := w64 (by omega) (by omega)
    simp only [sizarlaw07_FactsUpto.j0, facts_Upto.f, if_pos (show x0.length ≤ 1000 by omega), Option.bind_some, Bool.false_eq_true, if_false]
    rw [if_pos hp, if_pos (by omega), if_pos (by omega), if_pos (by omega), if_pos (by simp)]
  · refine (upto_j1 x0 x2 x3 x4 h34 [⟨a, b, c⟩] (by simp)).succ fun k => ?_
    simp only [sizarlaw07_FactsUpto.j0, facts_Upto.f, if_pos (show x0.length ≤ 1000 by omega), Option.bind_some, Bool.false_eq_true, if_false]
    rw [if_neg hp]
theorem upto_law (l0 : List S28) (a b c x2 x3 x4 : Int) : ∃ k, sizarlaw07_FactsUpto.f k l0 a b c x2 x3 x4 = some true := by
  refine Evt.ex (r := true) ?_
  unfold sizarlaw07_FactsUpto.f
  refine sane_all.bind ?_
  simp only [if_true, sizarref07_Few.f, Option.bind_some]
  have hstop : Evt (fun k => sizarlaw07_FactsUpto.j0 k l0 x2 x3 x4 true a b c) true := (Evt.of (g := fun _ => some true) (r := true) fun _ => rfl).succ fun k => by simp only [sizarlaw07_FactsUpto.j0, if_true]
  by_cases hf : decide ((l0.length : Int) ≤ 30) = true
  · simp only [if_pos hf]
    have hf2 := of_decide_eq_true hf
    by_cases h : x4 < x3
    · simp only [h, decide_true]; exact hstop
    · simp only [h, decide_false]; exact upto_j0 l0 (by omega) x2 x3 x4 a b c (by omega)
  · simp only [if_neg hf]
    exact hstop
end Go.Proofs.Ytamajnhdibcpiaa.G
namespace Go.Proofs.Ytamajnhdibcpiaa.G
open Go.ChangeShapes Go.WideShapes Go.Deep Go.ChangeAt Go.RowKit Go.Proofs.YtamajnhdibcpiaaW.PrintWords Go.Proofs.YtamajnhdibcpiaaW.PrintLast
set_option linter.unusedVariables false
set_option maxRecDepth 100000
theorem own : ownKnob Try.prog.godebug = none := by kernel_rfl
def wfi (n : Int) : Bool := (Lit.int .i64 n).wf
def wf28 (x : S28) : Bool := wfK x.f0 && (wfi x.f1 && (wfi x.f2.f0 && (wfi x.f2.f1 && (wfi x.f3 && wfi x.f4))))
theorem cells26 : Try.prog.cellsOf 26 = 2 := by kernel_rfl
theorem cells28n : Try.prog.cellsOf 28 = 8 := by kernel_rfl
section
variable {H : Type} {enc : TypeId × Value → H} {w : World} {base : Nat} {spare : Nat → Bool} {held : Bool} {fuel : Nat} {cs : List Value} {x : DataW H × List MemPlace}
theorem t24 (hl : cs.length = 3) (h : DataW.trod enc Try.prog w base spare held fuel 24 cs = some x) : ∃ k : S24, cs = [.int .i64 k.f0, .int .i64 k.f1, .int .i64 k.f2] ∧ wfK k = true := by
  match cs, hl with
  | [c0, c1, c2], _ =>
    obtain ⟨xs, n, _, hx, _, hlen, hg⟩ := DataW.trod_struct Try.underlying24 h
    match xs, hlen with
    | [y0, y1, y2], _ =>
      have t0 : DataW.trod enc Try.prog w base spare held n 3 [c0] = some y0 := hg 0 _ rfl
      have t1 : DataW.trod enc Try.prog w base spare held n 3 [c1] = some y1 := hg 1 _ rfl
      have t2 : DataW.trod enc Try.prog w base spare held n 3 [c2] = some y2 := hg 2 _ rfl
      obtain ⟨n0, e0, _, w0⟩ := DataW.trod_int Try.underlying3 t0
      obtain ⟨n1, e1, _, w1⟩ := DataW.trod_int Try.underlying3 t1
      obtain ⟨n2, e2, _, w2⟩ := DataW.trod_int Try.underlying3 t2
      cases e0; cases e1; cases e2
      exact ⟨⟨n0, n1, n2⟩, rfl, by simp [wfK, w0, w1, w2]⟩
theorem t26 (hl : cs.length = 2) (h : DataW.trod enc Try.prog w base spare held fuel 26 cs = some x) : ∃ k : S26, cs = [.int .i64 k.f0, .int .i64 k.f1] ∧ (wfi k.f0 && wfi k.f1) = true := by
  match cs, hl with
  | [c0, c1], _ =>
    obtain ⟨xs, n, _, hx, _, hlen, hg⟩ := DataW.trod_struct Try.underlying26 h
    match xs, hlen with
    | [y0, y1], _ =>
      have t0 : DataW.trod enc Try.prog w base spare held n 3 [c0] = some y0 := hg 0 _ rfl
      have t1 : DataW.trod enc Try.prog w base spare held n 3 [c1] = some y1 := hg 1 _ rfl
      obtain ⟨n0, e0, _, w0⟩ := DataW.trod_int Try.underlying3 t0
      obtain ⟨n1, e1, _, w1⟩ := DataW.trod_int Try.underlying3 t1
      cases e0; cases e1
      exact ⟨⟨n0, n1⟩, rfl, by simp [wfi, w0, w1]⟩
theorem t28 (hl : cs.length = 8) (h : DataW.trod enc Try.prog w base spare held fuel 28 cs = some x) :
    ∃ k : S28, cs = [.int .i64 k.f0.f0, .int .i64 k.f0.f1, .int .i64 k.f0.f2, .int .i64 k.f1, .int .i64 k.f2.f0, .int .i64 k.f2.f1, .int .i64 k.f3, .int .i64 k.f4] ∧ wf28 k = true := by
  match cs, hl with
  | [c0, c1, c2, c3, c4, c5, c6, c7], _ =>
    obtain ⟨xs, n, _, hx, _, hlen, hg⟩ := DataW.trod_struct Try.underlying28 h
    match xs, hlen with
    | [y0, y1, y2, y3, y4], _ =>
      have t0 : DataW.trod enc Try.prog w base spare held n 24 (([c0, c1, c2, c3, c4, c5, c6, c7].drop 0).take (Try.prog.cellsOf 24)) = some y0 := hg 0 _ rfl
      have t1 : DataW.trod enc Try.prog w base spare held n 3 [c3] = some y1 := hg 1 _ rfl
      have t2 : DataW.trod enc Try.prog w base spare held n 26 (([c0, c1, c2, c3, c4, c5, c6, c7].drop 4).take (Try.prog.cellsOf 26)) = some y2 := hg 2 _ rfl
      have t3 : DataW.trod enc Try.prog w base spare held n 3 [c6] = some y3 := hg 3 _ rfl
      have t4 : DataW.trod enc Try.prog w base spare held n 3 [c7] = some y4 := hg 4 _ rfl
      rw [cells24] at t0
      rw [cells26] at t2
      obtain ⟨k0, e0, w0⟩ := t24 rfl t0
      obtain ⟨n1, e1, _, w1⟩ := DataW.trod_int Try.underlying3 t1
      obtain ⟨k2, e2, w2⟩ := t26 rfl t2
      obtain ⟨n3, e3, _, w3⟩ := DataW.trod_int Try.underlying3 t3
      obtain ⟨n4, e4, _, w4⟩ := DataW.trod_int Try.underlying3 t4
      cases e0; cases e1; cases e2; cases e3; cases e4
      refine ⟨⟨k0, n1, k2, n3, n4⟩, rfl, ?_⟩
      simp only [Bool.and_eq_true] at w2
      simp only [wf28, Bool.and_eq_true]
      exact ⟨w0, w1, w2.1, w2.2, w3, w4⟩
end
section
variable {H : Type} {enc : TypeId × Value → H} {W : World} {base b0 : Nat} {r : Reach} {spare : Nat → Bool} {held : Bool} {a : Option Addr} {len cap : Nat} {d : DataW H} {p : List MemPlace} {v : Value}
theorem open28 (h : DataW.Trod enc Try.prog W base spare held 22 (.slice a len cap) d p) : ∃ l : List S28, len = l.length ∧ Kd.C k28 W a l.length l ∧ l.length ≤ cap ∧ ∀ x ∈ l, wf28 x = true := by
  obtain ⟨fuel, hf⟩ := h
  rcases open_slice Try.underlying22 hf with ⟨hcs, _⟩ | ⟨x, l, c, m, n, D, Pl, hcs, _, hl, hm, hmm, _, hi⟩
  · simp [Value.cells] at hcs
    obtain ⟨rfl, rfl, rfl⟩ := hcs
    exact ⟨[], rfl, ⟨rfl, by simp, fun h => absurd h (by simp)⟩, by simp, by simp⟩
  · simp [Value.cells] at hcs
    obtain ⟨rfl, rfl, rfl⟩ := hcs
    have hlm : len ≤ m := by rw [hmm]; split <;> omega
    have hel : ∀ i, i < len → ∃ y : S28, (∀ q u, [Value.int .i64 y.f0.f0, .int .i64 y.f0.f1, .int .i64 y.f0.f2, .int .i64 y.f1, .int .i64 y.f2.f0, .int .i64 y.f2.f1, .int .i64 y.f3, .int .i64 y.f4][q]? = some u → W.cell? (x.add (i * 8 + q)) = some u) ∧ wf28 y = true := by
      intro i hi2
      obtain ⟨cs', hc, ht'⟩ := hi i (by omega)
      rw [cells28n] at hc
      obtain ⟨_, hcl, hat⟩ := World.cells?_some hc
      obtain ⟨k, rfl, hk⟩ := t28 hcl ht'
      refine ⟨k, fun q u hq => ?_, hk⟩
      have hq8 : q < 8 := (List.getElem?_eq_some_iff.1 hq).1
      rw [← Go.Deep.add_add, hat q hq8]
      exact hq
    refine ⟨(List.range len).map fun i => if h : i < len then (hel i h).choose else z28, by simp, ⟨rfl, by simp; unfold maxLen at hm; omega, fun _ => ⟨x, rfl, fun j y hj => ?_⟩⟩, by simp; exact hl, ?_⟩
    · obtain ⟨hj1, hj2⟩ := List.getElem?_eq_some_iff.1 hj
      simp only [List.length_map, List.length_range] at hj1
      simp only [List.getElem_map, List.getElem_range, hj1, dif_pos] at hj2
      subst hj2
      exact ⟨_, rfl, k28_mk W _, (hel j hj1).choose_spec.1⟩
    · intro y hy
      obtain ⟨j, hj, rfl⟩ := List.mem_map.1 hy
      have hj1 : j < len := by simpa using hj
      rw [dif_pos hj1]
      exact (hel j hj1).choose_spec.2
theorem open24 (hv : Value.okWide Try.prog W r b0 24 v) (h : DataW.Trod enc Try.prog W base spare held 24 v d p) :
    ∃ n0 n1 n2 : Int, v = .agg #[.int .i64 n0, .int .i64 n1, .int .i64 n2] ∧ wfK ⟨n0, n1, n2⟩ = true := by
  obtain ⟨cs, rfl, hsz⟩ := okWide_struct Try.underlying24 hv
  obtain ⟨l⟩ := cs
  obtain ⟨fuel, hf⟩ := h
  obtain ⟨k, e, hk⟩ := t24 (cs := l) (hsz.trans cells24) hf
  exact ⟨k.f0, k.f1, k.f2, by rw [e], hk⟩
end
end Go.Proofs.Ytamajnhdibcpiaa.G
namespace Go.Proofs.Ytamajnhdibcpiaa.factsUpto
open Go.ChangeShapes Go.WideShapes Go.ChangeAt Go.RowKit Go.Proofs.Ytamajnhdibcpiaa.G
set_option linter.unusedVariables false
set_option maxRecDepth 100000 in
theorem lifted (os : Os) (started : os.Started) (H : Type) (enc : TypeId × Value → H) :
    ReturnsInHanded {} Try.checked os 7 .any (Rows.factsUptoSpec.pre6 enc Try.prog Try.f7 Rows.factsUptoRow.domain false) (Rows.factsUptoSpec.post enc Try.prog Try.f7 false true false false) := by
  refine returnsInHanded_of_change_sized (C := Try.checked) own started (by kernel_rfl) Try.func7
    (ChangeSpec.witness6 (enc := enc) (C := Try.checked) false ⟨#[], #[.slice none 0 0, .agg #[.int .i64 0, .int .i64 0, .int .i64 0], .int .i64 0, .int .i64 0, .int .i64 0], []⟩ 8 (by kernel_rfl) (by kernel_rfl) (by kernel_rfl) (by kernel_rfl)) ?_
  intro W base args ds gs before hval0 hW hcnd hsz0 _
  have hval : ∀ (j : Nat) t v, Try.f7.params[j]? = some t → args[j]? = some v → Value.okWide Try.prog W .any base t v := hval0
  have hW' := hW
  obtain ⟨p, q, hA0, hV, rfl, hfz, hnd⟩ := hW
  have hA : DataW.TrodAll enc Try.prog W 0 (fun _ => true) true Try.f7.params.toList args.toList ds p := hA0
  rw [Try.params7] at hA hval
  obtain ⟨v0, vs0, d0, ds0, p0, q0, hargs, rfl, rfl, h0, r0⟩ := trodAll_cons hA
  obtain ⟨v1, vs1, d1, ds1, p1, q1, rfl, rfl, rfl, h1, r1⟩ := trodAll_cons r0
  obtain ⟨v2, vs2, d2, ds2, p2, q2, rfl, rfl, rfl, h2, r2⟩ := trodAll_cons r1
  obtain ⟨v3, vs3, d3, ds3, p3, q3, rfl, rfl, rfl, h3, r3⟩ := trodAll_cons r2
  obtain ⟨v4, vs4, d4, ds4, p4, q4, rfl, rfl, rfl, h4, r4⟩ := trodAll_cons r3
  obtain ⟨rfl, rfl, rfl⟩ := trodAll_nil r4
  obtain rfl : args = #[v0, v1, v2, v3, v4] := by cases args; simp_all
  obtain ⟨rfl, rfl⟩ := trodVars_none hV
  obtain ⟨a0, len0, cap0, rfl⟩ := okWide_slice Try.underlying22 (hval 0 22 v0 rfl rfl)
  have k0 := h0
  have lt0 : ∀ x ∈ p0, x.block < W.heap.size := by obtain ⟨m, hm⟩ := k0; exact DataW.trod_lt m _ _ _ hm
  obtain ⟨z0, rfl, w0, y0, f0⟩ := open28 h0
  have k1 := h1
  have lt1 : ∀ x ∈ p1, x.block < W.heap.size := by obtain ⟨m, hm⟩ := k1; exact DataW.trod_lt m _ _ _ hm
  obtain ⟨a1_0, a1_1, a1_2, rfl, f1⟩ := open24 (hval 1 24 v1 rfl rfl) h1
  obtain ⟨a2, rfl, rfl, rfl, w2⟩ := open_int Try.underlying3 (hval 2 3 v2 rfl rfl) h2
  obtain ⟨a3, rfl, rfl, rfl, w3⟩ := open_int Try.underlying3 (hval 3 3 v3 rfl rfl) h3
  obtain ⟨a4, rfl, rfl, rfl, w4⟩ := open_int Try.underlying3 (hval 4 3 v4 rfl rfl) h4
  clear hA0 hval0
  obtain ⟨k, hk⟩ := upto_law z0 a1_0 a1_1 a1_2 a2 a3 a4
  refine (G.sizarlaw07_FactsUpto.calls k a0 cap0 z0 a1_0 a1_1 a1_2 a2 a3 a4 true W w0 y0 hk).mono fun e W' ⟨he, bel⟩ => ?_
  subst he
  exact ⟨_, rfl, _, _, _, [], _, [], hW', trodAll_mk1 (shut_bool Try.underlying4 _), (trodAll_cons_mk (Below.trod laidOut (by kernel_rfl) (of_decide_eq_true (by kernel_rfl)) k0 bel lt0) (trodAll_cons_mk (Below.trod laidOut (by kernel_rfl) (of_decide_eq_true (by kernel_rfl)) k1 bel lt1) (trodAll_cons_mk (shut_int Try.underlying3 w2) (trodAll_cons_mk (shut_int Try.underlying3 w3) (trodAll_cons_mk (shut_int Try.underlying3 w4) trodAll_mk0))))), rfl, bel.frame _, fun h => by cases h⟩
theorem over : Rows.factsUptoRow.holds Try.pinned (OpenSpec.ofChange Rows.factsUptoSpec) :=
  OpenClaim.holds_of_wide 7 Try.f7 rfl rfl rfl rfl rfl rfl rfl ⟨rfl, rfl, rfl, rfl, rfl⟩ rfl rfl rfl rfl rfl (by kernel_rfl) Try.func7 (by kernel_rfl)
    (of_decide_eq_true (by kernel_rfl)) (by unfold Func.isWrapper; first | (rw [if_pos (by decide +kernel)]; kernel_rfl) | (rw [if_neg (by decide +kernel)]; exact ⟨rfl, rfl⟩))
    (fun os started H enc _ => lifted os started H enc)
theorem proved : Rows.FactsUptoSaid := over
end Go.Proofs.Ytamajnhdibcpiaa.factsUpto
namespace Go.Proofs.Ytamajnhdibcpiaa
/-- The row, under a short name, for the claim. -/
theorem factsUpto_holds : Rows.FactsUptoSaid := factsUpto.proved
end Go.Proofs.Ytamajnhdibcpiaa
