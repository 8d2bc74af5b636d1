/- Part 26 of the proof of the claim; the conditions are the statement's own. Own texts and printed texts, merged by pack.py (ours). -/
import Derived.Test.YtamajnhdibcpiaaRows
import Derived.Deep.Slices
import Derived.Deep.Fields
import Derived.ChangeSame
import Derived.WalkKit
import Derived.ProofKit
import Derived.OpenShut
import Derived.ChangeOld
import Derived.Below
import Derived.SizedLaws
import Derived.ShutString
import Derived.Test.YtamajnhdibcpiaaKI3
set_option linter.unusedVariables false
set_option linter.unusedSimpArgs false
namespace Go.Proofs.Ytamajnhdibcpiaa.G
open Go.RowKit Go.Proofs.YtamajnhdibcpiaaW.PrintWords Go.Proofs.YtamajnhdibcpiaaW.PrintLast Go.Proofs.YtamajnhdibcpiaaW.PrintMore
attribute [local go_sem] max2_int min2_int max_two min_two max_three min_three max_four min_four
attribute [local go_sem high] eqA24
abbrev LI670 : Array Bool := #[false, false, false, false, false, false, false, false, false, false, false, false, false, false, false, false, false, false, false, false, false, false, false, false, false, false, false, false, false, false, false, false, false, false, false, false, false]
abbrev LI671 : Array Bool := #[true, false, false, false, false, false, false, false, false, false, false, false, false, false, false, false, false, false, false, false, false, false, false, false, false, false, false, false, false, false, false, false, false, false, false, false, false]
abbrev LI672 : Array Bool := #[true, true, false, false, false, false, false, false, false, false, false, false, false, false, false, false, false, false, false, false, false, false, false, false, false, false, false, false, false, false, false, false, false, false, false, false, false]
abbrev LI673 : Array Bool := #[true, true, true, false, false, false, false, false, false, false, false, false, false, false, false, false, false, false, false, false, false, false, false, false, false, false, false, false, false, false, false, false, false, false, false, false, false]
abbrev LI674 : Array Bool := #[true, true, true, true, false, false, false, false, false, false, false, false, false, false, false, false, false, false, false, false, false, false, false, false, false, false, false, false, false, false, false, false, false, false, false, false, false]
abbrev LI675 : Array Bool := #[true, true, true, true, true, false, false, false, false, false, false, false, false, false, false, false, false, false, false, false, false, false, false, false, false, false, false, false, false, false, false, false, false, false, false, false, false]
abbrev LI676 : Array Bool := #[true, true, true, true, true, true, false, false, false, false, false, false, false, false, false, false, false, false, false, false, false, false, false, false, false, false, false, false, false, false, false, false, false, false, false, false, false]
abbrev LI677 : Array Bool := #[true, true, true, true, true, true, true, false, false, false, false, false, false, false, false, false, false, false, false, false, false, false, false, false, false, false, false, false, false, false, false, false, false, false, false, false, false]
abbrev LI678 : Array Bool := #[true, true, true, true, true, true, true, true, true, false, false, false, false, false, false, false, false, false, false, false, false, false, false, false, false, false, false, false, false, false, false, false, false, false, false, false, false]
abbrev LI679 : Array Bool := #[true, true, true, true, true, true, true, true, true, true, false, false, false, false, false, false, false, false, false, false, false, false, false, false, false, false, false, false, false, false, false, false, false, false, false, false, false]
abbrev LI6710 : Array Bool := #[true, true, true, true, true, true, true, true, true, true, true, false, false, false, false, false, false, false, false, false, false, false, false, false, false, false, false, false, false, false, false, false, false, false, false, false, false]
abbrev LI6711 : Array Bool := #[true, true, true, true, true, true, true, true, true, true, true, true, false, false, false, false, false, false, false, false, false, false, false, false, false, false, false, false, false, false, false, false, false, false, false, false, false]
abbrev LI6712 : Array Bool := #[true, true, true, true, true, true, true, true, true, true, true, true, true, false, false, false, false, false, false, false, false, false, false, false, false, false, false, false, false, false, false, false, false, false, false, false, false]
abbrev LI6713 : Array Bool := #[true, true, true, true, true, true, true, true, true, true, true, true, true, true, false, false, false, false, false, false, false, false, false, false, false, false, false, false, false, false, false, false, false, false, false, false, false]
abbrev LI6714 : Array Bool := #[true, true, true, true, true, true, true, true, true, true, true, true, true, true, true, false, false, false, false, false, false, false, false, false, false, false, false, false, false, false, false, false, false, false, false, false, false]
abbrev LI6715 : Array Bool := #[true, true, true, true, true, true, true, true, true, true, true, true, true, true, true, true, false, false, false, false, false, false, false, false, false, false, false, false, false, false, false, false, false, false, false, false, false]
abbrev LI6716 : Array Bool := #[true, true, true, true, true, true, true, true, true, true, true, true, true, true, true, true, true, false, false, false, false, false, false, false, false, false, false, false, false, false, false, false, false, false, false, false, false]
abbrev LI6717 : Array Bool := #[true, true, true, true, true, true, true, true, true, true, true, true, true, true, true, true, true, true, false, false, false, false, false, false, false, false, false, false, false, false, false, false, false, false, false, false, false]
abbrev LI6718 : Array Bool := #[true, true, true, true, true, true, true, true, true, true, true, true, true, true, true, true, true, true, true, false, false, false, false, false, false, false, false, false, false, false, false, false, false, false, false, false, false]
abbrev LI6719 : Array Bool := #[true, true, true, true, true, true, true, true, true, true, true, true, true, true, true, true, true, true, true, true, false, false, false, false, false, false, false, false, false, false, false, false, false, false, false, false, false]
abbrev LI6720 : Array Bool := #[true, true, true, true, true, true, true, true, true, true, true, true, true, true, true, true, true, true, true, true, true, true, false, false, false, false, false, false, false, false, false, false, false, false, false, false, false]
abbrev LI6721 : Array Bool := #[true, true, true, true, true, true, true, true, true, true, true, true, true, true, true, true, true, true, true, true, true, true, true, false, false, false, false, false, false, false, false, false, false, false, false, false, false]
abbrev LI6722 : Array Bool := #[true, true, true, true, true, true, true, true, true, true, true, true, true, true, true, true, true, true, true, true, true, true, true, true, false, false, false, false, false, false, false, false, false, false, false, false, false]
abbrev LI6723 : Array Bool := #[true, true, true, true, true, true, true, true, true, true, true, true, true, true, true, true, true, true, true, true, true, true, true, true, true, false, false, false, false, false, false, false, false, false, false, false, false]
abbrev LI6724 : Array Bool := #[true, true, true, true, true, true, true, true, true, true, true, true, true, true, true, true, true, true, true, true, true, true, true, true, true, true, false, false, false, false, false, false, false, false, false, false, false]
abbrev LI6725 : Array Bool := #[true, true, true, true, true, true, true, true, true, true, true, true, true, true, true, true, true, true, true, true, true, true, true, true, true, true, true, false, false, false, false, false, false, false, false, false, false]
abbrev LI6726 : Array Bool := #[true, true, true, true, true, true, true, true, true, true, true, true, true, true, true, true, true, true, true, true, true, true, true, true, true, true, true, true, false, false, false, false, false, false, false, false, false]
abbrev LI6727 : Array Bool := #[true, true, true, true, true, true, true, true, true, true, true, true, true, true, true, true, true, true, true, true, true, true, true, true, true, true, true, true, true, true, true, true, false, false, false, false, false]
abbrev LI6728 : Array Bool := #[true, true, true, true, true, true, true, true, true, true, true, true, true, true, true, true, true, true, true, true, true, true, true, true, true, true, true, true, true, true, true, true, true, false, false, false, false]
abbrev LI6729 : Array Bool := #[true, true, true, true, true, true, true, true, true, true, true, true, true, true, true, true, true, true, true, true, true, true, true, true, true, true, true, true, true, true, true, true, true, true, false, false, false]
abbrev LI6730 : Array Bool := #[true, true, true, true, true, true, true, true, true, true, true, true, true, true, true, true, true, true, true, true, true, true, true, true, true, true, true, true, true, true, true, true, true, true, true, false, false]
abbrev LI6731 : Array Bool := #[true, true, true, true, true, true, true, true, true, true, true, true, true, true, true, true, true, true, true, true, true, true, true, true, true, true, true, true, true, true, true, true, true, true, true, true, false]
abbrev LI6732 : Array Bool := #[true, true, true, true, true, true, true, true, true, true, true, true, true, true, true, true, true, true, true, true, true, true, true, true, true, true, true, true, true, true, true, true, true, true, true, true, true]
abbrev LI6733 : Array Bool := #[true, true, true, true, true, true, true, false, true, false, false, false, false, false, false, false, false, false, false, false, false, false, false, false, false, false, false, false, false, false, false, false, false, false, false, false, false]
abbrev LI6734 : Array Bool := #[true, true, true, true, true, true, true, true, true, true, true, true, true, true, true, true, true, true, true, true, true, true, true, true, true, true, true, true, true, false, false, false, false, false, false, false, false]
abbrev LI6735 : Array Bool := #[true, true, true, true, true, true, true, true, true, true, true, true, true, true, true, true, true, true, true, true, true, true, true, true, true, true, true, true, true, true, false, false, false, false, false, false, false]
abbrev LI6736 : Array Bool := #[true, true, true, true, true, true, true, true, true, true, true, true, true, true, true, true, true, true, true, true, true, true, true, true, true, true, true, true, true, true, true, false, false, false, false, false, false]
abbrev LI6737 : Array Bool := #[true, true, true, true, true, true, true, true, true, true, true, true, true, true, true, true, true, true, true, true, false, true, false, false, false, false, false, false, false, false, false, false, false, false, false, false, false]
abbrev LI6738 : Array Bool := #[true, true, true, true, true, true, true, true, true, true, true, true, true, true, true, true, true, true, true, true, true, false, false, false, false, false, false, false, false, false, false, false, false, false, false, false, false]
def refAtP.l0 : Nat → List (S28) → Int → Int → Int → Int → Int → Int → Int → Option (Int × Bool)
 | 0, _, _, _, _, _, _, _, _ => none
 | k + 1, x0, x2, x3, x10, x11, x104000, x104001, x104002 => if x11 < (x0.length : Int) then (if 0 ≤ x11 then (if (((rd_T28 x0 x11).f0.f0) == x104000 && (((rd_T28 x0 x11).f0.f1) == x104001 && (((rd_T28 x0 x11).f0.f2) == x104002))) = true then (if ((rd_T28 x0 x11).f2.f0) ≤ x2 then (if x2 < ((rd_T28 x0 x11).f2.f1) then (if ((rd_T28 x0 x11).f3) ≤ x3 then (if x10 < 0 then (refAtP.l0 k x0 x2 x3 x11 (wrap64 (x11 + 1)) x104000 x104001 x104002) else (if 0 ≤ x10 then (if x10 < (x0.length : Int) then ((sizarref07_Before.f ((rd_T28 x0 x11).f0.f0) ((rd_T28 x0 x11).f0.f1) ((rd_T28 x0 x11).f0.f2) ((rd_T28 x0 x11).f1) ((rd_T28 x0 x11).f2.f0) ((rd_T28 x0 x11).f2.f1) ((rd_T28 x0 x11).f3) ((rd_T28 x0 x11).f4) ((rd_T28 x0 x10).f0.f0) ((rd_T28 x0 x10).f0.f1) ((rd_T28 x0 x10).f0.f2) ((rd_T28 x0 x10).f1) ((rd_T28 x0 x10).f2.f0) ((rd_T28 x0 x10).f2.f1) ((rd_T28 x0 x10).f3) ((rd_T28 x0 x10).f4)).bind fun t107 => (if t107 = true then (refAtP.l0 k x0 x2 x3 x10 (wrap64 (x11 + 1)) x104000 x104001 x104002) else (refAtP.l0 k x0 x2 x3 x11 (wrap64 (x11 + 1)) x104000 x104001 x104002))) else (none)) else (none))) else (refAtP.l0 k x0 x2 x3 x10 (wrap64 (x11 + 1)) x104000 x104001 x104002)) else (refAtP.l0 k x0 x2 x3 x10 (wrap64 (x11 + 1)) x104000 x104001 x104002)) else (refAtP.l0 k x0 x2 x3 x10 (wrap64 (x11 + 1)) x104000 x104001 x104002)) else (refAtP.l0 k x0 x2 x3 x10 (wrap64 (x11 + 1)) x104000 x104001 x104002)) else (none)) else (if x10 < 0 then (some (0, false)) else (if 0 ≤ x10 then (if x10 < (x0.length : Int) then (if ((rd_T28 x0 x10).f1) < 0 then (some (0, false)) else (some ((rd_T28 x0 x10).f1, true))) else (none)) else (none)))
def refAtP.f (k : Nat) (l0 : List (S28)) (a1_0 : Int) (a1_1 : Int) (a1_2 : Int) (a2 : Int) (a3 : Int) : Option (Int × Bool) := refAtP.l0 k l0 a2 a3 (-1) 0 a1_0 a1_1 a1_2
theorem refAtP.mono_l : ∀ k, (∀ y0 y1 y2 y3 y4 y5 y6 y7, LeO (refAtP.l0 k y0 y1 y2 y3 y4 y5 y6 y7) (refAtP.l0 (k + 1) y0 y1 y2 y3 y4 y5 y6 y7))
 | 0 => fun _ _ _ _ _ _ _ _ r h => by simp [refAtP.l0] at h
 | k + 1 => by
  have ih0 := refAtP.mono_l k
  ·intro y0 y1 y2 y3 y4 y5 y6 y7
   unfold refAtP.l0
   repeat' first
   | (with_reducible exact ih0 _ _ _ _ _ _ _ _)
   | (with_reducible exact LeO.refl _)
   | (with_reducible exact LeO.none _)
   | (with_reducible refine LeO.ite ?_ ?_)
   | (with_reducible refine LeO.bind ?_ (fun _ => ?_))
   | exact ih0 _ _ _ _ _ _ _ _
   | exact LeO.none _
   | refine LeO.ite ?_ ?_
   | refine LeO.bind ?_ (fun _ => ?_)
theorem refAtP.mono : ∀ a0 a1 a2 a3 a4 a5 k, LeO (refAtP.f k a0 a1 a2 a3 a4 a5) (refAtP.f (k + 1) a0 a1 a2 a3 a4 a5) := by
 intro a0 a1 a2 a3 a4 a5 k; have ih0 := refAtP.mono_l k; unfold refAtP.f
 repeat' first
  | (with_reducible exact ih0 _ _ _ _ _ _ _ _)
  | (with_reducible exact LeO.refl _)
  | (with_reducible exact LeO.none _)
  | (with_reducible refine LeO.ite ?_ ?_)
  | (with_reducible refine LeO.bind ?_ (fun _ => ?_))
  | exact ih0 _ _ _ _ _ _ _ _
  | exact LeO.none _
  | refine LeO.ite ?_ ?_
  | refine LeO.bind ?_ (fun _ => ?_)
def refAtP.T6 : Bool × List (List Nat × List Nat) := (true, [([], []), ([0], [0]), ([], []), ([1, 2], [1, 2]), ([3], [3]), ([4], [4]), ([5, 4], [4, 5]), ([6, 4], [4, 6]), ([4], [4]), ([7, 8, 4], [4, 7, 8]), ([4, 9], [4, 9]), ([10, 4], [10]), ([11], [11]), ([11], [11]), ([13, 11], [11, 13]), ([14, 11], [11, 14]), ([12, 15, 11], [11, 12, 15]), ([11, 16], [11, 16]), ([17, 11], [17]), ([18], [18]), ([19, 18], [18, 19]), ([18], [18]), ([20, 21, 18], [18, 20, 21]), ([18, 22], [18, 22]), ([23, 18], [23]), ([24], [24]), ([25, 24], [24, 25]), ([26, 24, 24], [24, 26]), ([27], [27]), ([27], [27]), ([27], [27]), ([29, 30, 27], [27, 29, 30]), ([31, 27], [27, 31]), ([28, 32, 27, 27], [27, 28, 32]), ([33, 27], [27, 33]), ([27, 34, 24], [24, 27, 34]), ([24, 35], [24, 35])])
def refAtP.B6 : List Nat := [0, 1, 0, 7, 15, 31, 63, 127, 31, 511, 1023, 2047, 4095, 4095, 12287, 28671, 65535, 131071, 262143, 524287, 1048575, 524287, 4194303, 8388607, 16777215, 33554431, 67108863, 134217727, 268435455, 268435455, 268435455, 1879048191, 4026531839, 8589934591, 17179869183, 34359738367, 68719476735]
theorem refAtP.tab6 : rtab .any (opsOf Try.f19 6) = refAtP.T6 := by kernel_rfl
theorem refAtP.bits6 : waitsOk refAtP.T6.2 refAtP.B6 = true := by kernel_rfl
set_option maxHeartbeats 8000000 in
set_option maxRecDepth 100000 in
theorem refAtP.calls (k : Nat) (A0 : Option Addr) (c0 : Nat) (l0 : List (S28)) (a1_0 : Int) (a1_1 : Int) (a1_2 : Int) (a2 : Int) (a3 : Int) (r1 : Int) (r2 : Bool) (w : World) (hr0 : Kd.C k28 w A0 l0.length l0) (hc0 : l0.length ≤ c0) (h : refAtP.f k l0 a1_0 a1_1 a1_2 a2 a3 = some (r1, r2)) :
  Calls Try.prog 19 #[.slice A0 l0.length c0, .agg #[.int .i64 a1_0, .int .i64 a1_1, .int .i64 a1_2], .int .i64 a2, .int .i64 a3] w fun e w' => e = .returned (.tuple #[.int .i64 r1, .bool r2]) ∧ Below w.heap.size w w' := by
 have hu24 := Try.underlying24; have hu28 := Try.underlying28; have HR0 := Aside0.mk hr0; have HC0 := Aside0.mk hc0; clear hr0 hc0; have HB := Aside0.mk (Below.refl w.heap.size w); have H : (refAtP.l0 k l0 a2 a3 (-1) 0 a1_0 a1_1 a1_2) = some (r1, r2) := h; clear h; have H' := Aside0.mk H; clear H; (go_enter Try.func19, Try.ntmps19); (go_wp2_with (first | ((with_reducible refine gate_dst (N := 5) rfl ?_); refine box_event ?hg (N := 5) ?hd (cs := #[.int .i64 a1_0, .int .i64 a1_1, .int .i64 a1_2]) (t := 24) ?hr ?_; (case hd => rfl); (case hg => rfl); (case hr => first | (go_simp; done) | (go_simp; rfl)); intro gb103 hg w5 hbox hb; have n0_ := Aside0.mk (below_step (by repeat (first | (with_reducible first | exact HB.out | apply below_alloc | apply pw_below_drewN | apply below_drew1) | exact HB.out)) hb); have n1_ := Aside0.mk (hbox); have n2_ := Aside0.mk ((by rw [hg]; exact (below_size (by repeat (first | (with_reducible first | exact HB.out | apply below_alloc | apply pw_below_drewN | apply below_drew1) | exact HB.out))) : w.heap.size ≤ gb103)); have n3_ := Aside0.mk ((by rw [hg]; exact (below_size (by repeat (first | (with_reducible first | exact HB.out | apply below_alloc | apply pw_below_drewN | apply below_drew1) | exact HB.out))) : w.heap.size ≤ gb103)); clear HB; have HB := n0_; have BK103 := n1_; have GW103 := n2_; have GE103 := n3_; clear n0_ n1_ n2_ n3_; clear hb hbox hg))); (go_loopg [10, 11] k (fun kq v10 v11 w' => ∃ (x10_1 : Int) (x11_1 : Int), v10 = .int .i64 x10_1 ∧ v11 = .int .i64 x11_1 ∧ Aside0 (refAtP.l0 kq l0 a2 a3 x10_1 x11_1 a1_0 a1_1 a1_2 = some (r1, r2)) ∧ Aside0 (kq ≤ k) ∧ Aside0 (w'.heap[gb103]? = some (.cells #[.int .i64 a1_0, .int .i64 a1_1, .int .i64 a1_2] 24 (0, 0))) ∧ Aside0 (Below w.heap.size w w')))
 case atStart => exact ⟨((-1)), (0), (by first | rfl | (simp; done) | (simp [*]; done)), (by first | rfl | (simp; done) | (simp [*]; done)), H', ⟨Nat.le_refl _⟩, ⟨by (with_reducible repeat (first | refine blk_drewN ?_ _ | refine blk_drew ?_ | refine blk_alloc ?_ _)); exact BK103.out⟩, ⟨by repeat (first | (with_reducible first | exact HB.out | apply below_alloc | apply pw_below_drewN | apply below_drew1 | refine below_set ?_ GE103.out) | exact HB.out)⟩⟩
 case round =>
  clear H'; (try clear c1); (try clear p2); obtain ⟨x10_1, x11_1, rfl, rfl, HA, HK1, BK103, HB⟩ := hrel
  cases gk with
  | zero => exact absurd HA.out (by simp [refAtP.l0])
  | succ k1 =>
   have H := HA.out; clear HA; simp only [refAtP.l0] at H; (by_cases c6 : x11_1 < (l0.length : Int))
   ·rw [if_pos c6] at H; have c6b0 : decide (x11_1 < (l0.length : Int)) = true := decide_eq_true c6; clear c6; (by_cases c7 : 0 ≤ x11_1)
    ·rw [if_pos c7] at H; have c7b0 : decide (0 ≤ x11_1) = true := decide_eq_true c7; clear c7; (by_cases c8 : (((rd_T28 l0 x11_1).f0.f0) == a1_0 && (((rd_T28 l0 x11_1).f0.f1) == a1_1 && (((rd_T28 l0 x11_1).f0.f2) == a1_2))) = true)
     ·rw [if_pos c8] at H; have c8b0 : (((rd_T28 l0 x11_1).f0.f0) == a1_0 && (((rd_T28 l0 x11_1).f0.f1) == a1_1 && (((rd_T28 l0 x11_1).f0.f2) == a1_2))) = true := c8; ((try (have c8b1 : decide (((rd_T28 l0 x11_1).f0.f0) = a1_0 && (((rd_T28 l0 x11_1).f0.f1) == a1_1 && (((rd_T28 l0 x11_1).f0.f2) == a1_2))) = true := by simpa using c8))); ((try (have c8b2 : (((rd_T28 l0 x11_1).f0.f0) == a1_0 && (((rd_T28 l0 x11_1).f0.f1) == a1_1 && (((rd_T28 l0 x11_1).f0.f2) == a1_2))) = true := by first | simpa using c8 | (have b_ : (!(((rd_T28 l0 x11_1).f0.f0) == a1_0 && (((rd_T28 l0 x11_1).f0.f1) == a1_1 && (((rd_T28 l0 x11_1).f0.f2) == a1_2)))) = false := c8b0; cases h_ : (((rd_T28 l0 x11_1).f0.f0) == a1_0 && (((rd_T28 l0 x11_1).f0.f1) == a1_1 && (((rd_T28 l0 x11_1).f0.f2) == a1_2))) with | true => rfl | false => rw [h_] at b_; cases b_)))); clear c8; (by_cases c9 : ((rd_T28 l0 x11_1).f2.f0) ≤ a2)
      ·rw [if_pos c9] at H; have c9b0 : decide (((rd_T28 l0 x11_1).f2.f0) ≤ a2) = true := decide_eq_true c9; clear c9; (by_cases c10 : a2 < ((rd_T28 l0 x11_1).f2.f1))
       ·rw [if_pos c10] at H; have c10b0 : decide (a2 < ((rd_T28 l0 x11_1).f2.f1)) = true := decide_eq_true c10; clear c10; (by_cases c11 : ((rd_T28 l0 x11_1).f3) ≤ a3)
        ·rw [if_pos c11] at H; have c11b0 : decide (((rd_T28 l0 x11_1).f3) ≤ a3) = true := decide_eq_true c11; clear c11; (by_cases c12 : x10_1 < 0)
         ·rw [if_pos c12] at H; have c12b0 : decide (x10_1 < 0) = true := decide_eq_true c12; clear c12; have H' := Aside0.mk H; clear H; (have p104 : 0 ≤ (x11_1 : Int) := of_decide_eq_true (by assumption)); (have q104 : x11_1 < (l0.length : Int) := of_decide_eq_true (by assumption)); obtain ⟨ad104, e104, hx104_0, hx104_1, hx104_2, hx104_3, hx104_4, hx104_5, hx104_6, hx104_7⟩ := at_T28 HR0.out x11_1 p104 q104; cases e104; replace hx104_0 := (HB.out.cell (World.block_lt_of_cell? w _ hx104_0)).trans hx104_0; replace hx104_1 := (HB.out.cell (World.block_lt_of_cell? w _ hx104_1)).trans hx104_1; replace hx104_2 := (HB.out.cell (World.block_lt_of_cell? w _ hx104_2)).trans hx104_2; replace hx104_3 := (HB.out.cell (World.block_lt_of_cell? w _ hx104_3)).trans hx104_3; replace hx104_4 := (HB.out.cell (World.block_lt_of_cell? w _ hx104_4)).trans hx104_4; replace hx104_5 := (HB.out.cell (World.block_lt_of_cell? w _ hx104_5)).trans hx104_5; replace hx104_6 := (HB.out.cell (World.block_lt_of_cell? w _ hx104_6)).trans hx104_6; replace hx104_7 := (HB.out.cell (World.block_lt_of_cell? w _ hx104_7)).trans hx104_7; replace p104 := eq_true p104; replace q104 := eq_true q104; (try go_wp2_with (first | ((with_reducible refine gate_dst (N := 12) rfl ?_); refine box_event ?hg (N := 12) ?hd (cs := #[.int .i64 0, .int .i64 0, .int .i64 0, .int .i64 0, .int .i64 0, .int .i64 0, .int .i64 0, .int .i64 0]) (t := 28) ?hr ?_; (case hd => rfl); (case hg => rfl); (case hr => first | (go_simp; done) | (go_simp; rfl)); intro gb105 hg w13 hbox hb; have n0_ := Aside0.mk (blk_below (g := gb103) (o := .cells #[.int .i64 a1_0, .int .i64 a1_1, .int .i64 a1_2] 24 (0, 0)) (by (with_reducible repeat (first | refine blk_drewN ?_ _ | refine blk_drew ?_ | refine blk_alloc ?_ _)); exact BK103.out) hb); have n1_ := Aside0.mk (below_step (by repeat (first | (with_reducible first | exact HB.out | apply below_alloc | apply pw_below_drewN | apply below_drew1 | refine below_set ?_ GE103.out) | exact HB.out)) hb); have n2_ := Aside0.mk (hbox); have n3_ := Aside0.mk ((by rw [hg]; exact (below_size (by repeat (first | (with_reducible first | exact HB.out | apply below_alloc | apply pw_below_drewN | apply below_drew1 | refine below_set ?_ GE103.out) | exact HB.out))) : w.heap.size ≤ gb105)); have n4_ := Aside0.mk ((by rw [hg]; exact (below_size (by repeat (first | (with_reducible first | exact HB.out | apply below_alloc | apply pw_below_drewN | apply below_drew1 | refine below_set ?_ GE103.out) | exact HB.out))) : w.heap.size ≤ gb105)); have n5_ := Aside0.mk ((by rw [hg]; exact Nat.ne_of_lt (blk_lt (g := gb103) (o := .cells #[.int .i64 a1_0, .int .i64 a1_1, .int .i64 a1_2] 24 (0, 0)) (by (with_reducible repeat (first | refine blk_drewN ?_ _ | refine blk_drew ?_ | refine blk_alloc ?_ _)); exact BK103.out)) : gb103 ≠ gb105)); have n6_ := Aside0.mk ((by rw [hg]; exact Nat.ne_of_gt (blk_lt (g := gb103) (o := .cells #[.int .i64 a1_0, .int .i64 a1_1, .int .i64 a1_2] 24 (0, 0)) (by (with_reducible repeat (first | refine blk_drewN ?_ _ | refine blk_drew ?_ | refine blk_alloc ?_ _)); exact BK103.out)) : gb105 ≠ gb103)); clear BK103; clear HB; have BK103 := n0_; have HB := n1_; have BK105 := n2_; have GW105 := n3_; have GE105 := n4_; have NB103_105 := n5_; have NB105_103 := n6_; clear n0_ n1_ n2_ n3_ n4_ n5_ n6_; clear hb hbox hg; have hnb14 := NB105_103.out; have hnc14 := NB103_105.out; have hcz15_0 : w13.cell? ⟨gb105, 0, none⟩ = some (.int .i64 0) := (blk_cell BK105.out 0).trans rfl; have hcz15_1 : w13.cell? ⟨gb105, 1, none⟩ = some (.int .i64 0) := (blk_cell BK105.out 1).trans rfl; have hcz15_2 : w13.cell? ⟨gb105, 2, none⟩ = some (.int .i64 0) := (blk_cell BK105.out 2).trans rfl; have hcz15_3 : w13.cell? ⟨gb105, 3, none⟩ = some (.int .i64 0) := (blk_cell BK105.out 3).trans rfl; have hcz15_4 : w13.cell? ⟨gb105, 4, none⟩ = some (.int .i64 0) := (blk_cell BK105.out 4).trans rfl; have hcz15_5 : w13.cell? ⟨gb105, 5, none⟩ = some (.int .i64 0) := (blk_cell BK105.out 5).trans rfl; have hcz15_6 : w13.cell? ⟨gb105, 6, none⟩ = some (.int .i64 0) := (blk_cell BK105.out 6).trans rfl; have hcz15_7 : w13.cell? ⟨gb105, 7, none⟩ = some (.int .i64 0) := (blk_cell BK105.out 7).trans rfl; have hfz15_0 := blk_frozen BK105.out 0; have hfz15_1 := blk_frozen BK105.out 1; have hfz15_2 := blk_frozen BK105.out 2; have hfz15_3 := blk_frozen BK105.out 3; have hfz15_4 := blk_frozen BK105.out 4; have hfz15_5 := blk_frozen BK105.out 5; have hfz15_6 := blk_frozen BK105.out 6; have hfz15_7 := blk_frozen BK105.out 7)))
          (have n0_ : Aside0 (((((((((w13.setCell ⟨gb105, 0, none⟩ (.int .i64 ((rd_T28 l0 x11_1).f0.f0))).setCell ⟨gb105, 1, none⟩ (.int .i64 ((rd_T28 l0 x11_1).f0.f1))).setCell ⟨gb105, 2, none⟩ (.int .i64 ((rd_T28 l0 x11_1).f0.f2))).setCell ⟨gb105, 3, none⟩ (.int .i64 ((rd_T28 l0 x11_1).f1))).setCell ⟨gb105, 4, none⟩ (.int .i64 ((rd_T28 l0 x11_1).f2.f0))).setCell ⟨gb105, 5, none⟩ (.int .i64 ((rd_T28 l0 x11_1).f2.f1))).setCell ⟨gb105, 6, none⟩ (.int .i64 ((rd_T28 l0 x11_1).f3))).setCell ⟨gb105, 7, none⟩ (.int .i64 ((rd_T28 l0 x11_1).f4))).heap[gb103]? = some (.cells #[.int .i64 a1_0, .int .i64 a1_1, .int .i64 a1_2] 24 (0, 0))) := ⟨by (with_reducible repeat (first | refine blk_drewN ?_ _ | refine blk_drew ?_ | refine blk_alloc ?_ _)); refine blk_far ?_ NB103_105.out _; (with_reducible repeat (first | refine blk_drewN ?_ _ | refine blk_drew ?_ | refine blk_alloc ?_ _)); refine blk_far ?_ NB103_105.out _; (with_reducible repeat (first | refine blk_drewN ?_ _ | refine blk_drew ?_ | refine blk_alloc ?_ _)); refine blk_far ?_ NB103_105.out _; (with_reducible repeat (first | refine blk_drewN ?_ _ | refine blk_drew ?_ | refine blk_alloc ?_ _)); refine blk_far ?_ NB103_105.out _; (with_reducible repeat (first | refine blk_drewN ?_ _ | refine blk_drew ?_ | refine blk_alloc ?_ _)); refine blk_far ?_ NB103_105.out _; (with_reducible repeat (first | refine blk_drewN ?_ _ | refine blk_drew ?_ | refine blk_alloc ?_ _)); refine blk_far ?_ NB103_105.out _; (with_reducible repeat (first | refine blk_drewN ?_ _ | refine blk_drew ?_ | refine blk_alloc ?_ _)); refine blk_far ?_ NB103_105.out _; (with_reducible repeat (first | refine blk_drewN ?_ _ | refine blk_drew ?_ | refine blk_alloc ?_ _)); refine blk_far ?_ NB103_105.out _; (with_reducible repeat (first | refine blk_drewN ?_ _ | refine blk_drew ?_ | refine blk_alloc ?_ _)); exact BK103.out⟩); (have n1_ : Aside0 (((((((((w13.setCell ⟨gb105, 0, none⟩ (.int .i64 ((rd_T28 l0 x11_1).f0.f0))).setCell ⟨gb105, 1, none⟩ (.int .i64 ((rd_T28 l0 x11_1).f0.f1))).setCell ⟨gb105, 2, none⟩ (.int .i64 ((rd_T28 l0 x11_1).f0.f2))).setCell ⟨gb105, 3, none⟩ (.int .i64 ((rd_T28 l0 x11_1).f1))).setCell ⟨gb105, 4, none⟩ (.int .i64 ((rd_T28 l0 x11_1).f2.f0))).setCell ⟨gb105, 5, none⟩ (.int .i64 ((rd_T28 l0 x11_1).f2.f1))).setCell ⟨gb105, 6, none⟩ (.int .i64 ((rd_T28 l0 x11_1).f3))).setCell ⟨gb105, 7, none⟩ (.int .i64 ((rd_T28 l0 x11_1).f4))).heap[gb105]? = some (.cells #[.int .i64 ((rd_T28 l0 x11_1).f0.f0), .int .i64 ((rd_T28 l0 x11_1).f0.f1), .int .i64 ((rd_T28 l0 x11_1).f0.f2), .int .i64 ((rd_T28 l0 x11_1).f1), .int .i64 ((rd_T28 l0 x11_1).f2.f0), .int .i64 ((rd_T28 l0 x11_1).f2.f1), .int .i64 ((rd_T28 l0 x11_1).f3), .int .i64 ((rd_T28 l0 x11_1).f4)] 28 (0, 0))) := ⟨by (with_reducible repeat (first | refine blk_drewN ?_ _ | refine blk_drew ?_ | refine blk_alloc ?_ _)); refine blk_put (cs := #[.int .i64 ((rd_T28 l0 x11_1).f0.f0), .int .i64 ((rd_T28 l0 x11_1).f0.f1), .int .i64 ((rd_T28 l0 x11_1).f0.f2), .int .i64 ((rd_T28 l0 x11_1).f1), .int .i64 ((rd_T28 l0 x11_1).f2.f0), .int .i64 ((rd_T28 l0 x11_1).f2.f1), .int .i64 ((rd_T28 l0 x11_1).f3), .int .i64 0]) ?_ 7 _ rfl; (with_reducible repeat (first | refine blk_drewN ?_ _ | refine blk_drew ?_ | refine blk_alloc ?_ _)); refine blk_put (cs := #[.int .i64 ((rd_T28 l0 x11_1).f0.f0), .int .i64 ((rd_T28 l0 x11_1).f0.f1), .int .i64 ((rd_T28 l0 x11_1).f0.f2), .int .i64 ((rd_T28 l0 x11_1).f1), .int .i64 ((rd_T28 l0 x11_1).f2.f0), .int .i64 ((rd_T28 l0 x11_1).f2.f1), .int .i64 0, .int .i64 0]) ?_ 6 _ rfl; (with_reducible repeat (first | refine blk_drewN ?_ _ | refine blk_drew ?_ | refine blk_alloc ?_ _)); refine blk_put (cs := #[.int .i64 ((rd_T28 l0 x11_1).f0.f0), .int .i64 ((rd_T28 l0 x11_1).f0.f1), .int .i64 ((rd_T28 l0 x11_1).f0.f2), .int .i64 ((rd_T28 l0 x11_1).f1), .int .i64 ((rd_T28 l0 x11_1).f2.f0), .int .i64 0, .int .i64 0, .int .i64 0]) ?_ 5 _ rfl; (with_reducible repeat (first | refine blk_drewN ?_ _ | refine blk_drew ?_ | refine blk_alloc ?_ _)); refine blk_put (cs := #[.int .i64 ((rd_T28 l0 x11_1).f0.f0), .int .i64 ((rd_T28 l0 x11_1).f0.f1), .int .i64 ((rd_T28 l0 x11_1).f0.f2), .int .i64 ((rd_T28 l0 x11_1).f1), .int .i64 0, .int .i64 0, .int .i64 0, .int .i64 0]) ?_ 4 _ rfl; (with_reducible repeat (first | refine blk_drewN ?_ _ | refine blk_drew ?_ | refine blk_alloc ?_ _)); refine blk_put (cs := #[.int .i64 ((rd_T28 l0 x11_1).f0.f0), .int .i64 ((rd_T28 l0 x11_1).f0.f1), .int .i64 ((rd_T28 l0 x11_1).f0.f2), .int .i64 0, .int .i64 0, .int .i64 0, .int .i64 0, .int .i64 0]) ?_ 3 _ rfl; (with_reducible repeat (first | refine blk_drewN ?_ _ | refine blk_drew ?_ | refine blk_alloc ?_ _)); refine blk_put (cs := #[.int .i64 ((rd_T28 l0 x11_1).f0.f0), .int .i64 ((rd_T28 l0 x11_1).f0.f1), .int .i64 0, .int .i64 0, .int .i64 0, .int .i64 0, .int .i64 0, .int .i64 0]) ?_ 2 _ rfl; (with_reducible repeat (first | refine blk_drewN ?_ _ | refine blk_drew ?_ | refine blk_alloc ?_ _)); refine blk_put (cs := #[.int .i64 ((rd_T28 l0 x11_1).f0.f0), .int .i64 0, .int .i64 0, .int .i64 0, .int .i64 0, .int .i64 0, .int .i64 0, .int .i64 0]) ?_ 1 _ rfl; (with_reducible repeat (first | refine blk_drewN ?_ _ | refine blk_drew ?_ | refine blk_alloc ?_ _)); refine blk_put (cs := #[.int .i64 0, .int .i64 0, .int .i64 0, .int .i64 0, .int .i64 0, .int .i64 0, .int .i64 0, .int .i64 0]) ?_ 0 _ rfl; (with_reducible repeat (first | refine blk_drewN ?_ _ | refine blk_drew ?_ | refine blk_alloc ?_ _)); exact BK105.out⟩)
          (have n2_ : Aside0 (Below w.heap.size w ((((((((w13.setCell ⟨gb105, 0, none⟩ (.int .i64 ((rd_T28 l0 x11_1).f0.f0))).setCell ⟨gb105, 1, none⟩ (.int .i64 ((rd_T28 l0 x11_1).f0.f1))).setCell ⟨gb105, 2, none⟩ (.int .i64 ((rd_T28 l0 x11_1).f0.f2))).setCell ⟨gb105, 3, none⟩ (.int .i64 ((rd_T28 l0 x11_1).f1))).setCell ⟨gb105, 4, none⟩ (.int .i64 ((rd_T28 l0 x11_1).f2.f0))).setCell ⟨gb105, 5, none⟩ (.int .i64 ((rd_T28 l0 x11_1).f2.f1))).setCell ⟨gb105, 6, none⟩ (.int .i64 ((rd_T28 l0 x11_1).f3))).setCell ⟨gb105, 7, none⟩ (.int .i64 ((rd_T28 l0 x11_1).f4)))) := ⟨by repeat (first | (with_reducible first | exact HB.out | apply below_alloc | apply pw_below_drewN | apply below_drew1 | refine below_set ?_ GE103.out | refine below_set ?_ GE105.out) | exact HB.out)⟩); ((try clear BK103)); ((try clear BK105)); ((try clear HB)); generalize ((((((((w13.setCell ⟨gb105, 0, none⟩ (.int .i64 ((rd_T28 l0 x11_1).f0.f0))).setCell ⟨gb105, 1, none⟩ (.int .i64 ((rd_T28 l0 x11_1).f0.f1))).setCell ⟨gb105, 2, none⟩ (.int .i64 ((rd_T28 l0 x11_1).f0.f2))).setCell ⟨gb105, 3, none⟩ (.int .i64 ((rd_T28 l0 x11_1).f1))).setCell ⟨gb105, 4, none⟩ (.int .i64 ((rd_T28 l0 x11_1).f2.f0))).setCell ⟨gb105, 5, none⟩ (.int .i64 ((rd_T28 l0 x11_1).f2.f1))).setCell ⟨gb105, 6, none⟩ (.int .i64 ((rd_T28 l0 x11_1).f3))).setCell ⟨gb105, 7, none⟩ (.int .i64 ((rd_T28 l0 x11_1).f4))) = w16 at n0_ n1_ n2_ ⊢; have BK103 := n0_; have BK105 := n1_; have HB := n2_; clear n0_ n1_ n2_; have n0_ := Aside0.mk (blk_drew BK103.out); have n1_ := Aside0.mk (blk_drew BK105.out); have n2_ := Aside0.mk (below_drew1 HB.out); clear BK103; clear BK105; clear HB; have BK103 := n0_; have BK105 := n1_; have HB := n2_; clear n0_ n1_ n2_; (refine start_ (n := 37) (S := fun w' => w'.cell? ⟨gb105, 0, none⟩ = some (.int .i64 ((rd_T28 l0 x11_1).f0.f0)) ∧ w'.cell? ⟨gb105, 1, none⟩ = some (.int .i64 ((rd_T28 l0 x11_1).f0.f1)) ∧ w'.cell? ⟨gb105, 2, none⟩ = some (.int .i64 ((rd_T28 l0 x11_1).f0.f2)) ∧ w'.cell? ⟨gb105, 3, none⟩ = some (.int .i64 ((rd_T28 l0 x11_1).f1)) ∧ w'.cell? ⟨gb105, 4, none⟩ = some (.int .i64 ((rd_T28 l0 x11_1).f2.f0)) ∧ w'.cell? ⟨gb105, 5, none⟩ = some (.int .i64 ((rd_T28 l0 x11_1).f2.f1)) ∧ w'.cell? ⟨gb105, 6, none⟩ = some (.int .i64 ((rd_T28 l0 x11_1).f3)) ∧ w'.cell? ⟨gb105, 7, none⟩ = some (.int .i64 ((rd_T28 l0 x11_1).f4)) ∧ w'.cell? ⟨gb103, 0, none⟩ = some (.int .i64 a1_0) ∧ w'.cell? ⟨gb103, 1, none⟩ = some (.int .i64 a1_1) ∧ w'.cell? ⟨gb103, 2, none⟩ = some (.int .i64 a1_2)) (ds := []) LI670 (by kernel_rfl) rfl rfl ⟨(blk_cell BK105.out 0).trans rfl, (blk_cell BK105.out 1).trans rfl, (blk_cell BK105.out 2).trans rfl, (blk_cell BK105.out 3).trans rfl, (blk_cell BK105.out 4).trans rfl, (blk_cell BK105.out 5).trans rfl, (blk_cell BK105.out 6).trans rfl, (blk_cell BK105.out 7).trans rfl, (blk_cell BK103.out 0).trans rfl, (blk_cell BK103.out 1).trans rfl, (blk_cell BK103.out 2).trans rfl⟩ (fun hHeld => ?_); refine with_tabW refAtP.tab6 refAtP.bits6 (fun HT_ HW_ => ?_)); generalize w16.drew = w17 at BK103 BK105 HB hHeld ⊢; (refine pure_ (i := 0) (N := some 23) (v := ?_) (a' := ?_) LI671 rfl rfl (any_of HT_.out (by kernel_rfl)) (fun _ _ _ h => h) (Or.inl ⟨by rfl, ?_⟩) ?_ ?_); rotate_left
          ·intro w'; go_simp; (with_reducible rfl)
          rotate_left
          ·go_simp; rfl
          (refine take_ (i := 1) (N := some 24) (v := ?_) (a' := ?_) LI672 rfl rfl (take_ofW HT_.out HW_.out (by kernel_rfl)) (fun _ _ _ h => h) (Or.inl ⟨by rfl, ?_⟩) hHeld ?_ ?_); rotate_left
          ·rintro w' ⟨s0, s1, s2, s3, s4, s5, s6, s7, s8, s9, s10⟩; go_simp; (with_reducible rfl)
          rotate_left
          ·go_simp; rfl
          (refine take_ (i := 2) (N := some 25) (v := ?_) (a' := ?_) LI673 rfl rfl (take_ofW HT_.out HW_.out (by kernel_rfl)) (fun _ _ _ h => h) (Or.inl ⟨by rfl, ?_⟩) hHeld ?_ ?_); rotate_left
          ·rintro w' ⟨s0, s1, s2, s3, s4, s5, s6, s7, s8, s9, s10⟩; go_simp; (with_reducible rfl)
          rotate_left
          ·go_simp; rfl
          (refine pure_ (i := 3) (N := some 26) (v := ?_) (a' := ?_) LI674 rfl rfl (any_of HT_.out (by kernel_rfl)) (fun _ _ _ h => h) (Or.inl ⟨by rfl, ?_⟩) ?_ ?_); rotate_left
          ·intro w'; go_simp; (with_reducible rfl)
          rotate_left
          ·go_simp; rfl
          (refine pure_ (i := 4) (N := some 27) (v := ?_) (a' := ?_) LI675 rfl rfl (any_of HT_.out (by kernel_rfl)) (fun _ _ _ h => h) (Or.inl ⟨by rfl, ?_⟩) ?_ ?_); rotate_left
          ·intro w'; go_simp; (with_reducible rfl)
          rotate_left
          ·go_simp; rfl
          (refine pure_ (i := 5) (N := some 28) (v := ?_) (a' := ?_) LI676 rfl rfl (any_of HT_.out (by kernel_rfl)) (fun _ _ _ h => h) (Or.inl ⟨by rfl, ?_⟩) ?_ ?_); rotate_left
          ·intro w'; go_simp; (with_reducible rfl)
          rotate_left
          ·go_simp; rfl
          (refine pure_ (i := 6) (N := some 29) (v := ?_) (a' := ?_) LI677 rfl rfl (any_of HT_.out (by kernel_rfl)) (fun _ _ _ h => h) (Or.inl ⟨by rfl, ?_⟩) ?_ ?_); rotate_left
          ·intro w'; go_simp; (with_reducible rfl)
          rotate_left
          ·go_simp; rfl
          (refine pure_ (i := 8) (N := some 31) (v := ?_) (a' := ?_) LI6733 rfl rfl (any_of HT_.out (by kernel_rfl)) (fun _ _ _ h => h) (Or.inl ⟨by rfl, ?_⟩) ?_ ?_); rotate_left
          ·intro w'; go_simp; (with_reducible rfl)
          rotate_left
          ·go_simp; rfl
          (refine take_ (i := 7) (N := some 30) (v := ?_) (a' := ?_) LI678 rfl rfl (take_ofW HT_.out HW_.out (by kernel_rfl)) (fun _ _ _ h => h) (Or.inl ⟨by rfl, ?_⟩) hHeld ?_ ?_); rotate_left
          ·rintro w' ⟨s0, s1, s2, s3, s4, s5, s6, s7, s8, s9, s10⟩; go_simp; (with_reducible rfl)
          rotate_left
          ·go_simp; rfl
          (refine pure_ (i := 9) (N := some 32) (v := ?_) (a' := ?_) LI679 rfl rfl (any_of HT_.out (by kernel_rfl)) (fun _ _ _ h => h) (Or.inl ⟨by rfl, ?_⟩) ?_ ?_); rotate_left
          ·intro w'; go_simp; (with_reducible rfl)
          rotate_left
          ·go_simp; rfl
          (refine pure_ (i := 10) (N := some 33) (v := ?_) (a' := ?_) LI6710 rfl rfl (any_of HT_.out (by kernel_rfl)) (fun _ _ _ h => h) (Or.inl ⟨by rfl, ?_⟩) ?_ ?_); rotate_left
          ·intro w'; go_simp; (with_reducible rfl)
          rotate_left
          ·go_simp; rfl
          (refine pure_ (i := 11) (N := some 34) (v := ?_) (a' := ?_) LI6711 rfl rfl (any_of HT_.out (by kernel_rfl)) (fun _ _ _ h => h) (Or.inl ⟨by rfl, ?_⟩) ?_ ?_); rotate_left
          ·intro w'; go_simp; (with_reducible rfl)
          rotate_left
          ·go_simp; rfl
          (refine pure_ (i := 12) (N := some 35) (v := ?_) (a' := ?_) LI6712 rfl rfl (any_of HT_.out (by kernel_rfl)) (fun _ _ _ h => h) (Or.inl ⟨by rfl, ?_⟩) ?_ ?_); rotate_left
          ·intro w'; go_simp; (with_reducible rfl)
          rotate_left
          ·go_simp; rfl
          (refine pure_ (i := 13) (N := some 36) (v := ?_) (a' := ?_) LI6713 rfl rfl (any_of HT_.out (by kernel_rfl)) (fun _ _ _ h => h) (Or.inl ⟨by rfl, ?_⟩) ?_ ?_); rotate_left
          ·intro w'; go_simp; (with_reducible rfl)
          rotate_left
          ·go_simp; rfl
          (refine pure_ (i := 14) (N := some 37) (v := ?_) (a' := ?_) LI6714 rfl rfl (any_of HT_.out (by kernel_rfl)) (fun _ _ _ h => h) (Or.inl ⟨by rfl, ?_⟩) ?_ ?_); rotate_left
          ·intro w'; go_simp; (with_reducible rfl)
          rotate_left
          ·go_simp; rfl
          (refine take_ (i := 15) (N := some 38) (v := ?_) (a' := ?_) LI6715 rfl rfl (take_ofW HT_.out HW_.out (by kernel_rfl)) (fun _ _ _ h => h) (Or.inl ⟨by rfl, ?_⟩) hHeld ?_ ?_); rotate_left
          ·rintro w' ⟨s0, s1, s2, s3, s4, s5, s6, s7, s8, s9, s10⟩; go_simp; (with_reducible rfl)
          rotate_left
          ·go_simp; rfl
          (refine pure_ (i := 16) (N := some 39) (v := ?_) (a' := ?_) LI6716 rfl rfl (any_of HT_.out (by kernel_rfl)) (fun _ _ _ h => h) (Or.inl ⟨by rfl, ?_⟩) ?_ ?_); rotate_left
          ·intro w'; go_simp; (with_reducible rfl)
          rotate_left
          ·go_simp; rfl
          (refine pure_ (i := 17) (N := some 40) (v := ?_) (a' := ?_) LI6717 rfl rfl (any_of HT_.out (by kernel_rfl)) (fun _ _ _ h => h) (Or.inl ⟨by rfl, ?_⟩) ?_ ?_); rotate_left
          ·intro w'; go_simp; (with_reducible rfl)
          rotate_left
          ·go_simp; rfl
          (refine pure_ (i := 18) (N := some 41) (v := ?_) (a' := ?_) LI6718 rfl rfl (any_of HT_.out (by kernel_rfl)) (fun _ _ _ h => h) (Or.inl ⟨by rfl, ?_⟩) ?_ ?_); rotate_left
          ·intro w'; go_simp; (with_reducible rfl)
          rotate_left
          ·go_simp; rfl
          (refine pure_ (i := 19) (N := some 42) (v := ?_) (a' := ?_) LI6719 rfl rfl (any_of HT_.out (by kernel_rfl)) (fun _ _ _ h => h) (Or.inl ⟨by rfl, ?_⟩) ?_ ?_); rotate_left
          ·intro w'; go_simp; (with_reducible rfl)
          rotate_left
          ·go_simp; rfl
          (refine pure_ (i := 21) (N := some 44) (v := ?_) (a' := ?_) LI6737 rfl rfl (any_of HT_.out (by kernel_rfl)) (fun _ _ _ h => h) (Or.inl ⟨by rfl, ?_⟩) ?_ ?_); rotate_left
          ·intro w'; go_simp; (with_reducible rfl)
          rotate_left
          ·go_simp; rfl
          (refine take_ (i := 20) (N := some 43) (v := ?_) (a' := ?_) LI6720 rfl rfl (take_ofW HT_.out HW_.out (by kernel_rfl)) (fun _ _ _ h => h) (Or.inl ⟨by rfl, ?_⟩) hHeld ?_ ?_); rotate_left
          ·rintro w' ⟨s0, s1, s2, s3, s4, s5, s6, s7, s8, s9, s10⟩; go_simp; (with_reducible rfl)
          rotate_left
          ·go_simp; rfl
          (refine pure_ (i := 22) (N := some 45) (v := ?_) (a' := ?_) LI6721 rfl rfl (any_of HT_.out (by kernel_rfl)) (fun _ _ _ h => h) (Or.inl ⟨by rfl, ?_⟩) ?_ ?_); rotate_left
          ·intro w'; go_simp; (with_reducible rfl)
          rotate_left
          ·go_simp; rfl
          (refine pure_ (i := 23) (N := some 46) (v := ?_) (a' := ?_) LI6722 rfl rfl (any_of HT_.out (by kernel_rfl)) (fun _ _ _ h => h) (Or.inl ⟨by rfl, ?_⟩) ?_ ?_); rotate_left
          ·intro w'; go_simp; (with_reducible rfl)
          rotate_left
          ·go_simp; rfl
          (refine pure_ (i := 24) (N := some 47) (v := ?_) (a' := ?_) LI6723 rfl rfl (any_of HT_.out (by kernel_rfl)) (fun _ _ _ h => h) (Or.inl ⟨by rfl, ?_⟩) ?_ ?_); rotate_left
          ·intro w'; go_simp; (with_reducible rfl)
          rotate_left
          ·go_simp; rfl
          (refine pure_ (i := 25) (N := some 48) (v := ?_) (a' := ?_) LI6724 rfl rfl (any_of HT_.out (by kernel_rfl)) (fun _ _ _ h => h) (Or.inl ⟨by rfl, ?_⟩) ?_ ?_); rotate_left
          ·intro w'; go_simp; (with_reducible rfl)
          rotate_left
          ·go_simp; rfl
          (refine pure_ (i := 26) (N := some 49) (v := ?_) (a' := ?_) LI6725 rfl rfl (any_of HT_.out (by kernel_rfl)) (fun _ _ _ h => h) (Or.inl ⟨by rfl, ?_⟩) ?_ ?_); rotate_left
          ·intro w'; go_simp; (with_reducible rfl)
          rotate_left
          ·go_simp; rfl
          (refine pure_ (i := 27) (N := some 50) (v := ?_) (a' := ?_) LI6726 rfl rfl (any_of HT_.out (by kernel_rfl)) (fun _ _ _ h => h) (Or.inl ⟨by rfl, ?_⟩) ?_ ?_); rotate_left
          ·intro w'; go_simp; (with_reducible rfl)
          rotate_left
          ·go_simp; rfl
          (refine pure_ (i := 28) (N := some 51) (v := undef) (a' := ?_) LI6734 rfl rfl (any_of HT_.out (by kernel_rfl)) (fun _ _ _ h => h) (Or.inr ⟨by rfl, rfl⟩) ?_ ?_); rotate_left
          ·go_simp; rfl
          (refine pure_ (i := 29) (N := some 52) (v := undef) (a' := ?_) LI6735 rfl rfl (any_of HT_.out (by kernel_rfl)) (fun _ _ _ h => h) (Or.inr ⟨by rfl, rfl⟩) ?_ ?_); rotate_left
          ·go_simp; rfl
          (refine pure_ (i := 30) (N := some 53) (v := undef) (a' := ?_) LI6736 rfl rfl (any_of HT_.out (by kernel_rfl)) (fun _ _ _ h => h) (Or.inr ⟨by rfl, rfl⟩) ?_ ?_); rotate_left
          ·go_simp; rfl
          (refine pure_ (i := 31) (N := some 54) (v := undef) (a' := ?_) LI6727 rfl rfl (any_of HT_.out (by kernel_rfl)) (fun _ _ _ h => h) (Or.inr ⟨by rfl, rfl⟩) ?_ ?_); rotate_left
          ·go_simp; rfl
          (refine pure_ (i := 32) (N := some 55) (v := undef) (a' := ?_) LI6728 rfl rfl (any_of HT_.out (by kernel_rfl)) (fun _ _ _ h => h) (Or.inr ⟨by rfl, rfl⟩) ?_ ?_); rotate_left
          ·go_simp; rfl
          (refine pure_ (i := 33) (N := some 56) (v := undef) (a' := ?_) LI6729 rfl rfl (any_of HT_.out (by kernel_rfl)) (fun _ _ _ h => h) (Or.inr ⟨by rfl, rfl⟩) ?_ ?_); rotate_left
          ·go_simp; rfl
          (refine pure_ (i := 34) (N := some 57) (v := undef) (a' := ?_) LI6730 rfl rfl (any_of HT_.out (by kernel_rfl)) (fun _ _ _ h => h) (Or.inr ⟨by rfl, rfl⟩) ?_ ?_); rotate_left
          ·go_simp; rfl
          (refine pure_ (i := 35) (N := some 58) (v := ?_) (a' := ?_) LI6731 rfl rfl (any_of HT_.out (by kernel_rfl)) (fun _ _ _ h => h) (Or.inl ⟨by rfl, ?_⟩) ?_ ?_); rotate_left
          ·intro w'; go_simp; (with_reducible rfl)
          rotate_left
          ·go_simp; rfl
          (refine pure_ (i := 36) (N := some 59) (v := ?_) (a' := ?_) LI6732 rfl rfl (any_of HT_.out (by kernel_rfl)) (fun _ _ _ h => h) (Or.inl ⟨by rfl, ?_⟩) ?_ ?_); rotate_left
          ·intro w'; go_simp; (with_reducible rfl)
          rotate_left
          ·go_simp; rfl
          (refine done_ (done_of HT_.out (by kernel_rfl)) ?_); (try go_wp2); (go_roundg k1)
          case measure => have := HK1.out; omega
          case rel => exact ⟨(x11_1), (wrap64 (x11_1 + 1)), (by first | rfl | (simp; done) | (simp [*]; done)), (by first | rfl | (simp; done) | (simp [*]; done)), H', ⟨by have := HK1.out; omega⟩, ⟨by (with_reducible repeat (first | refine blk_drewN ?_ _ | refine blk_drew ?_ | refine blk_alloc ?_ _)); exact BK103.out⟩, ⟨by repeat (first | (with_reducible first | exact HB.out | apply below_alloc | apply pw_below_drewN | apply below_drew1 | refine below_set ?_ GE103.out | refine below_set ?_ GE105.out) | exact HB.out)⟩⟩
         ·rw [if_neg c12] at H; have c12b0 : decide (x10_1 < 0) = false := decide_eq_false c12; clear c12; (by_cases c18 : 0 ≤ x10_1)
          ·rw [if_pos c18] at H; have c18b0 : decide (0 ≤ x10_1) = true := decide_eq_true c18; clear c18; (by_cases c19 : x10_1 < (l0.length : Int))
           ·rw [if_pos c19] at H; have c19b0 : decide (x10_1 < (l0.length : Int)) = true := decide_eq_true c19; clear c19; replace H := Option.bind_eq_some_iff.mp H; obtain ⟨t107, A200, H⟩ := H; replace H : (if t107 = true then (refAtP.l0 k1 l0 a2 a3 x10_1 (wrap64 (x11_1 + 1)) a1_0 a1_1 a1_2) else (refAtP.l0 k1 l0 a2 a3 x11_1 (wrap64 (x11_1 + 1)) a1_0 a1_1 a1_2)) = some (r1, r2) := H; have A20 := Aside0.mk A200; clear A200; (by_cases c21 : t107 = true)
            ·subst c21; (have H1 : (refAtP.l0 k1 l0 a2 a3 x10_1 (wrap64 (x11_1 + 1)) a1_0 a1_1 a1_2) = some (r1, r2) := by rw [if_pos rfl] at H; exact H); clear H; have H := H1; clear H1; have H' := Aside0.mk H; clear H; (have p104 : 0 ≤ (x11_1 : Int) := of_decide_eq_true (by assumption)); (have q104 : x11_1 < (l0.length : Int) := of_decide_eq_true (by assumption)); obtain ⟨ad104, e104, hx104_0, hx104_1, hx104_2, hx104_3, hx104_4, hx104_5, hx104_6, hx104_7⟩ := at_T28 HR0.out x11_1 p104 q104; cases e104; replace hx104_0 := (HB.out.cell (World.block_lt_of_cell? w _ hx104_0)).trans hx104_0; replace hx104_1 := (HB.out.cell (World.block_lt_of_cell? w _ hx104_1)).trans hx104_1; replace hx104_2 := (HB.out.cell (World.block_lt_of_cell? w _ hx104_2)).trans hx104_2; replace hx104_3 := (HB.out.cell (World.block_lt_of_cell? w _ hx104_3)).trans hx104_3; replace hx104_4 := (HB.out.cell (World.block_lt_of_cell? w _ hx104_4)).trans hx104_4; replace hx104_5 := (HB.out.cell (World.block_lt_of_cell? w _ hx104_5)).trans hx104_5; replace hx104_6 := (HB.out.cell (World.block_lt_of_cell? w _ hx104_6)).trans hx104_6; replace hx104_7 := (HB.out.cell (World.block_lt_of_cell? w _ hx104_7)).trans hx104_7; replace p104 := eq_true p104; replace q104 := eq_true q104; (try go_wp2_with (first | ((with_reducible refine gate_dst (N := 12) rfl ?_); refine box_event ?hg (N := 12) ?hd (cs := #[.int .i64 0, .int .i64 0, .int .i64 0, .int .i64 0, .int .i64 0, .int .i64 0, .int .i64 0, .int .i64 0]) (t := 28) ?hr ?_; (case hd => rfl); (case hg => rfl); (case hr => first | (go_simp; done) | (go_simp; rfl)); intro gb105 hg w22 hbox hb; have n0_ := Aside0.mk (blk_below (g := gb103) (o := .cells #[.int .i64 a1_0, .int .i64 a1_1, .int .i64 a1_2] 24 (0, 0)) (by (with_reducible repeat (first | refine blk_drewN ?_ _ | refine blk_drew ?_ | refine blk_alloc ?_ _)); exact BK103.out) hb); have n1_ := Aside0.mk (below_step (by repeat (first | (with_reducible first | exact HB.out | apply below_alloc | apply pw_below_drewN | apply below_drew1 | refine below_set ?_ GE103.out) | exact HB.out)) hb); have n2_ := Aside0.mk (hbox); have n3_ := Aside0.mk ((by rw [hg]; exact (below_size (by repeat (first | (with_reducible first | exact HB.out | apply below_alloc | apply pw_below_drewN | apply below_drew1 | refine below_set ?_ GE103.out) | exact HB.out))) : w.heap.size ≤ gb105)); have n4_ := Aside0.mk ((by rw [hg]; exact (below_size (by repeat (first | (with_reducible first | exact HB.out | apply below_alloc | apply pw_below_drewN | apply below_drew1 | refine below_set ?_ GE103.out) | exact HB.out))) : w.heap.size ≤ gb105)); have n5_ := Aside0.mk ((by rw [hg]; exact Nat.ne_of_lt (blk_lt (g := gb103) (o := .cells #[.int .i64 a1_0, .int .i64 a1_1, .int .i64 a1_2] 24 (0, 0)) (by (with_reducible repeat (first | refine blk_drewN ?_ _ | refine blk_drew ?_ | refine blk_alloc ?_ _)); exact BK103.out)) : gb103 ≠ gb105)); have n6_ := Aside0.mk ((by rw [hg]; exact Nat.ne_of_gt (blk_lt (g := gb103) (o := .cells #[.int .i64 a1_0, .int .i64 a1_1, .int .i64 a1_2] 24 (0, 0)) (by (with_reducible repeat (first | refine blk_drewN ?_ _ | refine blk_drew ?_ | refine blk_alloc ?_ _)); exact BK103.out)) : gb105 ≠ gb103)); clear BK103; clear HB; have BK103 := n0_; have HB := n1_; have BK105 := n2_; have GW105 := n3_; have GE105 := n4_; have NB103_105 := n5_; have NB105_103 := n6_; clear n0_ n1_ n2_ n3_ n4_ n5_ n6_; clear hb hbox hg; have hnb23 := NB105_103.out; have hnc23 := NB103_105.out; have hcz24_0 : w22.cell? ⟨gb105, 0, none⟩ = some (.int .i64 0) := (blk_cell BK105.out 0).trans rfl; have hcz24_1 : w22.cell? ⟨gb105, 1, none⟩ = some (.int .i64 0) := (blk_cell BK105.out 1).trans rfl; have hcz24_2 : w22.cell? ⟨gb105, 2, none⟩ = some (.int .i64 0) := (blk_cell BK105.out 2).trans rfl; have hcz24_3 : w22.cell? ⟨gb105, 3, none⟩ = some (.int .i64 0) := (blk_cell BK105.out 3).trans rfl; have hcz24_4 : w22.cell? ⟨gb105, 4, none⟩ = some (.int .i64 0) := (blk_cell BK105.out 4).trans rfl; have hcz24_5 : w22.cell? ⟨gb105, 5, none⟩ = some (.int .i64 0) := (blk_cell BK105.out 5).trans rfl; have hcz24_6 : w22.cell? ⟨gb105, 6, none⟩ = some (.int .i64 0) := (blk_cell BK105.out 6).trans rfl; have hcz24_7 : w22.cell? ⟨gb105, 7, none⟩ = some (.int .i64 0) := (blk_cell BK105.out 7).trans rfl; have hfz24_0 := blk_frozen BK105.out 0; have hfz24_1 := blk_frozen BK105.out 1; have hfz24_2 := blk_frozen BK105.out 2; have hfz24_3 := blk_frozen BK105.out 3; have hfz24_4 := blk_frozen BK105.out 4; have hfz24_5 := blk_frozen BK105.out 5; have hfz24_6 := blk_frozen BK105.out 6; have hfz24_7 := blk_frozen BK105.out 7)))
             (have n0_ : Aside0 (((((((((w22.setCell ⟨gb105, 0, none⟩ (.int .i64 ((rd_T28 l0 x11_1).f0.f0))).setCell ⟨gb105, 1, none⟩ (.int .i64 ((rd_T28 l0 x11_1).f0.f1))).setCell ⟨gb105, 2, none⟩ (.int .i64 ((rd_T28 l0 x11_1).f0.f2))).setCell ⟨gb105, 3, none⟩ (.int .i64 ((rd_T28 l0 x11_1).f1))).setCell ⟨gb105, 4, none⟩ (.int .i64 ((rd_T28 l0 x11_1).f2.f0))).setCell ⟨gb105, 5, none⟩ (.int .i64 ((rd_T28 l0 x11_1).f2.f1))).setCell ⟨gb105, 6, none⟩ (.int .i64 ((rd_T28 l0 x11_1).f3))).setCell ⟨gb105, 7, none⟩ (.int .i64 ((rd_T28 l0 x11_1).f4))).heap[gb103]? = some (.cells #[.int .i64 a1_0, .int .i64 a1_1, .int .i64 a1_2] 24 (0, 0))) := ⟨by (with_reducible repeat (first | refine blk_drewN ?_ _ | refine blk_drew ?_ | refine blk_alloc ?_ _)); refine blk_far ?_ NB103_105.out _; (with_reducible repeat (first | refine blk_drewN ?_ _ | refine blk_drew ?_ | refine blk_alloc ?_ _)); refine blk_far ?_ NB103_105.out _; (with_reducible repeat (first | refine blk_drewN ?_ _ | refine blk_drew ?_ | refine blk_alloc ?_ _)); refine blk_far ?_ NB103_105.out _; (with_reducible repeat (first | refine blk_drewN ?_ _ | refine blk_drew ?_ | refine blk_alloc ?_ _)); refine blk_far ?_ NB103_105.out _; (with_reducible repeat (first | refine blk_drewN ?_ _ | refine blk_drew ?_ | refine blk_alloc ?_ _)); refine blk_far ?_ NB103_105.out _; (with_reducible repeat (first | refine blk_drewN ?_ _ | refine blk_drew ?_ | refine blk_alloc ?_ _)); refine blk_far ?_ NB103_105.out _; (with_reducible repeat (first | refine blk_drewN ?_ _ | refine blk_drew ?_ | refine blk_alloc ?_ _)); refine blk_far ?_ NB103_105.out _; (with_reducible repeat (first | refine blk_drewN ?_ _ | refine blk_drew ?_ | refine blk_alloc ?_ _)); refine blk_far ?_ NB103_105.out _; (with_reducible repeat (first | refine blk_drewN ?_ _ | refine blk_drew ?_ | refine blk_alloc ?_ _)); exact BK103.out⟩); (have n1_ : Aside0 (((((((((w22.setCell ⟨gb105, 0, none⟩ (.int .i64 ((rd_T28 l0 x11_1).f0.f0))).setCell ⟨gb105, 1, none⟩ (.int .i64 ((rd_T28 l0 x11_1).f0.f1))).setCell ⟨gb105, 2, none⟩ (.int .i64 ((rd_T28 l0 x11_1).f0.f2))).setCell ⟨gb105, 3, none⟩ (.int .i64 ((rd_T28 l0 x11_1).f1))).setCell ⟨gb105, 4, none⟩ (.int .i64 ((rd_T28 l0 x11_1).f2.f0))).setCell ⟨gb105, 5, none⟩ (.int .i64 ((rd_T28 l0 x11_1).f2.f1))).setCell ⟨gb105, 6, none⟩ (.int .i64 ((rd_T28 l0 x11_1).f3))).setCell ⟨gb105, 7, none⟩ (.int .i64 ((rd_T28 l0 x11_1).f4))).heap[gb105]? = some (.cells #[.int .i64 ((rd_T28 l0 x11_1).f0.f0), .int .i64 ((rd_T28 l0 x11_1).f0.f1), .int .i64 ((rd_T28 l0 x11_1).f0.f2), .int .i64 ((rd_T28 l0 x11_1).f1), .int .i64 ((rd_T28 l0 x11_1).f2.f0), .int .i64 ((rd_T28 l0 x11_1).f2.f1), .int .i64 ((rd_T28 l0 x11_1).f3), .int .i64 ((rd_T28 l0 x11_1).f4)] 28 (0, 0))) := ⟨by (with_reducible repeat (first | refine blk_drewN ?_ _ | refine blk_drew ?_ | refine blk_alloc ?_ _)); refine blk_put (cs := #[.int .i64 ((rd_T28 l0 x11_1).f0.f0), .int .i64 ((rd_T28 l0 x11_1).f0.f1), .int .i64 ((rd_T28 l0 x11_1).f0.f2), .int .i64 ((rd_T28 l0 x11_1).f1), .int .i64 ((rd_T28 l0 x11_1).f2.f0), .int .i64 ((rd_T28 l0 x11_1).f2.f1), .int .i64 ((rd_T28 l0 x11_1).f3), .int .i64 0]) ?_ 7 _ rfl; (with_reducible repeat (first | refine blk_drewN ?_ _ | refine blk_drew ?_ | refine blk_alloc ?_ _)); refine blk_put (cs := #[.int .i64 ((rd_T28 l0 x11_1).f0.f0), .int .i64 ((rd_T28 l0 x11_1).f0.f1), .int .i64 ((rd_T28 l0 x11_1).f0.f2), .int .i64 ((rd_T28 l0 x11_1).f1), .int .i64 ((rd_T28 l0 x11_1).f2.f0), .int .i64 ((rd_T28 l0 x11_1).f2.f1), .int .i64 0, .int .i64 0]) ?_ 6 _ rfl; (with_reducible repeat (first | refine blk_drewN ?_ _ | refine blk_drew ?_ | refine blk_alloc ?_ _)); refine blk_put (cs := #[.int .i64 ((rd_T28 l0 x11_1).f0.f0), .int .i64 ((rd_T28 l0 x11_1).f0.f1), .int .i64 ((rd_T28 l0 x11_1).f0.f2), .int .i64 ((rd_T28 l0 x11_1).f1), .int .i64 ((rd_T28 l0 x11_1).f2.f0), .int .i64 0, .int .i64 0, .int .i64 0]) ?_ 5 _ rfl; (with_reducible repeat (first | refine blk_drewN ?_ _ | refine blk_drew ?_ | refine blk_alloc ?_ _)); refine blk_put (cs := #[.int .i64 ((rd_T28 l0 x11_1).f0.f0), .int .i64 ((rd_T28 l0 x11_1).f0.f1), .int .i64 ((rd_T28 l0 x11_1).f0.f2), .int .i64 ((rd_T28 l0 x11_1).f1), .int .i64 0, .int .i64 0, .int .i64 0, .int .i64 0]) ?_ 4 _ rfl; (with_reducible repeat (first | refine blk_drewN ?_ _ | refine blk_drew ?_ | refine blk_alloc ?_ _)); refine blk_put (cs := #[.int .i64 ((rd_T28 l0 x11_1).f0.f0), .int .i64 ((rd_T28 l0 x11_1).f0.f1), .int .i64 ((rd_T28 l0 x11_1).f0.f2), .int .i64 0, .int .i64 0, .int .i64 0, .int .i64 0, .int .i64 0]) ?_ 3 _ rfl; (with_reducible repeat (first | refine blk_drewN ?_ _ | refine blk_drew ?_ | refine blk_alloc ?_ _)); refine blk_put (cs := #[.int .i64 ((rd_T28 l0 x11_1).f0.f0), .int .i64 ((rd_T28 l0 x11_1).f0.f1), .int .i64 0, .int .i64 0, .int .i64 0, .int .i64 0, .int .i64 0, .int .i64 0]) ?_ 2 _ rfl; (with_reducible repeat (first | refine blk_drewN ?_ _ | refine blk_drew ?_ | refine blk_alloc ?_ _)); refine blk_put (cs := #[.int .i64 ((rd_T28 l0 x11_1).f0.f0), .int .i64 0, .int .i64 0, .int .i64 0, .int .i64 0, .int .i64 0, .int .i64 0, .int .i64 0]) ?_ 1 _ rfl; (with_reducible repeat (first | refine blk_drewN ?_ _ | refine blk_drew ?_ | refine blk_alloc ?_ _)); refine blk_put (cs := #[.int .i64 0, .int .i64 0, .int .i64 0, .int .i64 0, .int .i64 0, .int .i64 0, .int .i64 0, .int .i64 0]) ?_ 0 _ rfl; (with_reducible repeat (first | refine blk_drewN ?_ _ | refine blk_drew ?_ | refine blk_alloc ?_ _)); exact BK105.out⟩)
             (have n2_ : Aside0 (Below w.heap.size w ((((((((w22.setCell ⟨gb105, 0, none⟩ (.int .i64 ((rd_T28 l0 x11_1).f0.f0))).setCell ⟨gb105, 1, none⟩ (.int .i64 ((rd_T28 l0 x11_1).f0.f1))).setCell ⟨gb105, 2, none⟩ (.int .i64 ((rd_T28 l0 x11_1).f0.f2))).setCell ⟨gb105, 3, none⟩ (.int .i64 ((rd_T28 l0 x11_1).f1))).setCell ⟨gb105, 4, none⟩ (.int .i64 ((rd_T28 l0 x11_1).f2.f0))).setCell ⟨gb105, 5, none⟩ (.int .i64 ((rd_T28 l0 x11_1).f2.f1))).setCell ⟨gb105, 6, none⟩ (.int .i64 ((rd_T28 l0 x11_1).f3))).setCell ⟨gb105, 7, none⟩ (.int .i64 ((rd_T28 l0 x11_1).f4)))) := ⟨by repeat (first | (with_reducible first | exact HB.out | apply below_alloc | apply pw_below_drewN | apply below_drew1 | refine below_set ?_ GE103.out | refine below_set ?_ GE105.out) | exact HB.out)⟩); ((try clear BK103)); ((try clear BK105)); ((try clear HB)); generalize ((((((((w22.setCell ⟨gb105, 0, none⟩ (.int .i64 ((rd_T28 l0 x11_1).f0.f0))).setCell ⟨gb105, 1, none⟩ (.int .i64 ((rd_T28 l0 x11_1).f0.f1))).setCell ⟨gb105, 2, none⟩ (.int .i64 ((rd_T28 l0 x11_1).f0.f2))).setCell ⟨gb105, 3, none⟩ (.int .i64 ((rd_T28 l0 x11_1).f1))).setCell ⟨gb105, 4, none⟩ (.int .i64 ((rd_T28 l0 x11_1).f2.f0))).setCell ⟨gb105, 5, none⟩ (.int .i64 ((rd_T28 l0 x11_1).f2.f1))).setCell ⟨gb105, 6, none⟩ (.int .i64 ((rd_T28 l0 x11_1).f3))).setCell ⟨gb105, 7, none⟩ (.int .i64 ((rd_T28 l0 x11_1).f4))) = w25 at n0_ n1_ n2_ ⊢; have BK103 := n0_; have BK105 := n1_; have HB := n2_; clear n0_ n1_ n2_; have n0_ := Aside0.mk (blk_drew BK103.out); have n1_ := Aside0.mk (blk_drew BK105.out); have n2_ := Aside0.mk (below_drew1 HB.out); clear BK103; clear BK105; clear HB; have BK103 := n0_; have BK105 := n1_; have HB := n2_; clear n0_ n1_ n2_; (have p106 : 0 ≤ (x10_1 : Int) := of_decide_eq_true (by assumption)); (have q106 : x10_1 < (l0.length : Int) := of_decide_eq_true (by assumption)); obtain ⟨ad106, e106, hx106_0, hx106_1, hx106_2, hx106_3, hx106_4, hx106_5, hx106_6, hx106_7⟩ := at_T28 HR0.out x10_1 p106 q106; have hw106_7 := hx106_7; have hw106_6 := hx106_6; have hw106_5 := hx106_5; have hw106_4 := hx106_4; have hw106_3 := hx106_3; have hw106_2 := hx106_2; have hw106_1 := hx106_1; have hw106_0 := hx106_0; (obtain rfl : ad104 = ad106 := (by injection e106)); replace hx106_0 := (HB.out.cell (World.block_lt_of_cell? w _ hx106_0)).trans hx106_0; replace hx106_1 := (HB.out.cell (World.block_lt_of_cell? w _ hx106_1)).trans hx106_1; replace hx106_2 := (HB.out.cell (World.block_lt_of_cell? w _ hx106_2)).trans hx106_2; replace hx106_3 := (HB.out.cell (World.block_lt_of_cell? w _ hx106_3)).trans hx106_3; replace hx106_4 := (HB.out.cell (World.block_lt_of_cell? w _ hx106_4)).trans hx106_4; replace hx106_5 := (HB.out.cell (World.block_lt_of_cell? w _ hx106_5)).trans hx106_5; replace hx106_6 := (HB.out.cell (World.block_lt_of_cell? w _ hx106_6)).trans hx106_6; replace hx106_7 := (HB.out.cell (World.block_lt_of_cell? w _ hx106_7)).trans hx106_7; replace p106 := eq_true p106; replace q106 := eq_true q106; (refine start_ (n := 37) (S := fun w' => w'.cell? ⟨gb105, 0, none⟩ = some (.int .i64 ((rd_T28 l0 x11_1).f0.f0)) ∧ w'.cell? ⟨gb105, 1, none⟩ = some (.int .i64 ((rd_T28 l0 x11_1).f0.f1)) ∧ w'.cell? ⟨gb105, 2, none⟩ = some (.int .i64 ((rd_T28 l0 x11_1).f0.f2)) ∧ w'.cell? ⟨gb105, 3, none⟩ = some (.int .i64 ((rd_T28 l0 x11_1).f1)) ∧ w'.cell? ⟨gb105, 4, none⟩ = some (.int .i64 ((rd_T28 l0 x11_1).f2.f0)) ∧ w'.cell? ⟨gb105, 5, none⟩ = some (.int .i64 ((rd_T28 l0 x11_1).f2.f1)) ∧ w'.cell? ⟨gb105, 6, none⟩ = some (.int .i64 ((rd_T28 l0 x11_1).f3)) ∧ w'.cell? ⟨gb105, 7, none⟩ = some (.int .i64 ((rd_T28 l0 x11_1).f4)) ∧ w'.cell? ⟨gb103, 0, none⟩ = some (.int .i64 a1_0) ∧ w'.cell? ⟨gb103, 1, none⟩ = some (.int .i64 a1_1) ∧ w'.cell? ⟨gb103, 2, none⟩ = some (.int .i64 a1_2) ∧ w'.cell? (ad104.add ((x10_1).toNat * 8)) = some (.int .i64 ((rd_T28 l0 x10_1).f0.f0)) ∧ w'.cell? ⟨(ad104.add ((x10_1).toNat * 8)).block, (ad104.add ((x10_1).toNat * 8)).off + 1, none⟩ = some (.int .i64 ((rd_T28 l0 x10_1).f0.f1)) ∧ w'.cell? ⟨(ad104.add ((x10_1).toNat * 8)).block, (ad104.add ((x10_1).toNat * 8)).off + 2, none⟩ = some (.int .i64 ((rd_T28 l0 x10_1).f0.f2)) ∧ w'.cell? ⟨(ad104.add ((x10_1).toNat * 8)).block, (ad104.add ((x10_1).toNat * 8)).off + 3, none⟩ = some (.int .i64 ((rd_T28 l0 x10_1).f1)) ∧ w'.cell? ⟨(ad104.add ((x10_1).toNat * 8)).block, (ad104.add ((x10_1).toNat * 8)).off + 4, none⟩ = some (.int .i64 ((rd_T28 l0 x10_1).f2.f0)) ∧ w'.cell? ⟨(ad104.add ((x10_1).toNat * 8)).block, (ad104.add ((x10_1).toNat * 8)).off + 5, none⟩ = some (.int .i64 ((rd_T28 l0 x10_1).f2.f1)) ∧ w'.cell? ⟨(ad104.add ((x10_1).toNat * 8)).block, (ad104.add ((x10_1).toNat * 8)).off + 6, none⟩ = some (.int .i64 ((rd_T28 l0 x10_1).f3)) ∧ w'.cell? ⟨(ad104.add ((x10_1).toNat * 8)).block, (ad104.add ((x10_1).toNat * 8)).off + 7, none⟩ = some (.int .i64 ((rd_T28 l0 x10_1).f4))) (ds := []) LI670 (by kernel_rfl) rfl rfl ⟨(blk_cell BK105.out 0).trans rfl, (blk_cell BK105.out 1).trans rfl, (blk_cell BK105.out 2).trans rfl, (blk_cell BK105.out 3).trans rfl, (blk_cell BK105.out 4).trans rfl, (blk_cell BK105.out 5).trans rfl, (blk_cell BK105.out 6).trans rfl, (blk_cell BK105.out 7).trans rfl, (blk_cell BK103.out 0).trans rfl, (blk_cell BK103.out 1).trans rfl, (blk_cell BK103.out 2).trans rfl, ((HB.out.cell (World.block_lt_of_cell? w _ hw106_0)).trans hw106_0), ((HB.out.cell (World.block_lt_of_cell? w _ hw106_1)).trans hw106_1), ((HB.out.cell (World.block_lt_of_cell? w _ hw106_2)).trans hw106_2), ((HB.out.cell (World.block_lt_of_cell? w _ hw106_3)).trans hw106_3), ((HB.out.cell (World.block_lt_of_cell? w _ hw106_4)).trans hw106_4), ((HB.out.cell (World.block_lt_of_cell? w _ hw106_5)).trans hw106_5), ((HB.out.cell (World.block_lt_of_cell? w _ hw106_6)).trans hw106_6), ((HB.out.cell (World.block_lt_of_cell? w _ hw106_7)).trans hw106_7)⟩ (fun hHeld => ?_); refine with_tabW refAtP.tab6 refAtP.bits6 (fun HT_ HW_ => ?_)); generalize w25.drew = w26 at BK103 BK105 HB hx106_0 hx106_1 hx106_2 hx106_3 hx106_4 hx106_5 hx106_6 hx106_7 hHeld ⊢
             (refine pure_ (i := 0) (N := some 23) (v := ?_) (a' := ?_) LI671 rfl rfl (any_of HT_.out (by kernel_rfl)) (fun _ _ _ h => h) (Or.inl ⟨by rfl, ?_⟩) ?_ ?_); rotate_left
             ·intro w'; go_simp; (with_reducible rfl)
             rotate_left
             ·go_simp; rfl
             (refine take_ (i := 1) (N := some 24) (v := ?_) (a' := ?_) LI672 rfl rfl (take_ofW HT_.out HW_.out (by kernel_rfl)) (fun _ _ _ h => h) (Or.inl ⟨by rfl, ?_⟩) hHeld ?_ ?_); rotate_left
             ·rintro w' ⟨s0, s1, s2, s3, s4, s5, s6, s7, s8, s9, s10, s11, s12, s13, s14, s15, s16, s17, s18⟩; go_simp; (with_reducible rfl)
             rotate_left
             ·go_simp; rfl
             (refine take_ (i := 2) (N := some 25) (v := ?_) (a' := ?_) LI673 rfl rfl (take_ofW HT_.out HW_.out (by kernel_rfl)) (fun _ _ _ h => h) (Or.inl ⟨by rfl, ?_⟩) hHeld ?_ ?_); rotate_left
             ·rintro w' ⟨s0, s1, s2, s3, s4, s5, s6, s7, s8, s9, s10, s11, s12, s13, s14, s15, s16, s17, s18⟩; go_simp; (with_reducible rfl)
             rotate_left
             ·go_simp; rfl
             (refine pure_ (i := 3) (N := some 26) (v := ?_) (a' := ?_) LI674 rfl rfl (any_of HT_.out (by kernel_rfl)) (fun _ _ _ h => h) (Or.inl ⟨by rfl, ?_⟩) ?_ ?_); rotate_left
             ·intro w'; go_simp; (with_reducible rfl)
             rotate_left
             ·go_simp; rfl
             (refine pure_ (i := 4) (N := some 27) (v := ?_) (a' := ?_) LI675 rfl rfl (any_of HT_.out (by kernel_rfl)) (fun _ _ _ h => h) (Or.inl ⟨by rfl, ?_⟩) ?_ ?_); rotate_left
             ·intro w'; go_simp; (with_reducible rfl)
             rotate_left
             ·go_simp; rfl
             (refine pure_ (i := 5) (N := some 28) (v := ?_) (a' := ?_) LI676 rfl rfl (any_of HT_.out (by kernel_rfl)) (fun _ _ _ h => h) (Or.inl ⟨by rfl, ?_⟩) ?_ ?_); rotate_left
             ·intro w'; go_simp; (with_reducible rfl)
             rotate_left
             ·go_simp; rfl
             (refine pure_ (i := 6) (N := some 29) (v := ?_) (a' := ?_) LI677 rfl rfl (any_of HT_.out (by kernel_rfl)) (fun _ _ _ h => h) (Or.inl ⟨by rfl, ?_⟩) ?_ ?_); rotate_left
             ·intro w'; go_simp; (with_reducible rfl)
             rotate_left
             ·go_simp; rfl
             (refine pure_ (i := 8) (N := some 31) (v := ?_) (a' := ?_) LI6733 rfl rfl (any_of HT_.out (by kernel_rfl)) (fun _ _ _ h => h) (Or.inl ⟨by rfl, ?_⟩) ?_ ?_); rotate_left
             ·intro w'; go_simp; (with_reducible rfl)
             rotate_left
             ·go_simp; rfl
             (refine take_ (i := 7) (N := some 30) (v := ?_) (a' := ?_) LI678 rfl rfl (take_ofW HT_.out HW_.out (by kernel_rfl)) (fun _ _ _ h => h) (Or.inl ⟨by rfl, ?_⟩) hHeld ?_ ?_); rotate_left
             ·rintro w' ⟨s0, s1, s2, s3, s4, s5, s6, s7, s8, s9, s10, s11, s12, s13, s14, s15, s16, s17, s18⟩; go_simp; (with_reducible rfl)
             rotate_left
             ·go_simp; rfl
             (refine pure_ (i := 9) (N := some 32) (v := ?_) (a' := ?_) LI679 rfl rfl (any_of HT_.out (by kernel_rfl)) (fun _ _ _ h => h) (Or.inl ⟨by rfl, ?_⟩) ?_ ?_); rotate_left
             ·intro w'; go_simp; (with_reducible rfl)
             rotate_left
             ·go_simp; rfl
             (refine pure_ (i := 10) (N := some 33) (v := ?_) (a' := ?_) LI6710 rfl rfl (any_of HT_.out (by kernel_rfl)) (fun _ _ _ h => h) (Or.inl ⟨by rfl, ?_⟩) ?_ ?_); rotate_left
             ·intro w'; go_simp; (with_reducible rfl)
             rotate_left
             ·go_simp; rfl
             (refine pure_ (i := 11) (N := some 34) (v := ?_) (a' := ?_) LI6711 rfl rfl (any_of HT_.out (by kernel_rfl)) (fun _ _ _ h => h) (Or.inl ⟨by rfl, ?_⟩) ?_ ?_); rotate_left
             ·intro w'; go_simp; (with_reducible rfl)
             rotate_left
             ·go_simp; rfl
             (refine pure_ (i := 12) (N := some 35) (v := ?_) (a' := ?_) LI6712 rfl rfl (any_of HT_.out (by kernel_rfl)) (fun _ _ _ h => h) (Or.inl ⟨by rfl, ?_⟩) ?_ ?_); rotate_left
             ·intro w'; go_simp; (with_reducible rfl)
             rotate_left
             ·go_simp; rfl
             (refine pure_ (i := 13) (N := some 36) (v := ?_) (a' := ?_) LI6713 rfl rfl (any_of HT_.out (by kernel_rfl)) (fun _ _ _ h => h) (Or.inl ⟨by rfl, ?_⟩) ?_ ?_); rotate_left
             ·intro w'; go_simp; (with_reducible rfl)
             rotate_left
             ·go_simp; rfl
             (refine pure_ (i := 14) (N := some 37) (v := ?_) (a' := ?_) LI6714 rfl rfl (any_of HT_.out (by kernel_rfl)) (fun _ _ _ h => h) (Or.inl ⟨by rfl, ?_⟩) ?_ ?_); rotate_left
             ·intro w'; go_simp; (with_reducible rfl)
             rotate_left
             ·go_simp; rfl
             (refine take_ (i := 15) (N := some 38) (v := ?_) (a' := ?_) LI6715 rfl rfl (take_ofW HT_.out HW_.out (by kernel_rfl)) (fun _ _ _ h => h) (Or.inl ⟨by rfl, ?_⟩) hHeld ?_ ?_); rotate_left
             ·rintro w' ⟨s0, s1, s2, s3, s4, s5, s6, s7, s8, s9, s10, s11, s12, s13, s14, s15, s16, s17, s18⟩; go_simp; (with_reducible rfl)
             rotate_left
             ·go_simp; rfl
             (refine pure_ (i := 16) (N := some 39) (v := ?_) (a' := ?_) LI6716 rfl rfl (any_of HT_.out (by kernel_rfl)) (fun _ _ _ h => h) (Or.inl ⟨by rfl, ?_⟩) ?_ ?_); rotate_left
             ·intro w'; go_simp; (with_reducible rfl)
             rotate_left
             ·go_simp; rfl
             (refine pure_ (i := 17) (N := some 40) (v := ?_) (a' := ?_) LI6717 rfl rfl (any_of HT_.out (by kernel_rfl)) (fun _ _ _ h => h) (Or.inl ⟨by rfl, ?_⟩) ?_ ?_); rotate_left
             ·intro w'; go_simp; (with_reducible rfl)
             rotate_left
             ·go_simp; rfl
             (refine pure_ (i := 18) (N := some 41) (v := ?_) (a' := ?_) LI6718 rfl rfl (any_of HT_.out (by kernel_rfl)) (fun _ _ _ h => h) (Or.inl ⟨by rfl, ?_⟩) ?_ ?_); rotate_left
             ·intro w'; go_simp; (with_reducible rfl)
             rotate_left
             ·go_simp; rfl
             (refine pure_ (i := 19) (N := some 42) (v := ?_) (a' := ?_) LI6719 rfl rfl (any_of HT_.out (by kernel_rfl)) (fun _ _ _ h => h) (Or.inl ⟨by rfl, ?_⟩) ?_ ?_); rotate_left
             ·intro w'; go_simp; (with_reducible rfl)
             rotate_left
             ·go_simp; rfl
             (refine pure_ (i := 21) (N := some 44) (v := ?_) (a' := ?_) LI6737 rfl rfl (any_of HT_.out (by kernel_rfl)) (fun _ _ _ h => h) (Or.inl ⟨by rfl, ?_⟩) ?_ ?_); rotate_left
             ·intro w'; go_simp; (with_reducible rfl)
             rotate_left
             ·go_simp; rfl
             (refine take_ (i := 20) (N := some 43) (v := ?_) (a' := ?_) LI6720 rfl rfl (take_ofW HT_.out HW_.out (by kernel_rfl)) (fun _ _ _ h => h) (Or.inl ⟨by rfl, ?_⟩) hHeld ?_ ?_); rotate_left
             ·rintro w' ⟨s0, s1, s2, s3, s4, s5, s6, s7, s8, s9, s10, s11, s12, s13, s14, s15, s16, s17, s18⟩; go_simp; (with_reducible rfl)
             rotate_left
             ·go_simp; rfl
             (refine pure_ (i := 22) (N := some 45) (v := ?_) (a' := ?_) LI6721 rfl rfl (any_of HT_.out (by kernel_rfl)) (fun _ _ _ h => h) (Or.inl ⟨by rfl, ?_⟩) ?_ ?_); rotate_left
             ·intro w'; go_simp; (with_reducible rfl)
             rotate_left
             ·go_simp; rfl
             (refine pure_ (i := 23) (N := some 46) (v := ?_) (a' := ?_) LI6722 rfl rfl (any_of HT_.out (by kernel_rfl)) (fun _ _ _ h => h) (Or.inl ⟨by rfl, ?_⟩) ?_ ?_); rotate_left
             ·intro w'; go_simp; (with_reducible rfl)
             rotate_left
             ·go_simp; rfl
             (refine pure_ (i := 24) (N := some 47) (v := ?_) (a' := ?_) LI6723 rfl rfl (any_of HT_.out (by kernel_rfl)) (fun _ _ _ h => h) (Or.inl ⟨by rfl, ?_⟩) ?_ ?_); rotate_left
             ·intro w'; go_simp; (with_reducible rfl)
             rotate_left
             ·go_simp; rfl
             (refine pure_ (i := 25) (N := some 48) (v := ?_) (a' := ?_) LI6724 rfl rfl (any_of HT_.out (by kernel_rfl)) (fun _ _ _ h => h) (Or.inl ⟨by rfl, ?_⟩) ?_ ?_); rotate_left
             ·intro w'; go_simp; (with_reducible rfl)
             rotate_left
             ·go_simp; rfl
             (refine pure_ (i := 26) (N := some 49) (v := ?_) (a' := ?_) LI6725 rfl rfl (any_of HT_.out (by kernel_rfl)) (fun _ _ _ h => h) (Or.inl ⟨by rfl, ?_⟩) ?_ ?_); rotate_left
             ·intro w'; go_simp; (with_reducible rfl)
             rotate_left
             ·go_simp; rfl
             (refine pure_ (i := 27) (N := some 50) (v := ?_) (a' := ?_) LI6726 rfl rfl (any_of HT_.out (by kernel_rfl)) (fun _ _ _ h => h) (Or.inl ⟨by rfl, ?_⟩) ?_ ?_); rotate_left
             ·intro w'; go_simp; (with_reducible rfl)
             rotate_left
             ·go_simp; rfl
             (refine pure_ (i := 29) (N := some 52) (v := ?_) (a' := ?_) #[true, true, true, true, true, true, true, true, true, true, true, true, true, true, true, true, true, true, true, true, true, true, true, true, true, true, true, true, false, true, false, false, false, false, false, false, false] rfl rfl (any_of HT_.out (by kernel_rfl)) (fun _ _ _ h => h) (Or.inl ⟨by rfl, ?_⟩) ?_ ?_); rotate_left
             ·intro w'; go_simp; (with_reducible rfl)
             rotate_left
             ·go_simp; rfl
             (refine pure_ (i := 30) (N := some 53) (v := ?_) (a' := ?_) #[true, true, true, true, true, true, true, true, true, true, true, true, true, true, true, true, true, true, true, true, true, true, true, true, true, true, true, true, false, true, true, false, false, false, false, false, false] rfl rfl (any_of HT_.out (by kernel_rfl)) (fun _ _ _ h => h) (Or.inl ⟨by rfl, ?_⟩) ?_ ?_); rotate_left
             ·intro w'; go_simp; (with_reducible rfl)
             rotate_left
             ·go_simp; rfl
             (refine pure_ (i := 31) (N := some 54) (v := ?_) (a' := ?_) #[true, true, true, true, true, true, true, true, true, true, true, true, true, true, true, true, true, true, true, true, true, true, true, true, true, true, true, true, false, true, true, true, false, false, false, false, false] rfl rfl (any_of HT_.out (by kernel_rfl)) (fun _ _ _ h => h) (Or.inl ⟨by rfl, ?_⟩) ?_ ?_); rotate_left
             ·intro w'; go_simp; (with_reducible rfl)
             rotate_left
             ·go_simp; rfl
             (refine take_ (i := 28) (N := some 51) (v := ?_) (a' := ?_) LI6727 rfl rfl (take_ofW HT_.out HW_.out (by kernel_rfl)) (fun _ _ _ h => h) (Or.inl ⟨by rfl, ?_⟩) hHeld ?_ ?_); rotate_left
             ·rintro w' ⟨s0, s1, s2, s3, s4, s5, s6, s7, s8, s9, s10, s11, s12, s13, s14, s15, s16, s17, s18⟩; go_simp; (with_reducible rfl)
             rotate_left
             ·go_simp; rfl
             (refine take_ (i := 32) (N := some 55) (v := ?_) (a' := ?_) LI6728 rfl rfl (take_ofW HT_.out HW_.out (by kernel_rfl)) (fun _ _ _ h => h) (Or.inl ⟨by rfl, ?_⟩) hHeld ?_ ?_); rotate_left
             ·rintro w' ⟨s0, s1, s2, s3, s4, s5, s6, s7, s8, s9, s10, s11, s12, s13, s14, s15, s16, s17, s18⟩; go_simp; (with_reducible rfl)
             rotate_left
             ·go_simp; rfl
             (refine one_ (i := 33) (N := some 56) LI6729 rfl rfl (one_of HT_.out (by kernel_rfl)) (by decide) (fun K hK => ?_)); (refine goes_ Try.func30 (by kernel_rfl) rfl #[.agg #[.int .i64 ((rd_T28 l0 x11_1).f0.f0), .int .i64 ((rd_T28 l0 x11_1).f0.f1), .int .i64 ((rd_T28 l0 x11_1).f0.f2), .int .i64 ((rd_T28 l0 x11_1).f1), .int .i64 ((rd_T28 l0 x11_1).f2.f0), .int .i64 ((rd_T28 l0 x11_1).f2.f1), .int .i64 ((rd_T28 l0 x11_1).f3), .int .i64 ((rd_T28 l0 x11_1).f4)], .agg #[.int .i64 ((rd_T28 l0 x10_1).f0.f0), .int .i64 ((rd_T28 l0 x10_1).f0.f1), .int .i64 ((rd_T28 l0 x10_1).f0.f2), .int .i64 ((rd_T28 l0 x10_1).f1), .int .i64 ((rd_T28 l0 x10_1).f2.f0), .int .i64 ((rd_T28 l0 x10_1).f2.f1), .int .i64 ((rd_T28 l0 x10_1).f3), .int .i64 ((rd_T28 l0 x10_1).f4)]] (by rfl) rfl rfl (by (try simp only [List.map_toArray, List.map_cons, List.map_nil]); first | done | rfl | (simp only [List.length_drop, List.length_take]; rfl)) ?_); (with_reducible refine (sizarref07_Before.calls ((rd_T28 l0 x11_1).f0.f0) ((rd_T28 l0 x11_1).f0.f1) ((rd_T28 l0 x11_1).f0.f2) ((rd_T28 l0 x11_1).f1) ((rd_T28 l0 x11_1).f2.f0) ((rd_T28 l0 x11_1).f2.f1) ((rd_T28 l0 x11_1).f3) ((rd_T28 l0 x11_1).f4) ((rd_T28 l0 x10_1).f0.f0) ((rd_T28 l0 x10_1).f0.f1) ((rd_T28 l0 x10_1).f0.f2) ((rd_T28 l0 x10_1).f1) ((rd_T28 l0 x10_1).f2.f0) ((rd_T28 l0 x10_1).f2.f1) ((rd_T28 l0 x10_1).f3) ((rd_T28 l0 x10_1).f4) true _ A20.out).mono ?_); rintro e w27 ⟨rfl, hb⟩; refine ⟨_, rfl, ?_⟩; (have n0_ := Aside0.mk (blk_below (g := gb103) (o := .cells #[.int .i64 a1_0, .int .i64 a1_1, .int .i64 a1_2] 24 (0, 0)) (by (with_reducible repeat (first | refine blk_drewN ?_ _ | refine blk_drew ?_ | refine blk_alloc ?_ _)); exact BK103.out) hb)); (have n1_ := Aside0.mk (blk_below (g := gb105) (o := .cells #[.int .i64 ((rd_T28 l0 x11_1).f0.f0), .int .i64 ((rd_T28 l0 x11_1).f0.f1), .int .i64 ((rd_T28 l0 x11_1).f0.f2), .int .i64 ((rd_T28 l0 x11_1).f1), .int .i64 ((rd_T28 l0 x11_1).f2.f0), .int .i64 ((rd_T28 l0 x11_1).f2.f1), .int .i64 ((rd_T28 l0 x11_1).f3), .int .i64 ((rd_T28 l0 x11_1).f4)] 28 (0, 0)) (by (with_reducible repeat (first | refine blk_drewN ?_ _ | refine blk_drew ?_ | refine blk_alloc ?_ _)); exact BK105.out) hb)); (have n2_ := Aside0.mk (below_step (by repeat (first | (with_reducible first | exact HB.out | apply below_alloc | apply pw_below_drewN | apply below_drew1 | refine below_set ?_ GE103.out | refine below_set ?_ GE105.out) | exact HB.out)) hb)); clear BK103; clear BK105; clear HB; have BK103 := n0_; have BK105 := n1_; have HB := n2_; clear n0_ n1_ n2_; ((try clear hb)); ((try clear hb2)); ((try clear hk)); ((try clear hi)); (refine hK.out _ _ ⟨(blk_cell BK105.out 0).trans rfl, (blk_cell BK105.out 1).trans rfl, (blk_cell BK105.out 2).trans rfl, (blk_cell BK105.out 3).trans rfl, (blk_cell BK105.out 4).trans rfl, (blk_cell BK105.out 5).trans rfl, (blk_cell BK105.out 6).trans rfl, (blk_cell BK105.out 7).trans rfl, (blk_cell BK103.out 0).trans rfl, (blk_cell BK103.out 1).trans rfl, (blk_cell BK103.out 2).trans rfl, ((HB.out.cell (World.block_lt_of_cell? w _ hw106_0)).trans hw106_0), ((HB.out.cell (World.block_lt_of_cell? w _ hw106_1)).trans hw106_1), ((HB.out.cell (World.block_lt_of_cell? w _ hw106_2)).trans hw106_2), ((HB.out.cell (World.block_lt_of_cell? w _ hw106_3)).trans hw106_3), ((HB.out.cell (World.block_lt_of_cell? w _ hw106_4)).trans hw106_4), ((HB.out.cell (World.block_lt_of_cell? w _ hw106_5)).trans hw106_5), ((HB.out.cell (World.block_lt_of_cell? w _ hw106_6)).trans hw106_6), ((HB.out.cell (World.block_lt_of_cell? w _ hw106_7)).trans hw106_7)⟩ (fun hHeld => ?_)); clear hK K; refine norm_ (a' := ?_) ?_ ?_; rotate_left
             ·(show Act.put _ (some 56) _ = _); go_simp; rfl
             (refine pure_ (i := 34) (N := some 57) (v := ?_) (a' := ?_) LI6730 rfl rfl (any_of HT_.out (by kernel_rfl)) (fun _ _ _ h => h) (Or.inl ⟨by rfl, ?_⟩) ?_ ?_); rotate_left
             ·intro w'; go_simp; (with_reducible rfl)
             rotate_left
             ·go_simp; rfl
             (refine pure_ (i := 35) (N := some 58) (v := ?_) (a' := ?_) LI6731 rfl rfl (any_of HT_.out (by kernel_rfl)) (fun _ _ _ h => h) (Or.inl ⟨by rfl, ?_⟩) ?_ ?_); rotate_left
             ·intro w'; go_simp; (with_reducible rfl)
             rotate_left
             ·go_simp; rfl
             (refine pure_ (i := 36) (N := some 59) (v := ?_) (a' := ?_) LI6732 rfl rfl (any_of HT_.out (by kernel_rfl)) (fun _ _ _ h => h) (Or.inl ⟨by rfl, ?_⟩) ?_ ?_); rotate_left
             ·intro w'; go_simp; (with_reducible rfl)
             rotate_left
             ·go_simp; rfl
             (refine done_ (done_of HT_.out (by kernel_rfl)) ?_); (try go_wp2); (go_roundg k1)
             case measure => have := HK1.out; omega
             case rel => exact ⟨(x10_1), (wrap64 (x11_1 + 1)), (by first | rfl | (simp; done) | (simp [*]; done)), (by first | rfl | (simp; done) | (simp [*]; done)), H', ⟨by have := HK1.out; omega⟩, ⟨by (with_reducible repeat (first | refine blk_drewN ?_ _ | refine blk_drew ?_ | refine blk_alloc ?_ _)); exact BK103.out⟩, ⟨by repeat (first | (with_reducible first | exact HB.out | apply below_alloc | apply pw_below_drewN | apply below_drew1 | refine below_set ?_ GE103.out | refine below_set ?_ GE105.out) | exact HB.out)⟩⟩
            ·replace c21 := Bool.eq_false_iff.mpr c21; subst c21; (have H1 : (refAtP.l0 k1 l0 a2 a3 x11_1 (wrap64 (x11_1 + 1)) a1_0 a1_1 a1_2) = some (r1, r2) := by rw [if_neg (show ¬ (false = true) by decide)] at H; exact H); clear H; have H := H1; clear H1; have H' := Aside0.mk H; clear H; (have p104 : 0 ≤ (x11_1 : Int) := of_decide_eq_true (by assumption)); (have q104 : x11_1 < (l0.length : Int) := of_decide_eq_true (by assumption)); obtain ⟨ad104, e104, hx104_0, hx104_1, hx104_2, hx104_3, hx104_4, hx104_5, hx104_6, hx104_7⟩ := at_T28 HR0.out x11_1 p104 q104; cases e104; replace hx104_0 := (HB.out.cell (World.block_lt_of_cell? w _ hx104_0)).trans hx104_0; replace hx104_1 := (HB.out.cell (World.block_lt_of_cell? w _ hx104_1)).trans hx104_1; replace hx104_2 := (HB.out.cell (World.block_lt_of_cell? w _ hx104_2)).trans hx104_2; replace hx104_3 := (HB.out.cell (World.block_lt_of_cell? w _ hx104_3)).trans hx104_3; replace hx104_4 := (HB.out.cell (World.block_lt_of_cell? w _ hx104_4)).trans hx104_4; replace hx104_5 := (HB.out.cell (World.block_lt_of_cell? w _ hx104_5)).trans hx104_5; replace hx104_6 := (HB.out.cell (World.block_lt_of_cell? w _ hx104_6)).trans hx104_6; replace hx104_7 := (HB.out.cell (World.block_lt_of_cell? w _ hx104_7)).trans hx104_7; replace p104 := eq_true p104; replace q104 := eq_true q104; (try go_wp2_with (first | ((with_reducible refine gate_dst (N := 12) rfl ?_); refine box_event ?hg (N := 12) ?hd (cs := #[.int .i64 0, .int .i64 0, .int .i64 0, .int .i64 0, .int .i64 0, .int .i64 0, .int .i64 0, .int .i64 0]) (t := 28) ?hr ?_; (case hd => rfl); (case hg => rfl); (case hr => first | (go_simp; done) | (go_simp; rfl)); intro gb105 hg w28 hbox hb; have n0_ := Aside0.mk (blk_below (g := gb103) (o := .cells #[.int .i64 a1_0, .int .i64 a1_1, .int .i64 a1_2] 24 (0, 0)) (by (with_reducible repeat (first | refine blk_drewN ?_ _ | refine blk_drew ?_ | refine blk_alloc ?_ _)); exact BK103.out) hb); have n1_ := Aside0.mk (below_step (by repeat (first | (with_reducible first | exact HB.out | apply below_alloc | apply pw_below_drewN | apply below_drew1 | refine below_set ?_ GE103.out) | exact HB.out)) hb); have n2_ := Aside0.mk (hbox); have n3_ := Aside0.mk ((by rw [hg]; exact (below_size (by repeat (first | (with_reducible first | exact HB.out | apply below_alloc | apply pw_below_drewN | apply below_drew1 | refine below_set ?_ GE103.out) | exact HB.out))) : w.heap.size ≤ gb105)); have n4_ := Aside0.mk ((by rw [hg]; exact (below_size (by repeat (first | (with_reducible first | exact HB.out | apply below_alloc | apply pw_below_drewN | apply below_drew1 | refine below_set ?_ GE103.out) | exact HB.out))) : w.heap.size ≤ gb105)); have n5_ := Aside0.mk ((by rw [hg]; exact Nat.ne_of_lt (blk_lt (g := gb103) (o := .cells #[.int .i64 a1_0, .int .i64 a1_1, .int .i64 a1_2] 24 (0, 0)) (by (with_reducible repeat (first | refine blk_drewN ?_ _ | refine blk_drew ?_ | refine blk_alloc ?_ _)); exact BK103.out)) : gb103 ≠ gb105)); have n6_ := Aside0.mk ((by rw [hg]; exact Nat.ne_of_gt (blk_lt (g := gb103) (o := .cells #[.int .i64 a1_0, .int .i64 a1_1, .int .i64 a1_2] 24 (0, 0)) (by (with_reducible repeat (first | refine blk_drewN ?_ _ | refine blk_drew ?_ | refine blk_alloc ?_ _)); exact BK103.out)) : gb105 ≠ gb103)); clear BK103; clear HB; have BK103 := n0_; have HB := n1_; have BK105 := n2_; have GW105 := n3_; have GE105 := n4_; have NB103_105 := n5_; have NB105_103 := n6_; clear n0_ n1_ n2_ n3_ n4_ n5_ n6_; clear hb hbox hg; have hnb29 := NB105_103.out; have hnc29 := NB103_105.out; have hcz30_0 : w28.cell? ⟨gb105, 0, none⟩ = some (.int .i64 0) := (blk_cell BK105.out 0).trans rfl; have hcz30_1 : w28.cell? ⟨gb105, 1, none⟩ = some (.int .i64 0) := (blk_cell BK105.out 1).trans rfl; have hcz30_2 : w28.cell? ⟨gb105, 2, none⟩ = some (.int .i64 0) := (blk_cell BK105.out 2).trans rfl; have hcz30_3 : w28.cell? ⟨gb105, 3, none⟩ = some (.int .i64 0) := (blk_cell BK105.out 3).trans rfl; have hcz30_4 : w28.cell? ⟨gb105, 4, none⟩ = some (.int .i64 0) := (blk_cell BK105.out 4).trans rfl; have hcz30_5 : w28.cell? ⟨gb105, 5, none⟩ = some (.int .i64 0) := (blk_cell BK105.out 5).trans rfl; have hcz30_6 : w28.cell? ⟨gb105, 6, none⟩ = some (.int .i64 0) := (blk_cell BK105.out 6).trans rfl; have hcz30_7 : w28.cell? ⟨gb105, 7, none⟩ = some (.int .i64 0) := (blk_cell BK105.out 7).trans rfl; have hfz30_0 := blk_frozen BK105.out 0; have hfz30_1 := blk_frozen BK105.out 1; have hfz30_2 := blk_frozen BK105.out 2; have hfz30_3 := blk_frozen BK105.out 3; have hfz30_4 := blk_frozen BK105.out 4; have hfz30_5 := blk_frozen BK105.out 5; have hfz30_6 := blk_frozen BK105.out 6; have hfz30_7 := blk_frozen BK105.out 7)))
             (have n0_ : Aside0 (((((((((w28.setCell ⟨gb105, 0, none⟩ (.int .i64 ((rd_T28 l0 x11_1).f0.f0))).setCell ⟨gb105, 1, none⟩ (.int .i64 ((rd_T28 l0 x11_1).f0.f1))).setCell ⟨gb105, 2, none⟩ (.int .i64 ((rd_T28 l0 x11_1).f0.f2))).setCell ⟨gb105, 3, none⟩ (.int .i64 ((rd_T28 l0 x11_1).f1))).setCell ⟨gb105, 4, none⟩ (.int .i64 ((rd_T28 l0 x11_1).f2.f0))).setCell ⟨gb105, 5, none⟩ (.int .i64 ((rd_T28 l0 x11_1).f2.f1))).setCell ⟨gb105, 6, none⟩ (.int .i64 ((rd_T28 l0 x11_1).f3))).setCell ⟨gb105, 7, none⟩ (.int .i64 ((rd_T28 l0 x11_1).f4))).heap[gb103]? = some (.cells #[.int .i64 a1_0, .int .i64 a1_1, .int .i64 a1_2] 24 (0, 0))) := ⟨by (with_reducible repeat (first | refine blk_drewN ?_ _ | refine blk_drew ?_ | refine blk_alloc ?_ _)); refine blk_far ?_ NB103_105.out _; (with_reducible repeat (first | refine blk_drewN ?_ _ | refine blk_drew ?_ | refine blk_alloc ?_ _)); refine blk_far ?_ NB103_105.out _; (with_reducible repeat (first | refine blk_drewN ?_ _ | refine blk_drew ?_ | refine blk_alloc ?_ _)); refine blk_far ?_ NB103_105.out _; (with_reducible repeat (first | refine blk_drewN ?_ _ | refine blk_drew ?_ | refine blk_alloc ?_ _)); refine blk_far ?_ NB103_105.out _; (with_reducible repeat (first | refine blk_drewN ?_ _ | refine blk_drew ?_ | refine blk_alloc ?_ _)); refine blk_far ?_ NB103_105.out _; (with_reducible repeat (first | refine blk_drewN ?_ _ | refine blk_drew ?_ | refine blk_alloc ?_ _)); refine blk_far ?_ NB103_105.out _; (with_reducible repeat (first | refine blk_drewN ?_ _ | refine blk_drew ?_ | refine blk_alloc ?_ _)); refine blk_far ?_ NB103_105.out _; (with_reducible repeat (first | refine blk_drewN ?_ _ | refine blk_drew ?_ | refine blk_alloc ?_ _)); refine blk_far ?_ NB103_105.out _; (with_reducible repeat (first | refine blk_drewN ?_ _ | refine blk_drew ?_ | refine blk_alloc ?_ _)); exact BK103.out⟩); (have n1_ : Aside0 (((((((((w28.setCell ⟨gb105, 0, none⟩ (.int .i64 ((rd_T28 l0 x11_1).f0.f0))).setCell ⟨gb105, 1, none⟩ (.int .i64 ((rd_T28 l0 x11_1).f0.f1))).setCell ⟨gb105, 2, none⟩ (.int .i64 ((rd_T28 l0 x11_1).f0.f2))).setCell ⟨gb105, 3, none⟩ (.int .i64 ((rd_T28 l0 x11_1).f1))).setCell ⟨gb105, 4, none⟩ (.int .i64 ((rd_T28 l0 x11_1).f2.f0))).setCell ⟨gb105, 5, none⟩ (.int .i64 ((rd_T28 l0 x11_1).f2.f1))).setCell ⟨gb105, 6, none⟩ (.int .i64 ((rd_T28 l0 x11_1).f3))).setCell ⟨gb105, 7, none⟩ (.int .i64 ((rd_T28 l0 x11_1).f4))).heap[gb105]? = some (.cells #[.int .i64 ((rd_T28 l0 x11_1).f0.f0), .int .i64 ((rd_T28 l0 x11_1).f0.f1), .int .i64 ((rd_T28 l0 x11_1).f0.f2), .int .i64 ((rd_T28 l0 x11_1).f1), .int .i64 ((rd_T28 l0 x11_1).f2.f0), .int .i64 ((rd_T28 l0 x11_1).f2.f1), .int .i64 ((rd_T28 l0 x11_1).f3), .int .i64 ((rd_T28 l0 x11_1).f4)] 28 (0, 0))) := ⟨by (with_reducible repeat (first | refine blk_drewN ?_ _ | refine blk_drew ?_ | refine blk_alloc ?_ _)); refine blk_put (cs := #[.int .i64 ((rd_T28 l0 x11_1).f0.f0), .int .i64 ((rd_T28 l0 x11_1).f0.f1), .int .i64 ((rd_T28 l0 x11_1).f0.f2), .int .i64 ((rd_T28 l0 x11_1).f1), .int .i64 ((rd_T28 l0 x11_1).f2.f0), .int .i64 ((rd_T28 l0 x11_1).f2.f1), .int .i64 ((rd_T28 l0 x11_1).f3), .int .i64 0]) ?_ 7 _ rfl; (with_reducible repeat (first | refine blk_drewN ?_ _ | refine blk_drew ?_ | refine blk_alloc ?_ _)); refine blk_put (cs := #[.int .i64 ((rd_T28 l0 x11_1).f0.f0), .int .i64 ((rd_T28 l0 x11_1).f0.f1), .int .i64 ((rd_T28 l0 x11_1).f0.f2), .int .i64 ((rd_T28 l0 x11_1).f1), .int .i64 ((rd_T28 l0 x11_1).f2.f0), .int .i64 ((rd_T28 l0 x11_1).f2.f1), .int .i64 0, .int .i64 0]) ?_ 6 _ rfl; (with_reducible repeat (first | refine blk_drewN ?_ _ | refine blk_drew ?_ | refine blk_alloc ?_ _)); refine blk_put (cs := #[.int .i64 ((rd_T28 l0 x11_1).f0.f0), .int .i64 ((rd_T28 l0 x11_1).f0.f1), .int .i64 ((rd_T28 l0 x11_1).f0.f2), .int .i64 ((rd_T28 l0 x11_1).f1), .int .i64 ((rd_T28 l0 x11_1).f2.f0), .int .i64 0, .int .i64 0, .int .i64 0]) ?_ 5 _ rfl; (with_reducible repeat (first | refine blk_drewN ?_ _ | refine blk_drew ?_ | refine blk_alloc ?_ _)); refine blk_put (cs := #[.int .i64 ((rd_T28 l0 x11_1).f0.f0), .int .i64 ((rd_T28 l0 x11_1).f0.f1), .int .i64 ((rd_T28 l0 x11_1).f0.f2), .int .i64 ((rd_T28 l0 x11_1).f1), .int .i64 0, .int .i64 0, .int .i64 0, .int .i64 0]) ?_ 4 _ rfl; (with_reducible repeat (first | refine blk_drewN ?_ _ | refine blk_drew ?_ | refine blk_alloc ?_ _)); refine blk_put (cs := #[.int .i64 ((rd_T28 l0 x11_1).f0.f0), .int .i64 ((rd_T28 l0 x11_1).f0.f1), .int .i64 ((rd_T28 l0 x11_1).f0.f2), .int .i64 0, .int .i64 0, .int .i64 0, .int .i64 0, .int .i64 0]) ?_ 3 _ rfl; (with_reducible repeat (first | refine blk_drewN ?_ _ | refine blk_drew ?_ | refine blk_alloc ?_ _)); refine blk_put (cs := #[.int .i64 ((rd_T28 l0 x11_1).f0.f0), .int .i64 ((rd_T28 l0 x11_1).f0.f1), .int .i64 0, .int .i64 0, .int .i64 0, .int .i64 0, .int .i64 0, .int .i64 0]) ?_ 2 _ rfl; (with_reducible repeat (first | refine blk_drewN ?_ _ | refine blk_drew ?_ | refine blk_alloc ?_ _)); refine blk_put (cs := #[.int .i64 ((rd_T28 l0 x11_1).f0.f0), .int .i64 0, .int .i64 0, .int .i64 0, .int .i64 0, .int .i64 0, .int .i64 0, .int .i64 0]) ?_ 1 _ rfl; (with_reducible repeat (first | refine blk_drewN ?_ _ | refine blk_drew ?_ | refine blk_alloc ?_ _)); refine blk_put (cs := #[.int .i64 0, .int .i64 0, .int .i64 0, .int .i64 0, .int .i64 0, .int .i64 0, .int .i64 0, .int .i64 0]) ?_ 0 _ rfl; (with_reducible repeat (first | refine blk_drewN ?_ _ | refine blk_drew ?_ | refine blk_alloc ?_ _)); exact BK105.out⟩)
             (have n2_ : Aside0 (Below w.heap.size w ((((((((w28.setCell ⟨gb105, 0, none⟩ (.int .i64 ((rd_T28 l0 x11_1).f0.f0))).setCell ⟨gb105, 1, none⟩ (.int .i64 ((rd_T28 l0 x11_1).f0.f1))).setCell ⟨gb105, 2, none⟩ (.int .i64 ((rd_T28 l0 x11_1).f0.f2))).setCell ⟨gb105, 3, none⟩ (.int .i64 ((rd_T28 l0 x11_1).f1))).setCell ⟨gb105, 4, none⟩ (.int .i64 ((rd_T28 l0 x11_1).f2.f0))).setCell ⟨gb105, 5, none⟩ (.int .i64 ((rd_T28 l0 x11_1).f2.f1))).setCell ⟨gb105, 6, none⟩ (.int .i64 ((rd_T28 l0 x11_1).f3))).setCell ⟨gb105, 7, none⟩ (.int .i64 ((rd_T28 l0 x11_1).f4)))) := ⟨by repeat (first | (with_reducible first | exact HB.out | apply below_alloc | apply pw_below_drewN | apply below_drew1 | refine below_set ?_ GE103.out | refine below_set ?_ GE105.out) | exact HB.out)⟩); ((try clear BK103)); ((try clear BK105)); ((try clear HB)); generalize ((((((((w28.setCell ⟨gb105, 0, none⟩ (.int .i64 ((rd_T28 l0 x11_1).f0.f0))).setCell ⟨gb105, 1, none⟩ (.int .i64 ((rd_T28 l0 x11_1).f0.f1))).setCell ⟨gb105, 2, none⟩ (.int .i64 ((rd_T28 l0 x11_1).f0.f2))).setCell ⟨gb105, 3, none⟩ (.int .i64 ((rd_T28 l0 x11_1).f1))).setCell ⟨gb105, 4, none⟩ (.int .i64 ((rd_T28 l0 x11_1).f2.f0))).setCell ⟨gb105, 5, none⟩ (.int .i64 ((rd_T28 l0 x11_1).f2.f1))).setCell ⟨gb105, 6, none⟩ (.int .i64 ((rd_T28 l0 x11_1).f3))).setCell ⟨gb105, 7, none⟩ (.int .i64 ((rd_T28 l0 x11_1).f4))) = w31 at n0_ n1_ n2_ ⊢; have BK103 := n0_; have BK105 := n1_; have HB := n2_; clear n0_ n1_ n2_; have n0_ := Aside0.mk (blk_drew BK103.out); have n1_ := Aside0.mk (blk_drew BK105.out); have n2_ := Aside0.mk (below_drew1 HB.out); clear BK103; clear BK105; clear HB; have BK103 := n0_; have BK105 := n1_; have HB := n2_; clear n0_ n1_ n2_; (have p106 : 0 ≤ (x10_1 : Int) := of_decide_eq_true (by assumption)); (have q106 : x10_1 < (l0.length : Int) := of_decide_eq_true (by assumption)); obtain ⟨ad106, e106, hx106_0, hx106_1, hx106_2, hx106_3, hx106_4, hx106_5, hx106_6, hx106_7⟩ := at_T28 HR0.out x10_1 p106 q106; have hw106_7 := hx106_7; have hw106_6 := hx106_6; have hw106_5 := hx106_5; have hw106_4 := hx106_4; have hw106_3 := hx106_3; have hw106_2 := hx106_2; have hw106_1 := hx106_1; have hw106_0 := hx106_0; (obtain rfl : ad104 = ad106 := (by injection e106)); replace hx106_0 := (HB.out.cell (World.block_lt_of_cell? w _ hx106_0)).trans hx106_0; replace hx106_1 := (HB.out.cell (World.block_lt_of_cell? w _ hx106_1)).trans hx106_1; replace hx106_2 := (HB.out.cell (World.block_lt_of_cell? w _ hx106_2)).trans hx106_2; replace hx106_3 := (HB.out.cell (World.block_lt_of_cell? w _ hx106_3)).trans hx106_3; replace hx106_4 := (HB.out.cell (World.block_lt_of_cell? w _ hx106_4)).trans hx106_4; replace hx106_5 := (HB.out.cell (World.block_lt_of_cell? w _ hx106_5)).trans hx106_5; replace hx106_6 := (HB.out.cell (World.block_lt_of_cell? w _ hx106_6)).trans hx106_6; replace hx106_7 := (HB.out.cell (World.block_lt_of_cell? w _ hx106_7)).trans hx106_7; replace p106 := eq_true p106; replace q106 := eq_true q106; (refine start_ (n := 37) (S := fun w' => w'.cell? ⟨gb105, 0, none⟩ = some (.int .i64 ((rd_T28 l0 x11_1).f0.f0)) ∧ w'.cell? ⟨gb105, 1, none⟩ = some (.int .i64 ((rd_T28 l0 x11_1).f0.f1)) ∧ w'.cell? ⟨gb105, 2, none⟩ = some (.int .i64 ((rd_T28 l0 x11_1).f0.f2)) ∧ w'.cell? ⟨gb105, 3, none⟩ = some (.int .i64 ((rd_T28 l0 x11_1).f1)) ∧ w'.cell? ⟨gb105, 4, none⟩ = some (.int .i64 ((rd_T28 l0 x11_1).f2.f0)) ∧ w'.cell? ⟨gb105, 5, none⟩ = some (.int .i64 ((rd_T28 l0 x11_1).f2.f1)) ∧ w'.cell? ⟨gb105, 6, none⟩ = some (.int .i64 ((rd_T28 l0 x11_1).f3)) ∧ w'.cell? ⟨gb105, 7, none⟩ = some (.int .i64 ((rd_T28 l0 x11_1).f4)) ∧ w'.cell? ⟨gb103, 0, none⟩ = some (.int .i64 a1_0) ∧ w'.cell? ⟨gb103, 1, none⟩ = some (.int .i64 a1_1) ∧ w'.cell? ⟨gb103, 2, none⟩ = some (.int .i64 a1_2) ∧ w'.cell? (ad104.add ((x10_1).toNat * 8)) = some (.int .i64 ((rd_T28 l0 x10_1).f0.f0)) ∧ w'.cell? ⟨(ad104.add ((x10_1).toNat * 8)).block, (ad104.add ((x10_1).toNat * 8)).off + 1, none⟩ = some (.int .i64 ((rd_T28 l0 x10_1).f0.f1)) ∧ w'.cell? ⟨(ad104.add ((x10_1).toNat * 8)).block, (ad104.add ((x10_1).toNat * 8)).off + 2, none⟩ = some (.int .i64 ((rd_T28 l0 x10_1).f0.f2)) ∧ w'.cell? ⟨(ad104.add ((x10_1).toNat * 8)).block, (ad104.add ((x10_1).toNat * 8)).off + 3, none⟩ = some (.int .i64 ((rd_T28 l0 x10_1).f1)) ∧ w'.cell? ⟨(ad104.add ((x10_1).toNat * 8)).block, (ad104.add ((x10_1).toNat * 8)).off + 4, none⟩ = some (.int .i64 ((rd_T28 l0 x10_1).f2.f0)) ∧ w'.cell? ⟨(ad104.add ((x10_1).toNat * 8)).block, (ad104.add ((x10_1).toNat * 8)).off + 5, none⟩ = some (.int .i64 ((rd_T28 l0 x10_1).f2.f1)) ∧ w'.cell? ⟨(ad104.add ((x10_1).toNat * 8)).block, (ad104.add ((x10_1).toNat * 8)).off + 6, none⟩ = some (.int .i64 ((rd_T28 l0 x10_1).f3)) ∧ w'.cell? ⟨(ad104.add ((x10_1).toNat * 8)).block, (ad104.add ((x10_1).toNat * 8)).off + 7, none⟩ = some (.int .i64 ((rd_T28 l0 x10_1).f4))) (ds := []) LI670 (by kernel_rfl) rfl rfl ⟨(blk_cell BK105.out 0).trans rfl, (blk_cell BK105.out 1).trans rfl, (blk_cell BK105.out 2).trans rfl, (blk_cell BK105.out 3).trans rfl, (blk_cell BK105.out 4).trans rfl, (blk_cell BK105.out 5).trans rfl, (blk_cell BK105.out 6).trans rfl, (blk_cell BK105.out 7).trans rfl, (blk_cell BK103.out 0).trans rfl, (blk_cell BK103.out 1).trans rfl, (blk_cell BK103.out 2).trans rfl, ((HB.out.cell (World.block_lt_of_cell? w _ hw106_0)).trans hw106_0), ((HB.out.cell (World.block_lt_of_cell? w _ hw106_1)).trans hw106_1), ((HB.out.cell (World.block_lt_of_cell? w _ hw106_2)).trans hw106_2), ((HB.out.cell (World.block_lt_of_cell? w _ hw106_3)).trans hw106_3), ((HB.out.cell (World.block_lt_of_cell? w _ hw106_4)).trans hw106_4), ((HB.out.cell (World.block_lt_of_cell? w _ hw106_5)).trans hw106_5), ((HB.out.cell (World.block_lt_of_cell? w _ hw106_6)).trans hw106_6), ((HB.out.cell (World.block_lt_of_cell? w _ hw106_7)).trans hw106_7)⟩ (fun hHeld => ?_); refine with_tabW refAtP.tab6 refAtP.bits6 (fun HT_ HW_ => ?_)); generalize w31.drew = w32 at BK103 BK105 HB hx106_0 hx106_1 hx106_2 hx106_3 hx106_4 hx106_5 hx106_6 hx106_7 hHeld ⊢
             (refine pure_ (i := 0) (N := some 23) (v := ?_) (a' := ?_) LI671 rfl rfl (any_of HT_.out (by kernel_rfl)) (fun _ _ _ h => h) (Or.inl ⟨by rfl, ?_⟩) ?_ ?_); rotate_left
             ·intro w'; go_simp; (with_reducible rfl)
             rotate_left
             ·go_simp; rfl
             (refine take_ (i := 1) (N := some 24) (v := ?_) (a' := ?_) LI672 rfl rfl (take_ofW HT_.out HW_.out (by kernel_rfl)) (fun _ _ _ h => h) (Or.inl ⟨by rfl, ?_⟩) hHeld ?_ ?_); rotate_left
             ·rintro w' ⟨s0, s1, s2, s3, s4, s5, s6, s7, s8, s9, s10, s11, s12, s13, s14, s15, s16, s17, s18⟩; go_simp; (with_reducible rfl)
             rotate_left
             ·go_simp; rfl
             (refine take_ (i := 2) (N := some 25) (v := ?_) (a' := ?_) LI673 rfl rfl (take_ofW HT_.out HW_.out (by kernel_rfl)) (fun _ _ _ h => h) (Or.inl ⟨by rfl, ?_⟩) hHeld ?_ ?_); rotate_left
             ·rintro w' ⟨s0, s1, s2, s3, s4, s5, s6, s7, s8, s9, s10, s11, s12, s13, s14, s15, s16, s17, s18⟩; go_simp; (with_reducible rfl)
             rotate_left
             ·go_simp; rfl
             (refine pure_ (i := 3) (N := some 26) (v := ?_) (a' := ?_) LI674 rfl rfl (any_of HT_.out (by kernel_rfl)) (fun _ _ _ h => h) (Or.inl ⟨by rfl, ?_⟩) ?_ ?_); rotate_left
             ·intro w'; go_simp; (with_reducible rfl)
             rotate_left
             ·go_simp; rfl
             (refine pure_ (i := 4) (N := some 27) (v := ?_) (a' := ?_) LI675 rfl rfl (any_of HT_.out (by kernel_rfl)) (fun _ _ _ h => h) (Or.inl ⟨by rfl, ?_⟩) ?_ ?_); rotate_left
             ·intro w'; go_simp; (with_reducible rfl)
             rotate_left
             ·go_simp; rfl
             (refine pure_ (i := 5) (N := some 28) (v := ?_) (a' := ?_) LI676 rfl rfl (any_of HT_.out (by kernel_rfl)) (fun _ _ _ h => h) (Or.inl ⟨by rfl, ?_⟩) ?_ ?_); rotate_left
             ·intro w'; go_simp; (with_reducible rfl)
             rotate_left
             ·go_simp; rfl
             (refine pure_ (i := 6) (N := some 29) (v := ?_) (a' := ?_) LI677 rfl rfl (any_of HT_.out (by kernel_rfl)) (fun _ _ _ h => h) (Or.inl ⟨by rfl, ?_⟩) ?_ ?_); rotate_left
             ·intro w'; go_simp; (with_reducible rfl)
             rotate_left
             ·go_simp; rfl
             (refine pure_ (i := 8) (N := some 31) (v := ?_) (a' := ?_) LI6733 rfl rfl (any_of HT_.out (by kernel_rfl)) (fun _ _ _ h => h) (Or.inl ⟨by rfl, ?_⟩) ?_ ?_); rotate_left
             ·intro w'; go_simp; (with_reducible rfl)
             rotate_left
             ·go_simp; rfl
             (refine take_ (i := 7) (N := some 30) (v := ?_) (a' := ?_) LI678 rfl rfl (take_ofW HT_.out HW_.out (by kernel_rfl)) (fun _ _ _ h => h) (Or.inl ⟨by rfl, ?_⟩) hHeld ?_ ?_); rotate_left
             ·rintro w' ⟨s0, s1, s2, s3, s4, s5, s6, s7, s8, s9, s10, s11, s12, s13, s14, s15, s16, s17, s18⟩; go_simp; (with_reducible rfl)
             rotate_left
             ·go_simp; rfl
             (refine pure_ (i := 9) (N := some 32) (v := ?_) (a' := ?_) LI679 rfl rfl (any_of HT_.out (by kernel_rfl)) (fun _ _ _ h => h) (Or.inl ⟨by rfl, ?_⟩) ?_ ?_); rotate_left
             ·intro w'; go_simp; (with_reducible rfl)
             rotate_left
             ·go_simp; rfl
             (refine pure_ (i := 10) (N := some 33) (v := ?_) (a' := ?_) LI6710 rfl rfl (any_of HT_.out (by kernel_rfl)) (fun _ _ _ h => h) (Or.inl ⟨by rfl, ?_⟩) ?_ ?_); rotate_left
             ·intro w'; go_simp; (with_reducible rfl)
             rotate_left
             ·go_simp; rfl
             (refine pure_ (i := 11) (N := some 34) (v := ?_) (a' := ?_) LI6711 rfl rfl (any_of HT_.out (by kernel_rfl)) (fun _ _ _ h => h) (Or.inl ⟨by rfl, ?_⟩) ?_ ?_); rotate_left
             ·intro w'; go_simp; (with_reducible rfl)
             rotate_left
             ·go_simp; rfl
             (refine pure_ (i := 12) (N := some 35) (v := ?_) (a' := ?_) LI6712 rfl rfl (any_of HT_.out (by kernel_rfl)) (fun _ _ _ h => h) (Or.inl ⟨by rfl, ?_⟩) ?_ ?_); rotate_left
             ·intro w'; go_simp; (with_reducible rfl)
             rotate_left
             ·go_simp; rfl
             (refine pure_ (i := 13) (N := some 36) (v := ?_) (a' := ?_) LI6713 rfl rfl (any_of HT_.out (by kernel_rfl)) (fun _ _ _ h => h) (Or.inl ⟨by rfl, ?_⟩) ?_ ?_); rotate_left
             ·intro w'; go_simp; (with_reducible rfl)
             rotate_left
             ·go_simp; rfl
             (refine pure_ (i := 14) (N := some 37) (v := ?_) (a' := ?_) LI6714 rfl rfl (any_of HT_.out (by kernel_rfl)) (fun _ _ _ h => h) (Or.inl ⟨by rfl, ?_⟩) ?_ ?_); rotate_left
             ·intro w'; go_simp; (with_reducible rfl)
             rotate_left
             ·go_simp; rfl
             (refine take_ (i := 15) (N := some 38) (v := ?_) (a' := ?_) LI6715 rfl rfl (take_ofW HT_.out HW_.out (by kernel_rfl)) (fun _ _ _ h => h) (Or.inl ⟨by rfl, ?_⟩) hHeld ?_ ?_); rotate_left
             ·rintro w' ⟨s0, s1, s2, s3, s4, s5, s6, s7, s8, s9, s10, s11, s12, s13, s14, s15, s16, s17, s18⟩; go_simp; (with_reducible rfl)
             rotate_left
             ·go_simp; rfl
             (refine pure_ (i := 16) (N := some 39) (v := ?_) (a' := ?_) LI6716 rfl rfl (any_of HT_.out (by kernel_rfl)) (fun _ _ _ h => h) (Or.inl ⟨by rfl, ?_⟩) ?_ ?_); rotate_left
             ·intro w'; go_simp; (with_reducible rfl)
             rotate_left
             ·go_simp; rfl
             (refine pure_ (i := 17) (N := some 40) (v := ?_) (a' := ?_) LI6717 rfl rfl (any_of HT_.out (by kernel_rfl)) (fun _ _ _ h => h) (Or.inl ⟨by rfl, ?_⟩) ?_ ?_); rotate_left
             ·intro w'; go_simp; (with_reducible rfl)
             rotate_left
             ·go_simp; rfl
             (refine pure_ (i := 18) (N := some 41) (v := ?_) (a' := ?_) LI6718 rfl rfl (any_of HT_.out (by kernel_rfl)) (fun _ _ _ h => h) (Or.inl ⟨by rfl, ?_⟩) ?_ ?_); rotate_left
             ·intro w'; go_simp; (with_reducible rfl)
             rotate_left
             ·go_simp; rfl
             (refine pure_ (i := 19) (N := some 42) (v := ?_) (a' := ?_) LI6719 rfl rfl (any_of HT_.out (by kernel_rfl)) (fun _ _ _ h => h) (Or.inl ⟨by rfl, ?_⟩) ?_ ?_); rotate_left
             ·intro w'; go_simp; (with_reducible rfl)
             rotate_left
             ·go_simp; rfl
             (refine pure_ (i := 21) (N := some 44) (v := ?_) (a' := ?_) LI6737 rfl rfl (any_of HT_.out (by kernel_rfl)) (fun _ _ _ h => h) (Or.inl ⟨by rfl, ?_⟩) ?_ ?_); rotate_left
             ·intro w'; go_simp; (with_reducible rfl)
             rotate_left
             ·go_simp; rfl
             (refine take_ (i := 20) (N := some 43) (v := ?_) (a' := ?_) LI6720 rfl rfl (take_ofW HT_.out HW_.out (by kernel_rfl)) (fun _ _ _ h => h) (Or.inl ⟨by rfl, ?_⟩) hHeld ?_ ?_); rotate_left
             ·rintro w' ⟨s0, s1, s2, s3, s4, s5, s6, s7, s8, s9, s10, s11, s12, s13, s14, s15, s16, s17, s18⟩; go_simp; (with_reducible rfl)
             rotate_left
             ·go_simp; rfl
             (refine pure_ (i := 22) (N := some 45) (v := ?_) (a' := ?_) LI6721 rfl rfl (any_of HT_.out (by kernel_rfl)) (fun _ _ _ h => h) (Or.inl ⟨by rfl, ?_⟩) ?_ ?_); rotate_left
             ·intro w'; go_simp; (with_reducible rfl)
             rotate_left
             ·go_simp; rfl
             (refine pure_ (i := 23) (N := some 46) (v := ?_) (a' := ?_) LI6722 rfl rfl (any_of HT_.out (by kernel_rfl)) (fun _ _ _ h => h) (Or.inl ⟨by rfl, ?_⟩) ?_ ?_); rotate_left
             ·intro w'; go_simp; (with_reducible rfl)
             rotate_left
             ·go_simp; rfl
             (refine pure_ (i := 24) (N := some 47) (v := ?_) (a' := ?_) LI6723 rfl rfl (any_of HT_.out (by kernel_rfl)) (fun _ _ _ h => h) (Or.inl ⟨by rfl, ?_⟩) ?_ ?_); rotate_left
             ·intro w'; go_simp; (with_reducible rfl)
             rotate_left
             ·go_simp; rfl
             (refine pure_ (i := 25) (N := some 48) (v := ?_) (a' := ?_) LI6724 rfl rfl (any_of HT_.out (by kernel_rfl)) (fun _ _ _ h => h) (Or.inl ⟨by rfl, ?_⟩) ?_ ?_); rotate_left
             ·intro w'; go_simp; (with_reducible rfl)
             rotate_left
             ·go_simp; rfl
             (refine pure_ (i := 26) (N := some 49) (v := ?_) (a' := ?_) LI6725 rfl rfl (any_of HT_.out (by kernel_rfl)) (fun _ _ _ h => h) (Or.inl ⟨by rfl, ?_⟩) ?_ ?_); rotate_left
             ·intro w'; go_simp; (with_reducible rfl)
             rotate_left
             ·go_simp; rfl
             (refine pure_ (i := 27) (N := some 50) (v := ?_) (a' := ?_) LI6726 rfl rfl (any_of HT_.out (by kernel_rfl)) (fun _ _ _ h => h) (Or.inl ⟨by rfl, ?_⟩) ?_ ?_); rotate_left
             ·intro w'; go_simp; (with_reducible rfl)
             rotate_left
             ·go_simp; rfl
             (refine pure_ (i := 29) (N := some 52) (v := ?_) (a' := ?_) #[true, true, true, true, true, true, true, true, true, true, true, true, true, true, true, true, true, true, true, true, true, true, true, true, true, true, true, true, false, true, false, false, false, false, false, false, false] rfl rfl (any_of HT_.out (by kernel_rfl)) (fun _ _ _ h => h) (Or.inl ⟨by rfl, ?_⟩) ?_ ?_); rotate_left
             ·intro w'; go_simp; (with_reducible rfl)
             rotate_left
             ·go_simp; rfl
             (refine pure_ (i := 30) (N := some 53) (v := ?_) (a' := ?_) #[true, true, true, true, true, true, true, true, true, true, true, true, true, true, true, true, true, true, true, true, true, true, true, true, true, true, true, true, false, true, true, false, false, false, false, false, false] rfl rfl (any_of HT_.out (by kernel_rfl)) (fun _ _ _ h => h) (Or.inl ⟨by rfl, ?_⟩) ?_ ?_); rotate_left
             ·intro w'; go_simp; (with_reducible rfl)
             rotate_left
             ·go_simp; rfl
             (refine pure_ (i := 31) (N := some 54) (v := ?_) (a' := ?_) #[true, true, true, true, true, true, true, true, true, true, true, true, true, true, true, true, true, true, true, true, true, true, true, true, true, true, true, true, false, true, true, true, false, false, false, false, false] rfl rfl (any_of HT_.out (by kernel_rfl)) (fun _ _ _ h => h) (Or.inl ⟨by rfl, ?_⟩) ?_ ?_); rotate_left
             ·intro w'; go_simp; (with_reducible rfl)
             rotate_left
             ·go_simp; rfl
             (refine take_ (i := 28) (N := some 51) (v := ?_) (a' := ?_) LI6727 rfl rfl (take_ofW HT_.out HW_.out (by kernel_rfl)) (fun _ _ _ h => h) (Or.inl ⟨by rfl, ?_⟩) hHeld ?_ ?_); rotate_left
             ·rintro w' ⟨s0, s1, s2, s3, s4, s5, s6, s7, s8, s9, s10, s11, s12, s13, s14, s15, s16, s17, s18⟩; go_simp; (with_reducible rfl)
             rotate_left
             ·go_simp; rfl
             (refine take_ (i := 32) (N := some 55) (v := ?_) (a' := ?_) LI6728 rfl rfl (take_ofW HT_.out HW_.out (by kernel_rfl)) (fun _ _ _ h => h) (Or.inl ⟨by rfl, ?_⟩) hHeld ?_ ?_); rotate_left
             ·rintro w' ⟨s0, s1, s2, s3, s4, s5, s6, s7, s8, s9, s10, s11, s12, s13, s14, s15, s16, s17, s18⟩; go_simp; (with_reducible rfl)
             rotate_left
             ·go_simp; rfl
             (refine one_ (i := 33) (N := some 56) LI6729 rfl rfl (one_of HT_.out (by kernel_rfl)) (by decide) (fun K hK => ?_)); (refine goes_ Try.func30 (by kernel_rfl) rfl #[.agg #[.int .i64 ((rd_T28 l0 x11_1).f0.f0), .int .i64 ((rd_T28 l0 x11_1).f0.f1), .int .i64 ((rd_T28 l0 x11_1).f0.f2), .int .i64 ((rd_T28 l0 x11_1).f1), .int .i64 ((rd_T28 l0 x11_1).f2.f0), .int .i64 ((rd_T28 l0 x11_1).f2.f1), .int .i64 ((rd_T28 l0 x11_1).f3), .int .i64 ((rd_T28 l0 x11_1).f4)], .agg #[.int .i64 ((rd_T28 l0 x10_1).f0.f0), .int .i64 ((rd_T28 l0 x10_1).f0.f1), .int .i64 ((rd_T28 l0 x10_1).f0.f2), .int .i64 ((rd_T28 l0 x10_1).f1), .int .i64 ((rd_T28 l0 x10_1).f2.f0), .int .i64 ((rd_T28 l0 x10_1).f2.f1), .int .i64 ((rd_T28 l0 x10_1).f3), .int .i64 ((rd_T28 l0 x10_1).f4)]] (by rfl) rfl rfl (by (try simp only [List.map_toArray, List.map_cons, List.map_nil]); first | done | rfl | (simp only [List.length_drop, List.length_take]; rfl)) ?_); (with_reducible refine (sizarref07_Before.calls ((rd_T28 l0 x11_1).f0.f0) ((rd_T28 l0 x11_1).f0.f1) ((rd_T28 l0 x11_1).f0.f2) ((rd_T28 l0 x11_1).f1) ((rd_T28 l0 x11_1).f2.f0) ((rd_T28 l0 x11_1).f2.f1) ((rd_T28 l0 x11_1).f3) ((rd_T28 l0 x11_1).f4) ((rd_T28 l0 x10_1).f0.f0) ((rd_T28 l0 x10_1).f0.f1) ((rd_T28 l0 x10_1).f0.f2) ((rd_T28 l0 x10_1).f1) ((rd_T28 l0 x10_1).f2.f0) ((rd_T28 l0 x10_1).f2.f1) ((rd_T28 l0 x10_1).f3) ((rd_T28 l0 x10_1).f4) false _ A20.out).mono ?_); rintro e w33 ⟨rfl, hb⟩; refine ⟨_, rfl, ?_⟩; (have n0_ := Aside0.mk (blk_below (g := gb103) (o := .cells #[.int .i64 a1_0, .int .i64 a1_1, .int .i64 a1_2] 24 (0, 0)) (by (with_reducible repeat (first | refine blk_drewN ?_ _ | refine blk_drew ?_ | refine blk_alloc ?_ _)); exact BK103.out) hb)); (have n1_ := Aside0.mk (blk_below (g := gb105) (o := .cells #[.int .i64 ((rd_T28 l0 x11_1).f0.f0), .int .i64 ((rd_T28 l0 x11_1).f0.f1), .int .i64 ((rd_T28 l0 x11_1).f0.f2), .int .i64 ((rd_T28 l0 x11_1).f1), .int .i64 ((rd_T28 l0 x11_1).f2.f0), .int .i64 ((rd_T28 l0 x11_1).f2.f1), .int .i64 ((rd_T28 l0 x11_1).f3), .int .i64 ((rd_T28 l0 x11_1).f4)] 28 (0, 0)) (by (with_reducible repeat (first | refine blk_drewN ?_ _ | refine blk_drew ?_ | refine blk_alloc ?_ _)); exact BK105.out) hb)); (have n2_ := Aside0.mk (below_step (by repeat (first | (with_reducible first | exact HB.out | apply below_alloc | apply pw_below_drewN | apply below_drew1 | refine below_set ?_ GE103.out | refine below_set ?_ GE105.out) | exact HB.out)) hb)); clear BK103; clear BK105; clear HB; have BK103 := n0_; have BK105 := n1_; have HB := n2_; clear n0_ n1_ n2_; ((try clear hb)); ((try clear hb2)); ((try clear hk)); ((try clear hi)); (refine hK.out _ _ ⟨(blk_cell BK105.out 0).trans rfl, (blk_cell BK105.out 1).trans rfl, (blk_cell BK105.out 2).trans rfl, (blk_cell BK105.out 3).trans rfl, (blk_cell BK105.out 4).trans rfl, (blk_cell BK105.out 5).trans rfl, (blk_cell BK105.out 6).trans rfl, (blk_cell BK105.out 7).trans rfl, (blk_cell BK103.out 0).trans rfl, (blk_cell BK103.out 1).trans rfl, (blk_cell BK103.out 2).trans rfl, ((HB.out.cell (World.block_lt_of_cell? w _ hw106_0)).trans hw106_0), ((HB.out.cell (World.block_lt_of_cell? w _ hw106_1)).trans hw106_1), ((HB.out.cell (World.block_lt_of_cell? w _ hw106_2)).trans hw106_2), ((HB.out.cell (World.block_lt_of_cell? w _ hw106_3)).trans hw106_3), ((HB.out.cell (World.block_lt_of_cell? w _ hw106_4)).trans hw106_4), ((HB.out.cell (World.block_lt_of_cell? w _ hw106_5)).trans hw106_5), ((HB.out.cell (World.block_lt_of_cell? w _ hw106_6)).trans hw106_6), ((HB.out.cell (World.block_lt_of_cell? w _ hw106_7)).trans hw106_7)⟩ (fun hHeld => ?_)); clear hK K; refine norm_ (a' := ?_) ?_ ?_; rotate_left
             ·(show Act.put _ (some 56) _ = _); go_simp; rfl
             (refine pure_ (i := 34) (N := some 57) (v := ?_) (a' := ?_) LI6730 rfl rfl (any_of HT_.out (by kernel_rfl)) (fun _ _ _ h => h) (Or.inl ⟨by rfl, ?_⟩) ?_ ?_); rotate_left
             ·intro w'; go_simp; (with_reducible rfl)
             rotate_left
             ·go_simp; rfl
             (refine pure_ (i := 35) (N := some 58) (v := ?_) (a' := ?_) LI6731 rfl rfl (any_of HT_.out (by kernel_rfl)) (fun _ _ _ h => h) (Or.inl ⟨by rfl, ?_⟩) ?_ ?_); rotate_left
             ·intro w'; go_simp; (with_reducible rfl)
             rotate_left
             ·go_simp; rfl
             (refine pure_ (i := 36) (N := some 59) (v := ?_) (a' := ?_) LI6732 rfl rfl (any_of HT_.out (by kernel_rfl)) (fun _ _ _ h => h) (Or.inl ⟨by rfl, ?_⟩) ?_ ?_); rotate_left
             ·intro w'; go_simp; (with_reducible rfl)
             rotate_left
             ·go_simp; rfl
             (refine done_ (done_of HT_.out (by kernel_rfl)) ?_); (try go_wp2); (go_roundg k1)
             case measure => have := HK1.out; omega
             case rel => exact ⟨(x11_1), (wrap64 (x11_1 + 1)), (by first | rfl | (simp; done) | (simp [*]; done)), (by first | rfl | (simp; done) | (simp [*]; done)), H', ⟨by have := HK1.out; omega⟩, ⟨by (with_reducible repeat (first | refine blk_drewN ?_ _ | refine blk_drew ?_ | refine blk_alloc ?_ _)); exact BK103.out⟩, ⟨by repeat (first | (with_reducible first | exact HB.out | apply below_alloc | apply pw_below_drewN | apply below_drew1 | refine below_set ?_ GE103.out | refine below_set ?_ GE105.out) | exact HB.out)⟩⟩
           ·rw [if_neg c19] at H; (exact absurd H (by simp))
          ·rw [if_neg c18] at H; (exact absurd H (by simp))
        ·rw [if_neg c11] at H; have c11b0 : decide (((rd_T28 l0 x11_1).f3) ≤ a3) = false := decide_eq_false c11; clear c11; have H' := Aside0.mk H; clear H; (have p104 : 0 ≤ (x11_1 : Int) := of_decide_eq_true (by assumption)); (have q104 : x11_1 < (l0.length : Int) := of_decide_eq_true (by assumption)); obtain ⟨ad104, e104, hx104_0, hx104_1, hx104_2, hx104_3, hx104_4, hx104_5, hx104_6, hx104_7⟩ := at_T28 HR0.out x11_1 p104 q104; cases e104; replace hx104_0 := (HB.out.cell (World.block_lt_of_cell? w _ hx104_0)).trans hx104_0; replace hx104_1 := (HB.out.cell (World.block_lt_of_cell? w _ hx104_1)).trans hx104_1; replace hx104_2 := (HB.out.cell (World.block_lt_of_cell? w _ hx104_2)).trans hx104_2; replace hx104_3 := (HB.out.cell (World.block_lt_of_cell? w _ hx104_3)).trans hx104_3; replace hx104_4 := (HB.out.cell (World.block_lt_of_cell? w _ hx104_4)).trans hx104_4; replace hx104_5 := (HB.out.cell (World.block_lt_of_cell? w _ hx104_5)).trans hx104_5; replace hx104_6 := (HB.out.cell (World.block_lt_of_cell? w _ hx104_6)).trans hx104_6; replace hx104_7 := (HB.out.cell (World.block_lt_of_cell? w _ hx104_7)).trans hx104_7; replace p104 := eq_true p104; replace q104 := eq_true q104; (try go_wp2_with (first | ((with_reducible refine gate_dst (N := 12) rfl ?_); refine box_event ?hg (N := 12) ?hd (cs := #[.int .i64 0, .int .i64 0, .int .i64 0, .int .i64 0, .int .i64 0, .int .i64 0, .int .i64 0, .int .i64 0]) (t := 28) ?hr ?_; (case hd => rfl); (case hg => rfl); (case hr => first | (go_simp; done) | (go_simp; rfl)); intro gb105 hg w34 hbox hb; have n0_ := Aside0.mk (blk_below (g := gb103) (o := .cells #[.int .i64 a1_0, .int .i64 a1_1, .int .i64 a1_2] 24 (0, 0)) (by (with_reducible repeat (first | refine blk_drewN ?_ _ | refine blk_drew ?_ | refine blk_alloc ?_ _)); exact BK103.out) hb); have n1_ := Aside0.mk (below_step (by repeat (first | (with_reducible first | exact HB.out | apply below_alloc | apply pw_below_drewN | apply below_drew1 | refine below_set ?_ GE103.out) | exact HB.out)) hb); have n2_ := Aside0.mk (hbox); have n3_ := Aside0.mk ((by rw [hg]; exact (below_size (by repeat (first | (with_reducible first | exact HB.out | apply below_alloc | apply pw_below_drewN | apply below_drew1 | refine below_set ?_ GE103.out) | exact HB.out))) : w.heap.size ≤ gb105)); have n4_ := Aside0.mk ((by rw [hg]; exact (below_size (by repeat (first | (with_reducible first | exact HB.out | apply below_alloc | apply pw_below_drewN | apply below_drew1 | refine below_set ?_ GE103.out) | exact HB.out))) : w.heap.size ≤ gb105)); have n5_ := Aside0.mk ((by rw [hg]; exact Nat.ne_of_lt (blk_lt (g := gb103) (o := .cells #[.int .i64 a1_0, .int .i64 a1_1, .int .i64 a1_2] 24 (0, 0)) (by (with_reducible repeat (first | refine blk_drewN ?_ _ | refine blk_drew ?_ | refine blk_alloc ?_ _)); exact BK103.out)) : gb103 ≠ gb105)); have n6_ := Aside0.mk ((by rw [hg]; exact Nat.ne_of_gt (blk_lt (g := gb103) (o := .cells #[.int .i64 a1_0, .int .i64 a1_1, .int .i64 a1_2] 24 (0, 0)) (by (with_reducible repeat (first | refine blk_drewN ?_ _ | refine blk_drew ?_ | refine blk_alloc ?_ _)); exact BK103.out)) : gb105 ≠ gb103)); clear BK103; clear HB; have BK103 := n0_; have HB := n1_; have BK105 := n2_; have GW105 := n3_; have GE105 := n4_; have NB103_105 := n5_; have NB105_103 := n6_; clear n0_ n1_ n2_ n3_ n4_ n5_ n6_; clear hb hbox hg; have hnb35 := NB105_103.out; have hnc35 := NB103_105.out; have hcz36_0 : w34.cell? ⟨gb105, 0, none⟩ = some (.int .i64 0) := (blk_cell BK105.out 0).trans rfl; have hcz36_1 : w34.cell? ⟨gb105, 1, none⟩ = some (.int .i64 0) := (blk_cell BK105.out 1).trans rfl; have hcz36_2 : w34.cell? ⟨gb105, 2, none⟩ = some (.int .i64 0) := (blk_cell BK105.out 2).trans rfl; have hcz36_3 : w34.cell? ⟨gb105, 3, none⟩ = some (.int .i64 0) := (blk_cell BK105.out 3).trans rfl; have hcz36_4 : w34.cell? ⟨gb105, 4, none⟩ = some (.int .i64 0) := (blk_cell BK105.out 4).trans rfl; have hcz36_5 : w34.cell? ⟨gb105, 5, none⟩ = some (.int .i64 0) := (blk_cell BK105.out 5).trans rfl; have hcz36_6 : w34.cell? ⟨gb105, 6, none⟩ = some (.int .i64 0) := (blk_cell BK105.out 6).trans rfl; have hcz36_7 : w34.cell? ⟨gb105, 7, none⟩ = some (.int .i64 0) := (blk_cell BK105.out 7).trans rfl; have hfz36_0 := blk_frozen BK105.out 0; have hfz36_1 := blk_frozen BK105.out 1; have hfz36_2 := blk_frozen BK105.out 2; have hfz36_3 := blk_frozen BK105.out 3; have hfz36_4 := blk_frozen BK105.out 4; have hfz36_5 := blk_frozen BK105.out 5; have hfz36_6 := blk_frozen BK105.out 6; have hfz36_7 := blk_frozen BK105.out 7)))
         (have n0_ : Aside0 (((((((((w34.setCell ⟨gb105, 0, none⟩ (.int .i64 ((rd_T28 l0 x11_1).f0.f0))).setCell ⟨gb105, 1, none⟩ (.int .i64 ((rd_T28 l0 x11_1).f0.f1))).setCell ⟨gb105, 2, none⟩ (.int .i64 ((rd_T28 l0 x11_1).f0.f2))).setCell ⟨gb105, 3, none⟩ (.int .i64 ((rd_T28 l0 x11_1).f1))).setCell ⟨gb105, 4, none⟩ (.int .i64 ((rd_T28 l0 x11_1).f2.f0))).setCell ⟨gb105, 5, none⟩ (.int .i64 ((rd_T28 l0 x11_1).f2.f1))).setCell ⟨gb105, 6, none⟩ (.int .i64 ((rd_T28 l0 x11_1).f3))).setCell ⟨gb105, 7, none⟩ (.int .i64 ((rd_T28 l0 x11_1).f4))).heap[gb103]? = some (.cells #[.int .i64 a1_0, .int .i64 a1_1, .int .i64 a1_2] 24 (0, 0))) := ⟨by (with_reducible repeat (first | refine blk_drewN ?_ _ | refine blk_drew ?_ | refine blk_alloc ?_ _)); refine blk_far ?_ NB103_105.out _; (with_reducible repeat (first | refine blk_drewN ?_ _ | refine blk_drew ?_ | refine blk_alloc ?_ _)); refine blk_far ?_ NB103_105.out _; (with_reducible repeat (first | refine blk_drewN ?_ _ | refine blk_drew ?_ | refine blk_alloc ?_ _)); refine blk_far ?_ NB103_105.out _; (with_reducible repeat (first | refine blk_drewN ?_ _ | refine blk_drew ?_ | refine blk_alloc ?_ _)); refine blk_far ?_ NB103_105.out _; (with_reducible repeat (first | refine blk_drewN ?_ _ | refine blk_drew ?_ | refine blk_alloc ?_ _)); refine blk_far ?_ NB103_105.out _; (with_reducible repeat (first | refine blk_drewN ?_ _ | refine blk_drew ?_ | refine blk_alloc ?_ _)); refine blk_far ?_ NB103_105.out _; (with_reducible repeat (first | refine blk_drewN ?_ _ | refine blk_drew ?_ | refine blk_alloc ?_ _)); refine blk_far ?_ NB103_105.out _; (with_reducible repeat (first | refine blk_drewN ?_ _ | refine blk_drew ?_ | refine blk_alloc ?_ _)); refine blk_far ?_ NB103_105.out _; (with_reducible repeat (first | refine blk_drewN ?_ _ | refine blk_drew ?_ | refine blk_alloc ?_ _)); exact BK103.out⟩); (have n1_ : Aside0 (((((((((w34.setCell ⟨gb105, 0, none⟩ (.int .i64 ((rd_T28 l0 x11_1).f0.f0))).setCell ⟨gb105, 1, none⟩ (.int .i64 ((rd_T28 l0 x11_1).f0.f1))).setCell ⟨gb105, 2, none⟩ (.int .i64 ((rd_T28 l0 x11_1).f0.f2))).setCell ⟨gb105, 3, none⟩ (.int .i64 ((rd_T28 l0 x11_1).f1))).setCell ⟨gb105, 4, none⟩ (.int .i64 ((rd_T28 l0 x11_1).f2.f0))).setCell ⟨gb105, 5, none⟩ (.int .i64 ((rd_T28 l0 x11_1).f2.f1))).setCell ⟨gb105, 6, none⟩ (.int .i64 ((rd_T28 l0 x11_1).f3))).setCell ⟨gb105, 7, none⟩ (.int .i64 ((rd_T28 l0 x11_1).f4))).heap[gb105]? = some (.cells #[.int .i64 ((rd_T28 l0 x11_1).f0.f0), .int .i64 ((rd_T28 l0 x11_1).f0.f1), .int .i64 ((rd_T28 l0 x11_1).f0.f2), .int .i64 ((rd_T28 l0 x11_1).f1), .int .i64 ((rd_T28 l0 x11_1).f2.f0), .int .i64 ((rd_T28 l0 x11_1).f2.f1), .int .i64 ((rd_T28 l0 x11_1).f3), .int .i64 ((rd_T28 l0 x11_1).f4)] 28 (0, 0))) := ⟨by (with_reducible repeat (first | refine blk_drewN ?_ _ | refine blk_drew ?_ | refine blk_alloc ?_ _)); refine blk_put (cs := #[.int .i64 ((rd_T28 l0 x11_1).f0.f0), .int .i64 ((rd_T28 l0 x11_1).f0.f1), .int .i64 ((rd_T28 l0 x11_1).f0.f2), .int .i64 ((rd_T28 l0 x11_1).f1), .int .i64 ((rd_T28 l0 x11_1).f2.f0), .int .i64 ((rd_T28 l0 x11_1).f2.f1), .int .i64 ((rd_T28 l0 x11_1).f3), .int .i64 0]) ?_ 7 _ rfl; (with_reducible repeat (first | refine blk_drewN ?_ _ | refine blk_drew ?_ | refine blk_alloc ?_ _)); refine blk_put (cs := #[.int .i64 ((rd_T28 l0 x11_1).f0.f0), .int .i64 ((rd_T28 l0 x11_1).f0.f1), .int .i64 ((rd_T28 l0 x11_1).f0.f2), .int .i64 ((rd_T28 l0 x11_1).f1), .int .i64 ((rd_T28 l0 x11_1).f2.f0), .int .i64 ((rd_T28 l0 x11_1).f2.f1), .int .i64 0, .int .i64 0]) ?_ 6 _ rfl; (with_reducible repeat (first | refine blk_drewN ?_ _ | refine blk_drew ?_ | refine blk_alloc ?_ _)); refine blk_put (cs := #[.int .i64 ((rd_T28 l0 x11_1).f0.f0), .int .i64 ((rd_T28 l0 x11_1).f0.f1), .int .i64 ((rd_T28 l0 x11_1).f0.f2), .int .i64 ((rd_T28 l0 x11_1).f1), .int .i64 ((rd_T28 l0 x11_1).f2.f0), .int .i64 0, .int .i64 0, .int .i64 0]) ?_ 5 _ rfl; (with_reducible repeat (first | refine blk_drewN ?_ _ | refine blk_drew ?_ | refine blk_alloc ?_ _)); refine blk_put (cs := #[.int .i64 ((rd_T28 l0 x11_1).f0.f0), .int .i64 ((rd_T28 l0 x11_1).f0.f1), .int .i64 ((rd_T28 l0 x11_1).f0.f2), .int .i64 ((rd_T28 l0 x11_1).f1), .int .i64 0, .int .i64 0, .int .i64 0, .int .i64 0]) ?_ 4 _ rfl; (with_reducible repeat (first | refine blk_drewN ?_ _ | refine blk_drew ?_ | refine blk_alloc ?_ _)); refine blk_put (cs := #[.int .i64 ((rd_T28 l0 x11_1).f0.f0), .int .i64 ((rd_T28 l0 x11_1).f0.f1), .int .i64 ((rd_T28 l0 x11_1).f0.f2), .int .i64 0, .int .i64 0, .int .i64 0, .int .i64 0, .int .i64 0]) ?_ 3 _ rfl; (with_reducible repeat (first | refine blk_drewN ?_ _ | refine blk_drew ?_ | refine blk_alloc ?_ _)); refine blk_put (cs := #[.int .i64 ((rd_T28 l0 x11_1).f0.f0), .int .i64 ((rd_T28 l0 x11_1).f0.f1), .int .i64 0, .int .i64 0, .int .i64 0, .int .i64 0, .int .i64 0, .int .i64 0]) ?_ 2 _ rfl; (with_reducible repeat (first | refine blk_drewN ?_ _ | refine blk_drew ?_ | refine blk_alloc ?_ _)); refine blk_put (cs := #[.int .i64 ((rd_T28 l0 x11_1).f0.f0), .int .i64 0, .int .i64 0, .int .i64 0, .int .i64 0, .int .i64 0, .int .i64 0, .int .i64 0]) ?_ 1 _ rfl; (with_reducible repeat (first | refine blk_drewN ?_ _ | refine blk_drew ?_ | refine blk_alloc ?_ _)); refine blk_put (cs := #[.int .i64 0, .int .i64 0, .int .i64 0, .int .i64 0, .int .i64 0, .int .i64 0, .int .i64 0, .int .i64 0]) ?_ 0 _ rfl; (with_reducible repeat (first | refine blk_drewN ?_ _ | refine blk_drew ?_ | refine blk_alloc ?_ _)); exact BK105.out⟩)
         (have n2_ : Aside0 (Below w.heap.size w ((((((((w34.setCell ⟨gb105, 0, none⟩ (.int .i64 ((rd_T28 l0 x11_1).f0.f0))).setCell ⟨gb105, 1, none⟩ (.int .i64 ((rd_T28 l0 x11_1).f0.f1))).setCell ⟨gb105, 2, none⟩ (.int .i64 ((rd_T28 l0 x11_1).f0.f2))).setCell ⟨gb105, 3, none⟩ (.int .i64 ((rd_T28 l0 x11_1).f1))).setCell ⟨gb105, 4, none⟩ (.int .i64 ((rd_T28 l0 x11_1).f2.f0))).setCell ⟨gb105, 5, none⟩ (.int .i64 ((rd_T28 l0 x11_1).f2.f1))).setCell ⟨gb105, 6, none⟩ (.int .i64 ((rd_T28 l0 x11_1).f3))).setCell ⟨gb105, 7, none⟩ (.int .i64 ((rd_T28 l0 x11_1).f4)))) := ⟨by repeat (first | (with_reducible first | exact HB.out | apply below_alloc | apply pw_below_drewN | apply below_drew1 | refine below_set ?_ GE103.out | refine below_set ?_ GE105.out) | exact HB.out)⟩); ((try clear BK103)); ((try clear BK105)); ((try clear HB)); generalize ((((((((w34.setCell ⟨gb105, 0, none⟩ (.int .i64 ((rd_T28 l0 x11_1).f0.f0))).setCell ⟨gb105, 1, none⟩ (.int .i64 ((rd_T28 l0 x11_1).f0.f1))).setCell ⟨gb105, 2, none⟩ (.int .i64 ((rd_T28 l0 x11_1).f0.f2))).setCell ⟨gb105, 3, none⟩ (.int .i64 ((rd_T28 l0 x11_1).f1))).setCell ⟨gb105, 4, none⟩ (.int .i64 ((rd_T28 l0 x11_1).f2.f0))).setCell ⟨gb105, 5, none⟩ (.int .i64 ((rd_T28 l0 x11_1).f2.f1))).setCell ⟨gb105, 6, none⟩ (.int .i64 ((rd_T28 l0 x11_1).f3))).setCell ⟨gb105, 7, none⟩ (.int .i64 ((rd_T28 l0 x11_1).f4))) = w37 at n0_ n1_ n2_ ⊢; have BK103 := n0_; have BK105 := n1_; have HB := n2_; clear n0_ n1_ n2_; have n0_ := Aside0.mk (blk_drew BK103.out); have n1_ := Aside0.mk (blk_drew BK105.out); have n2_ := Aside0.mk (below_drew1 HB.out); clear BK103; clear BK105; clear HB; have BK103 := n0_; have BK105 := n1_; have HB := n2_; clear n0_ n1_ n2_; (refine start_ (n := 37) (S := fun w' => w'.cell? ⟨gb105, 0, none⟩ = some (.int .i64 ((rd_T28 l0 x11_1).f0.f0)) ∧ w'.cell? ⟨gb105, 1, none⟩ = some (.int .i64 ((rd_T28 l0 x11_1).f0.f1)) ∧ w'.cell? ⟨gb105, 2, none⟩ = some (.int .i64 ((rd_T28 l0 x11_1).f0.f2)) ∧ w'.cell? ⟨gb105, 3, none⟩ = some (.int .i64 ((rd_T28 l0 x11_1).f1)) ∧ w'.cell? ⟨gb105, 4, none⟩ = some (.int .i64 ((rd_T28 l0 x11_1).f2.f0)) ∧ w'.cell? ⟨gb105, 5, none⟩ = some (.int .i64 ((rd_T28 l0 x11_1).f2.f1)) ∧ w'.cell? ⟨gb105, 6, none⟩ = some (.int .i64 ((rd_T28 l0 x11_1).f3)) ∧ w'.cell? ⟨gb105, 7, none⟩ = some (.int .i64 ((rd_T28 l0 x11_1).f4)) ∧ w'.cell? ⟨gb103, 0, none⟩ = some (.int .i64 a1_0) ∧ w'.cell? ⟨gb103, 1, none⟩ = some (.int .i64 a1_1) ∧ w'.cell? ⟨gb103, 2, none⟩ = some (.int .i64 a1_2)) (ds := []) LI670 (by kernel_rfl) rfl rfl ⟨(blk_cell BK105.out 0).trans rfl, (blk_cell BK105.out 1).trans rfl, (blk_cell BK105.out 2).trans rfl, (blk_cell BK105.out 3).trans rfl, (blk_cell BK105.out 4).trans rfl, (blk_cell BK105.out 5).trans rfl, (blk_cell BK105.out 6).trans rfl, (blk_cell BK105.out 7).trans rfl, (blk_cell BK103.out 0).trans rfl, (blk_cell BK103.out 1).trans rfl, (blk_cell BK103.out 2).trans rfl⟩ (fun hHeld => ?_); refine with_tabW refAtP.tab6 refAtP.bits6 (fun HT_ HW_ => ?_)); generalize w37.drew = w38 at BK103 BK105 HB hHeld ⊢; (refine pure_ (i := 0) (N := some 23) (v := ?_) (a' := ?_) LI671 rfl rfl (any_of HT_.out (by kernel_rfl)) (fun _ _ _ h => h) (Or.inl ⟨by rfl, ?_⟩) ?_ ?_); rotate_left
         ·intro w'; go_simp; (with_reducible rfl)
         rotate_left
         ·go_simp; rfl
         (refine take_ (i := 1) (N := some 24) (v := ?_) (a' := ?_) LI672 rfl rfl (take_ofW HT_.out HW_.out (by kernel_rfl)) (fun _ _ _ h => h) (Or.inl ⟨by rfl, ?_⟩) hHeld ?_ ?_); rotate_left
         ·rintro w' ⟨s0, s1, s2, s3, s4, s5, s6, s7, s8, s9, s10⟩; go_simp; (with_reducible rfl)
         rotate_left
         ·go_simp; rfl
         (refine take_ (i := 2) (N := some 25) (v := ?_) (a' := ?_) LI673 rfl rfl (take_ofW HT_.out HW_.out (by kernel_rfl)) (fun _ _ _ h => h) (Or.inl ⟨by rfl, ?_⟩) hHeld ?_ ?_); rotate_left
         ·rintro w' ⟨s0, s1, s2, s3, s4, s5, s6, s7, s8, s9, s10⟩; go_simp; (with_reducible rfl)
         rotate_left
         ·go_simp; rfl
         (refine pure_ (i := 3) (N := some 26) (v := ?_) (a' := ?_) LI674 rfl rfl (any_of HT_.out (by kernel_rfl)) (fun _ _ _ h => h) (Or.inl ⟨by rfl, ?_⟩) ?_ ?_); rotate_left
         ·intro w'; go_simp; (with_reducible rfl)
         rotate_left
         ·go_simp; rfl
         (refine pure_ (i := 4) (N := some 27) (v := ?_) (a' := ?_) LI675 rfl rfl (any_of HT_.out (by kernel_rfl)) (fun _ _ _ h => h) (Or.inl ⟨by rfl, ?_⟩) ?_ ?_); rotate_left
         ·intro w'; go_simp; (with_reducible rfl)
         rotate_left
         ·go_simp; rfl
         (refine pure_ (i := 5) (N := some 28) (v := ?_) (a' := ?_) LI676 rfl rfl (any_of HT_.out (by kernel_rfl)) (fun _ _ _ h => h) (Or.inl ⟨by rfl, ?_⟩) ?_ ?_); rotate_left
         ·intro w'; go_simp; (with_reducible rfl)
         rotate_left
         ·go_simp; rfl
         (refine pure_ (i := 6) (N := some 29) (v := ?_) (a' := ?_) LI677 rfl rfl (any_of HT_.out (by kernel_rfl)) (fun _ _ _ h => h) (Or.inl ⟨by rfl, ?_⟩) ?_ ?_); rotate_left
         ·intro w'; go_simp; (with_reducible rfl)
         rotate_left
         ·go_simp; rfl
         (refine pure_ (i := 8) (N := some 31) (v := ?_) (a' := ?_) LI6733 rfl rfl (any_of HT_.out (by kernel_rfl)) (fun _ _ _ h => h) (Or.inl ⟨by rfl, ?_⟩) ?_ ?_); rotate_left
         ·intro w'; go_simp; (with_reducible rfl)
         rotate_left
         ·go_simp; rfl
         (refine take_ (i := 7) (N := some 30) (v := ?_) (a' := ?_) LI678 rfl rfl (take_ofW HT_.out HW_.out (by kernel_rfl)) (fun _ _ _ h => h) (Or.inl ⟨by rfl, ?_⟩) hHeld ?_ ?_); rotate_left
         ·rintro w' ⟨s0, s1, s2, s3, s4, s5, s6, s7, s8, s9, s10⟩; go_simp; (with_reducible rfl)
         rotate_left
         ·go_simp; rfl
         (refine pure_ (i := 9) (N := some 32) (v := ?_) (a' := ?_) LI679 rfl rfl (any_of HT_.out (by kernel_rfl)) (fun _ _ _ h => h) (Or.inl ⟨by rfl, ?_⟩) ?_ ?_); rotate_left
         ·intro w'; go_simp; (with_reducible rfl)
         rotate_left
         ·go_simp; rfl
         (refine pure_ (i := 10) (N := some 33) (v := ?_) (a' := ?_) LI6710 rfl rfl (any_of HT_.out (by kernel_rfl)) (fun _ _ _ h => h) (Or.inl ⟨by rfl, ?_⟩) ?_ ?_); rotate_left
         ·intro w'; go_simp; (with_reducible rfl)
         rotate_left
         ·go_simp; rfl
         (refine pure_ (i := 11) (N := some 34) (v := ?_) (a' := ?_) LI6711 rfl rfl (any_of HT_.out (by kernel_rfl)) (fun _ _ _ h => h) (Or.inl ⟨by rfl, ?_⟩) ?_ ?_); rotate_left
         ·intro w'; go_simp; (with_reducible rfl)
         rotate_left
         ·go_simp; rfl
         (refine pure_ (i := 12) (N := some 35) (v := ?_) (a' := ?_) LI6712 rfl rfl (any_of HT_.out (by kernel_rfl)) (fun _ _ _ h => h) (Or.inl ⟨by rfl, ?_⟩) ?_ ?_); rotate_left
         ·intro w'; go_simp; (with_reducible rfl)
         rotate_left
         ·go_simp; rfl
         (refine pure_ (i := 13) (N := some 36) (v := ?_) (a' := ?_) LI6713 rfl rfl (any_of HT_.out (by kernel_rfl)) (fun _ _ _ h => h) (Or.inl ⟨by rfl, ?_⟩) ?_ ?_); rotate_left
         ·intro w'; go_simp; (with_reducible rfl)
         rotate_left
         ·go_simp; rfl
         (refine pure_ (i := 14) (N := some 37) (v := ?_) (a' := ?_) LI6714 rfl rfl (any_of HT_.out (by kernel_rfl)) (fun _ _ _ h => h) (Or.inl ⟨by rfl, ?_⟩) ?_ ?_); rotate_left
         ·intro w'; go_simp; (with_reducible rfl)
         rotate_left
         ·go_simp; rfl
         (refine take_ (i := 15) (N := some 38) (v := ?_) (a' := ?_) LI6715 rfl rfl (take_ofW HT_.out HW_.out (by kernel_rfl)) (fun _ _ _ h => h) (Or.inl ⟨by rfl, ?_⟩) hHeld ?_ ?_); rotate_left
         ·rintro w' ⟨s0, s1, s2, s3, s4, s5, s6, s7, s8, s9, s10⟩; go_simp; (with_reducible rfl)
         rotate_left
         ·go_simp; rfl
         (refine pure_ (i := 16) (N := some 39) (v := ?_) (a' := ?_) LI6716 rfl rfl (any_of HT_.out (by kernel_rfl)) (fun _ _ _ h => h) (Or.inl ⟨by rfl, ?_⟩) ?_ ?_); rotate_left
         ·intro w'; go_simp; (with_reducible rfl)
         rotate_left
         ·go_simp; rfl
         (refine pure_ (i := 17) (N := some 40) (v := ?_) (a' := ?_) LI6717 rfl rfl (any_of HT_.out (by kernel_rfl)) (fun _ _ _ h => h) (Or.inl ⟨by rfl, ?_⟩) ?_ ?_); rotate_left
         ·intro w'; go_simp; (with_reducible rfl)
         rotate_left
         ·go_simp; rfl
         (refine pure_ (i := 18) (N := some 41) (v := ?_) (a' := ?_) LI6718 rfl rfl (any_of HT_.out (by kernel_rfl)) (fun _ _ _ h => h) (Or.inl ⟨by rfl, ?_⟩) ?_ ?_); rotate_left
         ·intro w'; go_simp; (with_reducible rfl)
         rotate_left
         ·go_simp; rfl
         (refine pure_ (i := 19) (N := some 42) (v := ?_) (a' := ?_) LI6719 rfl rfl (any_of HT_.out (by kernel_rfl)) (fun _ _ _ h => h) (Or.inl ⟨by rfl, ?_⟩) ?_ ?_); rotate_left
         ·intro w'; go_simp; (with_reducible rfl)
         rotate_left
         ·go_simp; rfl
         (refine pure_ (i := 21) (N := some 44) (v := ?_) (a' := ?_) LI6737 rfl rfl (any_of HT_.out (by kernel_rfl)) (fun _ _ _ h => h) (Or.inl ⟨by rfl, ?_⟩) ?_ ?_); rotate_left
         ·intro w'; go_simp; (with_reducible rfl)
         rotate_left
         ·go_simp; rfl
         (refine take_ (i := 20) (N := some 43) (v := ?_) (a' := ?_) LI6720 rfl rfl (take_ofW HT_.out HW_.out (by kernel_rfl)) (fun _ _ _ h => h) (Or.inl ⟨by rfl, ?_⟩) hHeld ?_ ?_); rotate_left
         ·rintro w' ⟨s0, s1, s2, s3, s4, s5, s6, s7, s8, s9, s10⟩; go_simp; (with_reducible rfl)
         rotate_left
         ·go_simp; rfl
         (refine pure_ (i := 22) (N := some 45) (v := ?_) (a' := ?_) LI6721 rfl rfl (any_of HT_.out (by kernel_rfl)) (fun _ _ _ h => h) (Or.inl ⟨by rfl, ?_⟩) ?_ ?_); rotate_left
         ·intro w'; go_simp; (with_reducible rfl)
         rotate_left
         ·go_simp; rfl
         (refine pure_ (i := 23) (N := some 46) (v := ?_) (a' := ?_) LI6722 rfl rfl (any_of HT_.out (by kernel_rfl)) (fun _ _ _ h => h) (Or.inl ⟨by rfl, ?_⟩) ?_ ?_); rotate_left
         ·intro w'; go_simp; (with_reducible rfl)
         rotate_left
         ·go_simp; rfl
         (refine pure_ (i := 24) (N := some 47) (v := ?_) (a' := ?_) LI6723 rfl rfl (any_of HT_.out (by kernel_rfl)) (fun _ _ _ h => h) (Or.inl ⟨by rfl, ?_⟩) ?_ ?_); rotate_left
         ·intro w'; go_simp; (with_reducible rfl)
         rotate_left
         ·go_simp; rfl
         (refine pure_ (i := 25) (N := some 48) (v := undef) (a' := ?_) LI6724 rfl rfl (any_of HT_.out (by kernel_rfl)) (fun _ _ _ h => h) (Or.inr ⟨by rfl, rfl⟩) ?_ ?_); rotate_left
         ·go_simp; rfl
         (refine pure_ (i := 26) (N := some 49) (v := undef) (a' := ?_) LI6725 rfl rfl (any_of HT_.out (by kernel_rfl)) (fun _ _ _ h => h) (Or.inr ⟨by rfl, rfl⟩) ?_ ?_); rotate_left
         ·go_simp; rfl
         (refine pure_ (i := 27) (N := some 50) (v := undef) (a' := ?_) LI6726 rfl rfl (any_of HT_.out (by kernel_rfl)) (fun _ _ _ h => h) (Or.inr ⟨by rfl, rfl⟩) ?_ ?_); rotate_left
         ·go_simp; rfl
         (refine pure_ (i := 28) (N := some 51) (v := undef) (a' := ?_) LI6734 rfl rfl (any_of HT_.out (by kernel_rfl)) (fun _ _ _ h => h) (Or.inr ⟨by rfl, rfl⟩) ?_ ?_); rotate_left
         ·go_simp; rfl
         (refine pure_ (i := 29) (N := some 52) (v := undef) (a' := ?_) LI6735 rfl rfl (any_of HT_.out (by kernel_rfl)) (fun _ _ _ h => h) (Or.inr ⟨by rfl, rfl⟩) ?_ ?_); rotate_left
         ·go_simp; rfl
         (refine pure_ (i := 30) (N := some 53) (v := undef) (a' := ?_) LI6736 rfl rfl (any_of HT_.out (by kernel_rfl)) (fun _ _ _ h => h) (Or.inr ⟨by rfl, rfl⟩) ?_ ?_); rotate_left
         ·go_simp; rfl
         (refine pure_ (i := 31) (N := some 54) (v := undef) (a' := ?_) LI6727 rfl rfl (any_of HT_.out (by kernel_rfl)) (fun _ _ _ h => h) (Or.inr ⟨by rfl, rfl⟩) ?_ ?_); rotate_left
         ·go_simp; rfl
         (refine pure_ (i := 32) (N := some 55) (v := undef) (a' := ?_) LI6728 rfl rfl (any_of HT_.out (by kernel_rfl)) (fun _ _ _ h => h) (Or.inr ⟨by rfl, rfl⟩) ?_ ?_); rotate_left
         ·go_simp; rfl
         (refine pure_ (i := 33) (N := some 56) (v := undef) (a' := ?_) LI6729 rfl rfl (any_of HT_.out (by kernel_rfl)) (fun _ _ _ h => h) (Or.inr ⟨by rfl, rfl⟩) ?_ ?_); rotate_left
         ·go_simp; rfl
         (refine pure_ (i := 34) (N := some 57) (v := undef) (a' := ?_) LI6730 rfl rfl (any_of HT_.out (by kernel_rfl)) (fun _ _ _ h => h) (Or.inr ⟨by rfl, rfl⟩) ?_ ?_); rotate_left
         ·go_simp; rfl
         (refine pure_ (i := 35) (N := some 58) (v := undef) (a' := ?_) LI6731 rfl rfl (any_of HT_.out (by kernel_rfl)) (fun _ _ _ h => h) (Or.inr ⟨by rfl, rfl⟩) ?_ ?_); rotate_left
         ·go_simp; rfl
         (refine pure_ (i := 36) (N := some 59) (v := ?_) (a' := ?_) LI6732 rfl rfl (any_of HT_.out (by kernel_rfl)) (fun _ _ _ h => h) (Or.inl ⟨by rfl, ?_⟩) ?_ ?_); rotate_left
         ·intro w'; go_simp; (with_reducible rfl)
         rotate_left
         ·go_simp; rfl
         (refine done_ (done_of HT_.out (by kernel_rfl)) ?_); (try go_wp2); (go_roundg k1)
         case measure => have := HK1.out; omega
         case rel => exact ⟨(x10_1), (wrap64 (x11_1 + 1)), (by first | rfl | (simp; done) | (simp [*]; done)), (by first | rfl | (simp; done) | (simp [*]; done)), H', ⟨by have := HK1.out; omega⟩, ⟨by (with_reducible repeat (first | refine blk_drewN ?_ _ | refine blk_drew ?_ | refine blk_alloc ?_ _)); exact BK103.out⟩, ⟨by repeat (first | (with_reducible first | exact HB.out | apply below_alloc | apply pw_below_drewN | apply below_drew1 | refine below_set ?_ GE103.out | refine below_set ?_ GE105.out) | exact HB.out)⟩⟩
       ·rw [if_neg c10] at H; have c10b0 : decide (a2 < ((rd_T28 l0 x11_1).f2.f1)) = false := decide_eq_false c10; clear c10; have H' := Aside0.mk H; clear H; (have p104 : 0 ≤ (x11_1 : Int) := of_decide_eq_true (by assumption)); (have q104 : x11_1 < (l0.length : Int) := of_decide_eq_true (by assumption)); obtain ⟨ad104, e104, hx104_0, hx104_1, hx104_2, hx104_3, hx104_4, hx104_5, hx104_6, hx104_7⟩ := at_T28 HR0.out x11_1 p104 q104; cases e104; replace hx104_0 := (HB.out.cell (World.block_lt_of_cell? w _ hx104_0)).trans hx104_0; replace hx104_1 := (HB.out.cell (World.block_lt_of_cell? w _ hx104_1)).trans hx104_1; replace hx104_2 := (HB.out.cell (World.block_lt_of_cell? w _ hx104_2)).trans hx104_2; replace hx104_3 := (HB.out.cell (World.block_lt_of_cell? w _ hx104_3)).trans hx104_3; replace hx104_4 := (HB.out.cell (World.block_lt_of_cell? w _ hx104_4)).trans hx104_4; replace hx104_5 := (HB.out.cell (World.block_lt_of_cell? w _ hx104_5)).trans hx104_5; replace hx104_6 := (HB.out.cell (World.block_lt_of_cell? w _ hx104_6)).trans hx104_6; replace hx104_7 := (HB.out.cell (World.block_lt_of_cell? w _ hx104_7)).trans hx104_7; replace p104 := eq_true p104; replace q104 := eq_true q104; (try go_wp2_with (first | ((with_reducible refine gate_dst (N := 12) rfl ?_); refine box_event ?hg (N := 12) ?hd (cs := #[.int .i64 0, .int .i64 0, .int .i64 0, .int .i64 0, .int .i64 0, .int .i64 0, .int .i64 0, .int .i64 0]) (t := 28) ?hr ?_; (case hd => rfl); (case hg => rfl); (case hr => first | (go_simp; done) | (go_simp; rfl)); intro gb105 hg w39 hbox hb; have n0_ := Aside0.mk (blk_below (g := gb103) (o := .cells #[.int .i64 a1_0, .int .i64 a1_1, .int .i64 a1_2] 24 (0, 0)) (by (with_reducible repeat (first | refine blk_drewN ?_ _ | refine blk_drew ?_ | refine blk_alloc ?_ _)); exact BK103.out) hb); have n1_ := Aside0.mk (below_step (by repeat (first | (with_reducible first | exact HB.out | apply below_alloc | apply pw_below_drewN | apply below_drew1 | refine below_set ?_ GE103.out) | exact HB.out)) hb); have n2_ := Aside0.mk (hbox); have n3_ := Aside0.mk ((by rw [hg]; exact (below_size (by repeat (first | (with_reducible first | exact HB.out | apply below_alloc | apply pw_below_drewN | apply below_drew1 | refine below_set ?_ GE103.out) | exact HB.out))) : w.heap.size ≤ gb105)); have n4_ := Aside0.mk ((by rw [hg]; exact (below_size (by repeat (first | (with_reducible first | exact HB.out | apply below_alloc | apply pw_below_drewN | apply below_drew1 | refine below_set ?_ GE103.out) | exact HB.out))) : w.heap.size ≤ gb105)); have n5_ := Aside0.mk ((by rw [hg]; exact Nat.ne_of_lt (blk_lt (g := gb103) (o := .cells #[.int .i64 a1_0, .int .i64 a1_1, .int .i64 a1_2] 24 (0, 0)) (by (with_reducible repeat (first | refine blk_drewN ?_ _ | refine blk_drew ?_ | refine blk_alloc ?_ _)); exact BK103.out)) : gb103 ≠ gb105)); have n6_ := Aside0.mk ((by rw [hg]; exact Nat.ne_of_gt (blk_lt (g := gb103) (o := .cells #[.int .i64 a1_0, .int .i64 a1_1, .int .i64 a1_2] 24 (0, 0)) (by (with_reducible repeat (first | refine blk_drewN ?_ _ | refine blk_drew ?_ | refine blk_alloc ?_ _)); exact BK103.out)) : gb105 ≠ gb103)); clear BK103; clear HB; have BK103 := n0_; have HB := n1_; have BK105 := n2_; have GW105 := n3_; have GE105 := n4_; have NB103_105 := n5_; have NB105_103 := n6_; clear n0_ n1_ n2_ n3_ n4_ n5_ n6_; clear hb hbox hg; have hnb40 := NB105_103.out; have hnc40 := NB103_105.out; have hcz41_0 : w39.cell? ⟨gb105, 0, none⟩ = some (.int .i64 0) := (blk_cell BK105.out 0).trans rfl; have hcz41_1 : w39.cell? ⟨gb105, 1, none⟩ = some (.int .i64 0) := (blk_cell BK105.out 1).trans rfl; have hcz41_2 : w39.cell? ⟨gb105, 2, none⟩ = some (.int .i64 0) := (blk_cell BK105.out 2).trans rfl; have hcz41_3 : w39.cell? ⟨gb105, 3, none⟩ = some (.int .i64 0) := (blk_cell BK105.out 3).trans rfl; have hcz41_4 : w39.cell? ⟨gb105, 4, none⟩ = some (.int .i64 0) := (blk_cell BK105.out 4).trans rfl; have hcz41_5 : w39.cell? ⟨gb105, 5, none⟩ = some (.int .i64 0) := (blk_cell BK105.out 5).trans rfl; have hcz41_6 : w39.cell? ⟨gb105, 6, none⟩ = some (.int .i64 0) := (blk_cell BK105.out 6).trans rfl; have hcz41_7 : w39.cell? ⟨gb105, 7, none⟩ = some (.int .i64 0) := (blk_cell BK105.out 7).trans rfl; have hfz41_0 := blk_frozen BK105.out 0; have hfz41_1 := blk_frozen BK105.out 1; have hfz41_2 := blk_frozen BK105.out 2; have hfz41_3 := blk_frozen BK105.out 3; have hfz41_4 := blk_frozen BK105.out 4; have hfz41_5 := blk_frozen BK105.out 5; have hfz41_6 := blk_frozen BK105.out 6; have hfz41_7 := blk_frozen BK105.out 7)))
        (have n0_ : Aside0 (((((((((w39.setCell ⟨gb105, 0, none⟩ (.int .i64 ((rd_T28 l0 x11_1).f0.f0))).setCell ⟨gb105, 1, none⟩ (.int .i64 ((rd_T28 l0 x11_1).f0.f1))).setCell ⟨gb105, 2, none⟩ (.int .i64 ((rd_T28 l0 x11_1).f0.f2))).setCell ⟨gb105, 3, none⟩ (.int .i64 ((rd_T28 l0 x11_1).f1))).setCell ⟨gb105, 4, none⟩ (.int .i64 ((rd_T28 l0 x11_1).f2.f0))).setCell ⟨gb105, 5, none⟩ (.int .i64 ((rd_T28 l0 x11_1).f2.f1))).setCell ⟨gb105, 6, none⟩ (.int .i64 ((rd_T28 l0 x11_1).f3))).setCell ⟨gb105, 7, none⟩ (.int .i64 ((rd_T28 l0 x11_1).f4))).heap[gb103]? = some (.cells #[.int .i64 a1_0, .int .i64 a1_1, .int .i64 a1_2] 24 (0, 0))) := ⟨by (with_reducible repeat (first | refine blk_drewN ?_ _ | refine blk_drew ?_ | refine blk_alloc ?_ _)); refine blk_far ?_ NB103_105.out _; (with_reducible repeat (first | refine blk_drewN ?_ _ | refine blk_drew ?_ | refine blk_alloc ?_ _)); refine blk_far ?_ NB103_105.out _; (with_reducible repeat (first | refine blk_drewN ?_ _ | refine blk_drew ?_ | refine blk_alloc ?_ _)); refine blk_far ?_ NB103_105.out _; (with_reducible repeat (first | refine blk_drewN ?_ _ | refine blk_drew ?_ | refine blk_alloc ?_ _)); refine blk_far ?_ NB103_105.out _; (with_reducible repeat (first | refine blk_drewN ?_ _ | refine blk_drew ?_ | refine blk_alloc ?_ _)); refine blk_far ?_ NB103_105.out _; (with_reducible repeat (first | refine blk_drewN ?_ _ | refine blk_drew ?_ | refine blk_alloc ?_ _)); refine blk_far ?_ NB103_105.out _; (with_reducible repeat (first | refine blk_drewN ?_ _ | refine blk_drew ?_ | refine blk_alloc ?_ _)); refine blk_far ?_ NB103_105.out _; (with_reducible repeat (first | refine blk_drewN ?_ _ | refine blk_drew ?_ | refine blk_alloc ?_ _)); refine blk_far ?_ NB103_105.out _; (with_reducible repeat (first | refine blk_drewN ?_ _ | refine blk_drew ?_ | refine blk_alloc ?_ _)); exact BK103.out⟩); (have n1_ : Aside0 (((((((((w39.setCell ⟨gb105, 0, none⟩ (.int .i64 ((rd_T28 l0 x11_1).f0.f0))).setCell ⟨gb105, 1, none⟩ (.int .i64 ((rd_T28 l0 x11_1).f0.f1))).setCell ⟨gb105, 2, none⟩ (.int .i64 ((rd_T28 l0 x11_1).f0.f2))).setCell ⟨gb105, 3, none⟩ (.int .i64 ((rd_T28 l0 x11_1).f1))).setCell ⟨gb105, 4, none⟩ (.int .i64 ((rd_T28 l0 x11_1).f2.f0))).setCell ⟨gb105, 5, none⟩ (.int .i64 ((rd_T28 l0 x11_1).f2.f1))).setCell ⟨gb105, 6, none⟩ (.int .i64 ((rd_T28 l0 x11_1).f3))).setCell ⟨gb105, 7, none⟩ (.int .i64 ((rd_T28 l0 x11_1).f4))).heap[gb105]? = some (.cells #[.int .i64 ((rd_T28 l0 x11_1).f0.f0), .int .i64 ((rd_T28 l0 x11_1).f0.f1), .int .i64 ((rd_T28 l0 x11_1).f0.f2), .int .i64 ((rd_T28 l0 x11_1).f1), .int .i64 ((rd_T28 l0 x11_1).f2.f0), .int .i64 ((rd_T28 l0 x11_1).f2.f1), .int .i64 ((rd_T28 l0 x11_1).f3), .int .i64 ((rd_T28 l0 x11_1).f4)] 28 (0, 0))) := ⟨by (with_reducible repeat (first | refine blk_drewN ?_ _ | refine blk_drew ?_ | refine blk_alloc ?_ _)); refine blk_put (cs := #[.int .i64 ((rd_T28 l0 x11_1).f0.f0), .int .i64 ((rd_T28 l0 x11_1).f0.f1), .int .i64 ((rd_T28 l0 x11_1).f0.f2), .int .i64 ((rd_T28 l0 x11_1).f1), .int .i64 ((rd_T28 l0 x11_1).f2.f0), .int .i64 ((rd_T28 l0 x11_1).f2.f1), .int .i64 ((rd_T28 l0 x11_1).f3), .int .i64 0]) ?_ 7 _ rfl; (with_reducible repeat (first | refine blk_drewN ?_ _ | refine blk_drew ?_ | refine blk_alloc ?_ _)); refine blk_put (cs := #[.int .i64 ((rd_T28 l0 x11_1).f0.f0), .int .i64 ((rd_T28 l0 x11_1).f0.f1), .int .i64 ((rd_T28 l0 x11_1).f0.f2), .int .i64 ((rd_T28 l0 x11_1).f1), .int .i64 ((rd_T28 l0 x11_1).f2.f0), .int .i64 ((rd_T28 l0 x11_1).f2.f1), .int .i64 0, .int .i64 0]) ?_ 6 _ rfl; (with_reducible repeat (first | refine blk_drewN ?_ _ | refine blk_drew ?_ | refine blk_alloc ?_ _)); refine blk_put (cs := #[.int .i64 ((rd_T28 l0 x11_1).f0.f0), .int .i64 ((rd_T28 l0 x11_1).f0.f1), .int .i64 ((rd_T28 l0 x11_1).f0.f2), .int .i64 ((rd_T28 l0 x11_1).f1), .int .i64 ((rd_T28 l0 x11_1).f2.f0), .int .i64 0, .int .i64 0, .int .i64 0]) ?_ 5 _ rfl; (with_reducible repeat (first | refine blk_drewN ?_ _ | refine blk_drew ?_ | refine blk_alloc ?_ _)); refine blk_put (cs := #[.int .i64 ((rd_T28 l0 x11_1).f0.f0), .int .i64 ((rd_T28 l0 x11_1).f0.f1), .int .i64 ((rd_T28 l0 x11_1).f0.f2), .int .i64 ((rd_T28 l0 x11_1).f1), .int .i64 0, .int .i64 0, .int .i64 0, .int .i64 0]) ?_ 4 _ rfl; (with_reducible repeat (first | refine blk_drewN ?_ _ | refine blk_drew ?_ | refine blk_alloc ?_ _)); refine blk_put (cs := #[.int .i64 ((rd_T28 l0 x11_1).f0.f0), .int .i64 ((rd_T28 l0 x11_1).f0.f1), .int .i64 ((rd_T28 l0 x11_1).f0.f2), .int .i64 0, .int .i64 0, .int .i64 0, .int .i64 0, .int .i64 0]) ?_ 3 _ rfl; (with_reducible repeat (first | refine blk_drewN ?_ _ | refine blk_drew ?_ | refine blk_alloc ?_ _)); refine blk_put (cs := #[.int .i64 ((rd_T28 l0 x11_1).f0.f0), .int .i64 ((rd_T28 l0 x11_1).f0.f1), .int .i64 0, .int .i64 0, .int .i64 0, .int .i64 0, .int .i64 0, .int .i64 0]) ?_ 2 _ rfl; (with_reducible repeat (first | refine blk_drewN ?_ _ | refine blk_drew ?_ | refine blk_alloc ?_ _)); refine blk_put (cs := #[.int .i64 ((rd_T28 l0 x11_1).f0.f0), .int .i64 0, .int .i64 0, .int .i64 0, .int .i64 0, .int .i64 0, .int .i64 0, .int .i64 0]) ?_ 1 _ rfl; (with_reducible repeat (first | refine blk_drewN ?_ _ | refine blk_drew ?_ | refine blk_alloc ?_ _)); refine blk_put (cs := #[.int .i64 0, .int .i64 0, .int .i64 0, .int .i64 0, .int .i64 0, .int .i64 0, .int .i64 0, .int .i64 0]) ?_ 0 _ rfl; (with_reducible repeat (first | refine blk_drewN ?_ _ | refine blk_drew ?_ | refine blk_alloc ?_ _)); exact BK105.out⟩)
        (have n2_ : Aside0 (Below w.heap.size w ((((((((w39.setCell ⟨gb105, 0, none⟩ (.int .i64 ((rd_T28 l0 x11_1).f0.f0))).setCell ⟨gb105, 1, none⟩ (.int .i64 ((rd_T28 l0 x11_1).f0.f1))).setCell ⟨gb105, 2, none⟩ (.int .i64 ((rd_T28 l0 x11_1).f0.f2))).setCell ⟨gb105, 3, none⟩ (.int .i64 ((rd_T28 l0 x11_1).f1))).setCell ⟨gb105, 4, none⟩ (.int .i64 ((rd_T28 l0 x11_1).f2.f0))).setCell ⟨gb105, 5, none⟩ (.int .i64 ((rd_T28 l0 x11_1).f2.f1))).setCell ⟨gb105, 6, none⟩ (.int .i64 ((rd_T28 l0 x11_1).f3))).setCell ⟨gb105, 7, none⟩ (.int .i64 ((rd_T28 l0 x11_1).f4)))) := ⟨by repeat (first | (with_reducible first | exact HB.out | apply below_alloc | apply pw_below_drewN | apply below_drew1 | refine below_set ?_ GE103.out | refine below_set ?_ GE105.out) | exact HB.out)⟩); ((try clear BK103)); ((try clear BK105)); ((try clear HB)); generalize ((((((((w39.setCell ⟨gb105, 0, none⟩ (.int .i64 ((rd_T28 l0 x11_1).f0.f0))).setCell ⟨gb105, 1, none⟩ (.int .i64 ((rd_T28 l0 x11_1).f0.f1))).setCell ⟨gb105, 2, none⟩ (.int .i64 ((rd_T28 l0 x11_1).f0.f2))).setCell ⟨gb105, 3, none⟩ (.int .i64 ((rd_T28 l0 x11_1).f1))).setCell ⟨gb105, 4, none⟩ (.int .i64 ((rd_T28 l0 x11_1).f2.f0))).setCell ⟨gb105, 5, none⟩ (.int .i64 ((rd_T28 l0 x11_1).f2.f1))).setCell ⟨gb105, 6, none⟩ (.int .i64 ((rd_T28 l0 x11_1).f3))).setCell ⟨gb105, 7, none⟩ (.int .i64 ((rd_T28 l0 x11_1).f4))) = w42 at n0_ n1_ n2_ ⊢; have BK103 := n0_; have BK105 := n1_; have HB := n2_; clear n0_ n1_ n2_; have n0_ := Aside0.mk (blk_drew BK103.out); have n1_ := Aside0.mk (blk_drew BK105.out); have n2_ := Aside0.mk (below_drew1 HB.out); clear BK103; clear BK105; clear HB; have BK103 := n0_; have BK105 := n1_; have HB := n2_; clear n0_ n1_ n2_; (refine start_ (n := 37) (S := fun w' => w'.cell? ⟨gb105, 0, none⟩ = some (.int .i64 ((rd_T28 l0 x11_1).f0.f0)) ∧ w'.cell? ⟨gb105, 1, none⟩ = some (.int .i64 ((rd_T28 l0 x11_1).f0.f1)) ∧ w'.cell? ⟨gb105, 2, none⟩ = some (.int .i64 ((rd_T28 l0 x11_1).f0.f2)) ∧ w'.cell? ⟨gb105, 3, none⟩ = some (.int .i64 ((rd_T28 l0 x11_1).f1)) ∧ w'.cell? ⟨gb105, 4, none⟩ = some (.int .i64 ((rd_T28 l0 x11_1).f2.f0)) ∧ w'.cell? ⟨gb105, 5, none⟩ = some (.int .i64 ((rd_T28 l0 x11_1).f2.f1)) ∧ w'.cell? ⟨gb105, 6, none⟩ = some (.int .i64 ((rd_T28 l0 x11_1).f3)) ∧ w'.cell? ⟨gb105, 7, none⟩ = some (.int .i64 ((rd_T28 l0 x11_1).f4)) ∧ w'.cell? ⟨gb103, 0, none⟩ = some (.int .i64 a1_0) ∧ w'.cell? ⟨gb103, 1, none⟩ = some (.int .i64 a1_1) ∧ w'.cell? ⟨gb103, 2, none⟩ = some (.int .i64 a1_2)) (ds := []) LI670 (by kernel_rfl) rfl rfl ⟨(blk_cell BK105.out 0).trans rfl, (blk_cell BK105.out 1).trans rfl, (blk_cell BK105.out 2).trans rfl, (blk_cell BK105.out 3).trans rfl, (blk_cell BK105.out 4).trans rfl, (blk_cell BK105.out 5).trans rfl, (blk_cell BK105.out 6).trans rfl, (blk_cell BK105.out 7).trans rfl, (blk_cell BK103.out 0).trans rfl, (blk_cell BK103.out 1).trans rfl, (blk_cell BK103.out 2).trans rfl⟩ (fun hHeld => ?_); refine with_tabW refAtP.tab6 refAtP.bits6 (fun HT_ HW_ => ?_)); generalize w42.drew = w43 at BK103 BK105 HB hHeld ⊢; (refine pure_ (i := 0) (N := some 23) (v := ?_) (a' := ?_) LI671 rfl rfl (any_of HT_.out (by kernel_rfl)) (fun _ _ _ h => h) (Or.inl ⟨by rfl, ?_⟩) ?_ ?_); rotate_left
        ·intro w'; go_simp; (with_reducible rfl)
        rotate_left
        ·go_simp; rfl
        (refine take_ (i := 1) (N := some 24) (v := ?_) (a' := ?_) LI672 rfl rfl (take_ofW HT_.out HW_.out (by kernel_rfl)) (fun _ _ _ h => h) (Or.inl ⟨by rfl, ?_⟩) hHeld ?_ ?_); rotate_left
        ·rintro w' ⟨s0, s1, s2, s3, s4, s5, s6, s7, s8, s9, s10⟩; go_simp; (with_reducible rfl)
        rotate_left
        ·go_simp; rfl
        (refine take_ (i := 2) (N := some 25) (v := ?_) (a' := ?_) LI673 rfl rfl (take_ofW HT_.out HW_.out (by kernel_rfl)) (fun _ _ _ h => h) (Or.inl ⟨by rfl, ?_⟩) hHeld ?_ ?_); rotate_left
        ·rintro w' ⟨s0, s1, s2, s3, s4, s5, s6, s7, s8, s9, s10⟩; go_simp; (with_reducible rfl)
        rotate_left
        ·go_simp; rfl
        (refine pure_ (i := 3) (N := some 26) (v := ?_) (a' := ?_) LI674 rfl rfl (any_of HT_.out (by kernel_rfl)) (fun _ _ _ h => h) (Or.inl ⟨by rfl, ?_⟩) ?_ ?_); rotate_left
        ·intro w'; go_simp; (with_reducible rfl)
        rotate_left
        ·go_simp; rfl
        (refine pure_ (i := 4) (N := some 27) (v := ?_) (a' := ?_) LI675 rfl rfl (any_of HT_.out (by kernel_rfl)) (fun _ _ _ h => h) (Or.inl ⟨by rfl, ?_⟩) ?_ ?_); rotate_left
        ·intro w'; go_simp; (with_reducible rfl)
        rotate_left
        ·go_simp; rfl
        (refine pure_ (i := 5) (N := some 28) (v := ?_) (a' := ?_) LI676 rfl rfl (any_of HT_.out (by kernel_rfl)) (fun _ _ _ h => h) (Or.inl ⟨by rfl, ?_⟩) ?_ ?_); rotate_left
        ·intro w'; go_simp; (with_reducible rfl)
        rotate_left
        ·go_simp; rfl
        (refine pure_ (i := 6) (N := some 29) (v := ?_) (a' := ?_) LI677 rfl rfl (any_of HT_.out (by kernel_rfl)) (fun _ _ _ h => h) (Or.inl ⟨by rfl, ?_⟩) ?_ ?_); rotate_left
        ·intro w'; go_simp; (with_reducible rfl)
        rotate_left
        ·go_simp; rfl
        (refine pure_ (i := 8) (N := some 31) (v := ?_) (a' := ?_) LI6733 rfl rfl (any_of HT_.out (by kernel_rfl)) (fun _ _ _ h => h) (Or.inl ⟨by rfl, ?_⟩) ?_ ?_); rotate_left
        ·intro w'; go_simp; (with_reducible rfl)
        rotate_left
        ·go_simp; rfl
        (refine take_ (i := 7) (N := some 30) (v := ?_) (a' := ?_) LI678 rfl rfl (take_ofW HT_.out HW_.out (by kernel_rfl)) (fun _ _ _ h => h) (Or.inl ⟨by rfl, ?_⟩) hHeld ?_ ?_); rotate_left
        ·rintro w' ⟨s0, s1, s2, s3, s4, s5, s6, s7, s8, s9, s10⟩; go_simp; (with_reducible rfl)
        rotate_left
        ·go_simp; rfl
        (refine pure_ (i := 9) (N := some 32) (v := ?_) (a' := ?_) LI679 rfl rfl (any_of HT_.out (by kernel_rfl)) (fun _ _ _ h => h) (Or.inl ⟨by rfl, ?_⟩) ?_ ?_); rotate_left
        ·intro w'; go_simp; (with_reducible rfl)
        rotate_left
        ·go_simp; rfl
        (refine pure_ (i := 10) (N := some 33) (v := ?_) (a' := ?_) LI6710 rfl rfl (any_of HT_.out (by kernel_rfl)) (fun _ _ _ h => h) (Or.inl ⟨by rfl, ?_⟩) ?_ ?_); rotate_left
        ·intro w'; go_simp; (with_reducible rfl)
        rotate_left
        ·go_simp; rfl
        (refine pure_ (i := 11) (N := some 34) (v := ?_) (a' := ?_) LI6711 rfl rfl (any_of HT_.out (by kernel_rfl)) (fun _ _ _ h => h) (Or.inl ⟨by rfl, ?_⟩) ?_ ?_); rotate_left
        ·intro w'; go_simp; (with_reducible rfl)
        rotate_left
        ·go_simp; rfl
        (refine pure_ (i := 12) (N := some 35) (v := ?_) (a' := ?_) LI6712 rfl rfl (any_of HT_.out (by kernel_rfl)) (fun _ _ _ h => h) (Or.inl ⟨by rfl, ?_⟩) ?_ ?_); rotate_left
        ·intro w'; go_simp; (with_reducible rfl)
        rotate_left
        ·go_simp; rfl
        (refine pure_ (i := 13) (N := some 36) (v := ?_) (a' := ?_) LI6713 rfl rfl (any_of HT_.out (by kernel_rfl)) (fun _ _ _ h => h) (Or.inl ⟨by rfl, ?_⟩) ?_ ?_); rotate_left
        ·intro w'; go_simp; (with_reducible rfl)
        rotate_left
        ·go_simp; rfl
        (refine pure_ (i := 14) (N := some 37) (v := ?_) (a' := ?_) LI6714 rfl rfl (any_of HT_.out (by kernel_rfl)) (fun _ _ _ h => h) (Or.inl ⟨by rfl, ?_⟩) ?_ ?_); rotate_left
        ·intro w'; go_simp; (with_reducible rfl)
        rotate_left
        ·go_simp; rfl
        (refine take_ (i := 15) (N := some 38) (v := ?_) (a' := ?_) LI6715 rfl rfl (take_ofW HT_.out HW_.out (by kernel_rfl)) (fun _ _ _ h => h) (Or.inl ⟨by rfl, ?_⟩) hHeld ?_ ?_); rotate_left
        ·rintro w' ⟨s0, s1, s2, s3, s4, s5, s6, s7, s8, s9, s10⟩; go_simp; (with_reducible rfl)
        rotate_left
        ·go_simp; rfl
        (refine pure_ (i := 16) (N := some 39) (v := ?_) (a' := ?_) LI6716 rfl rfl (any_of HT_.out (by kernel_rfl)) (fun _ _ _ h => h) (Or.inl ⟨by rfl, ?_⟩) ?_ ?_); rotate_left
        ·intro w'; go_simp; (with_reducible rfl)
        rotate_left
        ·go_simp; rfl
        (refine pure_ (i := 17) (N := some 40) (v := ?_) (a' := ?_) LI6717 rfl rfl (any_of HT_.out (by kernel_rfl)) (fun _ _ _ h => h) (Or.inl ⟨by rfl, ?_⟩) ?_ ?_); rotate_left
        ·intro w'; go_simp; (with_reducible rfl)
        rotate_left
        ·go_simp; rfl
        (refine pure_ (i := 18) (N := some 41) (v := ?_) (a' := ?_) LI6718 rfl rfl (any_of HT_.out (by kernel_rfl)) (fun _ _ _ h => h) (Or.inl ⟨by rfl, ?_⟩) ?_ ?_); rotate_left
        ·intro w'; go_simp; (with_reducible rfl)
        rotate_left
        ·go_simp; rfl
        (refine pure_ (i := 19) (N := some 42) (v := undef) (a' := ?_) LI6719 rfl rfl (any_of HT_.out (by kernel_rfl)) (fun _ _ _ h => h) (Or.inr ⟨by rfl, rfl⟩) ?_ ?_); rotate_left
        ·go_simp; rfl
        (refine pure_ (i := 20) (N := some 43) (v := undef) (a' := ?_) LI6738 rfl rfl (any_of HT_.out (by kernel_rfl)) (fun _ _ _ h => h) (Or.inr ⟨by rfl, rfl⟩) ?_ ?_); rotate_left
        ·go_simp; rfl
        (refine pure_ (i := 21) (N := some 44) (v := undef) (a' := ?_) LI6720 rfl rfl (any_of HT_.out (by kernel_rfl)) (fun _ _ _ h => h) (Or.inr ⟨by rfl, rfl⟩) ?_ ?_); rotate_left
        ·go_simp; rfl
        (refine pure_ (i := 22) (N := some 45) (v := undef) (a' := ?_) LI6721 rfl rfl (any_of HT_.out (by kernel_rfl)) (fun _ _ _ h => h) (Or.inr ⟨by rfl, rfl⟩) ?_ ?_); rotate_left
        ·go_simp; rfl
        (refine pure_ (i := 23) (N := some 46) (v := ?_) (a' := ?_) LI6722 rfl rfl (any_of HT_.out (by kernel_rfl)) (fun _ _ _ h => h) (Or.inl ⟨by rfl, ?_⟩) ?_ ?_); rotate_left
        ·intro w'; go_simp; (with_reducible rfl)
        rotate_left
        ·go_simp; rfl
        (refine pure_ (i := 24) (N := some 47) (v := ?_) (a' := ?_) LI6723 rfl rfl (any_of HT_.out (by kernel_rfl)) (fun _ _ _ h => h) (Or.inl ⟨by rfl, ?_⟩) ?_ ?_); rotate_left
        ·intro w'; go_simp; (with_reducible rfl)
        rotate_left
        ·go_simp; rfl
        (refine pure_ (i := 25) (N := some 48) (v := undef) (a' := ?_) LI6724 rfl rfl (any_of HT_.out (by kernel_rfl)) (fun _ _ _ h => h) (Or.inr ⟨by rfl, rfl⟩) ?_ ?_); rotate_left
        ·go_simp; rfl
        (refine pure_ (i := 26) (N := some 49) (v := undef) (a' := ?_) LI6725 rfl rfl (any_of HT_.out (by kernel_rfl)) (fun _ _ _ h => h) (Or.inr ⟨by rfl, rfl⟩) ?_ ?_); rotate_left
        ·go_simp; rfl
        (refine pure_ (i := 27) (N := some 50) (v := undef) (a' := ?_) LI6726 rfl rfl (any_of HT_.out (by kernel_rfl)) (fun _ _ _ h => h) (Or.inr ⟨by rfl, rfl⟩) ?_ ?_); rotate_left
        ·go_simp; rfl
        (refine pure_ (i := 28) (N := some 51) (v := undef) (a' := ?_) LI6734 rfl rfl (any_of HT_.out (by kernel_rfl)) (fun _ _ _ h => h) (Or.inr ⟨by rfl, rfl⟩) ?_ ?_); rotate_left
        ·go_simp; rfl
        (refine pure_ (i := 29) (N := some 52) (v := undef) (a' := ?_) LI6735 rfl rfl (any_of HT_.out (by kernel_rfl)) (fun _ _ _ h => h) (Or.inr ⟨by rfl, rfl⟩) ?_ ?_); rotate_left
        ·go_simp; rfl
        (refine pure_ (i := 30) (N := some 53) (v := undef) (a' := ?_) LI6736 rfl rfl (any_of HT_.out (by kernel_rfl)) (fun _ _ _ h => h) (Or.inr ⟨by rfl, rfl⟩) ?_ ?_); rotate_left
        ·go_simp; rfl
        (refine pure_ (i := 31) (N := some 54) (v := undef) (a' := ?_) LI6727 rfl rfl (any_of HT_.out (by kernel_rfl)) (fun _ _ _ h => h) (Or.inr ⟨by rfl, rfl⟩) ?_ ?_); rotate_left
        ·go_simp; rfl
        (refine pure_ (i := 32) (N := some 55) (v := undef) (a' := ?_) LI6728 rfl rfl (any_of HT_.out (by kernel_rfl)) (fun _ _ _ h => h) (Or.inr ⟨by rfl, rfl⟩) ?_ ?_); rotate_left
        ·go_simp; rfl
        (refine pure_ (i := 33) (N := some 56) (v := undef) (a' := ?_) LI6729 rfl rfl (any_of HT_.out (by kernel_rfl)) (fun _ _ _ h => h) (Or.inr ⟨by rfl, rfl⟩) ?_ ?_); rotate_left
        ·go_simp; rfl
        (refine pure_ (i := 34) (N := some 57) (v := undef) (a' := ?_) LI6730 rfl rfl (any_of HT_.out (by kernel_rfl)) (fun _ _ _ h => h) (Or.inr ⟨by rfl, rfl⟩) ?_ ?_); rotate_left
        ·go_simp; rfl
        (refine pure_ (i := 35) (N := some 58) (v := undef) (a' := ?_) LI6731 rfl rfl (any_of HT_.out (by kernel_rfl)) (fun _ _ _ h => h) (Or.inr ⟨by rfl, rfl⟩) ?_ ?_); rotate_left
        ·go_simp; rfl
        (refine pure_ (i := 36) (N := some 59) (v := ?_) (a' := ?_) LI6732 rfl rfl (any_of HT_.out (by kernel_rfl)) (fun _ _ _ h => h) (Or.inl ⟨by rfl, ?_⟩) ?_ ?_); rotate_left
        ·intro w'; go_simp; (with_reducible rfl)
        rotate_left
        ·go_simp; rfl
        (refine done_ (done_of HT_.out (by kernel_rfl)) ?_); (try go_wp2); (go_roundg k1)
        case measure => have := HK1.out; omega
        case rel => exact ⟨(x10_1), (wrap64 (x11_1 + 1)), (by first | rfl | (simp; done) | (simp [*]; done)), (by first | rfl | (simp; done) | (simp [*]; done)), H', ⟨by have := HK1.out; omega⟩, ⟨by (with_reducible repeat (first | refine blk_drewN ?_ _ | refine blk_drew ?_ | refine blk_alloc ?_ _)); exact BK103.out⟩, ⟨by repeat (first | (with_reducible first | exact HB.out | apply below_alloc | apply pw_below_drewN | apply below_drew1 | refine below_set ?_ GE103.out | refine below_set ?_ GE105.out) | exact HB.out)⟩⟩
      ·rw [if_neg c9] at H; have c9b0 : decide (((rd_T28 l0 x11_1).f2.f0) ≤ a2) = false := decide_eq_false c9; clear c9; have H' := Aside0.mk H; clear H; (have p104 : 0 ≤ (x11_1 : Int) := of_decide_eq_true (by assumption)); (have q104 : x11_1 < (l0.length : Int) := of_decide_eq_true (by assumption)); obtain ⟨ad104, e104, hx104_0, hx104_1, hx104_2, hx104_3, hx104_4, hx104_5, hx104_6, hx104_7⟩ := at_T28 HR0.out x11_1 p104 q104; cases e104; replace hx104_0 := (HB.out.cell (World.block_lt_of_cell? w _ hx104_0)).trans hx104_0; replace hx104_1 := (HB.out.cell (World.block_lt_of_cell? w _ hx104_1)).trans hx104_1; replace hx104_2 := (HB.out.cell (World.block_lt_of_cell? w _ hx104_2)).trans hx104_2; replace hx104_3 := (HB.out.cell (World.block_lt_of_cell? w _ hx104_3)).trans hx104_3; replace hx104_4 := (HB.out.cell (World.block_lt_of_cell? w _ hx104_4)).trans hx104_4; replace hx104_5 := (HB.out.cell (World.block_lt_of_cell? w _ hx104_5)).trans hx104_5; replace hx104_6 := (HB.out.cell (World.block_lt_of_cell? w _ hx104_6)).trans hx104_6; replace hx104_7 := (HB.out.cell (World.block_lt_of_cell? w _ hx104_7)).trans hx104_7; replace p104 := eq_true p104; replace q104 := eq_true q104; (try go_wp2_with (first | ((with_reducible refine gate_dst (N := 12) rfl ?_); refine box_event ?hg (N := 12) ?hd (cs := #[.int .i64 0, .int .i64 0, .int .i64 0, .int .i64 0, .int .i64 0, .int .i64 0, .int .i64 0, .int .i64 0]) (t := 28) ?hr ?_; (case hd => rfl); (case hg => rfl); (case hr => first | (go_simp; done) | (go_simp; rfl)); intro gb105 hg w44 hbox hb; have n0_ := Aside0.mk (blk_below (g := gb103) (o := .cells #[.int .i64 a1_0, .int .i64 a1_1, .int .i64 a1_2] 24 (0, 0)) (by (with_reducible repeat (first | refine blk_drewN ?_ _ | refine blk_drew ?_ | refine blk_alloc ?_ _)); exact BK103.out) hb); have n1_ := Aside0.mk (below_step (by repeat (first | (with_reducible first | exact HB.out | apply below_alloc | apply pw_below_drewN | apply below_drew1 | refine below_set ?_ GE103.out) | exact HB.out)) hb); have n2_ := Aside0.mk (hbox); have n3_ := Aside0.mk ((by rw [hg]; exact (below_size (by repeat (first | (with_reducible first | exact HB.out | apply below_alloc | apply pw_below_drewN | apply below_drew1 | refine below_set ?_ GE103.out) | exact HB.out))) : w.heap.size ≤ gb105)); have n4_ := Aside0.mk ((by rw [hg]; exact (below_size (by repeat (first | (with_reducible first | exact HB.out | apply below_alloc | apply pw_below_drewN | apply below_drew1 | refine below_set ?_ GE103.out) | exact HB.out))) : w.heap.size ≤ gb105)); have n5_ := Aside0.mk ((by rw [hg]; exact Nat.ne_of_lt (blk_lt (g := gb103) (o := .cells #[.int .i64 a1_0, .int .i64 a1_1, .int .i64 a1_2] 24 (0, 0)) (by (with_reducible repeat (first | refine blk_drewN ?_ _ | refine blk_drew ?_ | refine blk_alloc ?_ _)); exact BK103.out)) : gb103 ≠ gb105)); have n6_ := Aside0.mk ((by rw [hg]; exact Nat.ne_of_gt (blk_lt (g := gb103) (o := .cells #[.int .i64 a1_0, .int .i64 a1_1, .int .i64 a1_2] 24 (0, 0)) (by (with_reducible repeat (first | refine blk_drewN ?_ _ | refine blk_drew ?_ | refine blk_alloc ?_ _)); exact BK103.out)) : gb105 ≠ gb103)); clear BK103; clear HB; have BK103 := n0_; have HB := n1_; have BK105 := n2_; have GW105 := n3_; have GE105 := n4_; have NB103_105 := n5_; have NB105_103 := n6_; clear n0_ n1_ n2_ n3_ n4_ n5_ n6_; clear hb hbox hg; have hnb45 := NB105_103.out; have hnc45 := NB103_105.out; have hcz46_0 : w44.cell? ⟨gb105, 0, none⟩ = some (.int .i64 0) := (blk_cell BK105.out 0).trans rfl; have hcz46_1 : w44.cell? ⟨gb105, 1, none⟩ = some (.int .i64 0) := (blk_cell BK105.out 1).trans rfl; have hcz46_2 : w44.cell? ⟨gb105, 2, none⟩ = some (.int .i64 0) := (blk_cell BK105.out 2).trans rfl; have hcz46_3 : w44.cell? ⟨gb105, 3, none⟩ = some (.int .i64 0) := (blk_cell BK105.out 3).trans rfl; have hcz46_4 : w44.cell? ⟨gb105, 4, none⟩ = some (.int .i64 0) := (blk_cell BK105.out 4).trans rfl; have hcz46_5 : w44.cell? ⟨gb105, 5, none⟩ = some (.int .i64 0) := (blk_cell BK105.out 5).trans rfl; have hcz46_6 : w44.cell? ⟨gb105, 6, none⟩ = some (.int .i64 0) := (blk_cell BK105.out 6).trans rfl; have hcz46_7 : w44.cell? ⟨gb105, 7, none⟩ = some (.int .i64 0) := (blk_cell BK105.out 7).trans rfl; have hfz46_0 := blk_frozen BK105.out 0; have hfz46_1 := blk_frozen BK105.out 1; have hfz46_2 := blk_frozen BK105.out 2; have hfz46_3 := blk_frozen BK105.out 3; have hfz46_4 := blk_frozen BK105.out 4; have hfz46_5 := blk_frozen BK105.out 5; have hfz46_6 := blk_frozen BK105.out 6; have hfz46_7 := blk_frozen BK105.out 7)))
       (have n0_ : Aside0 (((((((((w44.setCell ⟨gb105, 0, none⟩ (.int .i64 ((rd_T28 l0 x11_1).f0.f0))).setCell ⟨gb105, 1, none⟩ (.int .i64 ((rd_T28 l0 x11_1).f0.f1))).setCell ⟨gb105, 2, none⟩ (.int .i64 ((rd_T28 l0 x11_1).f0.f2))).setCell ⟨gb105, 3, none⟩ (.int .i64 ((rd_T28 l0 x11_1).f1))).setCell ⟨gb105, 4, none⟩ (.int .i64 ((rd_T28 l0 x11_1).f2.f0))).setCell ⟨gb105, 5, none⟩ (.int .i64 ((rd_T28 l0 x11_1).f2.f1))).setCell ⟨gb105, 6, none⟩ (.int .i64 ((rd_T28 l0 x11_1).f3))).setCell ⟨gb105, 7, none⟩ (.int .i64 ((rd_T28 l0 x11_1).f4))).heap[gb103]? = some (.cells #[.int .i64 a1_0, .int .i64 a1_1, .int .i64 a1_2] 24 (0, 0))) := ⟨by (with_reducible repeat (first | refine blk_drewN ?_ _ | refine blk_drew ?_ | refine blk_alloc ?_ _)); refine blk_far ?_ NB103_105.out _; (with_reducible repeat (first | refine blk_drewN ?_ _ | refine blk_drew ?_ | refine blk_alloc ?_ _)); refine blk_far ?_ NB103_105.out _; (with_reducible repeat (first | refine blk_drewN ?_ _ | refine blk_drew ?_ | refine blk_alloc ?_ _)); refine blk_far ?_ NB103_105.out _; (with_reducible repeat (first | refine blk_drewN ?_ _ | refine blk_drew ?_ | refine blk_alloc ?_ _)); refine blk_far ?_ NB103_105.out _; (with_reducible repeat (first | refine blk_drewN ?_ _ | refine blk_drew ?_ | refine blk_alloc ?_ _)); refine blk_far ?_ NB103_105.out _; (with_reducible repeat (first | refine blk_drewN ?_ _ | refine blk_drew ?_ | refine blk_alloc ?_ _)); refine blk_far ?_ NB103_105.out _; (with_reducible repeat (first | refine blk_drewN ?_ _ | refine blk_drew ?_ | refine blk_alloc ?_ _)); refine blk_far ?_ NB103_105.out _; (with_reducible repeat (first | refine blk_drewN ?_ _ | refine blk_drew ?_ | refine blk_alloc ?_ _)); refine blk_far ?_ NB103_105.out _; (with_reducible repeat (first | refine blk_drewN ?_ _ | refine blk_drew ?_ | refine blk_alloc ?_ _)); exact BK103.out⟩); (have n1_ : Aside0 (((((((((w44.setCell ⟨gb105, 0, none⟩ (.int .i64 ((rd_T28 l0 x11_1).f0.f0))).setCell ⟨gb105, 1, none⟩ (.int .i64 ((rd_T28 l0 x11_1).f0.f1))).setCell ⟨gb105, 2, none⟩ (.int .i64 ((rd_T28 l0 x11_1).f0.f2))).setCell ⟨gb105, 3, none⟩ (.int .i64 ((rd_T28 l0 x11_1).f1))).setCell ⟨gb105, 4, none⟩ (.int .i64 ((rd_T28 l0 x11_1).f2.f0))).setCell ⟨gb105, 5, none⟩ (.int .i64 ((rd_T28 l0 x11_1).f2.f1))).setCell ⟨gb105, 6, none⟩ (.int .i64 ((rd_T28 l0 x11_1).f3))).setCell ⟨gb105, 7, none⟩ (.int .i64 ((rd_T28 l0 x11_1).f4))).heap[gb105]? = some (.cells #[.int .i64 ((rd_T28 l0 x11_1).f0.f0), .int .i64 ((rd_T28 l0 x11_1).f0.f1), .int .i64 ((rd_T28 l0 x11_1).f0.f2), .int .i64 ((rd_T28 l0 x11_1).f1), .int .i64 ((rd_T28 l0 x11_1).f2.f0), .int .i64 ((rd_T28 l0 x11_1).f2.f1), .int .i64 ((rd_T28 l0 x11_1).f3), .int .i64 ((rd_T28 l0 x11_1).f4)] 28 (0, 0))) := ⟨by (with_reducible repeat (first | refine blk_drewN ?_ _ | refine blk_drew ?_ | refine blk_alloc ?_ _)); refine blk_put (cs := #[.int .i64 ((rd_T28 l0 x11_1).f0.f0), .int .i64 ((rd_T28 l0 x11_1).f0.f1), .int .i64 ((rd_T28 l0 x11_1).f0.f2), .int .i64 ((rd_T28 l0 x11_1).f1), .int .i64 ((rd_T28 l0 x11_1).f2.f0), .int .i64 ((rd_T28 l0 x11_1).f2.f1), .int .i64 ((rd_T28 l0 x11_1).f3), .int .i64 0]) ?_ 7 _ rfl; (with_reducible repeat (first | refine blk_drewN ?_ _ | refine blk_drew ?_ | refine blk_alloc ?_ _)); refine blk_put (cs := #[.int .i64 ((rd_T28 l0 x11_1).f0.f0), .int .i64 ((rd_T28 l0 x11_1).f0.f1), .int .i64 ((rd_T28 l0 x11_1).f0.f2), .int .i64 ((rd_T28 l0 x11_1).f1), .int .i64 ((rd_T28 l0 x11_1).f2.f0), .int .i64 ((rd_T28 l0 x11_1).f2.f1), .int .i64 0, .int .i64 0]) ?_ 6 _ rfl; (with_reducible repeat (first | refine blk_drewN ?_ _ | refine blk_drew ?_ | refine blk_alloc ?_ _)); refine blk_put (cs := #[.int .i64 ((rd_T28 l0 x11_1).f0.f0), .int .i64 ((rd_T28 l0 x11_1).f0.f1), .int .i64 ((rd_T28 l0 x11_1).f0.f2), .int .i64 ((rd_T28 l0 x11_1).f1), .int .i64 ((rd_T28 l0 x11_1).f2.f0), .int .i64 0, .int .i64 0, .int .i64 0]) ?_ 5 _ rfl; (with_reducible repeat (first | refine blk_drewN ?_ _ | refine blk_drew ?_ | refine blk_alloc ?_ _)); refine blk_put (cs := #[.int .i64 ((rd_T28 l0 x11_1).f0.f0), .int .i64 ((rd_T28 l0 x11_1).f0.f1), .int .i64 ((rd_T28 l0 x11_1).f0.f2), .int .i64 ((rd_T28 l0 x11_1).f1), .int .i64 0, .int .i64 0, .int .i64 0, .int .i64 0]) ?_ 4 _ rfl; (with_reducible repeat (first | refine blk_drewN ?_ _ | refine blk_drew ?_ | refine blk_alloc ?_ _)); refine blk_put (cs := #[.int .i64 ((rd_T28 l0 x11_1).f0.f0), .int .i64 ((rd_T28 l0 x11_1).f0.f1), .int .i64 ((rd_T28 l0 x11_1).f0.f2), .int .i64 0, .int .i64 0, .int .i64 0, .int .i64 0, .int .i64 0]) ?_ 3 _ rfl; (with_reducible repeat (first | refine blk_drewN ?_ _ | refine blk_drew ?_ | refine blk_alloc ?_ _)); refine blk_put (cs := #[.int .i64 ((rd_T28 l0 x11_1).f0.f0), .int .i64 ((rd_T28 l0 x11_1).f0.f1), .int .i64 0, .int .i64 0, .int .i64 0, .int .i64 0, .int .i64 0, .int .i64 0]) ?_ 2 _ rfl; (with_reducible repeat (first | refine blk_drewN ?_ _ | refine blk_drew ?_ | refine blk_alloc ?_ _)); refine blk_put (cs := #[.int .i64 ((rd_T28 l0 x11_1).f0.f0), .int .i64 0, .int .i64 0, .int .i64 0, .int .i64 0, .int .i64 0, .int .i64 0, .int .i64 0]) ?_ 1 _ rfl; (with_reducible repeat (first | refine blk_drewN ?_ _ | refine blk_drew ?_ | refine blk_alloc ?_ _)); refine blk_put (cs := #[.int .i64 0, .int .i64 0, .int .i64 0, .int .i64 0, .int .i64 0, .int .i64 0, .int .i64 0, .int .i64 0]) ?_ 0 _ rfl; (with_reducible repeat (first | refine blk_drewN ?_ _ | refine blk_drew ?_ | refine blk_alloc ?_ _)); exact BK105.out⟩)
       (have n2_ : Aside0 (Below w.heap.size w ((((((((w44.setCell ⟨gb105, 0, none⟩ (.int .i64 ((rd_T28 l0 x11_1).f0.f0))).setCell ⟨gb105, 1, none⟩ (.int .i64 ((rd_T28 l0 x11_1).f0.f1))).setCell ⟨gb105, 2, none⟩ (.int .i64 ((rd_T28 l0 x11_1).f0.f2))).setCell ⟨gb105, 3, none⟩ (.int .i64 ((rd_T28 l0 x11_1).f1))).setCell ⟨gb105, 4, none⟩ (.int .i64 ((rd_T28 l0 x11_1).f2.f0))).setCell ⟨gb105, 5, none⟩ (.int .i64 ((rd_T28 l0 x11_1).f2.f1))).setCell ⟨gb105, 6, none⟩ (.int .i64 ((rd_T28 l0 x11_1).f3))).setCell ⟨gb105, 7, none⟩ (.int .i64 ((rd_T28 l0 x11_1).f4)))) := ⟨by repeat (first | (with_reducible first | exact HB.out | apply below_alloc | apply pw_below_drewN | apply below_drew1 | refine below_set ?_ GE103.out | refine below_set ?_ GE105.out) | exact HB.out)⟩); ((try clear BK103)); ((try clear BK105)); ((try clear HB)); generalize ((((((((w44.setCell ⟨gb105, 0, none⟩ (.int .i64 ((rd_T28 l0 x11_1).f0.f0))).setCell ⟨gb105, 1, none⟩ (.int .i64 ((rd_T28 l0 x11_1).f0.f1))).setCell ⟨gb105, 2, none⟩ (.int .i64 ((rd_T28 l0 x11_1).f0.f2))).setCell ⟨gb105, 3, none⟩ (.int .i64 ((rd_T28 l0 x11_1).f1))).setCell ⟨gb105, 4, none⟩ (.int .i64 ((rd_T28 l0 x11_1).f2.f0))).setCell ⟨gb105, 5, none⟩ (.int .i64 ((rd_T28 l0 x11_1).f2.f1))).setCell ⟨gb105, 6, none⟩ (.int .i64 ((rd_T28 l0 x11_1).f3))).setCell ⟨gb105, 7, none⟩ (.int .i64 ((rd_T28 l0 x11_1).f4))) = w47 at n0_ n1_ n2_ ⊢; have BK103 := n0_; have BK105 := n1_; have HB := n2_; clear n0_ n1_ n2_; have n0_ := Aside0.mk (blk_drew BK103.out); have n1_ := Aside0.mk (blk_drew BK105.out); have n2_ := Aside0.mk (below_drew1 HB.out); clear BK103; clear BK105; clear HB; have BK103 := n0_; have BK105 := n1_; have HB := n2_; clear n0_ n1_ n2_; (refine start_ (n := 37) (S := fun w' => w'.cell? ⟨gb105, 0, none⟩ = some (.int .i64 ((rd_T28 l0 x11_1).f0.f0)) ∧ w'.cell? ⟨gb105, 1, none⟩ = some (.int .i64 ((rd_T28 l0 x11_1).f0.f1)) ∧ w'.cell? ⟨gb105, 2, none⟩ = some (.int .i64 ((rd_T28 l0 x11_1).f0.f2)) ∧ w'.cell? ⟨gb105, 3, none⟩ = some (.int .i64 ((rd_T28 l0 x11_1).f1)) ∧ w'.cell? ⟨gb105, 4, none⟩ = some (.int .i64 ((rd_T28 l0 x11_1).f2.f0)) ∧ w'.cell? ⟨gb105, 5, none⟩ = some (.int .i64 ((rd_T28 l0 x11_1).f2.f1)) ∧ w'.cell? ⟨gb105, 6, none⟩ = some (.int .i64 ((rd_T28 l0 x11_1).f3)) ∧ w'.cell? ⟨gb105, 7, none⟩ = some (.int .i64 ((rd_T28 l0 x11_1).f4)) ∧ w'.cell? ⟨gb103, 0, none⟩ = some (.int .i64 a1_0) ∧ w'.cell? ⟨gb103, 1, none⟩ = some (.int .i64 a1_1) ∧ w'.cell? ⟨gb103, 2, none⟩ = some (.int .i64 a1_2)) (ds := []) LI670 (by kernel_rfl) rfl rfl ⟨(blk_cell BK105.out 0).trans rfl, (blk_cell BK105.out 1).trans rfl, (blk_cell BK105.out 2).trans rfl, (blk_cell BK105.out 3).trans rfl, (blk_cell BK105.out 4).trans rfl, (blk_cell BK105.out 5).trans rfl, (blk_cell BK105.out 6).trans rfl, (blk_cell BK105.out 7).trans rfl, (blk_cell BK103.out 0).trans rfl, (blk_cell BK103.out 1).trans rfl, (blk_cell BK103.out 2).trans rfl⟩ (fun hHeld => ?_); refine with_tabW refAtP.tab6 refAtP.bits6 (fun HT_ HW_ => ?_)); generalize w47.drew = w48 at BK103 BK105 HB hHeld ⊢; (refine pure_ (i := 0) (N := some 23) (v := ?_) (a' := ?_) LI671 rfl rfl (any_of HT_.out (by kernel_rfl)) (fun _ _ _ h => h) (Or.inl ⟨by rfl, ?_⟩) ?_ ?_); rotate_left
       ·intro w'; go_simp; (with_reducible rfl)
       rotate_left
       ·go_simp; rfl
       (refine take_ (i := 1) (N := some 24) (v := ?_) (a' := ?_) LI672 rfl rfl (take_ofW HT_.out HW_.out (by kernel_rfl)) (fun _ _ _ h => h) (Or.inl ⟨by rfl, ?_⟩) hHeld ?_ ?_); rotate_left
       ·rintro w' ⟨s0, s1, s2, s3, s4, s5, s6, s7, s8, s9, s10⟩; go_simp; (with_reducible rfl)
       rotate_left
       ·go_simp; rfl
       (refine take_ (i := 2) (N := some 25) (v := ?_) (a' := ?_) LI673 rfl rfl (take_ofW HT_.out HW_.out (by kernel_rfl)) (fun _ _ _ h => h) (Or.inl ⟨by rfl, ?_⟩) hHeld ?_ ?_); rotate_left
       ·rintro w' ⟨s0, s1, s2, s3, s4, s5, s6, s7, s8, s9, s10⟩; go_simp; (with_reducible rfl)
       rotate_left
       ·go_simp; rfl
       (refine pure_ (i := 3) (N := some 26) (v := ?_) (a' := ?_) LI674 rfl rfl (any_of HT_.out (by kernel_rfl)) (fun _ _ _ h => h) (Or.inl ⟨by rfl, ?_⟩) ?_ ?_); rotate_left
       ·intro w'; go_simp; (with_reducible rfl)
       rotate_left
       ·go_simp; rfl
       (refine pure_ (i := 4) (N := some 27) (v := ?_) (a' := ?_) LI675 rfl rfl (any_of HT_.out (by kernel_rfl)) (fun _ _ _ h => h) (Or.inl ⟨by rfl, ?_⟩) ?_ ?_); rotate_left
       ·intro w'; go_simp; (with_reducible rfl)
       rotate_left
       ·go_simp; rfl
       (refine pure_ (i := 5) (N := some 28) (v := ?_) (a' := ?_) LI676 rfl rfl (any_of HT_.out (by kernel_rfl)) (fun _ _ _ h => h) (Or.inl ⟨by rfl, ?_⟩) ?_ ?_); rotate_left
       ·intro w'; go_simp; (with_reducible rfl)
       rotate_left
       ·go_simp; rfl
       (refine pure_ (i := 6) (N := some 29) (v := ?_) (a' := ?_) LI677 rfl rfl (any_of HT_.out (by kernel_rfl)) (fun _ _ _ h => h) (Or.inl ⟨by rfl, ?_⟩) ?_ ?_); rotate_left
       ·intro w'; go_simp; (with_reducible rfl)
       rotate_left
       ·go_simp; rfl
       (refine pure_ (i := 8) (N := some 31) (v := ?_) (a' := ?_) LI6733 rfl rfl (any_of HT_.out (by kernel_rfl)) (fun _ _ _ h => h) (Or.inl ⟨by rfl, ?_⟩) ?_ ?_); rotate_left
       ·intro w'; go_simp; (with_reducible rfl)
       rotate_left
       ·go_simp; rfl
       (refine take_ (i := 7) (N := some 30) (v := ?_) (a' := ?_) LI678 rfl rfl (take_ofW HT_.out HW_.out (by kernel_rfl)) (fun _ _ _ h => h) (Or.inl ⟨by rfl, ?_⟩) hHeld ?_ ?_); rotate_left
       ·rintro w' ⟨s0, s1, s2, s3, s4, s5, s6, s7, s8, s9, s10⟩; go_simp; (with_reducible rfl)
       rotate_left
       ·go_simp; rfl
       (refine pure_ (i := 9) (N := some 32) (v := ?_) (a' := ?_) LI679 rfl rfl (any_of HT_.out (by kernel_rfl)) (fun _ _ _ h => h) (Or.inl ⟨by rfl, ?_⟩) ?_ ?_); rotate_left
       ·intro w'; go_simp; (with_reducible rfl)
       rotate_left
       ·go_simp; rfl
       (refine pure_ (i := 10) (N := some 33) (v := ?_) (a' := ?_) LI6710 rfl rfl (any_of HT_.out (by kernel_rfl)) (fun _ _ _ h => h) (Or.inl ⟨by rfl, ?_⟩) ?_ ?_); rotate_left
       ·intro w'; go_simp; (with_reducible rfl)
       rotate_left
       ·go_simp; rfl
       (refine pure_ (i := 11) (N := some 34) (v := ?_) (a' := ?_) LI6711 rfl rfl (any_of HT_.out (by kernel_rfl)) (fun _ _ _ h => h) (Or.inl ⟨by rfl, ?_⟩) ?_ ?_); rotate_left
       ·intro w'; go_simp; (with_reducible rfl)
       rotate_left
       ·go_simp; rfl
       (refine pure_ (i := 12) (N := some 35) (v := undef) (a' := ?_) LI6712 rfl rfl (any_of HT_.out (by kernel_rfl)) (fun _ _ _ h => h) (Or.inr ⟨by rfl, rfl⟩) ?_ ?_); rotate_left
       ·go_simp; rfl
       (refine pure_ (i := 13) (N := some 36) (v := undef) (a' := ?_) LI6713 rfl rfl (any_of HT_.out (by kernel_rfl)) (fun _ _ _ h => h) (Or.inr ⟨by rfl, rfl⟩) ?_ ?_); rotate_left
       ·go_simp; rfl
       (refine pure_ (i := 14) (N := some 37) (v := undef) (a' := ?_) LI6714 rfl rfl (any_of HT_.out (by kernel_rfl)) (fun _ _ _ h => h) (Or.inr ⟨by rfl, rfl⟩) ?_ ?_); rotate_left
       ·go_simp; rfl
       (refine pure_ (i := 15) (N := some 38) (v := undef) (a' := ?_) LI6715 rfl rfl (any_of HT_.out (by kernel_rfl)) (fun _ _ _ h => h) (Or.inr ⟨by rfl, rfl⟩) ?_ ?_); rotate_left
       ·go_simp; rfl
       (refine pure_ (i := 16) (N := some 39) (v := undef) (a' := ?_) LI6716 rfl rfl (any_of HT_.out (by kernel_rfl)) (fun _ _ _ h => h) (Or.inr ⟨by rfl, rfl⟩) ?_ ?_); rotate_left
       ·go_simp; rfl
       (refine pure_ (i := 17) (N := some 40) (v := ?_) (a' := ?_) LI6717 rfl rfl (any_of HT_.out (by kernel_rfl)) (fun _ _ _ h => h) (Or.inl ⟨by rfl, ?_⟩) ?_ ?_); rotate_left
       ·intro w'; go_simp; (with_reducible rfl)
       rotate_left
       ·go_simp; rfl
       (refine pure_ (i := 18) (N := some 41) (v := ?_) (a' := ?_) LI6718 rfl rfl (any_of HT_.out (by kernel_rfl)) (fun _ _ _ h => h) (Or.inl ⟨by rfl, ?_⟩) ?_ ?_); rotate_left
       ·intro w'; go_simp; (with_reducible rfl)
       rotate_left
       ·go_simp; rfl
       (refine pure_ (i := 19) (N := some 42) (v := undef) (a' := ?_) LI6719 rfl rfl (any_of HT_.out (by kernel_rfl)) (fun _ _ _ h => h) (Or.inr ⟨by rfl, rfl⟩) ?_ ?_); rotate_left
       ·go_simp; rfl
       (refine pure_ (i := 20) (N := some 43) (v := undef) (a' := ?_) LI6738 rfl rfl (any_of HT_.out (by kernel_rfl)) (fun _ _ _ h => h) (Or.inr ⟨by rfl, rfl⟩) ?_ ?_); rotate_left
       ·go_simp; rfl
       (refine pure_ (i := 21) (N := some 44) (v := undef) (a' := ?_) LI6720 rfl rfl (any_of HT_.out (by kernel_rfl)) (fun _ _ _ h => h) (Or.inr ⟨by rfl, rfl⟩) ?_ ?_); rotate_left
       ·go_simp; rfl
       (refine pure_ (i := 22) (N := some 45) (v := undef) (a' := ?_) LI6721 rfl rfl (any_of HT_.out (by kernel_rfl)) (fun _ _ _ h => h) (Or.inr ⟨by rfl, rfl⟩) ?_ ?_); rotate_left
       ·go_simp; rfl
       (refine pure_ (i := 23) (N := some 46) (v := ?_) (a' := ?_) LI6722 rfl rfl (any_of HT_.out (by kernel_rfl)) (fun _ _ _ h => h) (Or.inl ⟨by rfl, ?_⟩) ?_ ?_); rotate_left
       ·intro w'; go_simp; (with_reducible rfl)
       rotate_left
       ·go_simp; rfl
       (refine pure_ (i := 24) (N := some 47) (v := ?_) (a' := ?_) LI6723 rfl rfl (any_of HT_.out (by kernel_rfl)) (fun _ _ _ h => h) (Or.inl ⟨by rfl, ?_⟩) ?_ ?_); rotate_left
       ·intro w'; go_simp; (with_reducible rfl)
       rotate_left
       ·go_simp; rfl
       (refine pure_ (i := 25) (N := some 48) (v := undef) (a' := ?_) LI6724 rfl rfl (any_of HT_.out (by kernel_rfl)) (fun _ _ _ h => h) (Or.inr ⟨by rfl, rfl⟩) ?_ ?_); rotate_left
       ·go_simp; rfl
       (refine pure_ (i := 26) (N := some 49) (v := undef) (a' := ?_) LI6725 rfl rfl (any_of HT_.out (by kernel_rfl)) (fun _ _ _ h => h) (Or.inr ⟨by rfl, rfl⟩) ?_ ?_); rotate_left
       ·go_simp; rfl
       (refine pure_ (i := 27) (N := some 50) (v := undef) (a' := ?_) LI6726 rfl rfl (any_of HT_.out (by kernel_rfl)) (fun _ _ _ h => h) (Or.inr ⟨by rfl, rfl⟩) ?_ ?_); rotate_left
       ·go_simp; rfl
       (refine pure_ (i := 28) (N := some 51) (v := undef) (a' := ?_) LI6734 rfl rfl (any_of HT_.out (by kernel_rfl)) (fun _ _ _ h => h) (Or.inr ⟨by rfl, rfl⟩) ?_ ?_); rotate_left
       ·go_simp; rfl
       (refine pure_ (i := 29) (N := some 52) (v := undef) (a' := ?_) LI6735 rfl rfl (any_of HT_.out (by kernel_rfl)) (fun _ _ _ h => h) (Or.inr ⟨by rfl, rfl⟩) ?_ ?_); rotate_left
       ·go_simp; rfl
       (refine pure_ (i := 30) (N := some 53) (v := undef) (a' := ?_) LI6736 rfl rfl (any_of HT_.out (by kernel_rfl)) (fun _ _ _ h => h) (Or.inr ⟨by rfl, rfl⟩) ?_ ?_); rotate_left
       ·go_simp; rfl
       (refine pure_ (i := 31) (N := some 54) (v := undef) (a' := ?_) LI6727 rfl rfl (any_of HT_.out (by kernel_rfl)) (fun _ _ _ h => h) (Or.inr ⟨by rfl, rfl⟩) ?_ ?_); rotate_left
       ·go_simp; rfl
       (refine pure_ (i := 32) (N := some 55) (v := undef) (a' := ?_) LI6728 rfl rfl (any_of HT_.out (by kernel_rfl)) (fun _ _ _ h => h) (Or.inr ⟨by rfl, rfl⟩) ?_ ?_); rotate_left
       ·go_simp; rfl
       (refine pure_ (i := 33) (N := some 56) (v := undef) (a' := ?_) LI6729 rfl rfl (any_of HT_.out (by kernel_rfl)) (fun _ _ _ h => h) (Or.inr ⟨by rfl, rfl⟩) ?_ ?_); rotate_left
       ·go_simp; rfl
       (refine pure_ (i := 34) (N := some 57) (v := undef) (a' := ?_) LI6730 rfl rfl (any_of HT_.out (by kernel_rfl)) (fun _ _ _ h => h) (Or.inr ⟨by rfl, rfl⟩) ?_ ?_); rotate_left
       ·go_simp; rfl
       (refine pure_ (i := 35) (N := some 58) (v := undef) (a' := ?_) LI6731 rfl rfl (any_of HT_.out (by kernel_rfl)) (fun _ _ _ h => h) (Or.inr ⟨by rfl, rfl⟩) ?_ ?_); rotate_left
       ·go_simp; rfl
       (refine pure_ (i := 36) (N := some 59) (v := ?_) (a' := ?_) LI6732 rfl rfl (any_of HT_.out (by kernel_rfl)) (fun _ _ _ h => h) (Or.inl ⟨by rfl, ?_⟩) ?_ ?_); rotate_left
       ·intro w'; go_simp; (with_reducible rfl)
       rotate_left
       ·go_simp; rfl
       (refine done_ (done_of HT_.out (by kernel_rfl)) ?_); (try go_wp2); (go_roundg k1)
       case measure => have := HK1.out; omega
       case rel => exact ⟨(x10_1), (wrap64 (x11_1 + 1)), (by first | rfl | (simp; done) | (simp [*]; done)), (by first | rfl | (simp; done) | (simp [*]; done)), H', ⟨by have := HK1.out; omega⟩, ⟨by (with_reducible repeat (first | refine blk_drewN ?_ _ | refine blk_drew ?_ | refine blk_alloc ?_ _)); exact BK103.out⟩, ⟨by repeat (first | (with_reducible first | exact HB.out | apply below_alloc | apply pw_below_drewN | apply below_drew1 | refine below_set ?_ GE103.out | refine below_set ?_ GE105.out) | exact HB.out)⟩⟩
     ·rw [if_neg c8] at H; (have c8b0 : (((rd_T28 l0 x11_1).f0.f0) == a1_0 && (((rd_T28 l0 x11_1).f0.f1) == a1_1 && (((rd_T28 l0 x11_1).f0.f2) == a1_2))) = false := by simpa using c8); ((try (have c8b1 : decide (((rd_T28 l0 x11_1).f0.f0) = a1_0 && (((rd_T28 l0 x11_1).f0.f1) == a1_1 && (((rd_T28 l0 x11_1).f0.f2) == a1_2))) = false := by simpa using c8))); ((try (have c8b2 : (((rd_T28 l0 x11_1).f0.f0) == a1_0 && (((rd_T28 l0 x11_1).f0.f1) == a1_1 && (((rd_T28 l0 x11_1).f0.f2) == a1_2))) = false := by simpa using c8))); ((try (have c8b3 : ¬ (((rd_T28 l0 x11_1).f0.f0) = a1_0 && (((rd_T28 l0 x11_1).f0.f1) == a1_1 && (((rd_T28 l0 x11_1).f0.f2) == a1_2))) := by simpa using c8))); clear c8; have H' := Aside0.mk H; clear H; (have p104 : 0 ≤ (x11_1 : Int) := of_decide_eq_true (by assumption)); (have q104 : x11_1 < (l0.length : Int) := of_decide_eq_true (by assumption)); obtain ⟨ad104, e104, hx104_0, hx104_1, hx104_2, hx104_3, hx104_4, hx104_5, hx104_6, hx104_7⟩ := at_T28 HR0.out x11_1 p104 q104; cases e104; replace hx104_0 := (HB.out.cell (World.block_lt_of_cell? w _ hx104_0)).trans hx104_0; replace hx104_1 := (HB.out.cell (World.block_lt_of_cell? w _ hx104_1)).trans hx104_1; replace hx104_2 := (HB.out.cell (World.block_lt_of_cell? w _ hx104_2)).trans hx104_2; replace hx104_3 := (HB.out.cell (World.block_lt_of_cell? w _ hx104_3)).trans hx104_3; replace hx104_4 := (HB.out.cell (World.block_lt_of_cell? w _ hx104_4)).trans hx104_4; replace hx104_5 := (HB.out.cell (World.block_lt_of_cell? w _ hx104_5)).trans hx104_5; replace hx104_6 := (HB.out.cell (World.block_lt_of_cell? w _ hx104_6)).trans hx104_6; replace hx104_7 := (HB.out.cell (World.block_lt_of_cell? w _ hx104_7)).trans hx104_7; replace p104 := eq_true p104; replace q104 := eq_true q104; (try go_wp2_with (first | ((with_reducible refine gate_dst (N := 12) rfl ?_); refine box_event ?hg (N := 12) ?hd (cs := #[.int .i64 0, .int .i64 0, .int .i64 0, .int .i64 0, .int .i64 0, .int .i64 0, .int .i64 0, .int .i64 0]) (t := 28) ?hr ?_; (case hd => rfl); (case hg => rfl); (case hr => first | (go_simp; done) | (go_simp; rfl)); intro gb105 hg w49 hbox hb; have n0_ := Aside0.mk (blk_below (g := gb103) (o := .cells #[.int .i64 a1_0, .int .i64 a1_1, .int .i64 a1_2] 24 (0, 0)) (by (with_reducible repeat (first | refine blk_drewN ?_ _ | refine blk_drew ?_ | refine blk_alloc ?_ _)); exact BK103.out) hb); have n1_ := Aside0.mk (below_step (by repeat (first | (with_reducible first | exact HB.out | apply below_alloc | apply pw_below_drewN | apply below_drew1 | refine below_set ?_ GE103.out) | exact HB.out)) hb); have n2_ := Aside0.mk (hbox); have n3_ := Aside0.mk ((by rw [hg]; exact (below_size (by repeat (first | (with_reducible first | exact HB.out | apply below_alloc | apply pw_below_drewN | apply below_drew1 | refine below_set ?_ GE103.out) | exact HB.out))) : w.heap.size ≤ gb105)); have n4_ := Aside0.mk ((by rw [hg]; exact (below_size (by repeat (first | (with_reducible first | exact HB.out | apply below_alloc | apply pw_below_drewN | apply below_drew1 | refine below_set ?_ GE103.out) | exact HB.out))) : w.heap.size ≤ gb105)); have n5_ := Aside0.mk ((by rw [hg]; exact Nat.ne_of_lt (blk_lt (g := gb103) (o := .cells #[.int .i64 a1_0, .int .i64 a1_1, .int .i64 a1_2] 24 (0, 0)) (by (with_reducible repeat (first | refine blk_drewN ?_ _ | refine blk_drew ?_ | refine blk_alloc ?_ _)); exact BK103.out)) : gb103 ≠ gb105)); have n6_ := Aside0.mk ((by rw [hg]; exact Nat.ne_of_gt (blk_lt (g := gb103) (o := .cells #[.int .i64 a1_0, .int .i64 a1_1, .int .i64 a1_2] 24 (0, 0)) (by (with_reducible repeat (first | refine blk_drewN ?_ _ | refine blk_drew ?_ | refine blk_alloc ?_ _)); exact BK103.out)) : gb105 ≠ gb103)); clear BK103; clear HB; have BK103 := n0_; have HB := n1_; have BK105 := n2_; have GW105 := n3_; have GE105 := n4_; have NB103_105 := n5_; have NB105_103 := n6_; clear n0_ n1_ n2_ n3_ n4_ n5_ n6_; clear hb hbox hg; have hnb50 := NB105_103.out; have hnc50 := NB103_105.out; have hcz51_0 : w49.cell? ⟨gb105, 0, none⟩ = some (.int .i64 0) := (blk_cell BK105.out 0).trans rfl; have hcz51_1 : w49.cell? ⟨gb105, 1, none⟩ = some (.int .i64 0) := (blk_cell BK105.out 1).trans rfl; have hcz51_2 : w49.cell? ⟨gb105, 2, none⟩ = some (.int .i64 0) := (blk_cell BK105.out 2).trans rfl; have hcz51_3 : w49.cell? ⟨gb105, 3, none⟩ = some (.int .i64 0) := (blk_cell BK105.out 3).trans rfl; have hcz51_4 : w49.cell? ⟨gb105, 4, none⟩ = some (.int .i64 0) := (blk_cell BK105.out 4).trans rfl; have hcz51_5 : w49.cell? ⟨gb105, 5, none⟩ = some (.int .i64 0) := (blk_cell BK105.out 5).trans rfl; have hcz51_6 : w49.cell? ⟨gb105, 6, none⟩ = some (.int .i64 0) := (blk_cell BK105.out 6).trans rfl; have hcz51_7 : w49.cell? ⟨gb105, 7, none⟩ = some (.int .i64 0) := (blk_cell BK105.out 7).trans rfl; have hfz51_0 := blk_frozen BK105.out 0; have hfz51_1 := blk_frozen BK105.out 1; have hfz51_2 := blk_frozen BK105.out 2; have hfz51_3 := blk_frozen BK105.out 3; have hfz51_4 := blk_frozen BK105.out 4; have hfz51_5 := blk_frozen BK105.out 5; have hfz51_6 := blk_frozen BK105.out 6; have hfz51_7 := blk_frozen BK105.out 7)))
      (have n0_ : Aside0 (((((((((w49.setCell ⟨gb105, 0, none⟩ (.int .i64 ((rd_T28 l0 x11_1).f0.f0))).setCell ⟨gb105, 1, none⟩ (.int .i64 ((rd_T28 l0 x11_1).f0.f1))).setCell ⟨gb105, 2, none⟩ (.int .i64 ((rd_T28 l0 x11_1).f0.f2))).setCell ⟨gb105, 3, none⟩ (.int .i64 ((rd_T28 l0 x11_1).f1))).setCell ⟨gb105, 4, none⟩ (.int .i64 ((rd_T28 l0 x11_1).f2.f0))).setCell ⟨gb105, 5, none⟩ (.int .i64 ((rd_T28 l0 x11_1).f2.f1))).setCell ⟨gb105, 6, none⟩ (.int .i64 ((rd_T28 l0 x11_1).f3))).setCell ⟨gb105, 7, none⟩ (.int .i64 ((rd_T28 l0 x11_1).f4))).heap[gb103]? = some (.cells #[.int .i64 a1_0, .int .i64 a1_1, .int .i64 a1_2] 24 (0, 0))) := ⟨by (with_reducible repeat (first | refine blk_drewN ?_ _ | refine blk_drew ?_ | refine blk_alloc ?_ _)); refine blk_far ?_ NB103_105.out _; (with_reducible repeat (first | refine blk_drewN ?_ _ | refine blk_drew ?_ | refine blk_alloc ?_ _)); refine blk_far ?_ NB103_105.out _; (with_reducible repeat (first | refine blk_drewN ?_ _ | refine blk_drew ?_ | refine blk_alloc ?_ _)); refine blk_far ?_ NB103_105.out _; (with_reducible repeat (first | refine blk_drewN ?_ _ | refine blk_drew ?_ | refine blk_alloc ?_ _)); refine blk_far ?_ NB103_105.out _; (with_reducible repeat (first | refine blk_drewN ?_ _ | refine blk_drew ?_ | refine blk_alloc ?_ _)); refine blk_far ?_ NB103_105.out _; (with_reducible repeat (first | refine blk_drewN ?_ _ | refine blk_drew ?_ | refine blk_alloc ?_ _)); refine blk_far ?_ NB103_105.out _; (with_reducible repeat (first | refine blk_drewN ?_ _ | refine blk_drew ?_ | refine blk_alloc ?_ _)); refine blk_far ?_ NB103_105.out _; (with_reducible repeat (first | refine blk_drewN ?_ _ | refine blk_drew ?_ | refine blk_alloc ?_ _)); refine blk_far ?_ NB103_105.out _; (with_reducible repeat (first | refine blk_drewN ?_ _ | refine blk_drew ?_ | refine blk_alloc ?_ _)); exact BK103.out⟩); (have n1_ : Aside0 (((((((((w49.setCell ⟨gb105, 0, none⟩ (.int .i64 ((rd_T28 l0 x11_1).f0.f0))).setCell ⟨gb105, 1, none⟩ (.int .i64 ((rd_T28 l0 x11_1).f0.f1))).setCell ⟨gb105, 2, none⟩ (.int .i64 ((rd_T28 l0 x11_1).f0.f2))).setCell ⟨gb105, 3, none⟩ (.int .i64 ((rd_T28 l0 x11_1).f1))).setCell ⟨gb105, 4, none⟩ (.int .i64 ((rd_T28 l0 x11_1).f2.f0))).setCell ⟨gb105, 5, none⟩ (.int .i64 ((rd_T28 l0 x11_1).f2.f1))).setCell ⟨gb105, 6, none⟩ (.int .i64 ((rd_T28 l0 x11_1).f3))).setCell ⟨gb105, 7, none⟩ (.int .i64 ((rd_T28 l0 x11_1).f4))).heap[gb105]? = some (.cells #[.int .i64 ((rd_T28 l0 x11_1).f0.f0), .int .i64 ((rd_T28 l0 x11_1).f0.f1), .int .i64 ((rd_T28 l0 x11_1).f0.f2), .int .i64 ((rd_T28 l0 x11_1).f1), .int .i64 ((rd_T28 l0 x11_1).f2.f0), .int .i64 ((rd_T28 l0 x11_1).f2.f1), .int .i64 ((rd_T28 l0 x11_1).f3), .int .i64 ((rd_T28 l0 x11_1).f4)] 28 (0, 0))) := ⟨by (with_reducible repeat (first | refine blk_drewN ?_ _ | refine blk_drew ?_ | refine blk_alloc ?_ _)); refine blk_put (cs := #[.int .i64 ((rd_T28 l0 x11_1).f0.f0), .int .i64 ((rd_T28 l0 x11_1).f0.f1), .int .i64 ((rd_T28 l0 x11_1).f0.f2), .int .i64 ((rd_T28 l0 x11_1).f1), .int .i64 ((rd_T28 l0 x11_1).f2.f0), .int .i64 ((rd_T28 l0 x11_1).f2.f1), .int .i64 ((rd_T28 l0 x11_1).f3), .int .i64 0]) ?_ 7 _ rfl; (with_reducible repeat (first | refine blk_drewN ?_ _ | refine blk_drew ?_ | refine blk_alloc ?_ _)); refine blk_put (cs := #[.int .i64 ((rd_T28 l0 x11_1).f0.f0), .int .i64 ((rd_T28 l0 x11_1).f0.f1), .int .i64 ((rd_T28 l0 x11_1).f0.f2), .int .i64 ((rd_T28 l0 x11_1).f1), .int .i64 ((rd_T28 l0 x11_1).f2.f0), .int .i64 ((rd_T28 l0 x11_1).f2.f1), .int .i64 0, .int .i64 0]) ?_ 6 _ rfl; (with_reducible repeat (first | refine blk_drewN ?_ _ | refine blk_drew ?_ | refine blk_alloc ?_ _)); refine blk_put (cs := #[.int .i64 ((rd_T28 l0 x11_1).f0.f0), .int .i64 ((rd_T28 l0 x11_1).f0.f1), .int .i64 ((rd_T28 l0 x11_1).f0.f2), .int .i64 ((rd_T28 l0 x11_1).f1), .int .i64 ((rd_T28 l0 x11_1).f2.f0), .int .i64 0, .int .i64 0, .int .i64 0]) ?_ 5 _ rfl; (with_reducible repeat (first | refine blk_drewN ?_ _ | refine blk_drew ?_ | refine blk_alloc ?_ _)); refine blk_put (cs := #[.int .i64 ((rd_T28 l0 x11_1).f0.f0), .int .i64 ((rd_T28 l0 x11_1).f0.f1), .int .i64 ((rd_T28 l0 x11_1).f0.f2), .int .i64 ((rd_T28 l0 x11_1).f1), .int .i64 0, .int .i64 0, .int .i64 0, .int .i64 0]) ?_ 4 _ rfl; (with_reducible repeat (first | refine blk_drewN ?_ _ | refine blk_drew ?_ | refine blk_alloc ?_ _)); refine blk_put (cs := #[.int .i64 ((rd_T28 l0 x11_1).f0.f0), .int .i64 ((rd_T28 l0 x11_1).f0.f1), .int .i64 ((rd_T28 l0 x11_1).f0.f2), .int .i64 0, .int .i64 0, .int .i64 0, .int .i64 0, .int .i64 0]) ?_ 3 _ rfl; (with_reducible repeat (first | refine blk_drewN ?_ _ | refine blk_drew ?_ | refine blk_alloc ?_ _)); refine blk_put (cs := #[.int .i64 ((rd_T28 l0 x11_1).f0.f0), .int .i64 ((rd_T28 l0 x11_1).f0.f1), .int .i64 0, .int .i64 0, .int .i64 0, .int .i64 0, .int .i64 0, .int .i64 0]) ?_ 2 _ rfl; (with_reducible repeat (first | refine blk_drewN ?_ _ | refine blk_drew ?_ | refine blk_alloc ?_ _)); refine blk_put (cs := #[.int .i64 ((rd_T28 l0 x11_1).f0.f0), .int .i64 0, .int .i64 0, .int .i64 0, .int .i64 0, .int .i64 0, .int .i64 0, .int .i64 0]) ?_ 1 _ rfl; (with_reducible repeat (first | refine blk_drewN ?_ _ | refine blk_drew ?_ | refine blk_alloc ?_ _)); refine blk_put (cs := #[.int .i64 0, .int .i64 0, .int .i64 0, .int .i64 0, .int .i64 0, .int .i64 0, .int .i64 0, .int .i64 0]) ?_ 0 _ rfl; (with_reducible repeat (first | refine blk_drewN ?_ _ | refine blk_drew ?_ | refine blk_alloc ?_ _)); exact BK105.out⟩)
      (have n2_ : Aside0 (Below w.heap.size w ((((((((w49.setCell ⟨gb105, 0, none⟩ (.int .i64 ((rd_T28 l0 x11_1).f0.f0))).setCell ⟨gb105, 1, none⟩ (.int .i64 ((rd_T28 l0 x11_1).f0.f1))).setCell ⟨gb105, 2, none⟩ (.int .i64 ((rd_T28 l0 x11_1).f0.f2))).setCell ⟨gb105, 3, none⟩ (.int .i64 ((rd_T28 l0 x11_1).f1))).setCell ⟨gb105, 4, none⟩ (.int .i64 ((rd_T28 l0 x11_1).f2.f0))).setCell ⟨gb105, 5, none⟩ (.int .i64 ((rd_T28 l0 x11_1).f2.f1))).setCell ⟨gb105, 6, none⟩ (.int .i64 ((rd_T28 l0 x11_1).f3))).setCell ⟨gb105, 7, none⟩ (.int .i64 ((rd_T28 l0 x11_1).f4)))) := ⟨by repeat (first | (with_reducible first | exact HB.out | apply below_alloc | apply pw_below_drewN | apply below_drew1 | refine below_set ?_ GE103.out | refine below_set ?_ GE105.out) | exact HB.out)⟩); ((try clear BK103)); ((try clear BK105)); ((try clear HB)); generalize ((((((((w49.setCell ⟨gb105, 0, none⟩ (.int .i64 ((rd_T28 l0 x11_1).f0.f0))).setCell ⟨gb105, 1, none⟩ (.int .i64 ((rd_T28 l0 x11_1).f0.f1))).setCell ⟨gb105, 2, none⟩ (.int .i64 ((rd_T28 l0 x11_1).f0.f2))).setCell ⟨gb105, 3, none⟩ (.int .i64 ((rd_T28 l0 x11_1).f1))).setCell ⟨gb105, 4, none⟩ (.int .i64 ((rd_T28 l0 x11_1).f2.f0))).setCell ⟨gb105, 5, none⟩ (.int .i64 ((rd_T28 l0 x11_1).f2.f1))).setCell ⟨gb105, 6, none⟩ (.int .i64 ((rd_T28 l0 x11_1).f3))).setCell ⟨gb105, 7, none⟩ (.int .i64 ((rd_T28 l0 x11_1).f4))) = w52 at n0_ n1_ n2_ ⊢; have BK103 := n0_; have BK105 := n1_; have HB := n2_; clear n0_ n1_ n2_; have n0_ := Aside0.mk (blk_drew BK103.out); have n1_ := Aside0.mk (blk_drew BK105.out); have n2_ := Aside0.mk (below_drew1 HB.out); clear BK103; clear BK105; clear HB; have BK103 := n0_; have BK105 := n1_; have HB := n2_; clear n0_ n1_ n2_; (refine start_ (n := 37) (S := fun w' => w'.cell? ⟨gb105, 0, none⟩ = some (.int .i64 ((rd_T28 l0 x11_1).f0.f0)) ∧ w'.cell? ⟨gb105, 1, none⟩ = some (.int .i64 ((rd_T28 l0 x11_1).f0.f1)) ∧ w'.cell? ⟨gb105, 2, none⟩ = some (.int .i64 ((rd_T28 l0 x11_1).f0.f2)) ∧ w'.cell? ⟨gb105, 3, none⟩ = some (.int .i64 ((rd_T28 l0 x11_1).f1)) ∧ w'.cell? ⟨gb105, 4, none⟩ = some (.int .i64 ((rd_T28 l0 x11_1).f2.f0)) ∧ w'.cell? ⟨gb105, 5, none⟩ = some (.int .i64 ((rd_T28 l0 x11_1).f2.f1)) ∧ w'.cell? ⟨gb105, 6, none⟩ = some (.int .i64 ((rd_T28 l0 x11_1).f3)) ∧ w'.cell? ⟨gb105, 7, none⟩ = some (.int .i64 ((rd_T28 l0 x11_1).f4)) ∧ w'.cell? ⟨gb103, 0, none⟩ = some (.int .i64 a1_0) ∧ w'.cell? ⟨gb103, 1, none⟩ = some (.int .i64 a1_1) ∧ w'.cell? ⟨gb103, 2, none⟩ = some (.int .i64 a1_2)) (ds := []) LI670 (by kernel_rfl) rfl rfl ⟨(blk_cell BK105.out 0).trans rfl, (blk_cell BK105.out 1).trans rfl, (blk_cell BK105.out 2).trans rfl, (blk_cell BK105.out 3).trans rfl, (blk_cell BK105.out 4).trans rfl, (blk_cell BK105.out 5).trans rfl, (blk_cell BK105.out 6).trans rfl, (blk_cell BK105.out 7).trans rfl, (blk_cell BK103.out 0).trans rfl, (blk_cell BK103.out 1).trans rfl, (blk_cell BK103.out 2).trans rfl⟩ (fun hHeld => ?_); refine with_tabW refAtP.tab6 refAtP.bits6 (fun HT_ HW_ => ?_)); generalize w52.drew = w53 at BK103 BK105 HB hHeld ⊢; (refine pure_ (i := 0) (N := some 23) (v := ?_) (a' := ?_) LI671 rfl rfl (any_of HT_.out (by kernel_rfl)) (fun _ _ _ h => h) (Or.inl ⟨by rfl, ?_⟩) ?_ ?_); rotate_left
      ·intro w'; go_simp; (with_reducible rfl)
      rotate_left
      ·go_simp; rfl
      (refine take_ (i := 1) (N := some 24) (v := ?_) (a' := ?_) LI672 rfl rfl (take_ofW HT_.out HW_.out (by kernel_rfl)) (fun _ _ _ h => h) (Or.inl ⟨by rfl, ?_⟩) hHeld ?_ ?_); rotate_left
      ·rintro w' ⟨s0, s1, s2, s3, s4, s5, s6, s7, s8, s9, s10⟩; go_simp; (with_reducible rfl)
      rotate_left
      ·go_simp; rfl
      (refine take_ (i := 2) (N := some 25) (v := ?_) (a' := ?_) LI673 rfl rfl (take_ofW HT_.out HW_.out (by kernel_rfl)) (fun _ _ _ h => h) (Or.inl ⟨by rfl, ?_⟩) hHeld ?_ ?_); rotate_left
      ·rintro w' ⟨s0, s1, s2, s3, s4, s5, s6, s7, s8, s9, s10⟩; go_simp; (with_reducible rfl)
      rotate_left
      ·go_simp; rfl
      (refine pure_ (i := 3) (N := some 26) (v := ?_) (a' := ?_) LI674 rfl rfl (any_of HT_.out (by kernel_rfl)) (fun _ _ _ h => h) (Or.inl ⟨by rfl, ?_⟩) ?_ ?_); rotate_left
      ·intro w'; go_simp; (with_reducible rfl)
      rotate_left
      ·go_simp; rfl
      (refine pure_ (i := 4) (N := some 27) (v := ?_) (a' := ?_) LI675 rfl rfl (any_of HT_.out (by kernel_rfl)) (fun _ _ _ h => h) (Or.inl ⟨by rfl, ?_⟩) ?_ ?_); rotate_left
      ·intro w'; go_simp; (with_reducible rfl)
      rotate_left
      ·go_simp; rfl
      (refine pure_ (i := 5) (N := some 28) (v := undef) (a' := ?_) LI676 rfl rfl (any_of HT_.out (by kernel_rfl)) (fun _ _ _ h => h) (Or.inr ⟨by rfl, rfl⟩) ?_ ?_); rotate_left
      ·go_simp; rfl
      (refine pure_ (i := 6) (N := some 29) (v := undef) (a' := ?_) LI677 rfl rfl (any_of HT_.out (by kernel_rfl)) (fun _ _ _ h => h) (Or.inr ⟨by rfl, rfl⟩) ?_ ?_); rotate_left
      ·go_simp; rfl
      (refine pure_ (i := 7) (N := some 30) (v := undef) (a' := ?_) #[true, true, true, true, true, true, true, true, false, false, false, false, false, false, false, false, false, false, false, false, false, false, false, false, false, false, false, false, false, false, false, false, false, false, false, false, false] rfl rfl (any_of HT_.out (by kernel_rfl)) (fun _ _ _ h => h) (Or.inr ⟨by rfl, rfl⟩) ?_ ?_); rotate_left
      ·go_simp; rfl
      (refine pure_ (i := 8) (N := some 31) (v := undef) (a' := ?_) LI678 rfl rfl (any_of HT_.out (by kernel_rfl)) (fun _ _ _ h => h) (Or.inr ⟨by rfl, rfl⟩) ?_ ?_); rotate_left
      ·go_simp; rfl
      (refine pure_ (i := 9) (N := some 32) (v := undef) (a' := ?_) LI679 rfl rfl (any_of HT_.out (by kernel_rfl)) (fun _ _ _ h => h) (Or.inr ⟨by rfl, rfl⟩) ?_ ?_); rotate_left
      ·go_simp; rfl
      (refine pure_ (i := 10) (N := some 33) (v := ?_) (a' := ?_) LI6710 rfl rfl (any_of HT_.out (by kernel_rfl)) (fun _ _ _ h => h) (Or.inl ⟨by rfl, ?_⟩) ?_ ?_); rotate_left
      ·intro w'; go_simp; (with_reducible rfl)
      rotate_left
      ·go_simp; rfl
      (refine pure_ (i := 11) (N := some 34) (v := ?_) (a' := ?_) LI6711 rfl rfl (any_of HT_.out (by kernel_rfl)) (fun _ _ _ h => h) (Or.inl ⟨by rfl, ?_⟩) ?_ ?_); rotate_left
      ·intro w'; go_simp; (with_reducible rfl)
      rotate_left
      ·go_simp; rfl
      (refine pure_ (i := 12) (N := some 35) (v := undef) (a' := ?_) LI6712 rfl rfl (any_of HT_.out (by kernel_rfl)) (fun _ _ _ h => h) (Or.inr ⟨by rfl, rfl⟩) ?_ ?_); rotate_left
      ·go_simp; rfl
      (refine pure_ (i := 13) (N := some 36) (v := undef) (a' := ?_) LI6713 rfl rfl (any_of HT_.out (by kernel_rfl)) (fun _ _ _ h => h) (Or.inr ⟨by rfl, rfl⟩) ?_ ?_); rotate_left
      ·go_simp; rfl
      (refine pure_ (i := 14) (N := some 37) (v := undef) (a' := ?_) LI6714 rfl rfl (any_of HT_.out (by kernel_rfl)) (fun _ _ _ h => h) (Or.inr ⟨by rfl, rfl⟩) ?_ ?_); rotate_left
      ·go_simp; rfl
      (refine pure_ (i := 15) (N := some 38) (v := undef) (a' := ?_) LI6715 rfl rfl (any_of HT_.out (by kernel_rfl)) (fun _ _ _ h => h) (Or.inr ⟨by rfl, rfl⟩) ?_ ?_); rotate_left
      ·go_simp; rfl
      (refine pure_ (i := 16) (N := some 39) (v := undef) (a' := ?_) LI6716 rfl rfl (any_of HT_.out (by kernel_rfl)) (fun _ _ _ h => h) (Or.inr ⟨by rfl, rfl⟩) ?_ ?_); rotate_left
      ·go_simp; rfl
      (refine pure_ (i := 17) (N := some 40) (v := ?_) (a' := ?_) LI6717 rfl rfl (any_of HT_.out (by kernel_rfl)) (fun _ _ _ h => h) (Or.inl ⟨by rfl, ?_⟩) ?_ ?_); rotate_left
      ·intro w'; go_simp; (with_reducible rfl)
      rotate_left
      ·go_simp; rfl
      (refine pure_ (i := 18) (N := some 41) (v := ?_) (a' := ?_) LI6718 rfl rfl (any_of HT_.out (by kernel_rfl)) (fun _ _ _ h => h) (Or.inl ⟨by rfl, ?_⟩) ?_ ?_); rotate_left
      ·intro w'; go_simp; (with_reducible rfl)
      rotate_left
      ·go_simp; rfl
      (refine pure_ (i := 19) (N := some 42) (v := undef) (a' := ?_) LI6719 rfl rfl (any_of HT_.out (by kernel_rfl)) (fun _ _ _ h => h) (Or.inr ⟨by rfl, rfl⟩) ?_ ?_); rotate_left
      ·go_simp; rfl
      (refine pure_ (i := 20) (N := some 43) (v := undef) (a' := ?_) LI6738 rfl rfl (any_of HT_.out (by kernel_rfl)) (fun _ _ _ h => h) (Or.inr ⟨by rfl, rfl⟩) ?_ ?_); rotate_left
      ·go_simp; rfl
      (refine pure_ (i := 21) (N := some 44) (v := undef) (a' := ?_) LI6720 rfl rfl (any_of HT_.out (by kernel_rfl)) (fun _ _ _ h => h) (Or.inr ⟨by rfl, rfl⟩) ?_ ?_); rotate_left
      ·go_simp; rfl
      (refine pure_ (i := 22) (N := some 45) (v := undef) (a' := ?_) LI6721 rfl rfl (any_of HT_.out (by kernel_rfl)) (fun _ _ _ h => h) (Or.inr ⟨by rfl, rfl⟩) ?_ ?_); rotate_left
      ·go_simp; rfl
      (refine pure_ (i := 23) (N := some 46) (v := ?_) (a' := ?_) LI6722 rfl rfl (any_of HT_.out (by kernel_rfl)) (fun _ _ _ h => h) (Or.inl ⟨by rfl, ?_⟩) ?_ ?_); rotate_left
      ·intro w'; go_simp; (with_reducible rfl)
      rotate_left
      ·go_simp; rfl
      (refine pure_ (i := 24) (N := some 47) (v := ?_) (a' := ?_) LI6723 rfl rfl (any_of HT_.out (by kernel_rfl)) (fun _ _ _ h => h) (Or.inl ⟨by rfl, ?_⟩) ?_ ?_); rotate_left
      ·intro w'; go_simp; (with_reducible rfl)
      rotate_left
      ·go_simp; rfl
      (refine pure_ (i := 25) (N := some 48) (v := undef) (a' := ?_) LI6724 rfl rfl (any_of HT_.out (by kernel_rfl)) (fun _ _ _ h => h) (Or.inr ⟨by rfl, rfl⟩) ?_ ?_); rotate_left
      ·go_simp; rfl
      (refine pure_ (i := 26) (N := some 49) (v := undef) (a' := ?_) LI6725 rfl rfl (any_of HT_.out (by kernel_rfl)) (fun _ _ _ h => h) (Or.inr ⟨by rfl, rfl⟩) ?_ ?_); rotate_left
      ·go_simp; rfl
      (refine pure_ (i := 27) (N := some 50) (v := undef) (a' := ?_) LI6726 rfl rfl (any_of HT_.out (by kernel_rfl)) (fun _ _ _ h => h) (Or.inr ⟨by rfl, rfl⟩) ?_ ?_); rotate_left
      ·go_simp; rfl
      (refine pure_ (i := 28) (N := some 51) (v := undef) (a' := ?_) LI6734 rfl rfl (any_of HT_.out (by kernel_rfl)) (fun _ _ _ h => h) (Or.inr ⟨by rfl, rfl⟩) ?_ ?_); rotate_left
      ·go_simp; rfl
      (refine pure_ (i := 29) (N := some 52) (v := undef) (a' := ?_) LI6735 rfl rfl (any_of HT_.out (by kernel_rfl)) (fun _ _ _ h => h) (Or.inr ⟨by rfl, rfl⟩) ?_ ?_); rotate_left
      ·go_simp; rfl
      (refine pure_ (i := 30) (N := some 53) (v := undef) (a' := ?_) LI6736 rfl rfl (any_of HT_.out (by kernel_rfl)) (fun _ _ _ h => h) (Or.inr ⟨by rfl, rfl⟩) ?_ ?_); rotate_left
      ·go_simp; rfl
      (refine pure_ (i := 31) (N := some 54) (v := undef) (a' := ?_) LI6727 rfl rfl (any_of HT_.out (by kernel_rfl)) (fun _ _ _ h => h) (Or.inr ⟨by rfl, rfl⟩) ?_ ?_); rotate_left
      ·go_simp; rfl
      (refine pure_ (i := 32) (N := some 55) (v := undef) (a' := ?_) LI6728 rfl rfl (any_of HT_.out (by kernel_rfl)) (fun _ _ _ h => h) (Or.inr ⟨by rfl, rfl⟩) ?_ ?_); rotate_left
      ·go_simp; rfl
      (refine pure_ (i := 33) (N := some 56) (v := undef) (a' := ?_) LI6729 rfl rfl (any_of HT_.out (by kernel_rfl)) (fun _ _ _ h => h) (Or.inr ⟨by rfl, rfl⟩) ?_ ?_); rotate_left
      ·go_simp; rfl
      (refine pure_ (i := 34) (N := some 57) (v := undef) (a' := ?_) LI6730 rfl rfl (any_of HT_.out (by kernel_rfl)) (fun _ _ _ h => h) (Or.inr ⟨by rfl, rfl⟩) ?_ ?_); rotate_left
      ·go_simp; rfl
      (refine pure_ (i := 35) (N := some 58) (v := undef) (a' := ?_) LI6731 rfl rfl (any_of HT_.out (by kernel_rfl)) (fun _ _ _ h => h) (Or.inr ⟨by rfl, rfl⟩) ?_ ?_); rotate_left
      ·go_simp; rfl
      (refine pure_ (i := 36) (N := some 59) (v := ?_) (a' := ?_) LI6732 rfl rfl (any_of HT_.out (by kernel_rfl)) (fun _ _ _ h => h) (Or.inl ⟨by rfl, ?_⟩) ?_ ?_); rotate_left
      ·intro w'; go_simp; (with_reducible rfl)
      rotate_left
      ·go_simp; rfl
      (refine done_ (done_of HT_.out (by kernel_rfl)) ?_); (try go_wp2); (go_roundg k1)
      case measure => have := HK1.out; omega
      case rel => exact ⟨(x10_1), (wrap64 (x11_1 + 1)), (by first | rfl | (simp; done) | (simp [*]; done)), (by first | rfl | (simp; done) | (simp [*]; done)), H', ⟨by have := HK1.out; omega⟩, ⟨by (with_reducible repeat (first | refine blk_drewN ?_ _ | refine blk_drew ?_ | refine blk_alloc ?_ _)); exact BK103.out⟩, ⟨by repeat (first | (with_reducible first | exact HB.out | apply below_alloc | apply pw_below_drewN | apply below_drew1 | refine below_set ?_ GE103.out | refine below_set ?_ GE105.out) | exact HB.out)⟩⟩
    ·rw [if_neg c7] at H; (exact absurd H (by simp))
   ·rw [if_neg c6] at H; have c6b0 : decide (x11_1 < (l0.length : Int)) = false := decide_eq_false c6; clear c6; (by_cases c54 : x10_1 < 0)
    ·rw [if_pos c54] at H; have c54b0 : decide (x10_1 < 0) = true := decide_eq_true c54; clear c54; simp only [Option.some.injEq, Prod.mk.injEq] at H; obtain ⟨rfl, rfl⟩ := H; (go_wp2); (go_ret2); (exact ⟨by first | rfl | (simp [errW_none, errW_some] <;> rfl) | (simp [*, errW_none, errW_some] <;> rfl), by repeat (first | (with_reducible first | exact HB.out | apply below_alloc | apply pw_below_drewN | apply below_drew1 | refine below_set ?_ GE103.out) | exact HB.out)⟩)
    ·rw [if_neg c54] at H; have c54b0 : decide (x10_1 < 0) = false := decide_eq_false c54; clear c54; (by_cases c55 : 0 ≤ x10_1)
     ·rw [if_pos c55] at H; have c55b0 : decide (0 ≤ x10_1) = true := decide_eq_true c55; clear c55; (by_cases c56 : x10_1 < (l0.length : Int))
      ·rw [if_pos c56] at H; have c56b0 : decide (x10_1 < (l0.length : Int)) = true := decide_eq_true c56; clear c56; (by_cases c57 : ((rd_T28 l0 x10_1).f1) < 0)
       ·rw [if_pos c57] at H; have c57b0 : decide (((rd_T28 l0 x10_1).f1) < 0) = true := decide_eq_true c57; clear c57; simp only [Option.some.injEq, Prod.mk.injEq] at H; obtain ⟨rfl, rfl⟩ := H; (have p108 : 0 ≤ (x10_1 : Int) := of_decide_eq_true (by assumption)); (have q108 : x10_1 < (l0.length : Int) := of_decide_eq_true (by assumption)); obtain ⟨ad108, e108, hx108_0, hx108_1, hx108_2, hx108_3, hx108_4, hx108_5, hx108_6, hx108_7⟩ := at_T28 HR0.out x10_1 p108 q108; cases e108; replace hx108_0 := (HB.out.cell (World.block_lt_of_cell? w _ hx108_0)).trans hx108_0; replace hx108_1 := (HB.out.cell (World.block_lt_of_cell? w _ hx108_1)).trans hx108_1; replace hx108_2 := (HB.out.cell (World.block_lt_of_cell? w _ hx108_2)).trans hx108_2; replace hx108_3 := (HB.out.cell (World.block_lt_of_cell? w _ hx108_3)).trans hx108_3; replace hx108_4 := (HB.out.cell (World.block_lt_of_cell? w _ hx108_4)).trans hx108_4; replace hx108_5 := (HB.out.cell (World.block_lt_of_cell? w _ hx108_5)).trans hx108_5; replace hx108_6 := (HB.out.cell (World.block_lt_of_cell? w _ hx108_6)).trans hx108_6; replace hx108_7 := (HB.out.cell (World.block_lt_of_cell? w _ hx108_7)).trans hx108_7; replace p108 := eq_true p108; replace q108 := eq_true q108; (go_wp2); (go_ret2); (exact ⟨by first | rfl | (simp [errW_none, errW_some] <;> rfl) | (simp [*, errW_none, errW_some] <;> rfl), by repeat (first | (with_reducible first | exact HB.out | apply below_alloc | apply pw_below_drewN | apply below_drew1 | refine below_set ?_ GE103.out) | exact HB.out)⟩)
       ·rw [if_neg c57] at H; have c57b0 : decide (((rd_T28 l0 x10_1).f1) < 0) = false := decide_eq_false c57; clear c57; simp only [Option.some.injEq, Prod.mk.injEq] at H; obtain ⟨rfl, rfl⟩ := H; (have p108 : 0 ≤ (x10_1 : Int) := of_decide_eq_true (by assumption)); (have q108 : x10_1 < (l0.length : Int) := of_decide_eq_true (by assumption)); obtain ⟨ad108, e108, hx108_0, hx108_1, hx108_2, hx108_3, hx108_4, hx108_5, hx108_6, hx108_7⟩ := at_T28 HR0.out x10_1 p108 q108; cases e108; replace hx108_0 := (HB.out.cell (World.block_lt_of_cell? w _ hx108_0)).trans hx108_0; replace hx108_1 := (HB.out.cell (World.block_lt_of_cell? w _ hx108_1)).trans hx108_1; replace hx108_2 := (HB.out.cell (World.block_lt_of_cell? w _ hx108_2)).trans hx108_2; replace hx108_3 := (HB.out.cell (World.block_lt_of_cell? w _ hx108_3)).trans hx108_3; replace hx108_4 := (HB.out.cell (World.block_lt_of_cell? w _ hx108_4)).trans hx108_4; replace hx108_5 := (HB.out.cell (World.block_lt_of_cell? w _ hx108_5)).trans hx108_5; replace hx108_6 := (HB.out.cell (World.block_lt_of_cell? w _ hx108_6)).trans hx108_6; replace hx108_7 := (HB.out.cell (World.block_lt_of_cell? w _ hx108_7)).trans hx108_7; replace p108 := eq_true p108; replace q108 := eq_true q108; (have p109 : 0 ≤ (x10_1 : Int) := of_decide_eq_true (by assumption)); (have q109 : x10_1 < (l0.length : Int) := of_decide_eq_true (by assumption)); obtain ⟨ad109, e109, hx109_0, hx109_1, hx109_2, hx109_3, hx109_4, hx109_5, hx109_6, hx109_7⟩ := at_T28 HR0.out x10_1 p109 q109; (obtain rfl : ad108 = ad109 := (by injection e109)); replace hx109_0 := (HB.out.cell (World.block_lt_of_cell? w _ hx109_0)).trans hx109_0; replace hx109_1 := (HB.out.cell (World.block_lt_of_cell? w _ hx109_1)).trans hx109_1; replace hx109_2 := (HB.out.cell (World.block_lt_of_cell? w _ hx109_2)).trans hx109_2; replace hx109_3 := (HB.out.cell (World.block_lt_of_cell? w _ hx109_3)).trans hx109_3; replace hx109_4 := (HB.out.cell (World.block_lt_of_cell? w _ hx109_4)).trans hx109_4; replace hx109_5 := (HB.out.cell (World.block_lt_of_cell? w _ hx109_5)).trans hx109_5; replace hx109_6 := (HB.out.cell (World.block_lt_of_cell? w _ hx109_6)).trans hx109_6; replace hx109_7 := (HB.out.cell (World.block_lt_of_cell? w _ hx109_7)).trans hx109_7; replace p109 := eq_true p109; replace q109 := eq_true q109; (go_wp2); (go_ret2); (exact ⟨by first | rfl | (simp [errW_none, errW_some] <;> rfl) | (simp [*, errW_none, errW_some] <;> rfl), by repeat (first | (with_reducible first | exact HB.out | apply below_alloc | apply pw_below_drewN | apply below_drew1 | refine below_set ?_ GE103.out) | exact HB.out)⟩)
      ·rw [if_neg c56] at H; (exact absurd H (by simp))
     ·rw [if_neg c55] at H; (exact absurd H (by simp))
end Go.Proofs.Ytamajnhdibcpiaa.G
namespace Go.Proofs.Ytamajnhdibcpiaa.G
open Go.RowKit Go.Proofs.YtamajnhdibcpiaaW.PrintWords Go.Proofs.YtamajnhdibcpiaaW.PrintLast Go.Proofs.YtamajnhdibcpiaaW.PrintMore
def stOf (l : List S28) (key : S24) (known term : Int) (i : Nat) : Option S28 := bestM (ofM (l.take i) key known) term
theorem stOf_succ (l : List S28) (key : S24) (known term : Int) (i : Nat) (hi : i < l.length) : stOf l key known term (i + 1) = if selB key known (l.getD i z28) = true then bestStep term (stOf l key known term i) (l.getD i z28) else stOf l key known term i := by
 have e : l.take (i + 1) = l.take i ++ [l.getD i z28] := by
  rw [List.take_add_one]; simp [hi]
 unfold stOf; rw [e]; unfold ofM; rw [List.filter_append]; (by_cases h : selB key known (l.getD i z28) = true)
 ·rw [if_pos h]; simp only [List.filter_cons, h, if_true, List.filter_nil]; exact bestM_snoc _ _ _
 ·rw [if_neg h]; simp only [List.filter_cons, h, if_false, List.filter_nil, List.append_nil]; simp
end Go.Proofs.Ytamajnhdibcpiaa.G
namespace Go.Proofs.Ytamajnhdibcpiaa.G
open Go.RowKit Go.Proofs.YtamajnhdibcpiaaW.PrintWords Go.Proofs.YtamajnhdibcpiaaW.PrintLast Go.Proofs.YtamajnhdibcpiaaW.PrintMore
theorem lessB_iff (x y : S28) : lessB x y = true ↔ (x.f3 < y.f3 ∨ x.f3 = y.f3 ∧ x.f4 < y.f4) := by unfold lessB; simp
def candB (key : S24) (term known : Int) (x : S28) : Bool := selB key known x && decide (x.f2.f0 ≤ term ∧ term < x.f2.f1)
theorem eqKB_iff (x : S28) (key : S24) : eqKB x key = true ↔ (x.f0.f0 = key.f0 ∧ x.f0.f1 = key.f1 ∧ x.f0.f2 = key.f2) := by unfold eqKB; simp
theorem candB_iff (x : S28) (key : S24) (term known : Int) : candB key term known x = true ↔ (eqKB x key = true ∧ x.f3 ≤ known ∧ x.f2.f0 ≤ term ∧ term < x.f2.f1) := by
 rw [eqKB_iff]; unfold candB selB; simp only [Bool.and_eq_true, decide_eq_true_eq]; constructor
 ·rintro ⟨⟨a, b, c, d⟩, e, f⟩; exact ⟨⟨a, b, c⟩, d, e, f⟩
 ·rintro ⟨⟨a, b, c⟩, d, e, f⟩; exact ⟨⟨a, b, c, d⟩, e, f⟩
theorem testA_not (x : S28) (key : S24) (term known : Int) : testA x key term known = !candB key term known x := by
 rw [Bool.eq_iff_iff, Bool.not_eq_true', ← Bool.not_eq_true, candB_iff]; unfold testA; simp only [Bool.or_eq_true, Bool.not_eq_true', decide_eq_true_eq]
 cases h : eqKB x key with
 | false => simp
 | true => simp only [Bool.true_eq_false, false_or, true_and]; omega
def beatsB (x y : S28) (i j : Int) : Bool := lessB y x || (decide (i < j) && !lessB x y)
theorem testB_eq (x y : S28) (key : S24) (term known i j : Int) : testB x y key term known i j = (candB key term known x && beatsB x y i j) := by
 rw [Bool.eq_iff_iff, Bool.and_eq_true, candB_iff]; unfold testB beatsB; simp only [Bool.and_eq_true, Bool.or_eq_true, decide_eq_true_eq]; constructor
 ·rintro ⟨⟨⟨⟨a, b⟩, c⟩, d⟩, e⟩; exact ⟨⟨a, d, b, c⟩, e⟩
 ·rintro ⟨⟨a, d, b, c⟩, e⟩; exact ⟨⟨⟨⟨a, b⟩, c⟩, d⟩, e⟩
theorem beats_total (x y : S28) (i j : Int) (h : i ≠ j) : beatsB x y i j = true ∨ beatsB y x j i = true := by
 unfold beatsB; simp only [Bool.or_eq_true, Bool.and_eq_true, decide_eq_true_eq, Bool.not_eq_true', ← Bool.not_eq_true, lessB_iff]; omega
def Top (l : List S28) (key : S24) (term known : Int) (i : Nat) (st : Option S28) : Prop := match st with
  | none => ∀ j, j < i → candB key term known (l.getD j z28) = false
  | some s => ∃ m, m < i ∧ l.getD m z28 = s ∧ candB key term known s = true ∧ ∀ j, j < i → candB key term known (l.getD j z28) = true → beatsB (l.getD j z28) s (m : Int) (j : Int) = false
theorem top_all (l : List S28) (key : S24) (term known : Int) : ∀ i, i ≤ l.length → Top l key term known i (stOf l key known term i) := by
 intro i
 induction i with
 | zero => intro _ j hj; omega
 | succ i ih =>
  intro hi; (have h := ih (by omega)); (rw [stOf_succ l key known term i (by omega)]); generalize stOf l key known term i = st at h; generalize hx : l.getD i z28 = x; (by_cases hs : selB key known x = true)
  ·rw [if_pos hs]; unfold bestStep; (by_cases hv : x.f2.f0 ≤ term ∧ term < x.f2.f1)
   ·rw [if_pos hv]; (have hc : candB key term known x = true := by unfold candB; rw [hs]; simp [hv])
    cases st with
    | none =>
     (refine ⟨i, by omega, hx, hc, fun j hj hcj => ?_⟩); (by_cases e : j = i)
     ·subst e; rw [hx]; unfold beatsB lessB; simp
     ·have := h j (by omega); rw [hcj] at this; cases this
    | some b =>
     obtain ⟨m, hm, hmb, hcb, hno⟩ := h; (by_cases hl : lessB x b = true)
     ·simp only [hl, if_true]; (refine ⟨m, by omega, hmb, hcb, fun j hj hcj => ?_⟩); (by_cases e : j = i)
      ·subst e; rw [hx]; rw [lessB_iff] at hl; unfold beatsB; rw [← Bool.not_eq_true]; simp only [Bool.or_eq_true, Bool.and_eq_true, decide_eq_true_eq, Bool.not_eq_true', ← Bool.not_eq_true, lessB_iff]; omega
      ·exact hno j (by omega) hcj
     ·simp only [hl, if_false]; (refine ⟨i, by omega, hx, hc, fun j hj hcj => ?_⟩); (by_cases e : j = i)
      ·subst e; rw [hx]; unfold beatsB lessB; simp
      ·(have h2 := hno j (by omega) hcj); unfold beatsB at h2 ⊢; rw [← Bool.not_eq_true] at h2 ⊢; simp only [Bool.or_eq_true, Bool.and_eq_true, decide_eq_true_eq, Bool.not_eq_true', ← Bool.not_eq_true, lessB_iff] at h2 hl ⊢; omega
   ·rw [if_neg hv]; (have hc : candB key term known x = false := by unfold candB; simp [hv])
    cases st with
    | none =>
     intro j hj; (by_cases e : j = i)
     ·subst e; rw [hx]; exact hc
     ·exact h j (by omega)
    | some b =>
     obtain ⟨m, hm, hmb, hcb, hno⟩ := h; (refine ⟨m, by omega, hmb, hcb, fun j hj hcj => ?_⟩); (by_cases e : j = i)
     ·subst e; rw [hx, hc] at hcj; cases hcj
     ·exact hno j (by omega) hcj
  ·rw [if_neg hs]; (have hc : candB key term known x = false := by unfold candB; simp [hs])
   cases st with
   | none =>
    intro j hj; (by_cases e : j = i)
    ·subst e; rw [hx]; exact hc
    ·exact h j (by omega)
   | some b =>
    obtain ⟨m, hm, hmb, hcb, hno⟩ := h; (refine ⟨m, by omega, hmb, hcb, fun j hj hcj => ?_⟩); (by_cases e : j = i)
    ·subst e; rw [hx, hc] at hcj; cases hcj
    ·exact hno j (by omega) hcj
theorem rdN (l : List S28) (i : Nat) : rd_T28 l (i : Int) = l.getD i z28 := by unfold rd_T28; rw [Int.toNat_natCast]
def cntAfter (k : Nat) (x0 : List S28) (x2 x3 x9 : Int) (x10 x11 : Bool) (x13 : Int) (x14 : Bool) (a b c : Int) : Option Bool := (if x14 = true then (if 0 ≤ x13 then (if x13 < (x0.length : Int) then (if (x10 != (decide (((rd_T28 x0 x13).f1) ≥ 0))) = true then (none) else (if x10 = true then (if x9 = ((rd_T28 x0 x13).f1) then (sizarlaw07_FactsCounts.l0 k x0 x2 x3 x9 x10 true true (wrap64 (x13 + 1)) a b c) else (none)) else (sizarlaw07_FactsCounts.l0 k x0 x2 x3 x9 x10 true true (wrap64 (x13 + 1)) a b c))) else (none)) else (none)) else (sizarlaw07_FactsCounts.l0 k x0 x2 x3 x9 x10 x11 true (wrap64 (x13 + 1)) a b c))
theorem l1_in (l : List S28) (hn : l.length ≤ 1000000) (x2 x3 x9 : Int) (x10 x11 : Bool) (i : Nat) (hi : i < l.length) (key : S24) : ∀ (d j : Nat), l.length - j = d → j ≤ l.length → ∀ b b' : Bool,
    (b' = true ↔ (b = true ∧ ∀ q, j ≤ q → q < l.length → testB (l.getD q z28) (l.getD i z28) key x2 x3 (i : Int) (q : Int) = false)) →
    Evt (fun k => cntAfter k l x2 x3 x9 x10 x11 (i : Int) b' key.f0 key.f1 key.f2) true → Evt (fun k => sizarlaw07_FactsCounts.l1 k l x2 x3 x9 x10 x11 (i : Int) b (j : Int) key.f0 key.f1 key.f2) true := by
  intro d
  induction d with
  | zero =>
    intro j hd hj b b' hb h
    have e : b' = b := by
      rw [Bool.eq_iff_iff, hb]
      exact ⟨fun h => h.1, fun h => ⟨h, fun q h1 h2 => by omega⟩⟩
    rw [e] at h
    refine h.succ fun k => ?_
    simp only [sizarlaw07_FactsCounts.l1]
    rw [if_neg (by omega)]
    rfl
  | succ d ih =>
    intro j hd hj b b' hb h
    have hstep := ih (j + 1) (by omega) (by omega) (if testB (l.getD j z28) (l.getD i z28) key x2 x3 (i : Int) (j : Int) = true then false else b) b' (by
      rw [hb]
      by_cases ht : testB (l.getD j z28) (l.getD i z28) key x2 x3 (i : Int) (j : Int) = true
      · rw [if_pos ht]
        refine ⟨fun h => ?_, fun h => by simp at h⟩
        have := h.2 j (by omega) (by omega); rw [ht] at this; cases this
      · rw [if_neg ht]
        simp only [Bool.not_eq_true] at ht
        refine ⟨fun h => ⟨h.1, fun q h1 h2 => h.2 q (by omega) h2⟩, fun h => ⟨h.1, fun q h1 h2 => ?_⟩⟩
        by_cases e : q = j
        · subst e; exact ht
        · exact h.2 q (by omega) h2) h
    refine hstep.succ fun k => ?_
    simp only [sizarlaw07_FactsCounts.l1, cntB.f]
    rw [if_pos (by omega), if_pos (by omega), rdN, rdN, Option.bind_some, w64 (by omega) (by omega)]
    by_cases ht : testB (l.getD j z28) (l.getD i z28) key x2 x3 (i : Int) (j : Int) = true
    · rw [if_pos ht, if_pos ht]; rfl
    · rw [if_neg ht, if_neg ht]; rfl
def SomeTo (l : List S28) (key : S24) (x2 x3 : Int) (i : Nat) : Prop := ∃ j, j < i ∧ candB key x2 x3 (l.getD j z28) = true
def MetTo (l : List S28) (key : S24) (x2 x3 : Int) (i : Nat) : Prop := ∃ m, m < i ∧ candB key x2 x3 (l.getD m z28) = true ∧ ∀ q, q < l.length → testB (l.getD q z28) (l.getD m z28) key x2 x3 (m : Int) (q : Int) = false
theorem l0_from (l : List S28) (hn : l.length ≤ 1000000) (x2 x3 : Int) (key : S24) : ∀ (d i : Nat), l.length - i = d → i ≤ l.length → ∀ met some_ : Bool,
    (some_ = true ↔ SomeTo l key x2 x3 i) → (met = true ↔ MetTo l key x2 x3 i) →
    Evt (fun k => sizarlaw07_FactsCounts.l0 k l x2 x3 (atM l key x2 x3).1 (atM l key x2 x3).2 met some_ (i : Int) key.f0 key.f1 key.f2) true := by
  have hT := top_all l key x2 x3 l.length (Nat.le_refl _)
  have e : l.take l.length = l := List.take_of_length_le (Nat.le_refl _)
  have hst : stOf l key x3 x2 l.length = bestM (ofM l key x3) x2 := by unfold stOf; rw [e]
  rw [hst] at hT
  intro d
  induction d with
  | zero =>
    intro i hd hi met some_ hs hm
    have hi' : i = l.length := by omega
    subst hi'
    refine ⟨1, fun k hk => ?_⟩
    obtain ⟨m, rfl⟩ : ∃ m, k = m + 1 := ⟨k - 1, by omega⟩
    simp only [sizarlaw07_FactsCounts.l0]
    rw [if_neg (by omega)]
    unfold atM
    cases hb : bestM (ofM l key x3) x2 with
    | none =>
      rw [hb] at hT
      have h1 : some_ = false := by
        rw [← Bool.not_eq_true, hs]
        rintro ⟨j, hj, hc⟩
        rw [hT j hj] at hc; cases hc
      have h2 : met = false := by
        rw [← Bool.not_eq_true, hm]
        rintro ⟨j, hj, hc, _⟩
        rw [hT j hj] at hc; cases hc
      rw [h1, h2]
      rfl
    | some s =>
      rw [hb] at hT
      obtain ⟨m, hml, hms, hcs, hno⟩ := hT
      have h1 : some_ = true := by rw [hs]; exact ⟨m, hml, by rw [hms]; exact hcs⟩
      have h2 : met = true := by
        rw [hm]
        refine ⟨m, hml, by rw [hms]; exact hcs, fun q hq => ?_⟩
        rw [testB_eq, hms]
        cases hc : candB key x2 x3 (l.getD q z28) with
        | false => rfl
        | true => rw [hno q hq hc]; rfl
      rw [h1, h2]
      by_cases h : s.f1 < 0
      · simp [h]
      · simp [h]
  | succ d ih =>
    intro i hd hi met some_ hs hm
    have hil : i < l.length := by omega
    cases hc : candB key x2 x3 (l.getD i z28) with
    | false =>
      have hs2 : (some_ = true ↔ SomeTo l key x2 x3 (i + 1)) := by
        rw [hs]
        refine ⟨fun ⟨j, h1, h2⟩ => ⟨j, by omega, h2⟩, fun ⟨j, h1, h2⟩ => ⟨j, ?_, h2⟩⟩
        by_cases e : j = i
        · subst e; rw [hc] at h2; cases h2
        · omega
      have hm2 : (met = true ↔ MetTo l key x2 x3 (i + 1)) := by
        rw [hm]
        refine ⟨fun ⟨j, h1, h2⟩ => ⟨j, by omega, h2⟩, fun ⟨j, h1, h2⟩ => ⟨j, ?_, h2⟩⟩
        by_cases e : j = i
        · subst e; rw [hc] at h2; cases h2.1
        · omega
      refine (ih (i + 1) (by omega) (by omega) met some_ hs2 hm2).succ fun k => ?_
      simp only [sizarlaw07_FactsCounts.l0, cntA.f]
      rw [if_pos (by omega), if_pos (by omega), rdN, Option.bind_some, testA_not, show (⟨key.f0, key.f1, key.f2⟩ : S24) = key from rfl, hc, w64 (by omega) (by omega)]
      rfl
    | true =>
      have hs2 : (true = true ↔ SomeTo l key x2 x3 (i + 1)) := ⟨fun _ => ⟨i, by omega, hc⟩, fun _ => rfl⟩
      generalize hb' : decide (∀ q, q < l.length → testB (l.getD q z28) (l.getD i z28) key x2 x3 (i : Int) (q : Int) = false) = b'
      have hb2 : (b' = true ↔ ∀ q, q < l.length → testB (l.getD q z28) (l.getD i z28) key x2 x3 (i : Int) (q : Int) = false) := by rw [← hb', decide_eq_true_eq]
      have hinner := l1_in l hn x2 x3 (atM l key x2 x3).1 (atM l key x2 x3).2 met i hil key l.length 0 (by omega) (by omega) true b' (by
        rw [hb2]; exact ⟨fun h => ⟨rfl, fun q _ h2 => h q h2⟩, fun h q h2 => h.2 q (by omega) h2⟩)
      refine (hinner ?_).succ fun k => ?_
      · unfold cntAfter
        cases b' with
        | false =>
          have hm2 : (met = true ↔ MetTo l key x2 x3 (i + 1)) := by
            rw [hm]
            refine ⟨fun ⟨j, h1, h2⟩ => ⟨j, by omega, h2⟩, fun ⟨j, h1, h2⟩ => ⟨j, ?_, h2⟩⟩
            by_cases e : j = i
            · subst e; have := hb2.2 h2.2; cases this
            · omega
          refine (ih (i + 1) (by omega) (by omega) met true hs2 hm2).congr fun k => ?_
          rw [if_neg (by simp), w64 (by omega) (by omega)]
          rfl
        | true =>
          have hlast := hb2.1 rfl
          have hm2 : (true = true ↔ MetTo l key x2 x3 (i + 1)) := ⟨fun _ => ⟨i, by omega, hc, hlast⟩, fun _ => rfl⟩
          -- this one is the best
          have hbest : bestM (ofM l key x3) x2 = some (l.getD i z28) := by
            cases hb : bestM (ofM l key x3) x2 with
            | none => rw [hb] at hT; have := hT i hil; rw [hc] at this; cases this
            | some s =>
              rw [hb] at hT
              obtain ⟨m, hml, hms, hcs, hno⟩ := hT
              by_cases em : m = i
              · subst em; rw [hms]
              · exfalso
                have h1 := hno i hil hc
                have h2 := hlast m hml
                rw [testB_eq, hms, hcs, Bool.true_and] at h2
                rcases beats_total (l.getD i z28) s (m : Int) (i : Int) (by omega) with h | h
                · rw [h1] at h; cases h
                · rw [h2] at h; cases h
          have hat : atM l key x2 x3 = if (l.getD i z28).f1 < 0 then (0, false) else ((l.getD i z28).f1, true) := by unfold atM; rw [hbest]
          refine (ih (i + 1) (by omega) (by omega) true true hs2 hm2).congr fun k => ?_
          rw [if_pos rfl, if_pos (by omega), if_pos (by omega), rdN, w64 (by omega) (by omega), hat]
          by_cases h : (l.getD i z28).f1 < 0
          · simp only [if_pos h]
            have e2 : decide ((l.getD i z28).f1 ≥ 0) = false := by rw [decide_eq_false_iff_not]; omega
            rw [e2, if_neg (by simp), if_neg (by simp)]
            rfl
          · simp only [if_neg h]
            have e2 : decide ((l.getD i z28).f1 ≥ 0) = true := by rw [decide_eq_true_eq]; omega
            rw [e2, if_neg (by simp)]
            simp only [if_true]
            rfl
      · simp only [sizarlaw07_FactsCounts.l0, cntA.f]
        rw [if_pos (by omega), if_pos (by omega), rdN, Option.bind_some, testA_not, show (⟨key.f0, key.f1, key.f2⟩ : S24) = key from rfl, hc]
        rfl
theorem counts_j0 (l : List S28) (hn : l.length ≤ 1000000) (x2 x3 : Int) (key : S24) : Evt (fun k => sizarlaw07_FactsCounts.j0 k l x2 x3 key.f0 key.f1 key.f2) true := by
 refine (l0_from l hn x2 x3 key l.length 0 (by omega) (by omega) false false ?_ ?_).succ fun k => ?_
 ·constructor
  ·intro h; cases h
  ·rintro ⟨j, h, _⟩; omega
 ·constructor
  ·intro h; cases h
  ·rintro ⟨j, h, _⟩; omega
 ·simp only [sizarlaw07_FactsCounts.j0, facts_At.f, Option.bind_some]; rfl
theorem counts_law (l0 : List S28) (a b c x2 x3 : Int) : ∃ k, sizarlaw07_FactsCounts.f k l0 a b c x2 x3 = some true := by
 refine Evt.ex (r := true) ?_; unfold sizarlaw07_FactsCounts.f; refine sane_all.bind ?_; simp only [if_true, sizarref07_Few.f, Option.bind_some]; (by_cases hf : decide ((l0.length : Int) ≤ 30) = true)
 ·simp only [if_pos hf]; have hf2 := of_decide_eq_true hf; (by_cases hp : (l0.length : Int) > 0)
  ·have hb : 0 ≤ Go.bits .and .i64 b 31 := and31_nonneg b; have h1 : 0 ≤ Int.tmod (Go.bits .and .i64 b 31) (l0.length : Int) := Int.tmod_nonneg _ hb; have h2 : Int.tmod (Go.bits .and .i64 b 31) (l0.length : Int) < (l0.length : Int) := Int.tmod_lt_of_pos _ hp; (simp only [if_pos hp, if_neg (show ¬ (l0.length : Int) = 0 by omega), if_pos h1, if_pos h2]); (exact counts_j0 l0 (by omega) x2 x3 (rd_T28 l0 _).f0)
  ·simp only [if_neg hp]; (exact counts_j0 l0 (by omega) x2 x3 ⟨a, b, c⟩)
 ·simp only [if_neg hf]; (exact Evt.of fun _ => rfl)
end Go.Proofs.Ytamajnhdibcpiaa.G
namespace Go.Proofs.Ytamajnhdibcpiaa.G
open Go.ChangeShapes Go.WideShapes Go.Deep Go.ChangeAt Go.RowKit Go.Proofs.YtamajnhdibcpiaaW.PrintWords Go.Proofs.YtamajnhdibcpiaaW.PrintLast
set_option maxRecDepth 100000
theorem own : ownKnob Try.prog.godebug = none := by kernel_rfl
def wfi (n : Int) : Bool := (Lit.int .i64 n).wf
def wf28 (x : S28) : Bool := wfK x.f0 && (wfi x.f1 && (wfi x.f2.f0 && (wfi x.f2.f1 && (wfi x.f3 && wfi x.f4))))
theorem cells26 : Try.prog.cellsOf 26 = 2 := by kernel_rfl
theorem cells28n : Try.prog.cellsOf 28 = 8 := by kernel_rfl
section
variable {H : Type} {enc : TypeId × Value → H} {w : World} {base : Nat} {spare : Nat → Bool} {held : Bool} {fuel : Nat} {cs : List Value} {x : DataW H × List MemPlace}
theorem t24 (hl : cs.length = 3) (h : DataW.trod enc Try.prog w base spare held fuel 24 cs = some x) : ∃ k : S24, cs = [.int .i64 k.f0, .int .i64 k.f1, .int .i64 k.f2] ∧ wfK k = true := by
 match cs, hl with
 | [c0, c1, c2], _ =>
  obtain ⟨xs, n, _, hx, _, hlen, hg⟩ := DataW.trod_struct Try.underlying24 h
  match xs, hlen with
  | [y0, y1, y2], _ =>
   have t0 : DataW.trod enc Try.prog w base spare held n 3 [c0] = some y0 := hg 0 _ rfl; have t1 : DataW.trod enc Try.prog w base spare held n 3 [c1] = some y1 := hg 1 _ rfl; have t2 : DataW.trod enc Try.prog w base spare held n 3 [c2] = some y2 := hg 2 _ rfl; obtain ⟨n0, e0, _, w0⟩ := DataW.trod_int Try.underlying3 t0; obtain ⟨n1, e1, _, w1⟩ := DataW.trod_int Try.underlying3 t1; obtain ⟨n2, e2, _, w2⟩ := DataW.trod_int Try.underlying3 t2; cases e0; cases e1; cases e2; (exact ⟨⟨n0, n1, n2⟩, rfl, by simp [wfK, w0, w1, w2]⟩)
theorem t26 (hl : cs.length = 2) (h : DataW.trod enc Try.prog w base spare held fuel 26 cs = some x) : ∃ k : S26, cs = [.int .i64 k.f0, .int .i64 k.f1] ∧ (wfi k.f0 && wfi k.f1) = true := by
 match cs, hl with
 | [c0, c1], _ =>
  obtain ⟨xs, n, _, hx, _, hlen, hg⟩ := DataW.trod_struct Try.underlying26 h
  match xs, hlen with
  | [y0, y1], _ =>
   have t0 : DataW.trod enc Try.prog w base spare held n 3 [c0] = some y0 := hg 0 _ rfl; have t1 : DataW.trod enc Try.prog w base spare held n 3 [c1] = some y1 := hg 1 _ rfl; obtain ⟨n0, e0, _, w0⟩ := DataW.trod_int Try.underlying3 t0; obtain ⟨n1, e1, _, w1⟩ := DataW.trod_int Try.underlying3 t1; cases e0; cases e1; (exact ⟨⟨n0, n1⟩, rfl, by simp [wfi, w0, w1]⟩)
theorem t28 (hl : cs.length = 8) (h : DataW.trod enc Try.prog w base spare held fuel 28 cs = some x) :
    ∃ k : S28, cs = [.int .i64 k.f0.f0, .int .i64 k.f0.f1, .int .i64 k.f0.f2, .int .i64 k.f1, .int .i64 k.f2.f0, .int .i64 k.f2.f1, .int .i64 k.f3, .int .i64 k.f4] ∧ wf28 k = true := by
 match cs, hl with
 | [c0, c1, c2, c3, c4, c5, c6, c7], _ =>
  obtain ⟨xs, n, _, hx, _, hlen, hg⟩ := DataW.trod_struct Try.underlying28 h
  match xs, hlen with
  | [y0, y1, y2, y3, y4], _ =>
   have t0 : DataW.trod enc Try.prog w base spare held n 24 (([c0, c1, c2, c3, c4, c5, c6, c7].drop 0).take (Try.prog.cellsOf 24)) = some y0 := hg 0 _ rfl; have t1 : DataW.trod enc Try.prog w base spare held n 3 [c3] = some y1 := hg 1 _ rfl; have t2 : DataW.trod enc Try.prog w base spare held n 26 (([c0, c1, c2, c3, c4, c5, c6, c7].drop 4).take (Try.prog.cellsOf 26)) = some y2 := hg 2 _ rfl; have t3 : DataW.trod enc Try.prog w base spare held n 3 [c6] = some y3 := hg 3 _ rfl; have t4 : DataW.trod enc Try.prog w base spare held n 3 [c7] = some y4 := hg 4 _ rfl; rw [cells24] at t0; rw [cells26] at t2; obtain ⟨k0, e0, w0⟩ := t24 rfl t0; obtain ⟨n1, e1, _, w1⟩ := DataW.trod_int Try.underlying3 t1; obtain ⟨k2, e2, w2⟩ := t26 rfl t2; obtain ⟨n3, e3, _, w3⟩ := DataW.trod_int Try.underlying3 t3; obtain ⟨n4, e4, _, w4⟩ := DataW.trod_int Try.underlying3 t4; cases e0; cases e1; cases e2; cases e3; cases e4; refine ⟨⟨k0, n1, k2, n3, n4⟩, rfl, ?_⟩; simp only [Bool.and_eq_true] at w2; simp only [wf28, Bool.and_eq_true]; exact ⟨w0, w1, w2.1, w2.2, w3, w4⟩
end
section
variable {H : Type} {enc : TypeId × Value → H} {W : World} {base b0 : Nat} {r : Reach} {spare : Nat → Bool} {held : Bool} {a : Option Addr} {len cap : Nat} {d : DataW H} {p : List MemPlace} {v : Value}
theorem open28 (h : DataW.Trod enc Try.prog W base spare held 22 (.slice a len cap) d p) : ∃ l : List S28, len = l.length ∧ Kd.C k28 W a l.length l ∧ l.length ≤ cap ∧ ∀ x ∈ l, wf28 x = true := by
 obtain ⟨fuel, hf⟩ := h; (rcases open_slice Try.underlying22 hf with ⟨hcs, _⟩ | ⟨x, l, c, m, n, D, Pl, hcs, _, hl, hm, hmm, _, hi⟩)
 ·simp [Value.cells] at hcs; obtain ⟨rfl, rfl, rfl⟩ := hcs; (exact ⟨[], rfl, ⟨rfl, by simp, fun h => absurd h (by simp)⟩, by simp, by simp⟩)
 ·simp [Value.cells] at hcs; obtain ⟨rfl, rfl, rfl⟩ := hcs; (have hlm : len ≤ m := by rw [hmm]; split <;> omega)
  have hel : ∀ i, i < len → ∃ y : S28, (∀ q u, [Value.int .i64 y.f0.f0, .int .i64 y.f0.f1, .int .i64 y.f0.f2, .int .i64 y.f1, .int .i64 y.f2.f0, .int .i64 y.f2.f1, .int .i64 y.f3, .int .i64 y.f4][q]? = some u → W.cell? (x.add (i * 8 + q)) = some u) ∧ wf28 y = true := by
   intro i hi2; (obtain ⟨cs', hc, ht'⟩ := hi i (by omega)); rw [cells28n] at hc; obtain ⟨_, hcl, hat⟩ := World.cells?_some hc; obtain ⟨k, rfl, hk⟩ := t28 hcl ht'; (refine ⟨k, fun q u hq => ?_, hk⟩); have hq8 : q < 8 := (List.getElem?_eq_some_iff.1 hq).1; rw [← Go.Deep.add_add, hat q hq8]; exact hq
  refine ⟨(List.range len).map fun i => if h : i < len then (hel i h).choose else z28, by simp, ⟨rfl, by simp; unfold maxLen at hm; omega, fun _ => ⟨x, rfl, fun j y hj => ?_⟩⟩, by simp; exact hl, ?_⟩
  ·obtain ⟨hj1, hj2⟩ := List.getElem?_eq_some_iff.1 hj; simp only [List.length_map, List.length_range] at hj1; simp only [List.getElem_map, List.getElem_range, hj1, dif_pos] at hj2; subst hj2; exact ⟨_, rfl, k28_mk W _, (hel j hj1).choose_spec.1⟩
  ·intro y hy; obtain ⟨j, hj, rfl⟩ := List.mem_map.1 hy; (have hj1 : j < len := by simpa using hj); rw [dif_pos hj1]; exact (hel j hj1).choose_spec.2
theorem open24 (hv : Value.okWide Try.prog W r b0 24 v) (h : DataW.Trod enc Try.prog W base spare held 24 v d p) :
    ∃ n0 n1 n2 : Int, v = .agg #[.int .i64 n0, .int .i64 n1, .int .i64 n2] ∧ wfK ⟨n0, n1, n2⟩ = true := by
 obtain ⟨cs, rfl, hsz⟩ := okWide_struct Try.underlying24 hv; obtain ⟨l⟩ := cs; obtain ⟨fuel, hf⟩ := h; obtain ⟨k, e, hk⟩ := t24 (cs := l) (hsz.trans cells24) hf; (exact ⟨k.f0, k.f1, k.f2, by rw [e], hk⟩)
end
end Go.Proofs.Ytamajnhdibcpiaa.G
namespace Go.Proofs.Ytamajnhdibcpiaa.factsCounts
open Go.ChangeShapes Go.WideShapes Go.ChangeAt Go.RowKit Go.Proofs.Ytamajnhdibcpiaa.G
set_option maxRecDepth 100000 in
theorem lifted (os : Os) (started : os.Started) (H : Type) (enc : TypeId × Value → H) :
    ReturnsInHanded {} Try.checked os 8 .any (Rows.factsCountsSpec.pre6 enc Try.prog Try.f8 Rows.factsCountsRow.domain false) (Rows.factsCountsSpec.post enc Try.prog Try.f8 false true false false) := by
 refine returnsInHanded_of_change_sized (C := Try.checked) own started (by kernel_rfl) Try.func8
  (ChangeSpec.witness6 (enc := enc) (C := Try.checked) false ⟨#[], #[.slice none 0 0, .agg #[.int .i64 0, .int .i64 0, .int .i64 0], .int .i64 0, .int .i64 0], []⟩ 8 (by kernel_rfl) (by kernel_rfl) (by kernel_rfl) (by kernel_rfl)) ?_
 intro W base args ds gs before hval0 hW hcnd hsz0 _; have hval : ∀ (j : Nat) t v, Try.f8.params[j]? = some t → args[j]? = some v → Value.okWide Try.prog W .any base t v := hval0; have hW' := hW; obtain ⟨p, q, hA0, hV, rfl, hfz, hnd⟩ := hW; (have hA : DataW.TrodAll enc Try.prog W 0 (fun _ => true) true Try.f8.params.toList args.toList ds p := hA0); rw [Try.params8] at hA hval; obtain ⟨v0, vs0, d0, ds0, p0, q0, hargs, rfl, rfl, h0, r0⟩ := trodAll_cons hA; obtain ⟨v1, vs1, d1, ds1, p1, q1, rfl, rfl, rfl, h1, r1⟩ := trodAll_cons r0; obtain ⟨v2, vs2, d2, ds2, p2, q2, rfl, rfl, rfl, h2, r2⟩ := trodAll_cons r1; obtain ⟨v3, vs3, d3, ds3, p3, q3, rfl, rfl, rfl, h3, r3⟩ := trodAll_cons r2; obtain ⟨rfl, rfl, rfl⟩ := trodAll_nil r3; (obtain rfl : args = #[v0, v1, v2, v3] := by cases args; simp_all); obtain ⟨rfl, rfl⟩ := trodVars_none hV; obtain ⟨a0, len0, cap0, rfl⟩ := okWide_slice Try.underlying22 (hval 0 22 v0 rfl rfl); have k0 := h0; (have lt0 : ∀ x ∈ p0, x.block < W.heap.size := by obtain ⟨m, hm⟩ := k0; exact DataW.trod_lt m _ _ _ hm); obtain ⟨z0, rfl, w0, y0, f0⟩ := open28 h0; have k1 := h1; (have lt1 : ∀ x ∈ p1, x.block < W.heap.size := by obtain ⟨m, hm⟩ := k1; exact DataW.trod_lt m _ _ _ hm); obtain ⟨a1_0, a1_1, a1_2, rfl, f1⟩ := open24 (hval 1 24 v1 rfl rfl) h1; obtain ⟨a2, rfl, rfl, rfl, w2⟩ := open_int Try.underlying3 (hval 2 3 v2 rfl rfl) h2; obtain ⟨a3, rfl, rfl, rfl, w3⟩ := open_int Try.underlying3 (hval 3 3 v3 rfl rfl) h3; clear hA0 hval0; obtain ⟨k, hk⟩ := counts_law z0 a1_0 a1_1 a1_2 a2 a3; (refine (G.sizarlaw07_FactsCounts.calls k a0 cap0 z0 a1_0 a1_1 a1_2 a2 a3 true W w0 y0 hk).mono fun e W' ⟨he, bel⟩ => ?_); subst he; (exact ⟨_, rfl, _, _, _, [], _, [], hW', trodAll_mk1 (shut_bool Try.underlying4 _), (trodAll_cons_mk (Below.trod laidOut (by kernel_rfl) (of_decide_eq_true (by kernel_rfl)) k0 bel lt0) (trodAll_cons_mk (Below.trod laidOut (by kernel_rfl) (of_decide_eq_true (by kernel_rfl)) k1 bel lt1) (trodAll_cons_mk (shut_int Try.underlying3 w2) (trodAll_cons_mk (shut_int Try.underlying3 w3) trodAll_mk0)))), rfl, bel.frame _, fun h => by cases h⟩)
theorem over : Rows.factsCountsRow.holds Try.pinned (OpenSpec.ofChange Rows.factsCountsSpec) :=
  OpenClaim.holds_of_wide 8 Try.f8 rfl rfl rfl rfl rfl rfl rfl ⟨rfl, rfl, rfl, rfl, rfl⟩ rfl rfl rfl rfl rfl (by kernel_rfl) Try.func8 (by kernel_rfl)
    (of_decide_eq_true (by kernel_rfl)) (by unfold Func.isWrapper; first | (rw [if_pos (by decide +kernel)]; kernel_rfl) | (rw [if_neg (by decide +kernel)]; exact ⟨rfl, rfl⟩))
    (fun os started H enc _ => lifted os started H enc)
theorem proved : Rows.FactsCountsSaid := over
end Go.Proofs.Ytamajnhdibcpiaa.factsCounts
namespace Go.Proofs.Ytamajnhdibcpiaa
theorem factsCounts_holds : Rows.FactsCountsSaid := factsCounts.proved
end Go.Proofs.Ytamajnhdibcpiaa
