/- Part of the claim's proof. -/
import Derived.ArgAppend
import Derived.Deep.RegionLawGrows
import Derived.Deep.RegionHeld3
import Derived.Deep.DrawnRows
import Derived.Maps.Own
import Derived.Maps.RangeWalk
import Derived.Sort.MapsRangeIn
import Derived.RangeFuncStops
import Derived.RangeFuncKeeps
import Derived.DeepKeys4
import Derived.Shelf.SlIter.Stops
import Derived.Maps.OwnIn
import Derived.Maps.AppendAt
import Derived.Sort.Grow
import Derived.Shelf.SlSortCmp.WholeK
import Derived.Shelf.SlSortCmp.NoneTotal
import Derived.Maps.OwnSet
import Derived.Orders
import Derived.Test.YtamajnhdibcpiaaKI0
set_option linter.unusedVariables false
set_option linter.unusedSimpArgs false
namespace Go.Proofs.Ytamajnhdibcpiaa.G
open Go.RowKit Go.Proofs.YtamajnhdibcpiaaW.PrintWords Go.Proofs.YtamajnhdibcpiaaW.PrintLast Go.Proofs.YtamajnhdibcpiaaW.PrintMore
attribute [local go_sem] max2_int min2_int max_two min_two max_three min_three max_four min_four
def facts_Alike.l0 : Nat → List (S28) → Int → Int → List (S54) → Int → Int → Option (Bool)
  | 0, _, _, _, _, _, _ => none
  | k + 1, x0, x2, x3, x11, x12, x13 => if x13 < x12 then (if 0 ≤ x13 then (if x13 < (x11.length : Int) then ((facts_Points.f x0 ((rd_T54 x11 x13).f0.f0) ((rd_T54 x11 x13).f0.f1) ((rd_T54 x11 x13).f0.f2) ((rd_T54 x11 x13).f1) ((rd_T54 x11 x13).f2) x2).bind fun t132 => ((facts_Points.f x0 ((rd_T54 x11 x13).f0.f0) ((rd_T54 x11 x13).f0.f1) ((rd_T54 x11 x13).f0.f2) ((rd_T54 x11 x13).f1) ((rd_T54 x11 x13).f2) x3).bind fun t135 => ((api_Point.f k t132 t135).bind fun t138 => (if t138 = true then (facts_Alike.l0 k x0 x2 x3 x11 x12 (wrap64 (x13 + 1))) else (some false))))) else (none)) else (none)) else (some true)
def facts_Alike.f (k : Nat) (l0 : List (S28)) (l1 : List (S54)) (a2 : Int) (a3 : Int) : Option (Bool) := facts_Alike.l0 k l0 a2 a3 l1 (l1.length : Int) 0
theorem facts_Alike.mono_l : ∀ k, (∀ y0 y1 y2 y3 y4 y5, LeO (facts_Alike.l0 k y0 y1 y2 y3 y4 y5) (facts_Alike.l0 (k + 1) y0 y1 y2 y3 y4 y5))
  | 0 => fun _ _ _ _ _ _ r h => by simp [facts_Alike.l0] at h
  | k + 1 => by
    have ih0 := facts_Alike.mono_l k
    · intro y0 y1 y2 y3 y4 y5
      unfold facts_Alike.l0
      repeat' first
      | (with_reducible exact ih0 _ _ _ _ _ _)
      | (with_reducible exact api_Point.mono _ _ _)
      | (with_reducible exact LeO.refl _)
      | (with_reducible exact LeO.none _)
      | (with_reducible refine LeO.ite ?_ ?_)
      | (with_reducible refine LeO.bind ?_ (fun _ => ?_))
      | exact ih0 _ _ _ _ _ _
      | exact api_Point.mono _ _ _
      | exact LeO.none _
      | refine LeO.ite ?_ ?_
      | refine LeO.bind ?_ (fun _ => ?_)
theorem facts_Alike.mono : ∀ a0 a1 a2 a3 k, LeO (facts_Alike.f k a0 a1 a2 a3) (facts_Alike.f (k + 1) a0 a1 a2 a3) := by
 intro a0 a1 a2 a3 k; have ih0 := facts_Alike.mono_l k; unfold facts_Alike.f
 repeat' first
  | (with_reducible exact ih0 _ _ _ _ _ _)
  | (with_reducible exact api_Point.mono _ _ _)
  | (with_reducible exact LeO.refl _)
  | (with_reducible exact LeO.none _)
  | (with_reducible refine LeO.ite ?_ ?_)
  | (with_reducible refine LeO.bind ?_ (fun _ => ?_))
  | exact ih0 _ _ _ _ _ _
  | exact api_Point.mono _ _ _
  | exact LeO.none _
  | refine LeO.ite ?_ ?_
  | refine LeO.bind ?_ (fun _ => ?_)
def facts_Alike.T4 : Bool × List (List Nat × List Nat) := (true, [([], []), ([], []), ([1], [1]), ([], []), ([3], [3]), ([], []), ([5], [5]), ([], []), ([0, 2, 4, 6, 7], [0, 2, 4, 6, 7]), ([], []), ([], []), ([10], [10]), ([], []), ([12], [12]), ([], []), ([14], [14]), ([], []), ([9, 11, 13, 15, 16, 8], [9, 11, 13, 15, 16]), ([8, 17, 17], [8, 17]), ([18], [18])])
def facts_Alike.B4 : List Nat := [0, 0, 2, 0, 8, 0, 32, 0, 255, 0, 0, 1024, 0, 4096, 0, 16384, 0, 131071, 262143, 524287]
theorem facts_Alike.tab4 : rtab .any (opsOf Try.f26 4) = facts_Alike.T4 := by kernel_rfl
theorem facts_Alike.bits4 : waitsOk facts_Alike.T4.2 facts_Alike.B4 = true := by kernel_rfl
set_option maxHeartbeats 8000000 in
set_option maxRecDepth 100000 in
theorem facts_Alike.calls (k : Nat) (A0 : Option Addr) (c0 : Nat) (l0 : List (S28)) (A1 : Option Addr) (c1 : Nat) (l1 : List (S54)) (a2 : Int) (a3 : Int) (r : Bool) (w : World) (hr0 : Kd.C k28 w A0 l0.length l0) (hc0 : l0.length ≤ c0) (hr1 : Kd.C k54 w A1 l1.length l1) (hc1 : l1.length ≤ c1) (h : facts_Alike.f k l0 l1 a2 a3 = some r) :
    Calls Try.prog 26 #[.slice A0 l0.length c0, .slice A1 l1.length c1, .int .i64 a2, .int .i64 a3] w fun e w' => e = .returned (.bool r) ∧ Below w.heap.size w w' := by
 have hu54 := Try.underlying54; have hu24 := Try.underlying24; have HR0 := Aside0.mk hr0; have HC0 := Aside0.mk hc0; clear hr0 hc0; have HR1 := Aside0.mk hr1; have HC1 := Aside0.mk hc1; clear hr1 hc1; have HB := Aside0.mk (Below.refl w.heap.size w); have H : (facts_Alike.l0 k l0 a2 a3 l1 (l1.length : Int) 0) = some r := h; clear h; have H' := Aside0.mk H; clear H; (go_enter Try.func26, Try.ntmps26); (go_wp2); (go_loopg [13] k (fun kq v13 w' => ∃ (x13_1 : Int), v13 = .int .i64 x13_1 ∧ Aside0 (facts_Alike.l0 kq l0 a2 a3 l1 (l1.length : Int) x13_1 = some r) ∧ Aside0 (kq ≤ k) ∧ Aside0 (Below w.heap.size w w')))
 case atStart => exact ⟨(0), (by first | rfl | (simp; done) | (simp [*]; done)), H', ⟨Nat.le_refl _⟩, ⟨by repeat (first | (with_reducible first | exact HB.out | apply below_alloc | apply pw_below_drewN | apply below_drew1) | exact HB.out)⟩⟩
 case round =>
  clear H'; (try clear c1); (try clear c2); (try clear p2); obtain ⟨x13_1, rfl, HA, HK1, HB⟩ := hrel
  cases gk with
  | zero => exact absurd HA.out (by simp [facts_Alike.l0])
  | succ k1 =>
   have H := HA.out; clear HA; simp only [facts_Alike.l0] at H; (by_cases c5 : x13_1 < (l1.length : Int))
   ·rw [if_pos c5] at H; have c5b0 : decide (x13_1 < (l1.length : Int)) = true := decide_eq_true c5; clear c5; (by_cases c6 : 0 ≤ x13_1)
    ·rw [if_pos c6] at H; have c6b0 : decide (0 ≤ x13_1) = true := decide_eq_true c6; clear c6; (by_cases c7 : x13_1 < (l1.length : Int))
     ·rw [if_pos c7] at H; have c7b0 : decide (x13_1 < (l1.length : Int)) = true := decide_eq_true c7; clear c7; replace H := Option.bind_eq_some_iff.mp H; obtain ⟨t132, A80, H⟩ := H; (replace H : ((facts_Points.f l0 ((rd_T54 l1 x13_1).f0.f0) ((rd_T54 l1 x13_1).f0.f1) ((rd_T54 l1 x13_1).f0.f2) ((rd_T54 l1 x13_1).f1) ((rd_T54 l1 x13_1).f2) a3).bind fun t135 => ((api_Point.f k1 t132 t135).bind fun t138 => (if t138 = true then (facts_Alike.l0 k1 l0 a2 a3 l1 (l1.length : Int) (wrap64 (x13_1 + 1))) else (some false)))) = some r := H); have A8 := Aside0.mk A80; clear A80; replace H := Option.bind_eq_some_iff.mp H; obtain ⟨t135, A90, H⟩ := H; (replace H : ((api_Point.f k1 t132 t135).bind fun t138 => (if t138 = true then (facts_Alike.l0 k1 l0 a2 a3 l1 (l1.length : Int) (wrap64 (x13_1 + 1))) else (some false))) = some r := H); have A9 := Aside0.mk A90; clear A90; replace H := Option.bind_eq_some_iff.mp H; obtain ⟨t138, A100, H⟩ := H; replace H : (if t138 = true then (facts_Alike.l0 k1 l0 a2 a3 l1 (l1.length : Int) (wrap64 (x13_1 + 1))) else (some false)) = some r := H; have A10 := Aside0.mk A100; clear A100; (by_cases c11 : t138 = true)
      ·subst c11; (have H1 : (facts_Alike.l0 k1 l0 a2 a3 l1 (l1.length : Int) (wrap64 (x13_1 + 1))) = some r := by rw [if_pos rfl] at H; exact H); clear H; have H := H1; clear H1; have H' := Aside0.mk H; clear H; (have p130 : 0 ≤ (x13_1 : Int) := of_decide_eq_true (by assumption)); (have q130 : x13_1 < (l1.length : Int) := of_decide_eq_true (by assumption)); obtain ⟨ad130, e130, hx130_0, hx130_1, hx130_2, hx130_3, hx130_4⟩ := at_T54 HR1.out x13_1 p130 q130; cases e130; replace hx130_0 := (HB.out.cell (World.block_lt_of_cell? w _ hx130_0)).trans hx130_0; replace hx130_1 := (HB.out.cell (World.block_lt_of_cell? w _ hx130_1)).trans hx130_1; replace hx130_2 := (HB.out.cell (World.block_lt_of_cell? w _ hx130_2)).trans hx130_2; replace hx130_3 := (HB.out.cell (World.block_lt_of_cell? w _ hx130_3)).trans hx130_3; replace hx130_4 := (HB.out.cell (World.block_lt_of_cell? w _ hx130_4)).trans hx130_4; replace p130 := eq_true p130; replace q130 := eq_true q130; (try go_wp2_with (first | ((with_reducible refine gate_dst (N := 10) rfl ?_); refine box_event ?hg (N := 10) ?hd (cs := #[.int .i64 0, .int .i64 0, .int .i64 0, .int .i64 0, .int .i64 0]) (t := 54) ?hr ?_; (case hd => rfl); (case hg => rfl); (case hr => first | (go_simp; done) | (go_simp; rfl)); intro gb131 hg w12 hbox hb; have n0_ := Aside0.mk (below_step (by repeat (first | (with_reducible first | exact HB.out | apply below_alloc | apply pw_below_drewN | apply below_drew1) | exact HB.out)) hb); have n1_ := Aside0.mk (hbox); have n2_ := Aside0.mk ((by rw [hg]; exact (below_size (by repeat (first | (with_reducible first | exact HB.out | apply below_alloc | apply pw_below_drewN | apply below_drew1) | exact HB.out))) : w.heap.size ≤ gb131)); have n3_ := Aside0.mk ((by rw [hg]; exact (below_size (by repeat (first | (with_reducible first | exact HB.out | apply below_alloc | apply pw_below_drewN | apply below_drew1) | exact HB.out))) : w.heap.size ≤ gb131)); clear HB; have HB := n0_; have BK131 := n1_; have GW131 := n2_; have GE131 := n3_; clear n0_ n1_ n2_ n3_; clear hb hbox hg; have hcz13_0 : w12.cell? ⟨gb131, 0, none⟩ = some (.int .i64 0) := (blk_cell BK131.out 0).trans rfl; have hcz13_1 : w12.cell? ⟨gb131, 1, none⟩ = some (.int .i64 0) := (blk_cell BK131.out 1).trans rfl; have hcz13_2 : w12.cell? ⟨gb131, 2, none⟩ = some (.int .i64 0) := (blk_cell BK131.out 2).trans rfl; have hcz13_3 : w12.cell? ⟨gb131, 3, none⟩ = some (.int .i64 0) := (blk_cell BK131.out 3).trans rfl; have hcz13_4 : w12.cell? ⟨gb131, 4, none⟩ = some (.int .i64 0) := (blk_cell BK131.out 4).trans rfl; have hfz13_0 := blk_frozen BK131.out 0; have hfz13_1 := blk_frozen BK131.out 1; have hfz13_2 := blk_frozen BK131.out 2; have hfz13_3 := blk_frozen BK131.out 3; have hfz13_4 := blk_frozen BK131.out 4))); (have n0_ : Aside0 ((((((w12.setCell ⟨gb131, 0, none⟩ (.int .i64 ((rd_T54 l1 x13_1).f0.f0))).setCell ⟨gb131, 1, none⟩ (.int .i64 ((rd_T54 l1 x13_1).f0.f1))).setCell ⟨gb131, 2, none⟩ (.int .i64 ((rd_T54 l1 x13_1).f0.f2))).setCell ⟨gb131, 3, none⟩ (.int .i64 ((rd_T54 l1 x13_1).f1))).setCell ⟨gb131, 4, none⟩ (.int .i64 ((rd_T54 l1 x13_1).f2))).heap[gb131]? = some (.cells #[.int .i64 ((rd_T54 l1 x13_1).f0.f0), .int .i64 ((rd_T54 l1 x13_1).f0.f1), .int .i64 ((rd_T54 l1 x13_1).f0.f2), .int .i64 ((rd_T54 l1 x13_1).f1), .int .i64 ((rd_T54 l1 x13_1).f2)] 54 (0, 0))) := ⟨by (with_reducible repeat (first | refine blk_drewN ?_ _ | refine blk_drew ?_ | refine blk_alloc ?_ _)); refine blk_put (cs := #[.int .i64 ((rd_T54 l1 x13_1).f0.f0), .int .i64 ((rd_T54 l1 x13_1).f0.f1), .int .i64 ((rd_T54 l1 x13_1).f0.f2), .int .i64 ((rd_T54 l1 x13_1).f1), .int .i64 0]) ?_ 4 _ rfl; (with_reducible repeat (first | refine blk_drewN ?_ _ | refine blk_drew ?_ | refine blk_alloc ?_ _)); refine blk_put (cs := #[.int .i64 ((rd_T54 l1 x13_1).f0.f0), .int .i64 ((rd_T54 l1 x13_1).f0.f1), .int .i64 ((rd_T54 l1 x13_1).f0.f2), .int .i64 0, .int .i64 0]) ?_ 3 _ rfl; (with_reducible repeat (first | refine blk_drewN ?_ _ | refine blk_drew ?_ | refine blk_alloc ?_ _)); refine blk_put (cs := #[.int .i64 ((rd_T54 l1 x13_1).f0.f0), .int .i64 ((rd_T54 l1 x13_1).f0.f1), .int .i64 0, .int .i64 0, .int .i64 0]) ?_ 2 _ rfl; (with_reducible repeat (first | refine blk_drewN ?_ _ | refine blk_drew ?_ | refine blk_alloc ?_ _)); refine blk_put (cs := #[.int .i64 ((rd_T54 l1 x13_1).f0.f0), .int .i64 0, .int .i64 0, .int .i64 0, .int .i64 0]) ?_ 1 _ rfl; (with_reducible repeat (first | refine blk_drewN ?_ _ | refine blk_drew ?_ | refine blk_alloc ?_ _)); refine blk_put (cs := #[.int .i64 0, .int .i64 0, .int .i64 0, .int .i64 0, .int .i64 0]) ?_ 0 _ rfl; (with_reducible repeat (first | refine blk_drewN ?_ _ | refine blk_drew ?_ | refine blk_alloc ?_ _)); exact BK131.out⟩); (have n1_ : Aside0 (Below w.heap.size w (((((w12.setCell ⟨gb131, 0, none⟩ (.int .i64 ((rd_T54 l1 x13_1).f0.f0))).setCell ⟨gb131, 1, none⟩ (.int .i64 ((rd_T54 l1 x13_1).f0.f1))).setCell ⟨gb131, 2, none⟩ (.int .i64 ((rd_T54 l1 x13_1).f0.f2))).setCell ⟨gb131, 3, none⟩ (.int .i64 ((rd_T54 l1 x13_1).f1))).setCell ⟨gb131, 4, none⟩ (.int .i64 ((rd_T54 l1 x13_1).f2)))) := ⟨by repeat (first | (with_reducible first | exact HB.out | apply below_alloc | apply pw_below_drewN | apply below_drew1 | refine below_set ?_ GE131.out) | exact HB.out)⟩); ((try clear BK131)); ((try clear HB)); generalize (((((w12.setCell ⟨gb131, 0, none⟩ (.int .i64 ((rd_T54 l1 x13_1).f0.f0))).setCell ⟨gb131, 1, none⟩ (.int .i64 ((rd_T54 l1 x13_1).f0.f1))).setCell ⟨gb131, 2, none⟩ (.int .i64 ((rd_T54 l1 x13_1).f0.f2))).setCell ⟨gb131, 3, none⟩ (.int .i64 ((rd_T54 l1 x13_1).f1))).setCell ⟨gb131, 4, none⟩ (.int .i64 ((rd_T54 l1 x13_1).f2))) = w14 at n0_ n1_ ⊢; have BK131 := n0_; have HB := n1_; clear n0_ n1_; have n0_ := Aside0.mk (blk_drew BK131.out); have n1_ := Aside0.mk (below_drew1 HB.out); clear BK131; clear HB; have BK131 := n0_; have HB := n1_; clear n0_ n1_
       (refine start_ (n := 20) (S := fun w' => w'.cell? ⟨gb131, 0, none⟩ = some (.int .i64 ((rd_T54 l1 x13_1).f0.f0)) ∧ w'.cell? ⟨gb131, 1, none⟩ = some (.int .i64 ((rd_T54 l1 x13_1).f0.f1)) ∧ w'.cell? ⟨gb131, 2, none⟩ = some (.int .i64 ((rd_T54 l1 x13_1).f0.f2)) ∧ w'.cell? ⟨gb131, 3, none⟩ = some (.int .i64 ((rd_T54 l1 x13_1).f1)) ∧ w'.cell? ⟨gb131, 4, none⟩ = some (.int .i64 ((rd_T54 l1 x13_1).f2))) (ds := []) #[false, false, false, false, false, false, false, false, false, false, false, false, false, false, false, false, false, false, false, false] (by kernel_rfl) rfl rfl ⟨(blk_cell BK131.out 0).trans rfl, (blk_cell BK131.out 1).trans rfl, (blk_cell BK131.out 2).trans rfl, (blk_cell BK131.out 3).trans rfl, (blk_cell BK131.out 4).trans rfl⟩ (fun hHeld => ?_); refine with_tabW facts_Alike.tab4 facts_Alike.bits4 (fun HT_ HW_ => ?_)); generalize w14.drew = w15 at BK131 HB hHeld ⊢; (refine pure_ (i := 0) (N := some 17) (v := ?_) (a' := ?_) #[true, false, false, false, false, false, false, false, false, false, false, false, false, false, false, false, false, false, false, false] rfl rfl (any_of HT_.out (by kernel_rfl)) (fun _ _ _ h => h) (Or.inl ⟨by rfl, ?_⟩) ?_ ?_); rotate_left
       ·intro w'; go_simp; (with_reducible rfl)
       rotate_left
       ·go_simp; rfl
       (refine pure_ (i := 1) (N := some 18) (v := ?_) (a' := ?_) #[true, true, false, false, false, false, false, false, false, false, false, false, false, false, false, false, false, false, false, false] rfl rfl (any_of HT_.out (by kernel_rfl)) (fun _ _ _ h => h) (Or.inl ⟨by rfl, ?_⟩) ?_ ?_); rotate_left
       ·intro w'; go_simp; (with_reducible rfl)
       rotate_left
       ·go_simp; rfl
       (refine pure_ (i := 3) (N := some 20) (v := ?_) (a' := ?_) #[true, true, false, true, false, false, false, false, false, false, false, false, false, false, false, false, false, false, false, false] rfl rfl (any_of HT_.out (by kernel_rfl)) (fun _ _ _ h => h) (Or.inl ⟨by rfl, ?_⟩) ?_ ?_); rotate_left
       ·intro w'; go_simp; (with_reducible rfl)
       rotate_left
       ·go_simp; rfl
       (refine pure_ (i := 5) (N := some 22) (v := ?_) (a' := ?_) #[true, true, false, true, false, true, false, false, false, false, false, false, false, false, false, false, false, false, false, false] rfl rfl (any_of HT_.out (by kernel_rfl)) (fun _ _ _ h => h) (Or.inl ⟨by rfl, ?_⟩) ?_ ?_); rotate_left
       ·intro w'; go_simp; (with_reducible rfl)
       rotate_left
       ·go_simp; rfl
       (refine pure_ (i := 7) (N := some 24) (v := ?_) (a' := ?_) #[true, true, false, true, false, true, false, true, false, false, false, false, false, false, false, false, false, false, false, false] rfl rfl (any_of HT_.out (by kernel_rfl)) (fun _ _ _ h => h) (Or.inl ⟨by rfl, ?_⟩) ?_ ?_); rotate_left
       ·intro w'; go_simp; (with_reducible rfl)
       rotate_left
       ·go_simp; rfl
       (refine pure_ (i := 9) (N := some 26) (v := ?_) (a' := ?_) #[true, true, false, true, false, true, false, true, false, true, false, false, false, false, false, false, false, false, false, false] rfl rfl (any_of HT_.out (by kernel_rfl)) (fun _ _ _ h => h) (Or.inl ⟨by rfl, ?_⟩) ?_ ?_); rotate_left
       ·intro w'; go_simp; (with_reducible rfl)
       rotate_left
       ·go_simp; rfl
       (refine pure_ (i := 10) (N := some 27) (v := ?_) (a' := ?_) #[true, true, false, true, false, true, false, true, false, true, true, false, false, false, false, false, false, false, false, false] rfl rfl (any_of HT_.out (by kernel_rfl)) (fun _ _ _ h => h) (Or.inl ⟨by rfl, ?_⟩) ?_ ?_); rotate_left
       ·intro w'; go_simp; (with_reducible rfl)
       rotate_left
       ·go_simp; rfl
       (refine pure_ (i := 12) (N := some 29) (v := ?_) (a' := ?_) #[true, true, false, true, false, true, false, true, false, true, true, false, true, false, false, false, false, false, false, false] rfl rfl (any_of HT_.out (by kernel_rfl)) (fun _ _ _ h => h) (Or.inl ⟨by rfl, ?_⟩) ?_ ?_); rotate_left
       ·intro w'; go_simp; (with_reducible rfl)
       rotate_left
       ·go_simp; rfl
       (refine pure_ (i := 14) (N := some 31) (v := ?_) (a' := ?_) #[true, true, false, true, false, true, false, true, false, true, true, false, true, false, true, false, false, false, false, false] rfl rfl (any_of HT_.out (by kernel_rfl)) (fun _ _ _ h => h) (Or.inl ⟨by rfl, ?_⟩) ?_ ?_); rotate_left
       ·intro w'; go_simp; (with_reducible rfl)
       rotate_left
       ·go_simp; rfl
       (refine pure_ (i := 16) (N := some 33) (v := ?_) (a' := ?_) #[true, true, false, true, false, true, false, true, false, true, true, false, true, false, true, false, true, false, false, false] rfl rfl (any_of HT_.out (by kernel_rfl)) (fun _ _ _ h => h) (Or.inl ⟨by rfl, ?_⟩) ?_ ?_); rotate_left
       ·intro w'; go_simp; (with_reducible rfl)
       rotate_left
       ·go_simp; rfl
       (refine take_ (i := 2) (N := some 19) (v := ?_) (a' := ?_) #[true, true, true, true, false, true, false, true, false, true, true, false, true, false, true, false, true, false, false, false] rfl rfl (take_ofW HT_.out HW_.out (by kernel_rfl)) (fun _ _ _ h => h) (Or.inl ⟨by rfl, ?_⟩) hHeld ?_ ?_); rotate_left
       ·rintro w' ⟨s0, s1, s2, s3, s4⟩; go_simp; (with_reducible rfl)
       rotate_left
       ·go_simp; rfl
       (refine take_ (i := 4) (N := some 21) (v := ?_) (a' := ?_) #[true, true, true, true, true, true, false, true, false, true, true, false, true, false, true, false, true, false, false, false] rfl rfl (take_ofW HT_.out HW_.out (by kernel_rfl)) (fun _ _ _ h => h) (Or.inl ⟨by rfl, ?_⟩) hHeld ?_ ?_); rotate_left
       ·rintro w' ⟨s0, s1, s2, s3, s4⟩; go_simp; (with_reducible rfl)
       rotate_left
       ·go_simp; rfl
       (refine take_ (i := 6) (N := some 23) (v := ?_) (a' := ?_) #[true, true, true, true, true, true, true, true, false, true, true, false, true, false, true, false, true, false, false, false] rfl rfl (take_ofW HT_.out HW_.out (by kernel_rfl)) (fun _ _ _ h => h) (Or.inl ⟨by rfl, ?_⟩) hHeld ?_ ?_); rotate_left
       ·rintro w' ⟨s0, s1, s2, s3, s4⟩; go_simp; (with_reducible rfl)
       rotate_left
       ·go_simp; rfl
       (refine take_ (i := 11) (N := some 28) (v := ?_) (a' := ?_) #[true, true, true, true, true, true, true, true, false, true, true, true, true, false, true, false, true, false, false, false] rfl rfl (take_ofW HT_.out HW_.out (by kernel_rfl)) (fun _ _ _ h => h) (Or.inl ⟨by rfl, ?_⟩) hHeld ?_ ?_); rotate_left
       ·rintro w' ⟨s0, s1, s2, s3, s4⟩; go_simp; (with_reducible rfl)
       rotate_left
       ·go_simp; rfl
       (refine take_ (i := 13) (N := some 30) (v := ?_) (a' := ?_) #[true, true, true, true, true, true, true, true, false, true, true, true, true, true, true, false, true, false, false, false] rfl rfl (take_ofW HT_.out HW_.out (by kernel_rfl)) (fun _ _ _ h => h) (Or.inl ⟨by rfl, ?_⟩) hHeld ?_ ?_); rotate_left
       ·rintro w' ⟨s0, s1, s2, s3, s4⟩; go_simp; (with_reducible rfl)
       rotate_left
       ·go_simp; rfl
       (refine take_ (i := 15) (N := some 32) (v := ?_) (a' := ?_) #[true, true, true, true, true, true, true, true, false, true, true, true, true, true, true, true, true, false, false, false] rfl rfl (take_ofW HT_.out HW_.out (by kernel_rfl)) (fun _ _ _ h => h) (Or.inl ⟨by rfl, ?_⟩) hHeld ?_ ?_); rotate_left
       ·rintro w' ⟨s0, s1, s2, s3, s4⟩; go_simp; (with_reducible rfl)
       rotate_left
       ·go_simp; rfl
       (refine one_ (i := 8) (N := some 25) #[true, true, true, true, true, true, true, true, true, true, true, true, true, true, true, true, true, false, false, false] rfl rfl (one_of HT_.out (by kernel_rfl)) (by decide) (fun K hK => ?_)); (refine goes_ Try.func21 (by kernel_rfl) rfl #[.slice A0 l0.length c0, .agg #[.int .i64 ((rd_T54 l1 x13_1).f0.f0), .int .i64 ((rd_T54 l1 x13_1).f0.f1), .int .i64 ((rd_T54 l1 x13_1).f0.f2)], .int .i64 ((rd_T54 l1 x13_1).f1), .int .i64 ((rd_T54 l1 x13_1).f2), .int .i64 a2] (by rfl) rfl rfl (by (try simp only [List.map_toArray, List.map_cons, List.map_nil]); first | done | rfl | (simp only [List.length_drop, List.length_take]; rfl)) ?_); (with_reducible refine (facts_Points.calls _ _ l0 ((rd_T54 l1 x13_1).f0.f0) ((rd_T54 l1 x13_1).f0.f1) ((rd_T54 l1 x13_1).f0.f2) ((rd_T54 l1 x13_1).f1) ((rd_T54 l1 x13_1).f2) a2 t132 _ ?side1 ?side2 A8.out).mono ?_); ((case side1 => repeat (first | exact (Kd.C_below HR0.out HB.out) | (with_reducible refine Kd.C_alloc ?_ _) | (with_reducible refine Kd.C_drewN ?_ _) | (with_reducible refine Kd.C_drew ?_)))); ((case side2 => exact HC0.out)); rintro e w16 ⟨v133, rfl, ho0, hb⟩; refine ⟨_, rfl, ?_⟩; (have n0_ := Aside0.mk (Kd.R_lower ho0 (below_size (by repeat (first | (with_reducible first | exact HB.out | apply below_alloc | apply pw_below_drewN | apply below_drew1 | refine below_set ?_ GE131.out) | exact HB.out))))); (have n1_ := Aside0.mk (blk_below (g := gb131) (o := .cells #[.int .i64 ((rd_T54 l1 x13_1).f0.f0), .int .i64 ((rd_T54 l1 x13_1).f0.f1), .int .i64 ((rd_T54 l1 x13_1).f0.f2), .int .i64 ((rd_T54 l1 x13_1).f1), .int .i64 ((rd_T54 l1 x13_1).f2)] 54 (0, 0)) (by (with_reducible repeat (first | refine blk_drewN ?_ _ | refine blk_drew ?_ | refine blk_alloc ?_ _)); exact BK131.out) hb)); (have n2_ := Aside0.mk (below_step (by repeat (first | (with_reducible first | exact HB.out | apply below_alloc | apply pw_below_drewN | apply below_drew1 | refine below_set ?_ GE131.out) | exact HB.out)) hb)); clear BK131; clear HB; have HO134 := n0_; have BK131 := n1_; have HB := n2_; clear n0_ n1_ n2_; ((try clear hb)); ((try clear hb2)); ((try clear hk)); ((try clear hi)); ((try clear ho0)); (refine hK.out _ _ ⟨(blk_cell BK131.out 0).trans rfl, (blk_cell BK131.out 1).trans rfl, (blk_cell BK131.out 2).trans rfl, (blk_cell BK131.out 3).trans rfl, (blk_cell BK131.out 4).trans rfl⟩ (fun hHeld => ?_)); clear hK K; refine norm_ (a' := ?_) ?_ ?_; rotate_left
       ·(show Act.put _ (some 25) _ = _); go_simp; rfl
       (refine one_ (i := 17) (N := some 34) #[true, true, true, true, true, true, true, true, true, true, true, true, true, true, true, true, true, true, false, false] rfl rfl (one_of HT_.out (by kernel_rfl)) (by decide) (fun K hK => ?_)); (refine goes_ Try.func21 (by kernel_rfl) rfl #[.slice A0 l0.length c0, .agg #[.int .i64 ((rd_T54 l1 x13_1).f0.f0), .int .i64 ((rd_T54 l1 x13_1).f0.f1), .int .i64 ((rd_T54 l1 x13_1).f0.f2)], .int .i64 ((rd_T54 l1 x13_1).f1), .int .i64 ((rd_T54 l1 x13_1).f2), .int .i64 a3] (by rfl) rfl rfl (by (try simp only [List.map_toArray, List.map_cons, List.map_nil]); first | done | rfl | (simp only [List.length_drop, List.length_take]; rfl)) ?_); (with_reducible refine (facts_Points.calls _ _ l0 ((rd_T54 l1 x13_1).f0.f0) ((rd_T54 l1 x13_1).f0.f1) ((rd_T54 l1 x13_1).f0.f2) ((rd_T54 l1 x13_1).f1) ((rd_T54 l1 x13_1).f2) a3 t135 _ ?side1 ?side2 A9.out).mono ?_); ((case side1 => repeat (first | exact (Kd.C_below HR0.out HB.out) | (with_reducible refine Kd.C_alloc ?_ _) | (with_reducible refine Kd.C_drewN ?_ _) | (with_reducible refine Kd.C_drew ?_)))); ((case side2 => exact HC0.out)); rintro e w17 ⟨v136, rfl, ho0, hb⟩; refine ⟨_, rfl, ?_⟩; (have n0_ := Aside0.mk (Kd.R_elder' (by (with_reducible repeat (first | apply Kd.R_alloc | apply Kd.R_drewN | apply Kd.R_drew)); exact HO134.out) (Kd.R_base ho0) hb)); (have n1_ := Aside0.mk (Kd.R_lower (Kd.R_new' ho0 (Kd.R_lt (by (with_reducible repeat (first | apply Kd.R_alloc | apply Kd.R_drewN | apply Kd.R_drew)); exact HO134.out))) (below_size (by repeat (first | (with_reducible first | exact HB.out | apply below_alloc | apply pw_below_drewN | apply below_drew1 | refine below_set ?_ GE131.out) | exact HB.out))))); (have n2_ := Aside0.mk (blk_below (g := gb131) (o := .cells #[.int .i64 ((rd_T54 l1 x13_1).f0.f0), .int .i64 ((rd_T54 l1 x13_1).f0.f1), .int .i64 ((rd_T54 l1 x13_1).f0.f2), .int .i64 ((rd_T54 l1 x13_1).f1), .int .i64 ((rd_T54 l1 x13_1).f2)] 54 (0, 0)) (by (with_reducible repeat (first | refine blk_drewN ?_ _ | refine blk_drew ?_ | refine blk_alloc ?_ _)); exact BK131.out) hb)); (have n3_ := Aside0.mk (below_step (by repeat (first | (with_reducible first | exact HB.out | apply below_alloc | apply pw_below_drewN | apply below_drew1 | refine below_set ?_ GE131.out) | exact HB.out)) hb)); clear HO134; clear BK131; clear HB; have HO134 := n0_; have HO137 := n1_; have BK131 := n2_; have HB := n3_; clear n0_ n1_ n2_ n3_; ((try clear hb)); ((try clear hb2)); ((try clear hk)); ((try clear hi)); ((try clear ho0)); obtain ⟨Ao18, co18, eo18⟩ := Kd.R_slice HO134.out; ((first | subst eo18 | (injection eo18 with f1_ f2_ f3_; have f4_ := f1_.symm; have f5_ := f3_.symm; clear f1_ f2_ f3_; subst f4_; subst f5_))); obtain ⟨Ao19, co19, eo19⟩ := Kd.R_slice HO137.out; ((first | subst eo19 | (injection eo19 with f1_ f2_ f3_; have f4_ := f1_.symm; have f5_ := f3_.symm; clear f1_ f2_ f3_; subst f4_; subst f5_))); (refine hK.out _ _ ⟨(blk_cell BK131.out 0).trans rfl, (blk_cell BK131.out 1).trans rfl, (blk_cell BK131.out 2).trans rfl, (blk_cell BK131.out 3).trans rfl, (blk_cell BK131.out 4).trans rfl⟩ (fun hHeld => ?_)); clear hK K; refine norm_ (a' := ?_) ?_ ?_; rotate_left
       ·(show Act.put _ (some 34) _ = _); go_simp; rfl
       (refine one_ (i := 18) (N := some 35) #[true, true, true, true, true, true, true, true, true, true, true, true, true, true, true, true, true, true, true, false] rfl rfl (one_of HT_.out (by kernel_rfl)) (by decide) (fun K hK => ?_)); (refine goes_ Try.func45 (by kernel_rfl) rfl #[.slice Ao18 t132.length co18, .slice Ao19 t135.length co19] (by rfl) rfl rfl (by (try simp only [List.map_toArray, List.map_cons, List.map_nil]); first | done | rfl | (simp only [List.length_drop, List.length_take]; rfl)) ?_); (with_reducible refine (api_Point.calls k1 _ _ t132 _ _ t135 true _ ?side1 ?side2 ?side3 ?side4 A10.out).mono ?_); ((case side1 => repeat (first | exact (Kd.R_reads' HO134.out).2.2 | (with_reducible refine Kd.C_alloc ?_ _) | (with_reducible refine Kd.C_drewN ?_ _) | (with_reducible refine Kd.C_drew ?_)))); ((case side2 => exact (Kd.R_reads' HO134.out).2.1)); ((case side3 => repeat (first | exact (Kd.R_reads' HO137.out).2.2 | (with_reducible refine Kd.C_alloc ?_ _) | (with_reducible refine Kd.C_drewN ?_ _) | (with_reducible refine Kd.C_drew ?_)))); ((case side4 => exact (Kd.R_reads' HO137.out).2.1)); rintro e w' ⟨rfl, ⟨nd, rfl⟩⟩; refine ⟨_, rfl, ?_⟩; (refine hK.out _ _ ⟨(blk_cell BK131.out 0).trans rfl, (blk_cell BK131.out 1).trans rfl, (blk_cell BK131.out 2).trans rfl, (blk_cell BK131.out 3).trans rfl, (blk_cell BK131.out 4).trans rfl⟩ (fun hHeld => ?_)); clear hK K; refine norm_ (a' := ?_) ?_ ?_; rotate_left
       ·(show Act.put _ (some 35) _ = _); go_simp; rfl
       (refine pure_ (i := 19) (N := some 36) (v := ?_) (a' := ?_) #[true, true, true, true, true, true, true, true, true, true, true, true, true, true, true, true, true, true, true, true] rfl rfl (any_of HT_.out (by kernel_rfl)) (fun _ _ _ h => h) (Or.inl ⟨by rfl, ?_⟩) ?_ ?_); rotate_left
       ·intro w'; go_simp; (with_reducible rfl)
       rotate_left
       ·go_simp; rfl
       (refine done_ (done_of HT_.out (by kernel_rfl)) ?_); (try go_wp2); (go_roundg k1)
       case measure => have := HK1.out; omega
       case rel => exact ⟨(wrap64 (x13_1 + 1)), (by first | rfl | (simp; done) | (simp [*]; done)), H', ⟨by have := HK1.out; omega⟩, ⟨by repeat (first | (with_reducible first | exact HB.out | apply below_alloc | apply pw_below_drewN | apply below_drew1 | refine below_set ?_ GE131.out) | exact HB.out)⟩⟩
      ·replace c11 := Bool.eq_false_iff.mpr c11; subst c11; (have H1 : (some false) = some r := by rw [if_neg (show ¬ (false = true) by decide)] at H; exact H); clear H; have H := H1; clear H1; obtain rfl := Option.some.inj H; (have p130 : 0 ≤ (x13_1 : Int) := of_decide_eq_true (by assumption)); (have q130 : x13_1 < (l1.length : Int) := of_decide_eq_true (by assumption)); obtain ⟨ad130, e130, hx130_0, hx130_1, hx130_2, hx130_3, hx130_4⟩ := at_T54 HR1.out x13_1 p130 q130; cases e130; replace hx130_0 := (HB.out.cell (World.block_lt_of_cell? w _ hx130_0)).trans hx130_0; replace hx130_1 := (HB.out.cell (World.block_lt_of_cell? w _ hx130_1)).trans hx130_1; replace hx130_2 := (HB.out.cell (World.block_lt_of_cell? w _ hx130_2)).trans hx130_2; replace hx130_3 := (HB.out.cell (World.block_lt_of_cell? w _ hx130_3)).trans hx130_3; replace hx130_4 := (HB.out.cell (World.block_lt_of_cell? w _ hx130_4)).trans hx130_4; replace p130 := eq_true p130; replace q130 := eq_true q130; (try go_wp2_with (first | ((with_reducible refine gate_dst (N := 10) rfl ?_); refine box_event ?hg (N := 10) ?hd (cs := #[.int .i64 0, .int .i64 0, .int .i64 0, .int .i64 0, .int .i64 0]) (t := 54) ?hr ?_; (case hd => rfl); (case hg => rfl); (case hr => first | (go_simp; done) | (go_simp; rfl)); intro gb131 hg w20 hbox hb; have n0_ := Aside0.mk (below_step (by repeat (first | (with_reducible first | exact HB.out | apply below_alloc | apply pw_below_drewN | apply below_drew1) | exact HB.out)) hb); have n1_ := Aside0.mk (hbox); have n2_ := Aside0.mk ((by rw [hg]; exact (below_size (by repeat (first | (with_reducible first | exact HB.out | apply below_alloc | apply pw_below_drewN | apply below_drew1) | exact HB.out))) : w.heap.size ≤ gb131)); have n3_ := Aside0.mk ((by rw [hg]; exact (below_size (by repeat (first | (with_reducible first | exact HB.out | apply below_alloc | apply pw_below_drewN | apply below_drew1) | exact HB.out))) : w.heap.size ≤ gb131)); clear HB; have HB := n0_; have BK131 := n1_; have GW131 := n2_; have GE131 := n3_; clear n0_ n1_ n2_ n3_; clear hb hbox hg; have hcz21_0 : w20.cell? ⟨gb131, 0, none⟩ = some (.int .i64 0) := (blk_cell BK131.out 0).trans rfl; have hcz21_1 : w20.cell? ⟨gb131, 1, none⟩ = some (.int .i64 0) := (blk_cell BK131.out 1).trans rfl; have hcz21_2 : w20.cell? ⟨gb131, 2, none⟩ = some (.int .i64 0) := (blk_cell BK131.out 2).trans rfl; have hcz21_3 : w20.cell? ⟨gb131, 3, none⟩ = some (.int .i64 0) := (blk_cell BK131.out 3).trans rfl; have hcz21_4 : w20.cell? ⟨gb131, 4, none⟩ = some (.int .i64 0) := (blk_cell BK131.out 4).trans rfl; have hfz21_0 := blk_frozen BK131.out 0; have hfz21_1 := blk_frozen BK131.out 1; have hfz21_2 := blk_frozen BK131.out 2; have hfz21_3 := blk_frozen BK131.out 3; have hfz21_4 := blk_frozen BK131.out 4))); (have n0_ : Aside0 ((((((w20.setCell ⟨gb131, 0, none⟩ (.int .i64 ((rd_T54 l1 x13_1).f0.f0))).setCell ⟨gb131, 1, none⟩ (.int .i64 ((rd_T54 l1 x13_1).f0.f1))).setCell ⟨gb131, 2, none⟩ (.int .i64 ((rd_T54 l1 x13_1).f0.f2))).setCell ⟨gb131, 3, none⟩ (.int .i64 ((rd_T54 l1 x13_1).f1))).setCell ⟨gb131, 4, none⟩ (.int .i64 ((rd_T54 l1 x13_1).f2))).heap[gb131]? = some (.cells #[.int .i64 ((rd_T54 l1 x13_1).f0.f0), .int .i64 ((rd_T54 l1 x13_1).f0.f1), .int .i64 ((rd_T54 l1 x13_1).f0.f2), .int .i64 ((rd_T54 l1 x13_1).f1), .int .i64 ((rd_T54 l1 x13_1).f2)] 54 (0, 0))) := ⟨by (with_reducible repeat (first | refine blk_drewN ?_ _ | refine blk_drew ?_ | refine blk_alloc ?_ _)); refine blk_put (cs := #[.int .i64 ((rd_T54 l1 x13_1).f0.f0), .int .i64 ((rd_T54 l1 x13_1).f0.f1), .int .i64 ((rd_T54 l1 x13_1).f0.f2), .int .i64 ((rd_T54 l1 x13_1).f1), .int .i64 0]) ?_ 4 _ rfl; (with_reducible repeat (first | refine blk_drewN ?_ _ | refine blk_drew ?_ | refine blk_alloc ?_ _)); refine blk_put (cs := #[.int .i64 ((rd_T54 l1 x13_1).f0.f0), .int .i64 ((rd_T54 l1 x13_1).f0.f1), .int .i64 ((rd_T54 l1 x13_1).f0.f2), .int .i64 0, .int .i64 0]) ?_ 3 _ rfl; (with_reducible repeat (first | refine blk_drewN ?_ _ | refine blk_drew ?_ | refine blk_alloc ?_ _)); refine blk_put (cs := #[.int .i64 ((rd_T54 l1 x13_1).f0.f0), .int .i64 ((rd_T54 l1 x13_1).f0.f1), .int .i64 0, .int .i64 0, .int .i64 0]) ?_ 2 _ rfl; (with_reducible repeat (first | refine blk_drewN ?_ _ | refine blk_drew ?_ | refine blk_alloc ?_ _)); refine blk_put (cs := #[.int .i64 ((rd_T54 l1 x13_1).f0.f0), .int .i64 0, .int .i64 0, .int .i64 0, .int .i64 0]) ?_ 1 _ rfl; (with_reducible repeat (first | refine blk_drewN ?_ _ | refine blk_drew ?_ | refine blk_alloc ?_ _)); refine blk_put (cs := #[.int .i64 0, .int .i64 0, .int .i64 0, .int .i64 0, .int .i64 0]) ?_ 0 _ rfl; (with_reducible repeat (first | refine blk_drewN ?_ _ | refine blk_drew ?_ | refine blk_alloc ?_ _)); exact BK131.out⟩); (have n1_ : Aside0 (Below w.heap.size w (((((w20.setCell ⟨gb131, 0, none⟩ (.int .i64 ((rd_T54 l1 x13_1).f0.f0))).setCell ⟨gb131, 1, none⟩ (.int .i64 ((rd_T54 l1 x13_1).f0.f1))).setCell ⟨gb131, 2, none⟩ (.int .i64 ((rd_T54 l1 x13_1).f0.f2))).setCell ⟨gb131, 3, none⟩ (.int .i64 ((rd_T54 l1 x13_1).f1))).setCell ⟨gb131, 4, none⟩ (.int .i64 ((rd_T54 l1 x13_1).f2)))) := ⟨by repeat (first | (with_reducible first | exact HB.out | apply below_alloc | apply pw_below_drewN | apply below_drew1 | refine below_set ?_ GE131.out) | exact HB.out)⟩); ((try clear BK131)); ((try clear HB)); generalize (((((w20.setCell ⟨gb131, 0, none⟩ (.int .i64 ((rd_T54 l1 x13_1).f0.f0))).setCell ⟨gb131, 1, none⟩ (.int .i64 ((rd_T54 l1 x13_1).f0.f1))).setCell ⟨gb131, 2, none⟩ (.int .i64 ((rd_T54 l1 x13_1).f0.f2))).setCell ⟨gb131, 3, none⟩ (.int .i64 ((rd_T54 l1 x13_1).f1))).setCell ⟨gb131, 4, none⟩ (.int .i64 ((rd_T54 l1 x13_1).f2))) = w22 at n0_ n1_ ⊢; have BK131 := n0_; have HB := n1_; clear n0_ n1_; have n0_ := Aside0.mk (blk_drew BK131.out); have n1_ := Aside0.mk (below_drew1 HB.out); clear BK131; clear HB; have BK131 := n0_; have HB := n1_; clear n0_ n1_
       (refine start_ (n := 20) (S := fun w' => w'.cell? ⟨gb131, 0, none⟩ = some (.int .i64 ((rd_T54 l1 x13_1).f0.f0)) ∧ w'.cell? ⟨gb131, 1, none⟩ = some (.int .i64 ((rd_T54 l1 x13_1).f0.f1)) ∧ w'.cell? ⟨gb131, 2, none⟩ = some (.int .i64 ((rd_T54 l1 x13_1).f0.f2)) ∧ w'.cell? ⟨gb131, 3, none⟩ = some (.int .i64 ((rd_T54 l1 x13_1).f1)) ∧ w'.cell? ⟨gb131, 4, none⟩ = some (.int .i64 ((rd_T54 l1 x13_1).f2))) (ds := []) #[false, false, false, false, false, false, false, false, false, false, false, false, false, false, false, false, false, false, false, false] (by kernel_rfl) rfl rfl ⟨(blk_cell BK131.out 0).trans rfl, (blk_cell BK131.out 1).trans rfl, (blk_cell BK131.out 2).trans rfl, (blk_cell BK131.out 3).trans rfl, (blk_cell BK131.out 4).trans rfl⟩ (fun hHeld => ?_); refine with_tabW facts_Alike.tab4 facts_Alike.bits4 (fun HT_ HW_ => ?_)); generalize w22.drew = w23 at BK131 HB hHeld ⊢; (refine pure_ (i := 0) (N := some 17) (v := ?_) (a' := ?_) #[true, false, false, false, false, false, false, false, false, false, false, false, false, false, false, false, false, false, false, false] rfl rfl (any_of HT_.out (by kernel_rfl)) (fun _ _ _ h => h) (Or.inl ⟨by rfl, ?_⟩) ?_ ?_); rotate_left
       ·intro w'; go_simp; (with_reducible rfl)
       rotate_left
       ·go_simp; rfl
       (refine pure_ (i := 1) (N := some 18) (v := ?_) (a' := ?_) #[true, true, false, false, false, false, false, false, false, false, false, false, false, false, false, false, false, false, false, false] rfl rfl (any_of HT_.out (by kernel_rfl)) (fun _ _ _ h => h) (Or.inl ⟨by rfl, ?_⟩) ?_ ?_); rotate_left
       ·intro w'; go_simp; (with_reducible rfl)
       rotate_left
       ·go_simp; rfl
       (refine pure_ (i := 3) (N := some 20) (v := ?_) (a' := ?_) #[true, true, false, true, false, false, false, false, false, false, false, false, false, false, false, false, false, false, false, false] rfl rfl (any_of HT_.out (by kernel_rfl)) (fun _ _ _ h => h) (Or.inl ⟨by rfl, ?_⟩) ?_ ?_); rotate_left
       ·intro w'; go_simp; (with_reducible rfl)
       rotate_left
       ·go_simp; rfl
       (refine pure_ (i := 5) (N := some 22) (v := ?_) (a' := ?_) #[true, true, false, true, false, true, false, false, false, false, false, false, false, false, false, false, false, false, false, false] rfl rfl (any_of HT_.out (by kernel_rfl)) (fun _ _ _ h => h) (Or.inl ⟨by rfl, ?_⟩) ?_ ?_); rotate_left
       ·intro w'; go_simp; (with_reducible rfl)
       rotate_left
       ·go_simp; rfl
       (refine pure_ (i := 7) (N := some 24) (v := ?_) (a' := ?_) #[true, true, false, true, false, true, false, true, false, false, false, false, false, false, false, false, false, false, false, false] rfl rfl (any_of HT_.out (by kernel_rfl)) (fun _ _ _ h => h) (Or.inl ⟨by rfl, ?_⟩) ?_ ?_); rotate_left
       ·intro w'; go_simp; (with_reducible rfl)
       rotate_left
       ·go_simp; rfl
       (refine pure_ (i := 9) (N := some 26) (v := ?_) (a' := ?_) #[true, true, false, true, false, true, false, true, false, true, false, false, false, false, false, false, false, false, false, false] rfl rfl (any_of HT_.out (by kernel_rfl)) (fun _ _ _ h => h) (Or.inl ⟨by rfl, ?_⟩) ?_ ?_); rotate_left
       ·intro w'; go_simp; (with_reducible rfl)
       rotate_left
       ·go_simp; rfl
       (refine pure_ (i := 10) (N := some 27) (v := ?_) (a' := ?_) #[true, true, false, true, false, true, false, true, false, true, true, false, false, false, false, false, false, false, false, false] rfl rfl (any_of HT_.out (by kernel_rfl)) (fun _ _ _ h => h) (Or.inl ⟨by rfl, ?_⟩) ?_ ?_); rotate_left
       ·intro w'; go_simp; (with_reducible rfl)
       rotate_left
       ·go_simp; rfl
       (refine pure_ (i := 12) (N := some 29) (v := ?_) (a' := ?_) #[true, true, false, true, false, true, false, true, false, true, true, false, true, false, false, false, false, false, false, false] rfl rfl (any_of HT_.out (by kernel_rfl)) (fun _ _ _ h => h) (Or.inl ⟨by rfl, ?_⟩) ?_ ?_); rotate_left
       ·intro w'; go_simp; (with_reducible rfl)
       rotate_left
       ·go_simp; rfl
       (refine pure_ (i := 14) (N := some 31) (v := ?_) (a' := ?_) #[true, true, false, true, false, true, false, true, false, true, true, false, true, false, true, false, false, false, false, false] rfl rfl (any_of HT_.out (by kernel_rfl)) (fun _ _ _ h => h) (Or.inl ⟨by rfl, ?_⟩) ?_ ?_); rotate_left
       ·intro w'; go_simp; (with_reducible rfl)
       rotate_left
       ·go_simp; rfl
       (refine pure_ (i := 16) (N := some 33) (v := ?_) (a' := ?_) #[true, true, false, true, false, true, false, true, false, true, true, false, true, false, true, false, true, false, false, false] rfl rfl (any_of HT_.out (by kernel_rfl)) (fun _ _ _ h => h) (Or.inl ⟨by rfl, ?_⟩) ?_ ?_); rotate_left
       ·intro w'; go_simp; (with_reducible rfl)
       rotate_left
       ·go_simp; rfl
       (refine take_ (i := 2) (N := some 19) (v := ?_) (a' := ?_) #[true, true, true, true, false, true, false, true, false, true, true, false, true, false, true, false, true, false, false, false] rfl rfl (take_ofW HT_.out HW_.out (by kernel_rfl)) (fun _ _ _ h => h) (Or.inl ⟨by rfl, ?_⟩) hHeld ?_ ?_); rotate_left
       ·rintro w' ⟨s0, s1, s2, s3, s4⟩; go_simp; (with_reducible rfl)
       rotate_left
       ·go_simp; rfl
       (refine take_ (i := 4) (N := some 21) (v := ?_) (a' := ?_) #[true, true, true, true, true, true, false, true, false, true, true, false, true, false, true, false, true, false, false, false] rfl rfl (take_ofW HT_.out HW_.out (by kernel_rfl)) (fun _ _ _ h => h) (Or.inl ⟨by rfl, ?_⟩) hHeld ?_ ?_); rotate_left
       ·rintro w' ⟨s0, s1, s2, s3, s4⟩; go_simp; (with_reducible rfl)
       rotate_left
       ·go_simp; rfl
       (refine take_ (i := 6) (N := some 23) (v := ?_) (a' := ?_) #[true, true, true, true, true, true, true, true, false, true, true, false, true, false, true, false, true, false, false, false] rfl rfl (take_ofW HT_.out HW_.out (by kernel_rfl)) (fun _ _ _ h => h) (Or.inl ⟨by rfl, ?_⟩) hHeld ?_ ?_); rotate_left
       ·rintro w' ⟨s0, s1, s2, s3, s4⟩; go_simp; (with_reducible rfl)
       rotate_left
       ·go_simp; rfl
       (refine take_ (i := 11) (N := some 28) (v := ?_) (a' := ?_) #[true, true, true, true, true, true, true, true, false, true, true, true, true, false, true, false, true, false, false, false] rfl rfl (take_ofW HT_.out HW_.out (by kernel_rfl)) (fun _ _ _ h => h) (Or.inl ⟨by rfl, ?_⟩) hHeld ?_ ?_); rotate_left
       ·rintro w' ⟨s0, s1, s2, s3, s4⟩; go_simp; (with_reducible rfl)
       rotate_left
       ·go_simp; rfl
       (refine take_ (i := 13) (N := some 30) (v := ?_) (a' := ?_) #[true, true, true, true, true, true, true, true, false, true, true, true, true, true, true, false, true, false, false, false] rfl rfl (take_ofW HT_.out HW_.out (by kernel_rfl)) (fun _ _ _ h => h) (Or.inl ⟨by rfl, ?_⟩) hHeld ?_ ?_); rotate_left
       ·rintro w' ⟨s0, s1, s2, s3, s4⟩; go_simp; (with_reducible rfl)
       rotate_left
       ·go_simp; rfl
       (refine take_ (i := 15) (N := some 32) (v := ?_) (a' := ?_) #[true, true, true, true, true, true, true, true, false, true, true, true, true, true, true, true, true, false, false, false] rfl rfl (take_ofW HT_.out HW_.out (by kernel_rfl)) (fun _ _ _ h => h) (Or.inl ⟨by rfl, ?_⟩) hHeld ?_ ?_); rotate_left
       ·rintro w' ⟨s0, s1, s2, s3, s4⟩; go_simp; (with_reducible rfl)
       rotate_left
       ·go_simp; rfl
       (refine one_ (i := 8) (N := some 25) #[true, true, true, true, true, true, true, true, true, true, true, true, true, true, true, true, true, false, false, false] rfl rfl (one_of HT_.out (by kernel_rfl)) (by decide) (fun K hK => ?_)); (refine goes_ Try.func21 (by kernel_rfl) rfl #[.slice A0 l0.length c0, .agg #[.int .i64 ((rd_T54 l1 x13_1).f0.f0), .int .i64 ((rd_T54 l1 x13_1).f0.f1), .int .i64 ((rd_T54 l1 x13_1).f0.f2)], .int .i64 ((rd_T54 l1 x13_1).f1), .int .i64 ((rd_T54 l1 x13_1).f2), .int .i64 a2] (by rfl) rfl rfl (by (try simp only [List.map_toArray, List.map_cons, List.map_nil]); first | done | rfl | (simp only [List.length_drop, List.length_take]; rfl)) ?_); (with_reducible refine (facts_Points.calls _ _ l0 ((rd_T54 l1 x13_1).f0.f0) ((rd_T54 l1 x13_1).f0.f1) ((rd_T54 l1 x13_1).f0.f2) ((rd_T54 l1 x13_1).f1) ((rd_T54 l1 x13_1).f2) a2 t132 _ ?side1 ?side2 A8.out).mono ?_); ((case side1 => repeat (first | exact (Kd.C_below HR0.out HB.out) | (with_reducible refine Kd.C_alloc ?_ _) | (with_reducible refine Kd.C_drewN ?_ _) | (with_reducible refine Kd.C_drew ?_)))); ((case side2 => exact HC0.out)); rintro e w24 ⟨v133, rfl, ho0, hb⟩; refine ⟨_, rfl, ?_⟩; (have n0_ := Aside0.mk (Kd.R_lower ho0 (below_size (by repeat (first | (with_reducible first | exact HB.out | apply below_alloc | apply pw_below_drewN | apply below_drew1 | refine below_set ?_ GE131.out) | exact HB.out))))); (have n1_ := Aside0.mk (blk_below (g := gb131) (o := .cells #[.int .i64 ((rd_T54 l1 x13_1).f0.f0), .int .i64 ((rd_T54 l1 x13_1).f0.f1), .int .i64 ((rd_T54 l1 x13_1).f0.f2), .int .i64 ((rd_T54 l1 x13_1).f1), .int .i64 ((rd_T54 l1 x13_1).f2)] 54 (0, 0)) (by (with_reducible repeat (first | refine blk_drewN ?_ _ | refine blk_drew ?_ | refine blk_alloc ?_ _)); exact BK131.out) hb)); (have n2_ := Aside0.mk (below_step (by repeat (first | (with_reducible first | exact HB.out | apply below_alloc | apply pw_below_drewN | apply below_drew1 | refine below_set ?_ GE131.out) | exact HB.out)) hb)); clear BK131; clear HB; have HO134 := n0_; have BK131 := n1_; have HB := n2_; clear n0_ n1_ n2_; ((try clear hb)); ((try clear hb2)); ((try clear hk)); ((try clear hi)); ((try clear ho0)); (refine hK.out _ _ ⟨(blk_cell BK131.out 0).trans rfl, (blk_cell BK131.out 1).trans rfl, (blk_cell BK131.out 2).trans rfl, (blk_cell BK131.out 3).trans rfl, (blk_cell BK131.out 4).trans rfl⟩ (fun hHeld => ?_)); clear hK K; refine norm_ (a' := ?_) ?_ ?_; rotate_left
       ·(show Act.put _ (some 25) _ = _); go_simp; rfl
       (refine one_ (i := 17) (N := some 34) #[true, true, true, true, true, true, true, true, true, true, true, true, true, true, true, true, true, true, false, false] rfl rfl (one_of HT_.out (by kernel_rfl)) (by decide) (fun K hK => ?_)); (refine goes_ Try.func21 (by kernel_rfl) rfl #[.slice A0 l0.length c0, .agg #[.int .i64 ((rd_T54 l1 x13_1).f0.f0), .int .i64 ((rd_T54 l1 x13_1).f0.f1), .int .i64 ((rd_T54 l1 x13_1).f0.f2)], .int .i64 ((rd_T54 l1 x13_1).f1), .int .i64 ((rd_T54 l1 x13_1).f2), .int .i64 a3] (by rfl) rfl rfl (by (try simp only [List.map_toArray, List.map_cons, List.map_nil]); first | done | rfl | (simp only [List.length_drop, List.length_take]; rfl)) ?_); (with_reducible refine (facts_Points.calls _ _ l0 ((rd_T54 l1 x13_1).f0.f0) ((rd_T54 l1 x13_1).f0.f1) ((rd_T54 l1 x13_1).f0.f2) ((rd_T54 l1 x13_1).f1) ((rd_T54 l1 x13_1).f2) a3 t135 _ ?side1 ?side2 A9.out).mono ?_); ((case side1 => repeat (first | exact (Kd.C_below HR0.out HB.out) | (with_reducible refine Kd.C_alloc ?_ _) | (with_reducible refine Kd.C_drewN ?_ _) | (with_reducible refine Kd.C_drew ?_)))); ((case side2 => exact HC0.out)); rintro e w25 ⟨v136, rfl, ho0, hb⟩; refine ⟨_, rfl, ?_⟩; (have n0_ := Aside0.mk (Kd.R_elder' (by (with_reducible repeat (first | apply Kd.R_alloc | apply Kd.R_drewN | apply Kd.R_drew)); exact HO134.out) (Kd.R_base ho0) hb)); (have n1_ := Aside0.mk (Kd.R_lower (Kd.R_new' ho0 (Kd.R_lt (by (with_reducible repeat (first | apply Kd.R_alloc | apply Kd.R_drewN | apply Kd.R_drew)); exact HO134.out))) (below_size (by repeat (first | (with_reducible first | exact HB.out | apply below_alloc | apply pw_below_drewN | apply below_drew1 | refine below_set ?_ GE131.out) | exact HB.out))))); (have n2_ := Aside0.mk (blk_below (g := gb131) (o := .cells #[.int .i64 ((rd_T54 l1 x13_1).f0.f0), .int .i64 ((rd_T54 l1 x13_1).f0.f1), .int .i64 ((rd_T54 l1 x13_1).f0.f2), .int .i64 ((rd_T54 l1 x13_1).f1), .int .i64 ((rd_T54 l1 x13_1).f2)] 54 (0, 0)) (by (with_reducible repeat (first | refine blk_drewN ?_ _ | refine blk_drew ?_ | refine blk_alloc ?_ _)); exact BK131.out) hb)); (have n3_ := Aside0.mk (below_step (by repeat (first | (with_reducible first | exact HB.out | apply below_alloc | apply pw_below_drewN | apply below_drew1 | refine below_set ?_ GE131.out) | exact HB.out)) hb)); clear HO134; clear BK131; clear HB; have HO134 := n0_; have HO137 := n1_; have BK131 := n2_; have HB := n3_; clear n0_ n1_ n2_ n3_; ((try clear hb)); ((try clear hb2)); ((try clear hk)); ((try clear hi)); ((try clear ho0)); obtain ⟨Ao26, co26, eo26⟩ := Kd.R_slice HO134.out; ((first | subst eo26 | (injection eo26 with f1_ f2_ f3_; have f4_ := f1_.symm; have f5_ := f3_.symm; clear f1_ f2_ f3_; subst f4_; subst f5_))); obtain ⟨Ao27, co27, eo27⟩ := Kd.R_slice HO137.out; ((first | subst eo27 | (injection eo27 with f1_ f2_ f3_; have f4_ := f1_.symm; have f5_ := f3_.symm; clear f1_ f2_ f3_; subst f4_; subst f5_))); (refine hK.out _ _ ⟨(blk_cell BK131.out 0).trans rfl, (blk_cell BK131.out 1).trans rfl, (blk_cell BK131.out 2).trans rfl, (blk_cell BK131.out 3).trans rfl, (blk_cell BK131.out 4).trans rfl⟩ (fun hHeld => ?_)); clear hK K; refine norm_ (a' := ?_) ?_ ?_; rotate_left
       ·(show Act.put _ (some 34) _ = _); go_simp; rfl
       (refine one_ (i := 18) (N := some 35) #[true, true, true, true, true, true, true, true, true, true, true, true, true, true, true, true, true, true, true, false] rfl rfl (one_of HT_.out (by kernel_rfl)) (by decide) (fun K hK => ?_)); (refine goes_ Try.func45 (by kernel_rfl) rfl #[.slice Ao26 t132.length co26, .slice Ao27 t135.length co27] (by rfl) rfl rfl (by (try simp only [List.map_toArray, List.map_cons, List.map_nil]); first | done | rfl | (simp only [List.length_drop, List.length_take]; rfl)) ?_); (with_reducible refine (api_Point.calls k1 _ _ t132 _ _ t135 false _ ?side1 ?side2 ?side3 ?side4 A10.out).mono ?_); ((case side1 => repeat (first | exact (Kd.R_reads' HO134.out).2.2 | (with_reducible refine Kd.C_alloc ?_ _) | (with_reducible refine Kd.C_drewN ?_ _) | (with_reducible refine Kd.C_drew ?_)))); ((case side2 => exact (Kd.R_reads' HO134.out).2.1)); ((case side3 => repeat (first | exact (Kd.R_reads' HO137.out).2.2 | (with_reducible refine Kd.C_alloc ?_ _) | (with_reducible refine Kd.C_drewN ?_ _) | (with_reducible refine Kd.C_drew ?_)))); ((case side4 => exact (Kd.R_reads' HO137.out).2.1)); rintro e w' ⟨rfl, ⟨nd, rfl⟩⟩; refine ⟨_, rfl, ?_⟩; (refine hK.out _ _ ⟨(blk_cell BK131.out 0).trans rfl, (blk_cell BK131.out 1).trans rfl, (blk_cell BK131.out 2).trans rfl, (blk_cell BK131.out 3).trans rfl, (blk_cell BK131.out 4).trans rfl⟩ (fun hHeld => ?_)); clear hK K; refine norm_ (a' := ?_) ?_ ?_; rotate_left
       ·(show Act.put _ (some 35) _ = _); go_simp; rfl
       (refine pure_ (i := 19) (N := some 36) (v := ?_) (a' := ?_) #[true, true, true, true, true, true, true, true, true, true, true, true, true, true, true, true, true, true, true, true] rfl rfl (any_of HT_.out (by kernel_rfl)) (fun _ _ _ h => h) (Or.inl ⟨by rfl, ?_⟩) ?_ ?_); rotate_left
       ·intro w'; go_simp; (with_reducible rfl)
       rotate_left
       ·go_simp; rfl
       (refine done_ (done_of HT_.out (by kernel_rfl)) ?_); (try go_wp2); (go_ret); (exact ⟨by first | rfl | (simp [errW_none, errW_some] <;> rfl) | (simp [*, errW_none, errW_some] <;> rfl), by repeat (first | (with_reducible first | exact HB.out | apply below_alloc | apply pw_below_drewN | apply below_drew1 | refine below_set ?_ GE131.out) | exact HB.out)⟩)
     ·rw [if_neg c7] at H; (exact absurd H (by simp))
    ·rw [if_neg c6] at H; (exact absurd H (by simp))
   ·rw [if_neg c5] at H; have c5b0 : decide (x13_1 < (l1.length : Int)) = false := decide_eq_false c5; clear c5; obtain rfl := Option.some.inj H; (go_wp2); (go_ret); (exact ⟨by first | rfl | (simp [errW_none, errW_some] <;> rfl) | (simp [*, errW_none, errW_some] <;> rfl), by repeat (first | (with_reducible first | exact HB.out | apply below_alloc | apply pw_below_drewN | apply below_drew1) | exact HB.out)⟩)
end Go.Proofs.Ytamajnhdibcpiaa.G
namespace Go.Proofs.Ytamajnhdibcpiaa.G
open Go.RowKit Go.Proofs.YtamajnhdibcpiaaW.PrintWords Go.Proofs.YtamajnhdibcpiaaW.PrintLast Go.Proofs.YtamajnhdibcpiaaW.PrintMore
attribute [local go_sem] max2_int min2_int max_two min_two max_three min_three max_four min_four
theorem eqA24 (d : Nat) (w : World) (x0 y0 : Int) (x1 y1 : Int) (x2 y2 : Int) :
    (Op.equalIn (d + 2) 24 (.agg #[.int .i64 x0, .int .i64 x1, .int .i64 x2]) (.agg #[.int .i64 y0, .int .i64 y1, .int .i64 y2])).run Try.prog w = .ok (x0 == y0 && (x1 == y1 && (x2 == y2))) w := by
 (refine eqA_of Try.underlying24 (by kernel_rfl) ?_); (refine eqf_cons (by rfl) (by go_simp; rfl) (by go_simp; rfl) (by go_simp) ?_); (refine eqf_cons (by rfl) (by go_simp; rfl) (by go_simp; rfl) (by go_simp) ?_); (exact eqf_last (by rfl) (by go_simp; rfl) (by go_simp; rfl) (by go_simp))
end Go.Proofs.Ytamajnhdibcpiaa.G
namespace Go.Proofs.Ytamajnhdibcpiaa.G
open Go.RowKit Go.Proofs.YtamajnhdibcpiaaW.PrintWords Go.Proofs.YtamajnhdibcpiaaW.PrintLast Go.Proofs.YtamajnhdibcpiaaW.PrintMore
attribute [local go_sem] max2_int min2_int max_two min_two max_three min_three max_four min_four
theorem eqA26 (d : Nat) (w : World) (x0 y0 : Int) (x1 y1 : Int) :
    (Op.equalIn (d + 2) 26 (.agg #[.int .i64 x0, .int .i64 x1]) (.agg #[.int .i64 y0, .int .i64 y1])).run Try.prog w = .ok (x0 == y0 && (x1 == y1)) w := by
 (refine eqA_of Try.underlying26 (by kernel_rfl) ?_); (refine eqf_cons (by rfl) (by go_simp; rfl) (by go_simp; rfl) (by go_simp) ?_); (exact eqf_last (by rfl) (by go_simp; rfl) (by go_simp; rfl) (by go_simp))
end Go.Proofs.Ytamajnhdibcpiaa.G
namespace Go.Proofs.Ytamajnhdibcpiaa.G
open Go.RowKit Go.Proofs.YtamajnhdibcpiaaW.PrintWords Go.Proofs.YtamajnhdibcpiaaW.PrintLast Go.Proofs.YtamajnhdibcpiaaW.PrintMore
attribute [local go_sem] max2_int min2_int max_two min_two max_three min_three max_four min_four
theorem eqA28 (d : Nat) (w : World) (x0 y0 : Int) (x1 y1 : Int) (x2 y2 : Int) (x3 y3 : Int) (x4 y4 : Int) (x5 y5 : Int) (x6 y6 : Int) (x7 y7 : Int) :
    (Op.equalIn (d + 3) 28 (.agg #[.int .i64 x0, .int .i64 x1, .int .i64 x2, .int .i64 x3, .int .i64 x4, .int .i64 x5, .int .i64 x6, .int .i64 x7]) (.agg #[.int .i64 y0, .int .i64 y1, .int .i64 y2, .int .i64 y3, .int .i64 y4, .int .i64 y5, .int .i64 y6, .int .i64 y7])).run Try.prog w = .ok ((x0 == y0 && (x1 == y1 && (x2 == y2))) && (x3 == y3 && ((x4 == y4 && (x5 == y5)) && (x6 == y6 && (x7 == y7))))) w := by
 (refine eqA_of Try.underlying28 (by kernel_rfl) ?_); (refine eqf_cons (by rfl) (by go_simp) (by go_simp) (eqA24 (d + 0) w _ _ _ _ _ _) ?_); (refine eqf_cons (by rfl) (by go_simp; rfl) (by go_simp; rfl) (by go_simp) ?_); (refine eqf_cons (by rfl) (by go_simp) (by go_simp) (eqA26 (d + 0) w _ _ _ _) ?_); (refine eqf_cons (by rfl) (by go_simp; rfl) (by go_simp; rfl) (by go_simp) ?_); (exact eqf_last (by rfl) (by go_simp; rfl) (by go_simp; rfl) (by go_simp))
end Go.Proofs.Ytamajnhdibcpiaa.G
namespace Go.Proofs.Ytamajnhdibcpiaa.G
open Go.RowKit Go.Proofs.YtamajnhdibcpiaaW.PrintWords Go.Proofs.YtamajnhdibcpiaaW.PrintLast Go.Proofs.YtamajnhdibcpiaaW.PrintMore
attribute [local go_sem] max2_int min2_int max_two min_two max_three min_three max_four min_four
attribute [local go_sem high] eqA28
def sizarref07_Same.l0 : Nat → List (S28) → List (S28) → Int → Option (Bool)
  | 0, _, _, _ => none
  | k + 1, x0, x1, x5 => if x5 < (x0.length : Int) then (if 0 ≤ x5 then (if x5 < (x1.length : Int) then (if ((!(((rd_T28 x0 x5).f0.f0) == ((rd_T28 x1 x5).f0.f0)) || (!(((rd_T28 x0 x5).f0.f1) == ((rd_T28 x1 x5).f0.f1)) || (!(((rd_T28 x0 x5).f0.f2) == ((rd_T28 x1 x5).f0.f2))))) || (!(((rd_T28 x0 x5).f1) == ((rd_T28 x1 x5).f1)) || ((!(((rd_T28 x0 x5).f2.f0) == ((rd_T28 x1 x5).f2.f0)) || (!(((rd_T28 x0 x5).f2.f1) == ((rd_T28 x1 x5).f2.f1)))) || (!(((rd_T28 x0 x5).f3) == ((rd_T28 x1 x5).f3)) || (!(((rd_T28 x0 x5).f4) == ((rd_T28 x1 x5).f4))))))) = true then (some false) else (sizarref07_Same.l0 k x0 x1 (wrap64 (x5 + 1)))) else (none)) else (none)) else (some true)
def sizarref07_Same.f (k : Nat) (l0 : List (S28)) (l1 : List (S28)) : Option (Bool) := if (l0.length : Int) = (l1.length : Int) then (sizarref07_Same.l0 k l0 l1 0) else (some false)
theorem sizarref07_Same.mono_l : ∀ k, (∀ y0 y1 y2, LeO (sizarref07_Same.l0 k y0 y1 y2) (sizarref07_Same.l0 (k + 1) y0 y1 y2))
  | 0 => fun _ _ _ r h => by simp [sizarref07_Same.l0] at h
  | k + 1 => by
    have ih0 := sizarref07_Same.mono_l k
    · intro y0 y1 y2
      unfold sizarref07_Same.l0
      repeat' first
      | (with_reducible exact ih0 _ _ _)
      | (with_reducible exact LeO.refl _)
      | (with_reducible exact LeO.none _)
      | (with_reducible refine LeO.ite ?_ ?_)
      | (with_reducible refine LeO.bind ?_ (fun _ => ?_))
      | exact ih0 _ _ _
      | exact LeO.none _
      | refine LeO.ite ?_ ?_
      | refine LeO.bind ?_ (fun _ => ?_)
theorem sizarref07_Same.mono : ∀ a0 a1 k, LeO (sizarref07_Same.f k a0 a1) (sizarref07_Same.f (k + 1) a0 a1) := by
 intro a0 a1 k; have ih0 := sizarref07_Same.mono_l k; unfold sizarref07_Same.f
 repeat' first
  | (with_reducible exact ih0 _ _ _)
  | (with_reducible exact LeO.refl _)
  | (with_reducible exact LeO.none _)
  | (with_reducible refine LeO.ite ?_ ?_)
  | (with_reducible refine LeO.bind ?_ (fun _ => ?_))
  | exact ih0 _ _ _
  | exact LeO.none _
  | refine LeO.ite ?_ ?_
  | refine LeO.bind ?_ (fun _ => ?_)
set_option maxHeartbeats 8000000 in
set_option maxRecDepth 100000 in
theorem sizarref07_Same.calls (k : Nat) (A0 : Option Addr) (c0 : Nat) (l0 : List (S28)) (A1 : Option Addr) (c1 : Nat) (l1 : List (S28)) (r : Bool) (w : World) (hr0 : Kd.C k28 w A0 l0.length l0) (hc0 : l0.length ≤ c0) (hr1 : Kd.C k28 w A1 l1.length l1) (hc1 : l1.length ≤ c1) (h : sizarref07_Same.f k l0 l1 = some r) :
    Calls Try.prog 17 #[.slice A0 l0.length c0, .slice A1 l1.length c1] w fun e w' => e = .returned (.bool r) ∧ Drawn0 w w' := by
 have hu28 := Try.underlying28; have HR0 := Aside0.mk hr0; have HC0 := Aside0.mk hc0; clear hr0 hc0; have HR1 := Aside0.mk hr1; have HC1 := Aside0.mk hc1; clear hr1 hc1; have H : (if (l0.length : Int) = (l1.length : Int) then (sizarref07_Same.l0 k l0 l1 0) else (some false)) = some r := h; clear h; (by_cases c3 : (l0.length : Int) = (l1.length : Int))
 ·rw [if_pos c3] at H; have c3b0 : ((l0.length : Int) == (l1.length : Int)) = true := beq_iff_eq.mpr c3; have c3b1 : ((l0.length : Int) != (l1.length : Int)) = false := bne_eq_false_iff_eq.mpr c3; (have c3b2 : (l0.length == l1.length) = true := by first | simpa using c3 | (simp at c3 ⊢; omega)); clear c3; have H' := Aside0.mk H; clear H; (go_enter Try.func17, Try.ntmps17); (go_wp2); (repeat (go_quiet (fail); try go_wp2)); (go_loopg [5] k (fun kq v5 w' => ∃ (x5_1 : Int), v5 = .int .i64 x5_1 ∧ Aside0 (sizarref07_Same.l0 kq l0 l1 x5_1 = some r) ∧ Aside0 (kq ≤ k) ∧ Drawn0 w w'))
  case atStart => exact ⟨(0), (by first | rfl | (simp; done) | (simp [*]; done)), H', ⟨Nat.le_refl _⟩, by repeat (first | exact Drawn0.refl _ | apply Drawn0.step)⟩
  case round =>
   clear H'; (try clear c1); (try clear p2); (try clear c3); (try clear c3b0); (try clear c3b1); (try clear c3b2); obtain ⟨x5_1, rfl, HA, HK1, ⟨m1, rfl⟩⟩ := hrel
   cases gk with
   | zero => exact absurd HA.out (by simp [sizarref07_Same.l0])
   | succ k1 =>
    have H := HA.out; clear HA; simp only [sizarref07_Same.l0] at H; (by_cases c4 : x5_1 < (l0.length : Int))
    ·rw [if_pos c4] at H; have c4b0 : decide (x5_1 < (l0.length : Int)) = true := decide_eq_true c4; clear c4; (by_cases c5 : 0 ≤ x5_1)
     ·rw [if_pos c5] at H; have c5b0 : decide (0 ≤ x5_1) = true := decide_eq_true c5; clear c5; (by_cases c6 : x5_1 < (l1.length : Int))
      ·rw [if_pos c6] at H; have c6b0 : decide (x5_1 < (l1.length : Int)) = true := decide_eq_true c6; clear c6; (by_cases c7 : ((!(((rd_T28 l0 x5_1).f0.f0) == ((rd_T28 l1 x5_1).f0.f0)) || (!(((rd_T28 l0 x5_1).f0.f1) == ((rd_T28 l1 x5_1).f0.f1)) || (!(((rd_T28 l0 x5_1).f0.f2) == ((rd_T28 l1 x5_1).f0.f2))))) || (!(((rd_T28 l0 x5_1).f1) == ((rd_T28 l1 x5_1).f1)) || ((!(((rd_T28 l0 x5_1).f2.f0) == ((rd_T28 l1 x5_1).f2.f0)) || (!(((rd_T28 l0 x5_1).f2.f1) == ((rd_T28 l1 x5_1).f2.f1)))) || (!(((rd_T28 l0 x5_1).f3) == ((rd_T28 l1 x5_1).f3)) || (!(((rd_T28 l0 x5_1).f4) == ((rd_T28 l1 x5_1).f4))))))) = true)
       ·rw [if_pos c7] at H; (have c7b0 : ((!(((rd_T28 l0 x5_1).f0.f0) == ((rd_T28 l1 x5_1).f0.f0)) || (!(((rd_T28 l0 x5_1).f0.f1) == ((rd_T28 l1 x5_1).f0.f1)) || (!(((rd_T28 l0 x5_1).f0.f2) == ((rd_T28 l1 x5_1).f0.f2))))) || (!(((rd_T28 l0 x5_1).f1) == ((rd_T28 l1 x5_1).f1)) || ((!(((rd_T28 l0 x5_1).f2.f0) == ((rd_T28 l1 x5_1).f2.f0)) || (!(((rd_T28 l0 x5_1).f2.f1) == ((rd_T28 l1 x5_1).f2.f1)))) || (!(((rd_T28 l0 x5_1).f3) == ((rd_T28 l1 x5_1).f3)) || (!(((rd_T28 l0 x5_1).f4) == ((rd_T28 l1 x5_1).f4))))))) = true := c7); clear c7; obtain rfl := Option.some.inj H; (have p139 : 0 ≤ (x5_1 : Int) := of_decide_eq_true (by assumption)); (have q139 : x5_1 < (l0.length : Int) := of_decide_eq_true (by assumption)); obtain ⟨ad139, e139, hx139_0, hx139_1, hx139_2, hx139_3, hx139_4, hx139_5, hx139_6, hx139_7⟩ := at_T28 HR0.out x5_1 p139 q139; cases e139; replace p139 := eq_true p139; replace q139 := eq_true q139; (have p140 : 0 ≤ (x5_1 : Int) := of_decide_eq_true (by assumption)); (have q140 : x5_1 < (l1.length : Int) := of_decide_eq_true (by assumption)); obtain ⟨ad140, e140, hx140_0, hx140_1, hx140_2, hx140_3, hx140_4, hx140_5, hx140_6, hx140_7⟩ := at_T28 HR1.out x5_1 p140 q140; cases e140; replace p140 := eq_true p140; replace q140 := eq_true q140; (go_wp2); (repeat (go_quiet (fail); try go_wp2)); (go_ret); (exact ⟨by first | rfl | (simp; done) | (simp [*]; done), by repeat (first | exact Drawn0.refl _ | apply Drawn0.step)⟩)
       ·rw [if_neg c7] at H; (have c7b0 : ((!(((rd_T28 l0 x5_1).f0.f0) == ((rd_T28 l1 x5_1).f0.f0)) || (!(((rd_T28 l0 x5_1).f0.f1) == ((rd_T28 l1 x5_1).f0.f1)) || (!(((rd_T28 l0 x5_1).f0.f2) == ((rd_T28 l1 x5_1).f0.f2))))) || (!(((rd_T28 l0 x5_1).f1) == ((rd_T28 l1 x5_1).f1)) || ((!(((rd_T28 l0 x5_1).f2.f0) == ((rd_T28 l1 x5_1).f2.f0)) || (!(((rd_T28 l0 x5_1).f2.f1) == ((rd_T28 l1 x5_1).f2.f1)))) || (!(((rd_T28 l0 x5_1).f3) == ((rd_T28 l1 x5_1).f3)) || (!(((rd_T28 l0 x5_1).f4) == ((rd_T28 l1 x5_1).f4))))))) = false := by simpa using c7); clear c7; have H' := Aside0.mk H; clear H; (have p139 : 0 ≤ (x5_1 : Int) := of_decide_eq_true (by assumption)); (have q139 : x5_1 < (l0.length : Int) := of_decide_eq_true (by assumption)); obtain ⟨ad139, e139, hx139_0, hx139_1, hx139_2, hx139_3, hx139_4, hx139_5, hx139_6, hx139_7⟩ := at_T28 HR0.out x5_1 p139 q139; cases e139; replace p139 := eq_true p139; replace q139 := eq_true q139; (have p140 : 0 ≤ (x5_1 : Int) := of_decide_eq_true (by assumption)); (have q140 : x5_1 < (l1.length : Int) := of_decide_eq_true (by assumption)); obtain ⟨ad140, e140, hx140_0, hx140_1, hx140_2, hx140_3, hx140_4, hx140_5, hx140_6, hx140_7⟩ := at_T28 HR1.out x5_1 p140 q140; cases e140; replace p140 := eq_true p140; replace q140 := eq_true q140; (go_wp2); (repeat (go_quiet (fail); try go_wp2)); (go_roundg k1)
        case measure => have := HK1.out; omega
        case rel => exact ⟨(wrap64 (x5_1 + 1)), (by first | rfl | (simp; done) | (simp [*]; done)), H', ⟨by have := HK1.out; omega⟩, by repeat (first | exact Drawn0.refl _ | apply Drawn0.step)⟩
      ·rw [if_neg c6] at H; (exact absurd H (by simp))
     ·rw [if_neg c5] at H; (exact absurd H (by simp))
    ·rw [if_neg c4] at H; have c4b0 : decide (x5_1 < (l0.length : Int)) = false := decide_eq_false c4; clear c4; obtain rfl := Option.some.inj H; (go_wp2); (repeat (go_quiet (fail); try go_wp2)); (go_ret); (exact ⟨by first | rfl | (simp; done) | (simp [*]; done), by repeat (first | exact Drawn0.refl _ | apply Drawn0.step)⟩)
 ·rw [if_neg c3] at H; have c3b0 : ((l0.length : Int) == (l1.length : Int)) = false := beq_eq_false_iff_ne.mpr c3; have c3b1 : ((l0.length : Int) != (l1.length : Int)) = true := bne_iff_ne.mpr c3; (have c3b2 : (l0.length == l1.length) = false := by first | simpa using c3 | (simp at c3 ⊢; omega)); obtain rfl := Option.some.inj H; (go_enter Try.func17, Try.ntmps17); (go_wp2); (repeat (go_quiet (fail); try go_wp2)); (go_ret); (exact ⟨by first | rfl | (simp; done) | (simp [*]; done), by repeat (first | exact Drawn0.refl _ | apply Drawn0.step)⟩)
end Go.Proofs.Ytamajnhdibcpiaa.G
namespace Go.Proofs.Ytamajnhdibcpiaa.G
open Go.RowKit Go.Proofs.YtamajnhdibcpiaaW.PrintWords Go.Proofs.YtamajnhdibcpiaaW.PrintLast Go.Proofs.YtamajnhdibcpiaaW.PrintMore
attribute [local go_sem] max2_int min2_int max_two min_two max_three min_three max_four min_four
attribute [local go_sem high] eqA24 eqA26
mutual
def sizarref07_SameChanges.l0 : Nat → List (S57) → List (S57) → Int → Option (Bool)
  | 0, _, _, _ => none
  | k + 1, x0, x1, x5 => if x5 < (x0.length : Int) then (if 0 ≤ x5 then (if x5 < (x1.length : Int) then (if (!(((rd_T57 x0 x5).f0.f0) == ((rd_T57 x1 x5).f0.f0)) || (!(((rd_T57 x0 x5).f0.f1) == ((rd_T57 x1 x5).f0.f1)) || (!(((rd_T57 x0 x5).f0.f2) == ((rd_T57 x1 x5).f0.f2))))) = true then (sizarref07_SameChanges.j1 k x0 x1 x5 true) else (sizarref07_SameChanges.j1 k x0 x1 x5 ((((rd_T57 x0 x5).f1).length : Int) != (((rd_T57 x1 x5).f1).length : Int)))) else (none)) else (none)) else (some true)
def sizarref07_SameChanges.j1 : Nat → List (S57) → List (S57) → Int → Bool → Option (Bool)
  | 0, _, _, _, _ => none
  | k + 1, x0, x1, x5, x43 => if x43 = true then (some false) else (sizarref07_SameChanges.l1 k x0 x1 x5 0)
def sizarref07_SameChanges.l1 : Nat → List (S57) → List (S57) → Int → Int → Option (Bool)
  | 0, _, _, _, _ => none
  | k + 1, x0, x1, x5, x6 => if 0 ≤ x5 then (if x5 < (x0.length : Int) then (if x6 < (((rd_T57 x0 x5).f1).length : Int) then (if 0 ≤ x6 then (if x5 < (x1.length : Int) then (if x6 < (((rd_T57 x1 x5).f1).length : Int) then (if (!(((rd_T26 ((rd_T57 x0 x5).f1) x6).f0) == ((rd_T26 ((rd_T57 x1 x5).f1) x6).f0)) || (!(((rd_T26 ((rd_T57 x0 x5).f1) x6).f1) == ((rd_T26 ((rd_T57 x1 x5).f1) x6).f1)))) = true then (some false) else (sizarref07_SameChanges.l1 k x0 x1 x5 (wrap64 (x6 + 1)))) else (none)) else (none)) else (none)) else (sizarref07_SameChanges.l0 k x0 x1 (wrap64 (x5 + 1)))) else (none)) else (none)
end
def sizarref07_SameChanges.f (k : Nat) (l0 : List (S57)) (l1 : List (S57)) : Option (Bool) := if (l0.length : Int) = (l1.length : Int) then (sizarref07_SameChanges.l0 k l0 l1 0) else (some false)
theorem sizarref07_SameChanges.mono_l : ∀ k, (∀ y0 y1 y2, LeO (sizarref07_SameChanges.l0 k y0 y1 y2) (sizarref07_SameChanges.l0 (k + 1) y0 y1 y2)) ∧ (∀ y0 y1 y2 y3, LeO (sizarref07_SameChanges.j1 k y0 y1 y2 y3) (sizarref07_SameChanges.j1 (k + 1) y0 y1 y2 y3)) ∧ (∀ y0 y1 y2 y3, LeO (sizarref07_SameChanges.l1 k y0 y1 y2 y3) (sizarref07_SameChanges.l1 (k + 1) y0 y1 y2 y3))
  | 0 => ⟨fun _ _ _ r h => by simp [sizarref07_SameChanges.l0] at h, fun _ _ _ _ r h => by simp [sizarref07_SameChanges.j1] at h, fun _ _ _ _ r h => by simp [sizarref07_SameChanges.l1] at h⟩
  | k + 1 => by
    obtain ⟨ih0, ih1, ih2⟩ := sizarref07_SameChanges.mono_l k
    refine ⟨?_, ?_, ?_⟩
    · intro y0 y1 y2
      unfold sizarref07_SameChanges.l0
      repeat' first
      | (with_reducible exact ih0 _ _ _)
      | (with_reducible exact ih1 _ _ _ _)
      | (with_reducible exact ih2 _ _ _ _)
      | (with_reducible exact LeO.refl _)
      | (with_reducible exact LeO.none _)
      | (with_reducible refine LeO.ite ?_ ?_)
      | (with_reducible refine LeO.bind ?_ (fun _ => ?_))
      | exact ih0 _ _ _
      | exact ih1 _ _ _ _
      | exact ih2 _ _ _ _
      | exact LeO.none _
      | refine LeO.ite ?_ ?_
      | refine LeO.bind ?_ (fun _ => ?_)
    · intro y0 y1 y2 y3
      unfold sizarref07_SameChanges.j1
      repeat' first
      | (with_reducible exact ih0 _ _ _)
      | (with_reducible exact ih1 _ _ _ _)
      | (with_reducible exact ih2 _ _ _ _)
      | (with_reducible exact LeO.refl _)
      | (with_reducible exact LeO.none _)
      | (with_reducible refine LeO.ite ?_ ?_)
      | (with_reducible refine LeO.bind ?_ (fun _ => ?_))
      | exact ih0 _ _ _
      | exact ih1 _ _ _ _
      | exact ih2 _ _ _ _
      | exact LeO.none _
      | refine LeO.ite ?_ ?_
      | refine LeO.bind ?_ (fun _ => ?_)
    · intro y0 y1 y2 y3
      unfold sizarref07_SameChanges.l1
      repeat' first
      | (with_reducible exact ih0 _ _ _)
      | (with_reducible exact ih1 _ _ _ _)
      | (with_reducible exact ih2 _ _ _ _)
      | (with_reducible exact LeO.refl _)
      | (with_reducible exact LeO.none _)
      | (with_reducible refine LeO.ite ?_ ?_)
      | (with_reducible refine LeO.bind ?_ (fun _ => ?_))
      | exact ih0 _ _ _
      | exact ih1 _ _ _ _
      | exact ih2 _ _ _ _
      | exact LeO.none _
      | refine LeO.ite ?_ ?_
      | refine LeO.bind ?_ (fun _ => ?_)
theorem sizarref07_SameChanges.mono : ∀ a0 a1 k, LeO (sizarref07_SameChanges.f k a0 a1) (sizarref07_SameChanges.f (k + 1) a0 a1) := by
 intro a0 a1 k; obtain ⟨ih0, ih1, ih2⟩ := sizarref07_SameChanges.mono_l k; unfold sizarref07_SameChanges.f
 repeat' first
  | (with_reducible exact ih0 _ _ _)
  | (with_reducible exact ih1 _ _ _ _)
  | (with_reducible exact ih2 _ _ _ _)
  | (with_reducible exact LeO.refl _)
  | (with_reducible exact LeO.none _)
  | (with_reducible refine LeO.ite ?_ ?_)
  | (with_reducible refine LeO.bind ?_ (fun _ => ?_))
  | exact ih0 _ _ _
  | exact ih1 _ _ _ _
  | exact ih2 _ _ _ _
  | exact LeO.none _
  | refine LeO.ite ?_ ?_
  | refine LeO.bind ?_ (fun _ => ?_)
set_option maxHeartbeats 8000000 in
set_option maxRecDepth 100000 in
theorem sizarref07_SameChanges.calls (k : Nat) (A0 : Option Addr) (c0 : Nat) (l0 : List (S57)) (A1 : Option Addr) (c1 : Nat) (l1 : List (S57)) (r : Bool) (w : World) (hr0 : Kd.C k57 w A0 l0.length l0) (hc0 : l0.length ≤ c0) (hr1 : Kd.C k57 w A1 l1.length l1) (hc1 : l1.length ≤ c1) (h : sizarref07_SameChanges.f k l0 l1 = some r) :
    Calls Try.prog 23 #[.slice A0 l0.length c0, .slice A1 l1.length c1] w fun e w' => e = .returned (.bool r) ∧ Drawn0 w w' := by
 have hu24 := Try.underlying24; have hu26 := Try.underlying26; have HR0 := Aside0.mk hr0; have HC0 := Aside0.mk hc0; clear hr0 hc0; have HR1 := Aside0.mk hr1; have HC1 := Aside0.mk hc1; clear hr1 hc1; have H : (if (l0.length : Int) = (l1.length : Int) then (sizarref07_SameChanges.l0 k l0 l1 0) else (some false)) = some r := h; clear h; (by_cases c3 : (l0.length : Int) = (l1.length : Int))
 ·rw [if_pos c3] at H; have c3b0 : ((l0.length : Int) == (l1.length : Int)) = true := beq_iff_eq.mpr c3; have c3b1 : ((l0.length : Int) != (l1.length : Int)) = false := bne_eq_false_iff_eq.mpr c3; (have c3b2 : (l0.length == l1.length) = true := by first | simpa using c3 | (simp at c3 ⊢; omega)); clear c3; have H' := Aside0.mk H; clear H; (go_enter Try.func23, Try.ntmps23); (go_wp2); (repeat (go_quiet (fail); try go_wp2)); (go_loopg [5] k (fun kq v5 w' => ∃ (x5_1 : Int), v5 = .int .i64 x5_1 ∧ Aside0 (sizarref07_SameChanges.l0 kq l0 l1 x5_1 = some r) ∧ Aside0 (kq ≤ k) ∧ Drawn0 w w'))
  case atStart => exact ⟨(0), (by first | rfl | (simp; done) | (simp [*]; done)), H', ⟨Nat.le_refl _⟩, by repeat (first | exact Drawn0.refl _ | apply Drawn0.step)⟩
  case round =>
   clear H'; (try clear c1); (try clear c2); (try clear p2); (try clear c3); (try clear c3b0); (try clear c3b1); (try clear c3b2); obtain ⟨x5_1, rfl, HA, HK1, ⟨m1, rfl⟩⟩ := hrel
   cases gk with
   | zero => exact absurd HA.out (by simp [sizarref07_SameChanges.l0])
   | succ k1 =>
    have H := HA.out; clear HA; simp only [sizarref07_SameChanges.l0] at H; (by_cases c4 : x5_1 < (l0.length : Int))
    ·rw [if_pos c4] at H; have c4b0 : decide (x5_1 < (l0.length : Int)) = true := decide_eq_true c4; clear c4; have HC5 := Aside0.mk H; clear H; (go_upto_region 6 with (fail)); (repeat (go_quiet (fail); go_upto_region 6 with (fail))); (go_cut [43] (fun v43 wc => ∃ (kq : Nat) (x43_4 : Bool), v43 = .bool x43_4 ∧ Aside0 (sizarref07_SameChanges.j1 kq l0 l1 x5_1 x43_4 = some r) ∧ Aside0 (kq ≤ k1) ∧ Drawn0 w wc))
     case first =>
      have H := HC5.out; clear HC5; (by_cases c6 : 0 ≤ x5_1)
      ·rw [if_pos c6] at H; have c6b0 : decide (0 ≤ x5_1) = true := decide_eq_true c6; clear c6; ((first | rw [c6b0] | (simp only [i64_w, i32_w]; rw [c6b0]) | skip)); (by_cases c7 : x5_1 < (l1.length : Int))
       ·rw [if_pos c7] at H; have c7b0 : decide (x5_1 < (l1.length : Int)) = true := decide_eq_true c7; clear c7; (by_cases c8 : (!(((rd_T57 l0 x5_1).f0.f0) == ((rd_T57 l1 x5_1).f0.f0)) || (!(((rd_T57 l0 x5_1).f0.f1) == ((rd_T57 l1 x5_1).f0.f1)) || (!(((rd_T57 l0 x5_1).f0.f2) == ((rd_T57 l1 x5_1).f0.f2))))) = true)
        ·rw [if_pos c8] at H; (have c8b0 : (!(((rd_T57 l0 x5_1).f0.f0) == ((rd_T57 l1 x5_1).f0.f0)) || (!(((rd_T57 l0 x5_1).f0.f1) == ((rd_T57 l1 x5_1).f0.f1)) || (!(((rd_T57 l0 x5_1).f0.f2) == ((rd_T57 l1 x5_1).f0.f2))))) = true := c8); clear c8; have H' := Aside0.mk H; clear H; (have p141 : 0 ≤ (x5_1 : Int) := of_decide_eq_true (by assumption)); (have q141 : x5_1 < (l0.length : Int) := of_decide_eq_true (by assumption)); obtain ⟨ad141, A141_3, c141_3, e141, hx141_0, hx141_1, hx141_2, hx141_3, hl141_3, hi141_3⟩ := at_T57 HR0.out x5_1 p141 q141; cases e141; have HR141_3 := Aside0.mk hi141_3; have HC141_3 := Aside0.mk hl141_3; clear hi141_3 hl141_3; replace p141 := eq_true p141; replace q141 := eq_true q141; (have p142 : 0 ≤ (x5_1 : Int) := of_decide_eq_true (by assumption)); (have q142 : x5_1 < (l1.length : Int) := of_decide_eq_true (by assumption)); obtain ⟨ad142, A142_3, c142_3, e142, hx142_0, hx142_1, hx142_2, hx142_3, hl142_3, hi142_3⟩ := at_T57 HR1.out x5_1 p142 q142; cases e142; have HR142_3 := Aside0.mk hi142_3; have HC142_3 := Aside0.mk hl142_3; clear hi142_3 hl142_3; replace p142 := eq_true p142; replace q142 := eq_true q142; (go_wp2); (repeat (go_quiet (fail); try go_wp2)); (go_meet)
         case rel => exact ⟨_, (true), (by first | rfl | (simp; done) | (simp [*]; done)), H', ⟨by have := HK1.out; first | omega | exact Nat.le_refl _⟩, by repeat (first | exact Drawn0.refl _ | apply Drawn0.step)⟩
        ·rw [if_neg c8] at H; (have c8b0 : (!(((rd_T57 l0 x5_1).f0.f0) == ((rd_T57 l1 x5_1).f0.f0)) || (!(((rd_T57 l0 x5_1).f0.f1) == ((rd_T57 l1 x5_1).f0.f1)) || (!(((rd_T57 l0 x5_1).f0.f2) == ((rd_T57 l1 x5_1).f0.f2))))) = false := by simpa using c8); clear c8; have H' := Aside0.mk H; clear H; (have p141 : 0 ≤ (x5_1 : Int) := of_decide_eq_true (by assumption)); (have q141 : x5_1 < (l0.length : Int) := of_decide_eq_true (by assumption)); obtain ⟨ad141, A141_3, c141_3, e141, hx141_0, hx141_1, hx141_2, hx141_3, hl141_3, hi141_3⟩ := at_T57 HR0.out x5_1 p141 q141; cases e141; have HR141_3 := Aside0.mk hi141_3; have HC141_3 := Aside0.mk hl141_3; clear hi141_3 hl141_3; replace p141 := eq_true p141; replace q141 := eq_true q141; (have p142 : 0 ≤ (x5_1 : Int) := of_decide_eq_true (by assumption)); (have q142 : x5_1 < (l1.length : Int) := of_decide_eq_true (by assumption)); obtain ⟨ad142, A142_3, c142_3, e142, hx142_0, hx142_1, hx142_2, hx142_3, hl142_3, hi142_3⟩ := at_T57 HR1.out x5_1 p142 q142; cases e142; have HR142_3 := Aside0.mk hi142_3; have HC142_3 := Aside0.mk hl142_3; clear hi142_3 hl142_3; replace p142 := eq_true p142; replace q142 := eq_true q142; (have p143 : 0 ≤ (x5_1 : Int) := of_decide_eq_true (by assumption)); (have q143 : x5_1 < (l0.length : Int) := of_decide_eq_true (by assumption)); obtain ⟨ad143, A143_3, c143_3, e143, hx143_0, hx143_1, hx143_2, hx143_3, hl143_3, hi143_3⟩ := at_T57 HR0.out x5_1 p143 q143; (obtain rfl : ad141 = ad143 := (by injection e143)); have HR143_3 := Aside0.mk hi143_3; have HC143_3 := Aside0.mk hl143_3; clear hi143_3 hl143_3; replace p143 := eq_true p143; replace q143 := eq_true q143; have ea_ := Option.some.inj (hx141_3.symm.trans hx143_3); injection ea_ with ea_ en_ ec_; subst ea_; subst ec_; clear en_; (have p144 : 0 ≤ (x5_1 : Int) := of_decide_eq_true (by assumption)); (have q144 : x5_1 < (l1.length : Int) := of_decide_eq_true (by assumption)); obtain ⟨ad144, A144_3, c144_3, e144, hx144_0, hx144_1, hx144_2, hx144_3, hl144_3, hi144_3⟩ := at_T57 HR1.out x5_1 p144 q144; (obtain rfl : ad142 = ad144 := (by injection e144)); have HR144_3 := Aside0.mk hi144_3; have HC144_3 := Aside0.mk hl144_3; clear hi144_3 hl144_3; replace p144 := eq_true p144; replace q144 := eq_true q144; have ea_ := Option.some.inj (hx142_3.symm.trans hx144_3); injection ea_ with ea_ en_ ec_; subst ea_; subst ec_; clear en_; (go_wp2); (repeat (go_quiet (fail); try go_wp2)); (go_meet)
         case rel => exact ⟨_, (((((rd_T57 l0 x5_1).f1).length : Int) != (((rd_T57 l1 x5_1).f1).length : Int))), (by first | rfl | (simp; done) | (simp [*]; done)), H', ⟨by have := HK1.out; first | omega | exact Nat.le_refl _⟩, by repeat (first | exact Drawn0.refl _ | apply Drawn0.step)⟩
       ·rw [if_neg c7] at H; (exact absurd H (by simp))
      ·rw [if_neg c6] at H; (exact absurd H (by simp))
     case rest =>
      clear HC5; (try clear c1); (try clear p1); (try clear q1); (try clear hx1); (try clear c2); (try clear p2); (try clear c3); (try clear c3b0); (try clear c3b1); (try clear c3b2); (try clear c4); (try clear c4b0); (try clear c6); (try clear c6b0); (try clear c7); (try clear c7b0); (try clear c8); (try clear c8b0); (try clear hx141_0); (try clear hx141_1); (try clear hx141_2); (try clear hx141_3); (try clear hx142_0); (try clear hx142_1); (try clear hx142_2); (try clear hx142_3); (try clear hx143_0); (try clear hx143_1); (try clear hx143_2); (try clear hx143_3); (try clear hx144_0); (try clear hx144_1); (try clear hx144_2); (try clear hx144_3); (try clear p141); (try clear p142); (try clear p143); (try clear p144); (try clear p2); (try clear q141); (try clear q142); (try clear q143); (try clear q144); obtain ⟨kq, x43_4, rfl, HA, HJ4, ⟨mc4, rfl⟩⟩ := hcut
      cases kq with
      | zero => exact absurd HA.out (by simp [sizarref07_SameChanges.j1])
      | succ kj4 =>
       have H := HA.out; clear HA; simp only [sizarref07_SameChanges.j1] at H; (by_cases c9 : x43_4 = true)
       ·subst c9; (have H1 : (some false) = some r := by rw [if_pos rfl] at H; exact H); clear H; have H := H1; clear H1; obtain rfl := Option.some.inj H; (go_wp2); (repeat (go_quiet (fail); try go_wp2)); (go_ret); (exact ⟨by first | rfl | (simp; done) | (simp [*]; done), by repeat (first | exact Drawn0.refl _ | apply Drawn0.step)⟩)
       ·replace c9 := Bool.eq_false_iff.mpr c9; subst c9; (have H1 : (sizarref07_SameChanges.l1 kj4 l0 l1 x5_1 0) = some r := by rw [if_neg (show ¬ (false = true) by decide)] at H; exact H); clear H; have H := H1; clear H1; have H' := Aside0.mk H; clear H; (go_wp2); (repeat (go_quiet (fail); try go_wp2)); (go_loopg [6] kj4 (fun kq v6 w' => ∃ (x6_3 : Int), v6 = .int .i64 x6_3 ∧ Aside0 (sizarref07_SameChanges.l1 kq l0 l1 x5_1 x6_3 = some r) ∧ Aside0 (kq ≤ kj4) ∧ Drawn0 w w'))
        case atStart => exact ⟨(0), (by first | rfl | (simp; done) | (simp [*]; done)), H', ⟨Nat.le_refl _⟩, by repeat (first | exact Drawn0.refl _ | apply Drawn0.step)⟩
        case round =>
         clear H'; (try clear c1); (try clear p1); (try clear q1); (try clear hx1); (try clear c2); (try clear p2); (try clear c3); (try clear c3b0); (try clear c3b1); (try clear c3b2); (try clear c4); (try clear c4b0); (try clear c6); (try clear c6b0); (try clear c7); (try clear c7b0); (try clear c8); (try clear c8b0); (try clear c9); (try clear hx141_0); (try clear hx141_1); (try clear hx141_2); (try clear hx141_3); (try clear hx142_0); (try clear hx142_1); (try clear hx142_2); (try clear hx142_3); (try clear hx143_0); (try clear hx143_1); (try clear hx143_2); (try clear hx143_3); (try clear hx144_0); (try clear hx144_1); (try clear hx144_2); (try clear hx144_3); (try clear p1); (try clear p141); (try clear p142); (try clear p143); (try clear p144); (try clear p2); (try clear q1); (try clear q141); (try clear q142); (try clear q143); (try clear q144); obtain ⟨x6_3, rfl, HA, HK3, ⟨m3, rfl⟩⟩ := hrel
         cases gk with
         | zero => exact absurd HA.out (by simp [sizarref07_SameChanges.l1])
         | succ k3 =>
          have H := HA.out; clear HA; simp only [sizarref07_SameChanges.l1] at H; (by_cases c10 : 0 ≤ x5_1)
          ·rw [if_pos c10] at H; have c10b0 : decide (0 ≤ x5_1) = true := decide_eq_true c10; clear c10; (by_cases c11 : x5_1 < (l0.length : Int))
           ·rw [if_pos c11] at H; have c11b0 : decide (x5_1 < (l0.length : Int)) = true := decide_eq_true c11; clear c11; (by_cases c12 : x6_3 < (((rd_T57 l0 x5_1).f1).length : Int))
            ·rw [if_pos c12] at H; have c12b0 : decide (x6_3 < (((rd_T57 l0 x5_1).f1).length : Int)) = true := decide_eq_true c12; clear c12; (by_cases c13 : 0 ≤ x6_3)
             ·rw [if_pos c13] at H; have c13b0 : decide (0 ≤ x6_3) = true := decide_eq_true c13; clear c13; (by_cases c14 : x5_1 < (l1.length : Int))
              ·rw [if_pos c14] at H; have c14b0 : decide (x5_1 < (l1.length : Int)) = true := decide_eq_true c14; clear c14; (by_cases c15 : x6_3 < (((rd_T57 l1 x5_1).f1).length : Int))
               ·rw [if_pos c15] at H; have c15b0 : decide (x6_3 < (((rd_T57 l1 x5_1).f1).length : Int)) = true := decide_eq_true c15; clear c15; (by_cases c16 : (!(((rd_T26 ((rd_T57 l0 x5_1).f1) x6_3).f0) == ((rd_T26 ((rd_T57 l1 x5_1).f1) x6_3).f0)) || (!(((rd_T26 ((rd_T57 l0 x5_1).f1) x6_3).f1) == ((rd_T26 ((rd_T57 l1 x5_1).f1) x6_3).f1)))) = true)
                ·rw [if_pos c16] at H; (have c16b0 : (!(((rd_T26 ((rd_T57 l0 x5_1).f1) x6_3).f0) == ((rd_T26 ((rd_T57 l1 x5_1).f1) x6_3).f0)) || (!(((rd_T26 ((rd_T57 l0 x5_1).f1) x6_3).f1) == ((rd_T26 ((rd_T57 l1 x5_1).f1) x6_3).f1)))) = true := c16); clear c16; obtain rfl := Option.some.inj H; (have p145 : 0 ≤ (x5_1 : Int) := of_decide_eq_true (by assumption)); (have q145 : x5_1 < (l0.length : Int) := of_decide_eq_true (by assumption)); obtain ⟨ad145, A145_3, c145_3, e145, hx145_0, hx145_1, hx145_2, hx145_3, hl145_3, hi145_3⟩ := at_T57 HR0.out x5_1 p145 q145; cases e145; have HR145_3 := Aside0.mk hi145_3; have HC145_3 := Aside0.mk hl145_3; clear hi145_3 hl145_3; replace p145 := eq_true p145; replace q145 := eq_true q145; (have p146 : 0 ≤ (x5_1 : Int) := of_decide_eq_true (by assumption)); (have q146 : x5_1 < (l0.length : Int) := of_decide_eq_true (by assumption)); obtain ⟨ad146, A146_3, c146_3, e146, hx146_0, hx146_1, hx146_2, hx146_3, hl146_3, hi146_3⟩ := at_T57 HR0.out x5_1 p146 q146; (obtain rfl : ad145 = ad146 := (by injection e146)); have HR146_3 := Aside0.mk hi146_3; have HC146_3 := Aside0.mk hl146_3; clear hi146_3 hl146_3; replace p146 := eq_true p146; replace q146 := eq_true q146; have ea_ := Option.some.inj (hx145_3.symm.trans hx146_3); injection ea_ with ea_ en_ ec_; subst ea_; subst ec_; clear en_; (have p147 : 0 ≤ (x6_3 : Int) := of_decide_eq_true (by assumption)); (have q147 : x6_3 < (((rd_T57 l0 x5_1).f1).length : Int) := of_decide_eq_true (by assumption)); obtain ⟨ad147, e147, hx147_0, hx147_1⟩ := at_T26 HR146_3.out x6_3 p147 q147; cases e147; replace p147 := eq_true p147; replace q147 := eq_true q147; (have p148 : 0 ≤ (x5_1 : Int) := of_decide_eq_true (by assumption)); (have q148 : x5_1 < (l1.length : Int) := of_decide_eq_true (by assumption)); obtain ⟨ad148, A148_3, c148_3, e148, hx148_0, hx148_1, hx148_2, hx148_3, hl148_3, hi148_3⟩ := at_T57 HR1.out x5_1 p148 q148; cases e148; have HR148_3 := Aside0.mk hi148_3; have HC148_3 := Aside0.mk hl148_3; clear hi148_3 hl148_3; replace p148 := eq_true p148; replace q148 := eq_true q148; (have p149 : 0 ≤ (x6_3 : Int) := of_decide_eq_true (by assumption)); (have q149 : x6_3 < (((rd_T57 l1 x5_1).f1).length : Int) := of_decide_eq_true (by assumption)); obtain ⟨ad149, e149, hx149_0, hx149_1⟩ := at_T26 HR148_3.out x6_3 p149 q149; cases e149; replace p149 := eq_true p149; replace q149 := eq_true q149; (go_wp2); (repeat (go_quiet (fail); try go_wp2)); (go_ret); (exact ⟨by first | rfl | (simp; done) | (simp [*]; done), by repeat (first | exact Drawn0.refl _ | apply Drawn0.step)⟩)
                ·rw [if_neg c16] at H; (have c16b0 : (!(((rd_T26 ((rd_T57 l0 x5_1).f1) x6_3).f0) == ((rd_T26 ((rd_T57 l1 x5_1).f1) x6_3).f0)) || (!(((rd_T26 ((rd_T57 l0 x5_1).f1) x6_3).f1) == ((rd_T26 ((rd_T57 l1 x5_1).f1) x6_3).f1)))) = false := by simpa using c16); clear c16; have H' := Aside0.mk H; clear H; (have p145 : 0 ≤ (x5_1 : Int) := of_decide_eq_true (by assumption)); (have q145 : x5_1 < (l0.length : Int) := of_decide_eq_true (by assumption)); obtain ⟨ad145, A145_3, c145_3, e145, hx145_0, hx145_1, hx145_2, hx145_3, hl145_3, hi145_3⟩ := at_T57 HR0.out x5_1 p145 q145; cases e145; have HR145_3 := Aside0.mk hi145_3; have HC145_3 := Aside0.mk hl145_3; clear hi145_3 hl145_3; replace p145 := eq_true p145; replace q145 := eq_true q145; (have p146 : 0 ≤ (x5_1 : Int) := of_decide_eq_true (by assumption)); (have q146 : x5_1 < (l0.length : Int) := of_decide_eq_true (by assumption)); obtain ⟨ad146, A146_3, c146_3, e146, hx146_0, hx146_1, hx146_2, hx146_3, hl146_3, hi146_3⟩ := at_T57 HR0.out x5_1 p146 q146; (obtain rfl : ad145 = ad146 := (by injection e146)); have HR146_3 := Aside0.mk hi146_3; have HC146_3 := Aside0.mk hl146_3; clear hi146_3 hl146_3; replace p146 := eq_true p146; replace q146 := eq_true q146; have ea_ := Option.some.inj (hx145_3.symm.trans hx146_3); injection ea_ with ea_ en_ ec_; subst ea_; subst ec_; clear en_; (have p147 : 0 ≤ (x6_3 : Int) := of_decide_eq_true (by assumption)); (have q147 : x6_3 < (((rd_T57 l0 x5_1).f1).length : Int) := of_decide_eq_true (by assumption)); obtain ⟨ad147, e147, hx147_0, hx147_1⟩ := at_T26 HR146_3.out x6_3 p147 q147; cases e147; replace p147 := eq_true p147; replace q147 := eq_true q147; (have p148 : 0 ≤ (x5_1 : Int) := of_decide_eq_true (by assumption)); (have q148 : x5_1 < (l1.length : Int) := of_decide_eq_true (by assumption)); obtain ⟨ad148, A148_3, c148_3, e148, hx148_0, hx148_1, hx148_2, hx148_3, hl148_3, hi148_3⟩ := at_T57 HR1.out x5_1 p148 q148; cases e148; have HR148_3 := Aside0.mk hi148_3; have HC148_3 := Aside0.mk hl148_3; clear hi148_3 hl148_3; replace p148 := eq_true p148; replace q148 := eq_true q148; (have p149 : 0 ≤ (x6_3 : Int) := of_decide_eq_true (by assumption)); (have q149 : x6_3 < (((rd_T57 l1 x5_1).f1).length : Int) := of_decide_eq_true (by assumption)); obtain ⟨ad149, e149, hx149_0, hx149_1⟩ := at_T26 HR148_3.out x6_3 p149 q149; cases e149; replace p149 := eq_true p149; replace q149 := eq_true q149; (go_wp2); (repeat (go_quiet (fail); try go_wp2)); (go_roundg k3)
                 case measure => have := HK1.out; have := HJ4.out; have := HK3.out; omega
                 case rel => exact ⟨(wrap64 (x6_3 + 1)), (by first | rfl | (simp; done) | (simp [*]; done)), H', ⟨by have := HK1.out; have := HJ4.out; have := HK3.out; omega⟩, by repeat (first | exact Drawn0.refl _ | apply Drawn0.step)⟩
               ·rw [if_neg c15] at H; (exact absurd H (by simp))
              ·rw [if_neg c14] at H; (exact absurd H (by simp))
             ·rw [if_neg c13] at H; (exact absurd H (by simp))
            ·rw [if_neg c12] at H; have c12b0 : decide (x6_3 < (((rd_T57 l0 x5_1).f1).length : Int)) = false := decide_eq_false c12; clear c12; have H' := Aside0.mk H; clear H; (have p145 : 0 ≤ (x5_1 : Int) := of_decide_eq_true (by assumption)); (have q145 : x5_1 < (l0.length : Int) := of_decide_eq_true (by assumption)); obtain ⟨ad145, A145_3, c145_3, e145, hx145_0, hx145_1, hx145_2, hx145_3, hl145_3, hi145_3⟩ := at_T57 HR0.out x5_1 p145 q145; cases e145; have HR145_3 := Aside0.mk hi145_3; have HC145_3 := Aside0.mk hl145_3; clear hi145_3 hl145_3; replace p145 := eq_true p145; replace q145 := eq_true q145; (go_wp2); (repeat (go_quiet (fail); try go_wp2)); (go_roundg k3)
             case measure => have := HK1.out; have := HJ4.out; have := HK3.out; omega
             case rel => exact ⟨(wrap64 (x5_1 + 1)), (by first | rfl | (simp; done) | (simp [*]; done)), H', ⟨by have := HK1.out; have := HJ4.out; have := HK3.out; omega⟩, by repeat (first | exact Drawn0.refl _ | apply Drawn0.step)⟩
           ·rw [if_neg c11] at H; (exact absurd H (by simp))
          ·rw [if_neg c10] at H; (exact absurd H (by simp))
    ·rw [if_neg c4] at H; have c4b0 : decide (x5_1 < (l0.length : Int)) = false := decide_eq_false c4; clear c4; obtain rfl := Option.some.inj H; (go_wp2); (repeat (go_quiet (fail); try go_wp2)); (go_ret); (exact ⟨by first | rfl | (simp; done) | (simp [*]; done), by repeat (first | exact Drawn0.refl _ | apply Drawn0.step)⟩)
 ·rw [if_neg c3] at H; have c3b0 : ((l0.length : Int) == (l1.length : Int)) = false := beq_eq_false_iff_ne.mpr c3; have c3b1 : ((l0.length : Int) != (l1.length : Int)) = true := bne_iff_ne.mpr c3; (have c3b2 : (l0.length == l1.length) = false := by first | simpa using c3 | (simp at c3 ⊢; omega)); obtain rfl := Option.some.inj H; (go_enter Try.func23, Try.ntmps23); (go_wp2); (repeat (go_quiet (fail); try go_wp2)); (go_ret); (exact ⟨by first | rfl | (simp; done) | (simp [*]; done), by repeat (first | exact Drawn0.refl _ | apply Drawn0.step)⟩)
end Go.Proofs.Ytamajnhdibcpiaa.G
namespace Go.Proofs.Ytamajnhdibcpiaa.G
open Go.RowKit Go.Proofs.YtamajnhdibcpiaaW.PrintWords Go.Proofs.YtamajnhdibcpiaaW.PrintLast Go.Proofs.YtamajnhdibcpiaaW.PrintMore
attribute [local go_sem] max2_int min2_int max_two min_two max_three min_three max_four min_four
def sizarlaw07_grade.f (a0 : Int) (a1 : Int) (a2 : Int) (a3 : Int) (a4 : Int) : Option (Int × Int × Int × Int × Int × Int × Int × Int) := some (5, 4, 9, a0, a1, a2, a3, a4)
set_option maxHeartbeats 8000000 in
set_option maxRecDepth 100000 in
theorem sizarlaw07_grade.calls (a0 : Int) (a1 : Int) (a2 : Int) (a3 : Int) (a4 : Int) (r1 : Int) (r2 : Int) (r3 : Int) (r4 : Int) (r5 : Int) (r6 : Int) (r7 : Int) (r8 : Int) (w : World) (h : sizarlaw07_grade.f a0 a1 a2 a3 a4 = some (r1, r2, r3, r4, r5, r6, r7, r8)) :
    Calls Try.prog 31 #[.int .i64 a0, .int .i64 a1, .int .i64 a2, .int .i64 a3, .int .i64 a4] w fun e w' => e = .returned (.agg #[.int .i64 r1, .int .i64 r2, .int .i64 r3, .int .i64 r4, .int .i64 r5, .int .i64 r6, .int .i64 r7, .int .i64 r8]) ∧ Below w.heap.size w w' := by
 have hu28 := Try.underlying28; have hu24 := Try.underlying24; have hu26 := Try.underlying26; have HB := Aside0.mk (Below.refl w.heap.size w); have H : (some (5, 4, 9, a0, a1, a2, a3, a4)) = some (r1, r2, r3, r4, r5, r6, r7, r8) := h; clear h; simp only [Option.some.injEq, Prod.mk.injEq] at H; obtain ⟨rfl, rfl, rfl, rfl, rfl, rfl, rfl, rfl⟩ := H; (go_enter Try.func31, Try.ntmps31); (go_wp2_with (first | ((with_reducible refine gate_dst (N := 10) rfl ?_); refine box_event ?hg (N := 10) ?hd (cs := #[.int .i64 0, .int .i64 0, .int .i64 0, .int .i64 0, .int .i64 0, .int .i64 0, .int .i64 0, .int .i64 0]) (t := 28) ?hr ?_; (case hd => rfl); (case hg => rfl); (case hr => first | (go_simp; done) | (go_simp; rfl)); intro gb150 hg w6 hbox hb; have n0_ := Aside0.mk (below_step (by repeat (first | (with_reducible first | exact HB.out | apply below_alloc | apply pw_below_drewN | apply below_drew1) | exact HB.out)) hb); have n1_ := Aside0.mk (hbox); have n2_ := Aside0.mk ((by rw [hg]; exact (below_size (by repeat (first | (with_reducible first | exact HB.out | apply below_alloc | apply pw_below_drewN | apply below_drew1) | exact HB.out))) : w.heap.size ≤ gb150)); have n3_ := Aside0.mk ((by rw [hg]; exact (below_size (by repeat (first | (with_reducible first | exact HB.out | apply below_alloc | apply pw_below_drewN | apply below_drew1) | exact HB.out))) : w.heap.size ≤ gb150)); clear HB; have HB := n0_; have BK150 := n1_; have GW150 := n2_; have GE150 := n3_; clear n0_ n1_ n2_ n3_; clear hb hbox hg; have hcz7_0 : w6.cell? ⟨gb150, 0, none⟩ = some (.int .i64 0) := (blk_cell BK150.out 0).trans rfl; have hcz7_1 : w6.cell? ⟨gb150, 1, none⟩ = some (.int .i64 0) := (blk_cell BK150.out 1).trans rfl; have hcz7_2 : w6.cell? ⟨gb150, 2, none⟩ = some (.int .i64 0) := (blk_cell BK150.out 2).trans rfl; have hcz7_3 : w6.cell? ⟨gb150, 3, none⟩ = some (.int .i64 0) := (blk_cell BK150.out 3).trans rfl; have hcz7_4 : w6.cell? ⟨gb150, 4, none⟩ = some (.int .i64 0) := (blk_cell BK150.out 4).trans rfl; have hcz7_5 : w6.cell? ⟨gb150, 5, none⟩ = some (.int .i64 0) := (blk_cell BK150.out 5).trans rfl; have hcz7_6 : w6.cell? ⟨gb150, 6, none⟩ = some (.int .i64 0) := (blk_cell BK150.out 6).trans rfl; have hcz7_7 : w6.cell? ⟨gb150, 7, none⟩ = some (.int .i64 0) := (blk_cell BK150.out 7).trans rfl; have hfz7_0 := blk_frozen BK150.out 0; have hfz7_1 := blk_frozen BK150.out 1; have hfz7_2 := blk_frozen BK150.out 2; have hfz7_3 := blk_frozen BK150.out 3; have hfz7_4 := blk_frozen BK150.out 4; have hfz7_5 := blk_frozen BK150.out 5; have hfz7_6 := blk_frozen BK150.out 6; have hfz7_7 := blk_frozen BK150.out 7))); (refine bodyPost_ret (results_cell_row rfl _ _ gb150 28 #[.int .i64 5, .int .i64 4, .int .i64 9, .int .i64 a0, .int .i64 a1, .int .i64 a2, .int .i64 a3, .int .i64 a4] (0, 0) _ rfl (by (with_reducible repeat (first | refine blk_drewN ?_ _ | refine blk_drew ?_ | refine blk_alloc ?_ _)); refine blk_put (cs := #[.int .i64 5, .int .i64 4, .int .i64 9, .int .i64 a0, .int .i64 a1, .int .i64 a2, .int .i64 a3, .int .i64 0]) ?_ 7 _ rfl; (with_reducible repeat (first | refine blk_drewN ?_ _ | refine blk_drew ?_ | refine blk_alloc ?_ _)); refine blk_put (cs := #[.int .i64 5, .int .i64 4, .int .i64 9, .int .i64 a0, .int .i64 a1, .int .i64 a2, .int .i64 0, .int .i64 0]) ?_ 6 _ rfl; (with_reducible repeat (first | refine blk_drewN ?_ _ | refine blk_drew ?_ | refine blk_alloc ?_ _)); refine blk_put (cs := #[.int .i64 5, .int .i64 4, .int .i64 9, .int .i64 a0, .int .i64 a1, .int .i64 0, .int .i64 0, .int .i64 0]) ?_ 5 _ rfl; (with_reducible repeat (first | refine blk_drewN ?_ _ | refine blk_drew ?_ | refine blk_alloc ?_ _)); refine blk_put (cs := #[.int .i64 5, .int .i64 4, .int .i64 9, .int .i64 a0, .int .i64 0, .int .i64 0, .int .i64 0, .int .i64 0]) ?_ 4 _ rfl; (with_reducible repeat (first | refine blk_drewN ?_ _ | refine blk_drew ?_ | refine blk_alloc ?_ _)); refine blk_put (cs := #[.int .i64 5, .int .i64 4, .int .i64 9, .int .i64 0, .int .i64 0, .int .i64 0, .int .i64 0, .int .i64 0]) ?_ 3 _ rfl; (with_reducible repeat (first | refine blk_drewN ?_ _ | refine blk_drew ?_ | refine blk_alloc ?_ _)); refine blk_put (cs := #[.int .i64 5, .int .i64 4, .int .i64 0, .int .i64 0, .int .i64 0, .int .i64 0, .int .i64 0, .int .i64 0]) ?_ 2 _ rfl; (with_reducible repeat (first | refine blk_drewN ?_ _ | refine blk_drew ?_ | refine blk_alloc ?_ _)); refine blk_put (cs := #[.int .i64 5, .int .i64 0, .int .i64 0, .int .i64 0, .int .i64 0, .int .i64 0, .int .i64 0, .int .i64 0]) ?_ 1 _ rfl; (with_reducible repeat (first | refine blk_drewN ?_ _ | refine blk_drew ?_ | refine blk_alloc ?_ _)); refine blk_put (cs := #[.int .i64 0, .int .i64 0, .int .i64 0, .int .i64 0, .int .i64 0, .int .i64 0, .int .i64 0, .int .i64 0]) ?_ 0 _ rfl; (with_reducible repeat (first | refine blk_drewN ?_ _ | refine blk_drew ?_ | refine blk_alloc ?_ _)); exact BK150.out) Try.underlying28 rfl (by kernel_rfl)) rfl ?_); (exact ⟨by first | rfl | (simp [errW_none, errW_some] <;> rfl) | (simp [*, errW_none, errW_some] <;> rfl), by repeat (first | (with_reducible first | exact HB.out | apply below_alloc | apply pw_below_drewN | apply below_drew1 | refine below_set ?_ GE150.out) | exact HB.out)⟩)
end Go.Proofs.Ytamajnhdibcpiaa.G
namespace Go.Proofs.Ytamajnhdibcpiaa.G
open Go.RowKit Go.Shelf Go.Proofs.YtamajnhdibcpiaaW.PrintWords Go.Proofs.YtamajnhdibcpiaaW.PrintLast Go.Proofs.YtamajnhdibcpiaaW.PrintMore
attribute [local go_sem ↓] Go.wp_at_zero Go.wp_at_succ
set_option maxHeartbeats 1000000 in
theorem clip_calls (A0 : Option Addr) (n c0 : Nat) (hc : n ≤ c0) (w : World) :
    Calls Try.prog 34 #[.slice A0 n c0] w fun e w' => ∃ A1, e = .returned (.slice A1 n n) ∧ w' = w ∧ (0 < n → A1 = A0) := by
 (go_enter Try.func34, Try.ntmps34); (go_wp2); (go_ret); (exact ⟨_, rfl, rfl, fun h => rfl⟩)
theorem clip_step {ops : Array Oper} {o : Oper} {a : Act} {W : World} {K : Act → World → Prop} {Q : Exit → Act → World → Prop} {E : Prop}
    (hg : o.guard = none) (s x : Tmp) (hop : o.op = Op.call { callee := Callee.builtin Builtin.append, args := #[.tmp s, .tmp x], argTypes := #[22, 22] })
    (A0 A1 : Option Addr) (l : List S28) (p : S28) (H : Nat) (hs : a.eval (.tmp s) = .slice A1 l.length l.length) (hA : 0 < l.length → A1 = A0) (HC : Kd.C k28 W A0 l.length l)
    (hx : a.eval (.tmp x) = .slice (some ⟨H, 0, none⟩) 1 1) (hH : W.heap[H]? = some (.cells #[.int .i64 p.f0.f0, .int .i64 p.f0.f1, .int .i64 p.f0.f2, .int .i64 p.f1, .int .i64 p.f2.f0, .int .i64 p.f2.f1, .int .i64 p.f3, .int .i64 p.f4] 28)) (hn : l.length + 1 ≤ 2199023255552)
    (hK : ∀ v' w', Kd.R k28 28 w' W.heap.size (fun _ => True) v' (l ++ [p]) → Below W.heap.size W w' → K (a.put o.dst v') w') :
    if Region.wanted o (yielded ops a.tmps) = true then Oper.wp Try.prog o a W K Q else E := by
 have hinfo := info28g; obtain ⟨i0, hi, hzz⟩ := Option.map_eq_some_iff.1 hinfo; simp only [Prod.mk.injEq] at hzz; obtain ⟨hz0, hz1, hz2⟩ := hzz
 obtain ⟨inner, hreps, hcells⟩ : ∃ inner, Reps (k28.K W) 8 l inner ∧ ∀ b, A1 = some b → ∀ j u, inner[j]? = some u → W.cell? (b.add j) = some u := by
  rcases Nat.eq_zero_or_pos l.length with h0 | h0
  ·obtain rfl := List.eq_nil_of_length_eq_zero h0; (exact ⟨[], Reps.none _ _, fun b _ j u h => by simp at h⟩)
  ·obtain ⟨ad, rfl, _⟩ := HC.2.2 h0; obtain ⟨inner, h1, h2⟩ := ReadsRow.inner_ HC; (exact ⟨inner, h1, fun b hb => by rw [hA h0] at hb; cases hb; exact h2⟩)
 have hnone : A1 = none → l.length = 0 ∧ l.length = 0 := fun e => by
  rcases Nat.eq_zero_or_pos l.length with h0 | h0
  ·exact ⟨h0, h0⟩
  ·obtain ⟨ad, h, _⟩ := HC.2.2 h0; rw [hA h0, h] at e; cases e
 refine step_append_grows hg (.tmp s) (.tmp x) 22 hop 28 i0 _ 8 64 Try.underlying22 hi hz0 hz1 hz2 rfl (by decide) A1 l.length l.length inner hs hnone hreps.1 hcells ⟨H, 0, none⟩ 1 1 [.int .i64 p.f0.f0, .int .i64 p.f0.f1, .int .i64 p.f0.f2, .int .i64 p.f1, .int .i64 p.f2.f0, .int .i64 p.f2.f1, .int .i64 p.f3, .int .i64 p.f4] hx rfl ?_ ?_ (by omega) (by simp only [maxLen]; omega) (by omega) ?_
 ·intro j u hj; rw [add_plain, blk_cell hH]; (simpa using hj)
 ·intro u hu; simp at hu; (rcases hu with rfl | rfl | rfl | rfl | rfl | rfl | rfl | rfl <;> rfl)
 ·intro v' w' hown hgr; (refine hK v' w' ⟨fun _ _ => trivial, _, ?_, Reps.snoc (c := [.int .i64 p.f0.f0, .int .i64 p.f0.f1, .int .i64 p.f0.f2, .int .i64 p.f1, .int .i64 p.f2.f0, .int .i64 p.f2.f1, .int .i64 p.f3, .int .i64 p.f4]) (hreps.imp_ (R' := k28.M w' W.heap.size (fun k => True ∧ some k ≠ v'.ownBlock)) fun q c hc => by have := k28_open hc; subst this; exact k28_mkM _ _ _ q) (k28_mkM _ _ _ p) rfl⟩ ⟨hgr.os, hgr.tape, hgr.output, hgr.size, fun k hk => hgr.block k hk (by simp)⟩); rw [List.length_append]; exact hown
def api_Fact.f (l0 : List S28) : Option (List S28) := some l0
end Go.Proofs.Ytamajnhdibcpiaa.G
namespace Go.Proofs.Ytamajnhdibcpiaa.G
open Go.RowKit Go.Proofs.YtamajnhdibcpiaaW.PrintWords Go.Proofs.YtamajnhdibcpiaaW.PrintLast Go.Proofs.YtamajnhdibcpiaaW.PrintMore
attribute [local go_sem] max2_int min2_int max_two min_two max_three min_three max_four min_four
attribute [local go_sem ↓] Go.wp_at_zero Go.wp_at_succ
abbrev LI440 : Array Bool := #[false, false, false, false, false, false, false, false, false, false, false, false, false, false]
abbrev LI441 : Array Bool := #[true, false, false, false, false, false, false, false, false, false, false, false, false, false]
abbrev LI442 : Array Bool := #[true, true, false, false, false, false, false, false, false, false, false, false, false, false]
abbrev LI443 : Array Bool := #[true, true, true, false, false, false, false, false, false, false, false, false, false, false]
abbrev LI444 : Array Bool := #[true, true, true, true, false, false, false, false, false, false, false, false, false, false]
abbrev LI445 : Array Bool := #[true, true, true, true, true, false, false, false, false, false, false, false, false, false]
abbrev LI446 : Array Bool := #[true, true, true, true, true, true, false, false, false, false, false, false, false, false]
abbrev LI447 : Array Bool := #[true, true, true, true, true, true, true, false, false, false, false, false, false, false]
abbrev LI448 : Array Bool := #[true, true, true, true, true, true, true, true, false, false, false, false, false, false]
abbrev LI449 : Array Bool := #[true, true, true, true, true, true, true, true, true, false, false, false, false, false]
abbrev LI4410 : Array Bool := #[true, true, true, true, true, true, true, true, true, true, false, false, false, false]
abbrev LI4411 : Array Bool := #[true, true, true, true, true, true, true, true, true, true, true, false, false, false]
abbrev LI4412 : Array Bool := #[true, true, true, true, true, true, true, true, true, true, true, true, false, false]
abbrev LI4413 : Array Bool := #[true, true, true, true, true, true, true, true, true, true, true, true, true, false]
abbrev LI4414 : Array Bool := #[true, true, true, true, true, true, true, true, true, true, true, true, true, true]
def facts_Add.f (k : Nat) (l0 : List (S28)) (a1_0 : Int) (a1_1 : Int) (a1_2 : Int) (a1_3 : Int) (a1_4 : Int) (a1_5 : Int) (a1_6 : Int) (a1_7 : Int) : Option ((List (S28)) × Int) := (facts_Check.f l0).bind fun t120 => (if t120 = 0 then ((facts_fits.f a1_0 a1_1 a1_2 a1_3 a1_4 a1_5 a1_6 a1_7).bind fun t121 => (if t121 = true then (if (l0.length : Int) > 0 then (if 0 ≤ (wrap64 ((l0.length : Int) - 1)) then (if (wrap64 ((l0.length : Int) - 1)) < (l0.length : Int) then ((facts_compare.f k ((rd_T28 l0 (wrap64 ((l0.length : Int) - 1))).f0.f0) ((rd_T28 l0 (wrap64 ((l0.length : Int) - 1))).f0.f1) ((rd_T28 l0 (wrap64 ((l0.length : Int) - 1))).f0.f2) ((rd_T28 l0 (wrap64 ((l0.length : Int) - 1))).f1) ((rd_T28 l0 (wrap64 ((l0.length : Int) - 1))).f2.f0) ((rd_T28 l0 (wrap64 ((l0.length : Int) - 1))).f2.f1) ((rd_T28 l0 (wrap64 ((l0.length : Int) - 1))).f3) ((rd_T28 l0 (wrap64 ((l0.length : Int) - 1))).f4) a1_0 a1_1 a1_2 a1_3 a1_4 a1_5 a1_6 a1_7).bind fun t123 => (if t123 ≥ 0 then (some (([] : List (S28)), 71)) else ((api_Fact.f l0).bind fun t124 => ((some (([(⟨(⟨a1_0, a1_1, a1_2⟩ : S24), a1_3, (⟨a1_4, a1_5⟩ : S26), a1_6, a1_7⟩ : S28)] : List (S28)) : List (S28))).bind fun y127 => (if t124.length + y127.length < 2199023255552 then (some ((t124 ++ y127), 0)) else (none)))))) else (none)) else (none)) else ((api_Fact.f l0).bind fun t133 => ((some (([(⟨(⟨a1_0, a1_1, a1_2⟩ : S24), a1_3, (⟨a1_4, a1_5⟩ : S26), a1_6, a1_7⟩ : S28)] : List (S28)) : List (S28))).bind fun y136 => (if t133.length + y136.length < 2199023255552 then (some ((t133 ++ y136), 0)) else (none))))) else (some (([] : List (S28)), 70)))) else (some (([] : List (S28)), t120)))
theorem facts_Add.mono : ∀ a0 a1 a2 a3 a4 a5 a6 a7 a8 k, LeO (facts_Add.f k a0 a1 a2 a3 a4 a5 a6 a7 a8) (facts_Add.f (k + 1) a0 a1 a2 a3 a4 a5 a6 a7 a8) := by
 intro a0 a1 a2 a3 a4 a5 a6 a7 a8 k; unfold facts_Add.f
 repeat' first
  | (with_reducible exact facts_compare.mono _ _ _ _ _ _ _ _ _ _ _ _ _ _ _ _ _)
  | (with_reducible exact LeO.refl _)
  | (with_reducible exact LeO.none _)
  | (with_reducible refine LeO.ite ?_ ?_)
  | (with_reducible refine LeO.bind ?_ (fun _ => ?_))
  | exact facts_compare.mono _ _ _ _ _ _ _ _ _ _ _ _ _ _ _ _ _
  | exact LeO.none _
  | refine LeO.ite ?_ ?_
  | refine LeO.bind ?_ (fun _ => ?_)
def facts_Add.T6 : Bool × List (List Nat × List Nat) := (true, [([], []), ([0], [0]), ([1], [1]), ([2], [2]), ([3], [3]), ([3], [3]), ([5, 3], [3, 5]), ([6, 3], [3, 6]), ([4, 7, 3], [3, 4, 7]), ([8, 3], [3, 8]), ([3], [3]), ([9, 10, 3, 3], [3, 9, 10]), ([11, 3], [3, 11]), ([3, 12], [3, 12])])
def facts_Add.B6 : List Nat := [0, 1, 3, 7, 15, 15, 47, 111, 255, 511, 15, 2047, 4095, 8191]
theorem facts_Add.tab6 : rtab .any (opsOf Try.f13 6) = facts_Add.T6 := by kernel_rfl
theorem facts_Add.bits6 : waitsOk facts_Add.T6.2 facts_Add.B6 = true := by kernel_rfl
set_option maxHeartbeats 8000000 in
set_option maxRecDepth 100000 in
theorem facts_Add.calls (k : Nat) (A0 : Option Addr) (c0 : Nat) (l0 : List (S28)) (a1_0 : Int) (a1_1 : Int) (a1_2 : Int) (a1_3 : Int) (a1_4 : Int) (a1_5 : Int) (a1_6 : Int) (a1_7 : Int) (r1 : List (S28)) (r2 : Int) (w : World) (hr0 : Kd.C k28 w A0 l0.length l0) (hc0 : l0.length ≤ c0) (h : facts_Add.f k l0 a1_0 a1_1 a1_2 a1_3 a1_4 a1_5 a1_6 a1_7 = some (r1, r2)) :
    Calls Try.prog 13 #[.slice A0 l0.length c0, .agg #[.int .i64 a1_0, .int .i64 a1_1, .int .i64 a1_2, .int .i64 a1_3, .int .i64 a1_4, .int .i64 a1_5, .int .i64 a1_6, .int .i64 a1_7]] w fun e w' => ∃ v0_ : Value, e = .returned (.tuple #[v0_, .int .i64 r2]) ∧ Kd.R k28 28 w' w.heap.size (fun _ => True) v0_ r1 ∧ Below w.heap.size w w' := by
 have hu28 := Try.underlying28; have HR0 := Aside0.mk hr0; have HC0 := Aside0.mk hc0; clear hr0 hc0; have HB := Aside0.mk (Below.refl w.heap.size w); (have H : ((facts_Check.f l0).bind fun t120 => (if t120 = 0 then ((facts_fits.f a1_0 a1_1 a1_2 a1_3 a1_4 a1_5 a1_6 a1_7).bind fun t121 => (if t121 = true then (if (l0.length : Int) > 0 then (if 0 ≤ (wrap64 ((l0.length : Int) - 1)) then (if (wrap64 ((l0.length : Int) - 1)) < (l0.length : Int) then ((facts_compare.f k ((rd_T28 l0 (wrap64 ((l0.length : Int) - 1))).f0.f0) ((rd_T28 l0 (wrap64 ((l0.length : Int) - 1))).f0.f1) ((rd_T28 l0 (wrap64 ((l0.length : Int) - 1))).f0.f2) ((rd_T28 l0 (wrap64 ((l0.length : Int) - 1))).f1) ((rd_T28 l0 (wrap64 ((l0.length : Int) - 1))).f2.f0) ((rd_T28 l0 (wrap64 ((l0.length : Int) - 1))).f2.f1) ((rd_T28 l0 (wrap64 ((l0.length : Int) - 1))).f3) ((rd_T28 l0 (wrap64 ((l0.length : Int) - 1))).f4) a1_0 a1_1 a1_2 a1_3 a1_4 a1_5 a1_6 a1_7).bind fun t123 => (if t123 ≥ 0 then (some (([] : List (S28)), 71)) else ((api_Fact.f l0).bind fun t124 => ((some (([(⟨(⟨a1_0, a1_1, a1_2⟩ : S24), a1_3, (⟨a1_4, a1_5⟩ : S26), a1_6, a1_7⟩ : S28)] : List (S28)) : List (S28))).bind fun y127 => (if t124.length + y127.length < 2199023255552 then (some ((t124 ++ y127), 0)) else (none)))))) else (none)) else (none)) else ((api_Fact.f l0).bind fun t133 => ((some (([(⟨(⟨a1_0, a1_1, a1_2⟩ : S24), a1_3, (⟨a1_4, a1_5⟩ : S26), a1_6, a1_7⟩ : S28)] : List (S28)) : List (S28))).bind fun y136 => (if t133.length + y136.length < 2199023255552 then (some ((t133 ++ y136), 0)) else (none))))) else (some (([] : List (S28)), 70)))) else (some (([] : List (S28)), t120)))) = some (r1, r2) := h); clear h; replace H := Option.bind_eq_some_iff.mp H; obtain ⟨t120, A30, H⟩ := H; (replace H : (if t120 = 0 then ((facts_fits.f a1_0 a1_1 a1_2 a1_3 a1_4 a1_5 a1_6 a1_7).bind fun t121 => (if t121 = true then (if (l0.length : Int) > 0 then (if 0 ≤ (wrap64 ((l0.length : Int) - 1)) then (if (wrap64 ((l0.length : Int) - 1)) < (l0.length : Int) then ((facts_compare.f k ((rd_T28 l0 (wrap64 ((l0.length : Int) - 1))).f0.f0) ((rd_T28 l0 (wrap64 ((l0.length : Int) - 1))).f0.f1) ((rd_T28 l0 (wrap64 ((l0.length : Int) - 1))).f0.f2) ((rd_T28 l0 (wrap64 ((l0.length : Int) - 1))).f1) ((rd_T28 l0 (wrap64 ((l0.length : Int) - 1))).f2.f0) ((rd_T28 l0 (wrap64 ((l0.length : Int) - 1))).f2.f1) ((rd_T28 l0 (wrap64 ((l0.length : Int) - 1))).f3) ((rd_T28 l0 (wrap64 ((l0.length : Int) - 1))).f4) a1_0 a1_1 a1_2 a1_3 a1_4 a1_5 a1_6 a1_7).bind fun t123 => (if t123 ≥ 0 then (some (([] : List (S28)), 71)) else ((api_Fact.f l0).bind fun t124 => ((some (([(⟨(⟨a1_0, a1_1, a1_2⟩ : S24), a1_3, (⟨a1_4, a1_5⟩ : S26), a1_6, a1_7⟩ : S28)] : List (S28)) : List (S28))).bind fun y127 => (if t124.length + y127.length < 2199023255552 then (some ((t124 ++ y127), 0)) else (none)))))) else (none)) else (none)) else ((api_Fact.f l0).bind fun t133 => ((some (([(⟨(⟨a1_0, a1_1, a1_2⟩ : S24), a1_3, (⟨a1_4, a1_5⟩ : S26), a1_6, a1_7⟩ : S28)] : List (S28)) : List (S28))).bind fun y136 => (if t133.length + y136.length < 2199023255552 then (some ((t133 ++ y136), 0)) else (none))))) else (some (([] : List (S28)), 70)))) else (some (([] : List (S28)), t120))) = some (r1, r2) := H); have A3 := Aside0.mk A30; clear A30; (by_cases c4 : t120 = 0)
 ·rw [if_pos c4] at H; have c4b0 : (t120 == 0) = true := beq_iff_eq.mpr c4; have c4b1 : (t120 != 0) = false := bne_eq_false_iff_eq.mpr c4; clear c4; replace H := Option.bind_eq_some_iff.mp H; obtain ⟨t121, A50, H⟩ := H; (replace H : (if t121 = true then (if (l0.length : Int) > 0 then (if 0 ≤ (wrap64 ((l0.length : Int) - 1)) then (if (wrap64 ((l0.length : Int) - 1)) < (l0.length : Int) then ((facts_compare.f k ((rd_T28 l0 (wrap64 ((l0.length : Int) - 1))).f0.f0) ((rd_T28 l0 (wrap64 ((l0.length : Int) - 1))).f0.f1) ((rd_T28 l0 (wrap64 ((l0.length : Int) - 1))).f0.f2) ((rd_T28 l0 (wrap64 ((l0.length : Int) - 1))).f1) ((rd_T28 l0 (wrap64 ((l0.length : Int) - 1))).f2.f0) ((rd_T28 l0 (wrap64 ((l0.length : Int) - 1))).f2.f1) ((rd_T28 l0 (wrap64 ((l0.length : Int) - 1))).f3) ((rd_T28 l0 (wrap64 ((l0.length : Int) - 1))).f4) a1_0 a1_1 a1_2 a1_3 a1_4 a1_5 a1_6 a1_7).bind fun t123 => (if t123 ≥ 0 then (some (([] : List (S28)), 71)) else ((api_Fact.f l0).bind fun t124 => ((some (([(⟨(⟨a1_0, a1_1, a1_2⟩ : S24), a1_3, (⟨a1_4, a1_5⟩ : S26), a1_6, a1_7⟩ : S28)] : List (S28)) : List (S28))).bind fun y127 => (if t124.length + y127.length < 2199023255552 then (some ((t124 ++ y127), 0)) else (none)))))) else (none)) else (none)) else ((api_Fact.f l0).bind fun t133 => ((some (([(⟨(⟨a1_0, a1_1, a1_2⟩ : S24), a1_3, (⟨a1_4, a1_5⟩ : S26), a1_6, a1_7⟩ : S28)] : List (S28)) : List (S28))).bind fun y136 => (if t133.length + y136.length < 2199023255552 then (some ((t133 ++ y136), 0)) else (none))))) else (some (([] : List (S28)), 70))) = some (r1, r2) := H); have A5 := Aside0.mk A50; clear A50; (by_cases c6 : t121 = true)
  ·subst c6; (have H1 : (if (l0.length : Int) > 0 then (if 0 ≤ (wrap64 ((l0.length : Int) - 1)) then (if (wrap64 ((l0.length : Int) - 1)) < (l0.length : Int) then ((facts_compare.f k ((rd_T28 l0 (wrap64 ((l0.length : Int) - 1))).f0.f0) ((rd_T28 l0 (wrap64 ((l0.length : Int) - 1))).f0.f1) ((rd_T28 l0 (wrap64 ((l0.length : Int) - 1))).f0.f2) ((rd_T28 l0 (wrap64 ((l0.length : Int) - 1))).f1) ((rd_T28 l0 (wrap64 ((l0.length : Int) - 1))).f2.f0) ((rd_T28 l0 (wrap64 ((l0.length : Int) - 1))).f2.f1) ((rd_T28 l0 (wrap64 ((l0.length : Int) - 1))).f3) ((rd_T28 l0 (wrap64 ((l0.length : Int) - 1))).f4) a1_0 a1_1 a1_2 a1_3 a1_4 a1_5 a1_6 a1_7).bind fun t123 => (if t123 ≥ 0 then (some (([] : List (S28)), 71)) else ((api_Fact.f l0).bind fun t124 => ((some (([(⟨(⟨a1_0, a1_1, a1_2⟩ : S24), a1_3, (⟨a1_4, a1_5⟩ : S26), a1_6, a1_7⟩ : S28)] : List (S28)) : List (S28))).bind fun y127 => (if t124.length + y127.length < 2199023255552 then (some ((t124 ++ y127), 0)) else (none)))))) else (none)) else (none)) else ((api_Fact.f l0).bind fun t133 => ((some (([(⟨(⟨a1_0, a1_1, a1_2⟩ : S24), a1_3, (⟨a1_4, a1_5⟩ : S26), a1_6, a1_7⟩ : S28)] : List (S28)) : List (S28))).bind fun y136 => (if t133.length + y136.length < 2199023255552 then (some ((t133 ++ y136), 0)) else (none))))) = some (r1, r2) := by rw [if_pos rfl] at H; exact H); clear H; have H := H1; clear H1; (by_cases c7 : (l0.length : Int) > 0)
   ·rw [if_pos c7] at H; have c7b0 : decide (0 < (l0.length : Int)) = true := decide_eq_true c7; (have c7b1 : decide (0 < l0.length) = true := decide_eq_true (by omega)); clear c7; obtain ⟨ji8, hji8⟩ : ∃ j_ : Int, (wrap64 ((l0.length : Int) - 1)) = j_ := ⟨_, rfl⟩; (replace H : (if 0 ≤ (ji8) then (if (ji8) < (l0.length : Int) then ((facts_compare.f k ((rd_T28 l0 (ji8)).f0.f0) ((rd_T28 l0 (ji8)).f0.f1) ((rd_T28 l0 (ji8)).f0.f2) ((rd_T28 l0 (ji8)).f1) ((rd_T28 l0 (ji8)).f2.f0) ((rd_T28 l0 (ji8)).f2.f1) ((rd_T28 l0 (ji8)).f3) ((rd_T28 l0 (ji8)).f4) a1_0 a1_1 a1_2 a1_3 a1_4 a1_5 a1_6 a1_7).bind fun t123 => (if t123 ≥ 0 then (some (([] : List (S28)), 71)) else ((api_Fact.f l0).bind fun t124 => ((some (([(⟨(⟨a1_0, a1_1, a1_2⟩ : S24), a1_3, (⟨a1_4, a1_5⟩ : S26), a1_6, a1_7⟩ : S28)] : List (S28)) : List (S28))).bind fun y127 => (if t124.length + y127.length < 2199023255552 then (some ((t124 ++ y127), 0)) else (none)))))) else (none)) else (none)) = some (r1, r2) := by first | (rw [hji8] at H; exact H) | (simp only [hji8] at H ⊢; exact H)); ((try rw [hji8] at A3)); ((try rw [hji8] at A5)); have hji8w : (IntKind.i64.wrap ((l0.length : Int) - 1)) = ji8 := (i64_w _).trans hji8; (by_cases c9 : 0 ≤ (ji8))
    ·rw [if_pos c9] at H; have c9b0 : decide (0 ≤ (ji8)) = true := decide_eq_true c9; clear c9; (by_cases c10 : (ji8) < (l0.length : Int))
     ·rw [if_pos c10] at H; have c10b0 : decide ((ji8) < (l0.length : Int)) = true := decide_eq_true c10; clear c10; replace H := Option.bind_eq_some_iff.mp H; obtain ⟨t123, A110, H⟩ := H; (replace H : (if t123 ≥ 0 then (some (([] : List (S28)), 71)) else ((api_Fact.f l0).bind fun t124 => ((some (([(⟨(⟨a1_0, a1_1, a1_2⟩ : S24), a1_3, (⟨a1_4, a1_5⟩ : S26), a1_6, a1_7⟩ : S28)] : List (S28)) : List (S28))).bind fun y127 => (if t124.length + y127.length < 2199023255552 then (some ((t124 ++ y127), 0)) else (none))))) = some (r1, r2) := H); have A11 := Aside0.mk A110; clear A110; (by_cases c12 : t123 ≥ 0)
      ·rw [if_pos c12] at H; have c12b0 : decide (0 ≤ t123) = true := decide_eq_true c12; clear c12; simp only [Option.some.injEq, Prod.mk.injEq] at H; obtain ⟨rfl, rfl⟩ := H; (go_enter Try.func13, Try.ntmps13); (try go_wp2_with (first | ((with_reducible refine gate_dst (N := 3) rfl ?_); (try (refine gate_guard (by rfl) ?_; dsimp only)); refine box_event ?hg (N := 3) ?hd (cs := #[.int .i64 a1_0, .int .i64 a1_1, .int .i64 a1_2, .int .i64 a1_3, .int .i64 a1_4, .int .i64 a1_5, .int .i64 a1_6, .int .i64 a1_7]) (t := 28) ?hr ?_; (case hd => rfl); (case hg => rfl); (case hr => first | (go_simp; done) | (go_simp; rfl)); intro gb119 hg w13 hbox hb; have n0_ := Aside0.mk (below_step (by repeat (first | (with_reducible first | exact HB.out | apply below_alloc | apply pw_below_drewN | apply below_drew1) | exact HB.out)) hb); have n1_ := Aside0.mk (hbox); have n2_ := Aside0.mk ((by rw [hg]; exact (below_size (by repeat (first | (with_reducible first | exact HB.out | apply below_alloc | apply pw_below_drewN | apply below_drew1) | exact HB.out))) : w.heap.size ≤ gb119)); have n3_ := Aside0.mk ((by rw [hg]; exact (below_size (by repeat (first | (with_reducible first | exact HB.out | apply below_alloc | apply pw_below_drewN | apply below_drew1) | exact HB.out))) : w.heap.size ≤ gb119)); clear HB; have HB := n0_; have BK119 := n1_; have GW119 := n2_; have GE119 := n3_; clear n0_ n1_ n2_ n3_; clear hb hbox hg) | ((with_reducible refine gate_callee (f := 15) rfl ?_); refine goesL_ (some 7) rfl rfl Try.func15 (by kernel_rfl) rfl #[.slice A0 l0.length c0] rfl (by (try simp only [List.map_toArray, List.map_cons, List.map_nil]); first | done | rfl | (simp only [List.length_drop, List.length_take]; rfl)) ?_; (with_reducible refine (facts_Check.calls _ _ l0 t120 _ ?side1 ?side2 A3.out).mono ?_); (case side1 => repeat (first | exact (Kd.C_below HR0.out HB.out) | (with_reducible refine Kd.C_alloc ?_ _) | (with_reducible refine Kd.C_drewN ?_ _) | (with_reducible refine Kd.C_drew ?_))); (case side2 => exact HC0.out); rintro e w14 ⟨rfl, hb⟩; refine ⟨_, rfl, ?_⟩; have n0_ := Aside0.mk (blk_below (g := gb119) (o := .cells #[.int .i64 a1_0, .int .i64 a1_1, .int .i64 a1_2, .int .i64 a1_3, .int .i64 a1_4, .int .i64 a1_5, .int .i64 a1_6, .int .i64 a1_7] 28 (0, 0)) (by (with_reducible repeat (first | refine blk_drewN ?_ _ | refine blk_drew ?_ | refine blk_alloc ?_ _)); exact BK119.out) hb); have n1_ := Aside0.mk (below_step (by repeat (first | (with_reducible first | exact HB.out | apply below_alloc | apply pw_below_drewN | apply below_drew1 | refine below_set ?_ GE119.out) | exact HB.out)) hb); clear BK119; clear HB; have BK119 := n0_; have HB := n1_; clear n0_ n1_; (try clear hb); (try clear hb2); (try clear hk); (try clear hi); have hcz15_0 : w14.cell? ⟨gb119, 0, none⟩ = some (.int .i64 a1_0) := (blk_cell BK119.out 0).trans rfl; have hcz15_1 : w14.cell? ⟨gb119, 1, none⟩ = some (.int .i64 a1_1) := (blk_cell BK119.out 1).trans rfl; have hcz15_2 : w14.cell? ⟨gb119, 2, none⟩ = some (.int .i64 a1_2) := (blk_cell BK119.out 2).trans rfl; have hcz15_3 : w14.cell? ⟨gb119, 3, none⟩ = some (.int .i64 a1_3) := (blk_cell BK119.out 3).trans rfl; have hcz15_4 : w14.cell? ⟨gb119, 4, none⟩ = some (.int .i64 a1_4) := (blk_cell BK119.out 4).trans rfl; have hcz15_5 : w14.cell? ⟨gb119, 5, none⟩ = some (.int .i64 a1_5) := (blk_cell BK119.out 5).trans rfl; have hcz15_6 : w14.cell? ⟨gb119, 6, none⟩ = some (.int .i64 a1_6) := (blk_cell BK119.out 6).trans rfl; have hcz15_7 : w14.cell? ⟨gb119, 7, none⟩ = some (.int .i64 a1_7) := (blk_cell BK119.out 7).trans rfl; have hfz15_0 := blk_frozen BK119.out 0; have hfz15_1 := blk_frozen BK119.out 1; have hfz15_2 := blk_frozen BK119.out 2; have hfz15_3 := blk_frozen BK119.out 3; have hfz15_4 := blk_frozen BK119.out 4; have hfz15_5 := blk_frozen BK119.out 5; have hfz15_6 := blk_frozen BK119.out 6; have hfz15_7 := blk_frozen BK119.out 7) | ((with_reducible refine gate_callee (f := 32) rfl ?_); refine goesL_ (some 12) rfl rfl Try.func32 (by kernel_rfl) rfl #[.agg #[.int .i64 a1_0, .int .i64 a1_1, .int .i64 a1_2, .int .i64 a1_3, .int .i64 a1_4, .int .i64 a1_5, .int .i64 a1_6, .int .i64 a1_7]] rfl (by (try simp only [List.map_toArray, List.map_cons, List.map_nil]); first | done | rfl | (simp only [List.length_drop, List.length_take]; rfl)) ?_; (with_reducible refine (facts_fits.calls a1_0 a1_1 a1_2 a1_3 a1_4 a1_5 a1_6 a1_7 true _ A5.out).mono ?_); rintro e w16 ⟨rfl, hb⟩; refine ⟨_, rfl, ?_⟩; have n0_ := Aside0.mk (blk_below (g := gb119) (o := .cells #[.int .i64 a1_0, .int .i64 a1_1, .int .i64 a1_2, .int .i64 a1_3, .int .i64 a1_4, .int .i64 a1_5, .int .i64 a1_6, .int .i64 a1_7] 28 (0, 0)) (by (with_reducible repeat (first | refine blk_drewN ?_ _ | refine blk_drew ?_ | refine blk_alloc ?_ _)); exact BK119.out) hb); have n1_ := Aside0.mk (below_step (by repeat (first | (with_reducible first | exact HB.out | apply below_alloc | apply pw_below_drewN | apply below_drew1 | refine below_set ?_ GE119.out) | exact HB.out)) hb); clear BK119; clear HB; have BK119 := n0_; have HB := n1_; clear n0_ n1_; (try clear hb); (try clear hb2); (try clear hk); (try clear hi)))); have n0_ := Aside0.mk (blk_drew BK119.out); have n1_ := Aside0.mk (below_drew1 HB.out); clear BK119; clear HB; have BK119 := n0_; have HB := n1_; clear n0_ n1_; (have p122 : 0 ≤ ((ji8) : Int) := of_decide_eq_true (by assumption)); (have q122 : (ji8) < (l0.length : Int) := of_decide_eq_true (by assumption)); obtain ⟨ad122, e122, hx122_0, hx122_1, hx122_2, hx122_3, hx122_4, hx122_5, hx122_6, hx122_7⟩ := at_T28 HR0.out (ji8) p122 q122; have hw122_7 := hx122_7; have hw122_6 := hx122_6; have hw122_5 := hx122_5; have hw122_4 := hx122_4; have hw122_3 := hx122_3; have hw122_2 := hx122_2; have hw122_1 := hx122_1; have hw122_0 := hx122_0; cases e122; replace hx122_0 := (HB.out.cell (World.block_lt_of_cell? w _ hx122_0)).trans hx122_0; replace hx122_1 := (HB.out.cell (World.block_lt_of_cell? w _ hx122_1)).trans hx122_1
       replace hx122_2 := (HB.out.cell (World.block_lt_of_cell? w _ hx122_2)).trans hx122_2; replace hx122_3 := (HB.out.cell (World.block_lt_of_cell? w _ hx122_3)).trans hx122_3; replace hx122_4 := (HB.out.cell (World.block_lt_of_cell? w _ hx122_4)).trans hx122_4; replace hx122_5 := (HB.out.cell (World.block_lt_of_cell? w _ hx122_5)).trans hx122_5; replace hx122_6 := (HB.out.cell (World.block_lt_of_cell? w _ hx122_6)).trans hx122_6; replace hx122_7 := (HB.out.cell (World.block_lt_of_cell? w _ hx122_7)).trans hx122_7; replace p122 := eq_true p122; replace q122 := eq_true q122; (refine start_ (n := 14) (S := fun w' => w'.cell? ⟨gb119, 0, none⟩ = some (.int .i64 a1_0) ∧ w'.cell? ⟨gb119, 1, none⟩ = some (.int .i64 a1_1) ∧ w'.cell? ⟨gb119, 2, none⟩ = some (.int .i64 a1_2) ∧ w'.cell? ⟨gb119, 3, none⟩ = some (.int .i64 a1_3) ∧ w'.cell? ⟨gb119, 4, none⟩ = some (.int .i64 a1_4) ∧ w'.cell? ⟨gb119, 5, none⟩ = some (.int .i64 a1_5) ∧ w'.cell? ⟨gb119, 6, none⟩ = some (.int .i64 a1_6) ∧ w'.cell? ⟨gb119, 7, none⟩ = some (.int .i64 a1_7) ∧ w'.cell? (ad122.add (((ji8)).toNat * 8)) = some (.int .i64 ((rd_T28 l0 (ji8)).f0.f0)) ∧ w'.cell? ⟨(ad122.add (((ji8)).toNat * 8)).block, (ad122.add (((ji8)).toNat * 8)).off + 1, none⟩ = some (.int .i64 ((rd_T28 l0 (ji8)).f0.f1)) ∧ w'.cell? ⟨(ad122.add (((ji8)).toNat * 8)).block, (ad122.add (((ji8)).toNat * 8)).off + 2, none⟩ = some (.int .i64 ((rd_T28 l0 (ji8)).f0.f2)) ∧ w'.cell? ⟨(ad122.add (((ji8)).toNat * 8)).block, (ad122.add (((ji8)).toNat * 8)).off + 3, none⟩ = some (.int .i64 ((rd_T28 l0 (ji8)).f1)) ∧ w'.cell? ⟨(ad122.add (((ji8)).toNat * 8)).block, (ad122.add (((ji8)).toNat * 8)).off + 4, none⟩ = some (.int .i64 ((rd_T28 l0 (ji8)).f2.f0)) ∧ w'.cell? ⟨(ad122.add (((ji8)).toNat * 8)).block, (ad122.add (((ji8)).toNat * 8)).off + 5, none⟩ = some (.int .i64 ((rd_T28 l0 (ji8)).f2.f1)) ∧ w'.cell? ⟨(ad122.add (((ji8)).toNat * 8)).block, (ad122.add (((ji8)).toNat * 8)).off + 6, none⟩ = some (.int .i64 ((rd_T28 l0 (ji8)).f3)) ∧ w'.cell? ⟨(ad122.add (((ji8)).toNat * 8)).block, (ad122.add (((ji8)).toNat * 8)).off + 7, none⟩ = some (.int .i64 ((rd_T28 l0 (ji8)).f4))) (ds := []) LI440 (by kernel_rfl) rfl rfl ⟨(blk_cell BK119.out 0).trans rfl, (blk_cell BK119.out 1).trans rfl, (blk_cell BK119.out 2).trans rfl, (blk_cell BK119.out 3).trans rfl, (blk_cell BK119.out 4).trans rfl, (blk_cell BK119.out 5).trans rfl, (blk_cell BK119.out 6).trans rfl, (blk_cell BK119.out 7).trans rfl, ((HB.out.cell (World.block_lt_of_cell? w _ hw122_0)).trans hw122_0), ((HB.out.cell (World.block_lt_of_cell? w _ hw122_1)).trans hw122_1), ((HB.out.cell (World.block_lt_of_cell? w _ hw122_2)).trans hw122_2), ((HB.out.cell (World.block_lt_of_cell? w _ hw122_3)).trans hw122_3), ((HB.out.cell (World.block_lt_of_cell? w _ hw122_4)).trans hw122_4), ((HB.out.cell (World.block_lt_of_cell? w _ hw122_5)).trans hw122_5), ((HB.out.cell (World.block_lt_of_cell? w _ hw122_6)).trans hw122_6), ((HB.out.cell (World.block_lt_of_cell? w _ hw122_7)).trans hw122_7)⟩ (fun hHeld => ?_); refine with_tabW facts_Add.tab6 facts_Add.bits6 (fun HT_ HW_ => ?_)); generalize w16.drew = w17 at BK119 HB hx122_0 hx122_1 hx122_2 hx122_3 hx122_4 hx122_5 hx122_6 hx122_7 hHeld ⊢; (refine pure_ (i := 0) (N := some 14) (v := ?_) (a' := ?_) LI441 rfl rfl (any_of HT_.out (by kernel_rfl)) (fun _ _ _ h => h) (Or.inl ⟨by rfl, ?_⟩) ?_ ?_); rotate_left
       ·intro w'; go_simp; (with_reducible rfl)
       rotate_left
       ·go_simp; rfl
       (refine pure_ (i := 1) (N := some 15) (v := ?_) (a' := ?_) LI442 rfl rfl (any_of HT_.out (by kernel_rfl)) (fun _ _ _ h => h) (Or.inl ⟨by rfl, ?_⟩) ?_ ?_); rotate_left
       ·intro w'; go_simp; (with_reducible rfl)
       rotate_left
       ·go_simp; rfl
       (refine pure_ (i := 2) (N := some 16) (v := ?_) (a' := ?_) LI443 rfl rfl (any_of HT_.out (by kernel_rfl)) (fun _ _ _ h => h) (Or.inl ⟨by rfl, ?_⟩) ?_ ?_); rotate_left
       ·intro w'; go_simp; (with_reducible rfl)
       rotate_left
       ·go_simp; rfl
       (refine pure_ (i := 3) (N := some 17) (v := ?_) (a' := ?_) LI444 rfl rfl (any_of HT_.out (by kernel_rfl)) (fun _ _ _ h => h) (Or.inl ⟨by rfl, ?_⟩) ?_ ?_); rotate_left
       ·intro w'; go_simp; (with_reducible rfl)
       rotate_left
       ·go_simp; rfl
       (refine pure_ (i := 4) (N := some 18) (v := ?_) (a' := ?_) LI445 rfl rfl (any_of HT_.out (by kernel_rfl)) (fun _ _ _ h => h) (Or.inl ⟨by rfl, ?_⟩) ?_ ?_); rotate_left
       ·intro w'; go_simp; (with_reducible rfl)
       rotate_left
       ·go_simp; rfl
       (refine pure_ (i := 5) (N := some 19) (v := ?_) (a' := ?_) LI446 rfl rfl (any_of HT_.out (by kernel_rfl)) (fun _ _ _ h => h) (Or.inl ⟨by rfl, ?_⟩) ?_ ?_); rotate_left
       ·intro w'; go_simp; (with_reducible rfl)
       rotate_left
       ·go_simp; rfl
       (refine pure_ (i := 6) (N := some 20) (v := ?_) (a' := ?_) LI447 rfl rfl (any_of HT_.out (by kernel_rfl)) (fun _ _ _ h => h) (Or.inl ⟨by rfl, ?_⟩) ?_ ?_); rotate_left
       ·intro w'; go_simp; (with_reducible rfl)
       rotate_left
       ·go_simp; rfl
       (refine pure_ (i := 7) (N := some 21) (v := ?_) (a' := ?_) LI448 rfl rfl (any_of HT_.out (by kernel_rfl)) (fun _ _ _ h => h) (Or.inl ⟨by rfl, ?_⟩) ?_ ?_); rotate_left
       ·intro w'; go_simp; (with_reducible rfl)
       rotate_left
       ·go_simp; rfl
       (refine pure_ (i := 8) (N := some 22) (v := ?_) (a' := ?_) LI449 rfl rfl (any_of HT_.out (by kernel_rfl)) (fun _ _ _ h => h) (Or.inl ⟨by rfl, ?_⟩) ?_ ?_); rotate_left
       ·intro w'; go_simp; (with_reducible rfl)
       rotate_left
       ·go_simp; rfl
       (refine take_ (i := 9) (N := some 23) (v := ?_) (a' := ?_) LI4410 rfl rfl (take_ofW HT_.out HW_.out (by kernel_rfl)) (fun _ _ _ h => h) (Or.inl ⟨by rfl, ?_⟩) hHeld ?_ ?_); rotate_left
       ·rintro w' ⟨s0, s1, s2, s3, s4, s5, s6, s7, s8, s9, s10, s11, s12, s13, s14, s15⟩; go_simp; (with_reducible rfl)
       rotate_left
       ·go_simp; rfl
       (refine take_ (i := 10) (N := some 24) (v := ?_) (a' := ?_) LI4411 rfl rfl (take_ofW HT_.out HW_.out (by kernel_rfl)) (fun _ _ _ h => h) (Or.inl ⟨by rfl, ?_⟩) hHeld ?_ ?_); rotate_left
       ·rintro w' ⟨s0, s1, s2, s3, s4, s5, s6, s7, s8, s9, s10, s11, s12, s13, s14, s15⟩; go_simp; (with_reducible rfl)
       rotate_left
       ·go_simp; rfl
       (refine one_ (i := 11) (N := some 25) LI4412 rfl rfl (one_of HT_.out (by kernel_rfl)) (by decide) (fun K hK => ?_)); (refine goes_ Try.func33 (by kernel_rfl) rfl #[.agg #[.int .i64 ((rd_T28 l0 (ji8)).f0.f0), .int .i64 ((rd_T28 l0 (ji8)).f0.f1), .int .i64 ((rd_T28 l0 (ji8)).f0.f2), .int .i64 ((rd_T28 l0 (ji8)).f1), .int .i64 ((rd_T28 l0 (ji8)).f2.f0), .int .i64 ((rd_T28 l0 (ji8)).f2.f1), .int .i64 ((rd_T28 l0 (ji8)).f3), .int .i64 ((rd_T28 l0 (ji8)).f4)], .agg #[.int .i64 a1_0, .int .i64 a1_1, .int .i64 a1_2, .int .i64 a1_3, .int .i64 a1_4, .int .i64 a1_5, .int .i64 a1_6, .int .i64 a1_7]] (by rfl) rfl rfl (by (try simp only [List.map_toArray, List.map_cons, List.map_nil]); first | done | (simp only [hji8]; rfl) | rfl | (simp only [List.length_drop, List.length_take]; rfl)) ?_); (with_reducible refine (facts_compare.calls k ((rd_T28 l0 (ji8)).f0.f0) ((rd_T28 l0 (ji8)).f0.f1) ((rd_T28 l0 (ji8)).f0.f2) ((rd_T28 l0 (ji8)).f1) ((rd_T28 l0 (ji8)).f2.f0) ((rd_T28 l0 (ji8)).f2.f1) ((rd_T28 l0 (ji8)).f3) ((rd_T28 l0 (ji8)).f4) a1_0 a1_1 a1_2 a1_3 a1_4 a1_5 a1_6 a1_7 t123 _ A11.out).mono ?_); rintro e w18 ⟨rfl, hb⟩; refine ⟨_, rfl, ?_⟩; (have n0_ := Aside0.mk (blk_below (g := gb119) (o := .cells #[.int .i64 a1_0, .int .i64 a1_1, .int .i64 a1_2, .int .i64 a1_3, .int .i64 a1_4, .int .i64 a1_5, .int .i64 a1_6, .int .i64 a1_7] 28 (0, 0)) (by (with_reducible repeat (first | refine blk_drewN ?_ _ | refine blk_drew ?_ | refine blk_alloc ?_ _)); exact BK119.out) hb)); (have n1_ := Aside0.mk (below_step (by repeat (first | (with_reducible first | exact HB.out | apply below_alloc | apply pw_below_drewN | apply below_drew1 | refine below_set ?_ GE119.out) | exact HB.out)) hb)); clear BK119; clear HB; have BK119 := n0_; have HB := n1_; clear n0_ n1_; ((try clear hb)); ((try clear hb2)); ((try clear hk)); ((try clear hi)); (refine hK.out _ _ ⟨(blk_cell BK119.out 0).trans rfl, (blk_cell BK119.out 1).trans rfl, (blk_cell BK119.out 2).trans rfl, (blk_cell BK119.out 3).trans rfl, (blk_cell BK119.out 4).trans rfl, (blk_cell BK119.out 5).trans rfl, (blk_cell BK119.out 6).trans rfl, (blk_cell BK119.out 7).trans rfl, ((HB.out.cell (World.block_lt_of_cell? w _ hw122_0)).trans hw122_0), ((HB.out.cell (World.block_lt_of_cell? w _ hw122_1)).trans hw122_1), ((HB.out.cell (World.block_lt_of_cell? w _ hw122_2)).trans hw122_2), ((HB.out.cell (World.block_lt_of_cell? w _ hw122_3)).trans hw122_3), ((HB.out.cell (World.block_lt_of_cell? w _ hw122_4)).trans hw122_4), ((HB.out.cell (World.block_lt_of_cell? w _ hw122_5)).trans hw122_5), ((HB.out.cell (World.block_lt_of_cell? w _ hw122_6)).trans hw122_6), ((HB.out.cell (World.block_lt_of_cell? w _ hw122_7)).trans hw122_7)⟩ (fun hHeld => ?_)); clear hK K; refine norm_ (a' := ?_) ?_ ?_; rotate_left
       ·(show Act.put _ (some 25) _ = _); go_simp; rfl
       (refine pure_ (i := 12) (N := some 26) (v := ?_) (a' := ?_) LI4413 rfl rfl (any_of HT_.out (by kernel_rfl)) (fun _ _ _ h => h) (Or.inl ⟨by rfl, ?_⟩) ?_ ?_); rotate_left
       ·intro w'; go_simp; (with_reducible rfl)
       rotate_left
       ·go_simp; rfl
       (refine pure_ (i := 13) (N := some 27) (v := ?_) (a' := ?_) LI4414 rfl rfl (any_of HT_.out (by kernel_rfl)) (fun _ _ _ h => h) (Or.inl ⟨by rfl, ?_⟩) ?_ ?_); rotate_left
       ·intro w'; go_simp; (with_reducible rfl)
       rotate_left
       ·go_simp; rfl
       (refine done_ (done_of HT_.out (by kernel_rfl)) ?_); (try go_wp2); (go_ret2); (exact ⟨_, by first | rfl | (simp [errW_none, errW_some] <;> rfl) | (simp only [← hji8]; first | rfl | (simp [errW_none, errW_some] <;> rfl)) | (simp [*, errW_none, errW_some] <;> rfl), by first | exact Kd.R_nil _ _ _ _ _ | exact Kd.N_nil _ _ _ _ _ | exact Kd.V_nil _ _ _ _ _ | exact Kd.Q_nil _ _ _ _ _ | exact Kd.S_nil _ _ _ _ _, by repeat (first | (with_reducible first | exact HB.out | apply below_alloc | apply pw_below_drewN | apply below_drew1 | refine below_set ?_ GE119.out) | exact HB.out)⟩)
      ·rw [if_neg c12] at H; have c12b0 : decide (0 ≤ t123) = false := decide_eq_false c12; clear c12; replace H := Option.bind_eq_some_iff.mp H; obtain ⟨t124, A190, H⟩ := H; (replace H : ((some (([(⟨(⟨a1_0, a1_1, a1_2⟩ : S24), a1_3, (⟨a1_4, a1_5⟩ : S26), a1_6, a1_7⟩ : S28)] : List (S28)) : List (S28))).bind fun y127 => (if t124.length + y127.length < 2199023255552 then (some ((t124 ++ y127), 0)) else (none))) = some (r1, r2) := H); have A19 := Aside0.mk A190; clear A190; obtain ⟨y127, hy127⟩ : ∃ y_ : List (S28), y_ = (([(⟨(⟨a1_0, a1_1, a1_2⟩ : S24), a1_3, (⟨a1_4, a1_5⟩ : S26), a1_6, a1_7⟩ : S28)] : List (S28))) := ⟨_, rfl⟩; (replace H : (if t124.length + y127.length < 2199023255552 then (some ((t124 ++ y127), 0)) else (none)) = some (r1, r2) := by first | (rw [hy127]; with_reducible exact H) | (have H2_ := (Option.bind_some _ _).symm.trans H; rw [hy127]; with_reducible exact H2_) | (have H2_ := (Option.bind_some _ _).symm.trans H; with_reducible exact H2_) | with_reducible exact H | (rw [hy127]; exact H) | exact H); have Ny127 := Aside0.mk hy127; clear hy127; (by_cases c20 : t124.length + y127.length < 2199023255552)
       ·rw [if_pos c20] at H; have LMc20 := Aside0.mk c20; clear c20; obtain ⟨y130, hy130⟩ : ∃ y_ : List (S28), y_ = (t124 ++ y127) := ⟨_, rfl⟩; (replace H : (some (y130, 0)) = some (r1, r2) := by first | (rw [hy130]; with_reducible exact H) | (have H2_ := (Option.bind_some _ _).symm.trans H; rw [hy130]; with_reducible exact H2_) | (have H2_ := (Option.bind_some _ _).symm.trans H; with_reducible exact H2_) | with_reducible exact H | (rw [hy130]; exact H) | exact H); have Ny130 := Aside0.mk hy130; clear hy130; simp only [Option.some.injEq, Prod.mk.injEq] at H; obtain ⟨rfl, rfl⟩ := H; (go_enter Try.func13, Try.ntmps13); (try go_wp2_with (first | ((with_reducible refine gate_dst (N := 3) rfl ?_); (try (refine gate_guard (by rfl) ?_; dsimp only)); refine box_event ?hg (N := 3) ?hd (cs := #[.int .i64 a1_0, .int .i64 a1_1, .int .i64 a1_2, .int .i64 a1_3, .int .i64 a1_4, .int .i64 a1_5, .int .i64 a1_6, .int .i64 a1_7]) (t := 28) ?hr ?_; (case hd => rfl); (case hg => rfl); (case hr => first | (go_simp; done) | (go_simp; rfl)); intro gb119 hg w21 hbox hb; have n0_ := Aside0.mk (below_step (by repeat (first | (with_reducible first | exact HB.out | apply below_alloc | apply pw_below_drewN | apply below_drew1) | exact HB.out)) hb); have n1_ := Aside0.mk (hbox); have n2_ := Aside0.mk ((by rw [hg]; exact (below_size (by repeat (first | (with_reducible first | exact HB.out | apply below_alloc | apply pw_below_drewN | apply below_drew1) | exact HB.out))) : w.heap.size ≤ gb119)); have n3_ := Aside0.mk ((by rw [hg]; exact (below_size (by repeat (first | (with_reducible first | exact HB.out | apply below_alloc | apply pw_below_drewN | apply below_drew1) | exact HB.out))) : w.heap.size ≤ gb119)); clear HB; have HB := n0_; have BK119 := n1_; have GW119 := n2_; have GE119 := n3_; clear n0_ n1_ n2_ n3_; clear hb hbox hg) | ((with_reducible refine gate_callee (f := 15) rfl ?_); refine goesL_ (some 7) rfl rfl Try.func15 (by kernel_rfl) rfl #[.slice A0 l0.length c0] rfl (by (try simp only [List.map_toArray, List.map_cons, List.map_nil]); first | done | rfl | (simp only [List.length_drop, List.length_take]; rfl)) ?_; (with_reducible refine (facts_Check.calls _ _ l0 t120 _ ?side1 ?side2 A3.out).mono ?_); (case side1 => repeat (first | exact (Kd.C_below HR0.out HB.out) | (with_reducible refine Kd.C_alloc ?_ _) | (with_reducible refine Kd.C_drewN ?_ _) | (with_reducible refine Kd.C_drew ?_))); (case side2 => exact HC0.out); rintro e w22 ⟨rfl, hb⟩; refine ⟨_, rfl, ?_⟩; have n0_ := Aside0.mk (blk_below (g := gb119) (o := .cells #[.int .i64 a1_0, .int .i64 a1_1, .int .i64 a1_2, .int .i64 a1_3, .int .i64 a1_4, .int .i64 a1_5, .int .i64 a1_6, .int .i64 a1_7] 28 (0, 0)) (by (with_reducible repeat (first | refine blk_drewN ?_ _ | refine blk_drew ?_ | refine blk_alloc ?_ _)); exact BK119.out) hb); have n1_ := Aside0.mk (below_step (by repeat (first | (with_reducible first | exact HB.out | apply below_alloc | apply pw_below_drewN | apply below_drew1 | refine below_set ?_ GE119.out) | exact HB.out)) hb); clear BK119; clear HB; have BK119 := n0_; have HB := n1_; clear n0_ n1_; (try clear hb); (try clear hb2); (try clear hk); (try clear hi); have hcz23_0 : w22.cell? ⟨gb119, 0, none⟩ = some (.int .i64 a1_0) := (blk_cell BK119.out 0).trans rfl; have hcz23_1 : w22.cell? ⟨gb119, 1, none⟩ = some (.int .i64 a1_1) := (blk_cell BK119.out 1).trans rfl; have hcz23_2 : w22.cell? ⟨gb119, 2, none⟩ = some (.int .i64 a1_2) := (blk_cell BK119.out 2).trans rfl; have hcz23_3 : w22.cell? ⟨gb119, 3, none⟩ = some (.int .i64 a1_3) := (blk_cell BK119.out 3).trans rfl; have hcz23_4 : w22.cell? ⟨gb119, 4, none⟩ = some (.int .i64 a1_4) := (blk_cell BK119.out 4).trans rfl; have hcz23_5 : w22.cell? ⟨gb119, 5, none⟩ = some (.int .i64 a1_5) := (blk_cell BK119.out 5).trans rfl; have hcz23_6 : w22.cell? ⟨gb119, 6, none⟩ = some (.int .i64 a1_6) := (blk_cell BK119.out 6).trans rfl; have hcz23_7 : w22.cell? ⟨gb119, 7, none⟩ = some (.int .i64 a1_7) := (blk_cell BK119.out 7).trans rfl; have hfz23_0 := blk_frozen BK119.out 0; have hfz23_1 := blk_frozen BK119.out 1; have hfz23_2 := blk_frozen BK119.out 2; have hfz23_3 := blk_frozen BK119.out 3; have hfz23_4 := blk_frozen BK119.out 4; have hfz23_5 := blk_frozen BK119.out 5; have hfz23_6 := blk_frozen BK119.out 6; have hfz23_7 := blk_frozen BK119.out 7) | ((with_reducible refine gate_callee (f := 32) rfl ?_); refine goesL_ (some 12) rfl rfl Try.func32 (by kernel_rfl) rfl #[.agg #[.int .i64 a1_0, .int .i64 a1_1, .int .i64 a1_2, .int .i64 a1_3, .int .i64 a1_4, .int .i64 a1_5, .int .i64 a1_6, .int .i64 a1_7]] rfl (by (try simp only [List.map_toArray, List.map_cons, List.map_nil]); first | done | rfl | (simp only [List.length_drop, List.length_take]; rfl)) ?_; (with_reducible refine (facts_fits.calls a1_0 a1_1 a1_2 a1_3 a1_4 a1_5 a1_6 a1_7 true _ A5.out).mono ?_); rintro e w24 ⟨rfl, hb⟩; refine ⟨_, rfl, ?_⟩; have n0_ := Aside0.mk (blk_below (g := gb119) (o := .cells #[.int .i64 a1_0, .int .i64 a1_1, .int .i64 a1_2, .int .i64 a1_3, .int .i64 a1_4, .int .i64 a1_5, .int .i64 a1_6, .int .i64 a1_7] 28 (0, 0)) (by (with_reducible repeat (first | refine blk_drewN ?_ _ | refine blk_drew ?_ | refine blk_alloc ?_ _)); exact BK119.out) hb); have n1_ := Aside0.mk (below_step (by repeat (first | (with_reducible first | exact HB.out | apply below_alloc | apply pw_below_drewN | apply below_drew1 | refine below_set ?_ GE119.out) | exact HB.out)) hb); clear BK119; clear HB; have BK119 := n0_; have HB := n1_; clear n0_ n1_; (try clear hb); (try clear hb2); (try clear hk); (try clear hi)))); have n0_ := Aside0.mk (blk_drew BK119.out); have n1_ := Aside0.mk (below_drew1 HB.out); clear BK119; clear HB; have BK119 := n0_; have HB := n1_; clear n0_ n1_; (have p122 : 0 ≤ ((ji8) : Int) := of_decide_eq_true (by assumption)); (have q122 : (ji8) < (l0.length : Int) := of_decide_eq_true (by assumption)); obtain ⟨ad122, e122, hx122_0, hx122_1, hx122_2, hx122_3, hx122_4, hx122_5, hx122_6, hx122_7⟩ := at_T28 HR0.out (ji8) p122 q122; have hw122_7 := hx122_7
        have hw122_6 := hx122_6; have hw122_5 := hx122_5; have hw122_4 := hx122_4; have hw122_3 := hx122_3; have hw122_2 := hx122_2; have hw122_1 := hx122_1; have hw122_0 := hx122_0; cases e122; replace hx122_0 := (HB.out.cell (World.block_lt_of_cell? w _ hx122_0)).trans hx122_0; replace hx122_1 := (HB.out.cell (World.block_lt_of_cell? w _ hx122_1)).trans hx122_1; replace hx122_2 := (HB.out.cell (World.block_lt_of_cell? w _ hx122_2)).trans hx122_2; replace hx122_3 := (HB.out.cell (World.block_lt_of_cell? w _ hx122_3)).trans hx122_3; replace hx122_4 := (HB.out.cell (World.block_lt_of_cell? w _ hx122_4)).trans hx122_4; replace hx122_5 := (HB.out.cell (World.block_lt_of_cell? w _ hx122_5)).trans hx122_5; replace hx122_6 := (HB.out.cell (World.block_lt_of_cell? w _ hx122_6)).trans hx122_6; replace hx122_7 := (HB.out.cell (World.block_lt_of_cell? w _ hx122_7)).trans hx122_7; replace p122 := eq_true p122; replace q122 := eq_true q122; (refine start_ (n := 14) (S := fun w' => w'.cell? ⟨gb119, 0, none⟩ = some (.int .i64 a1_0) ∧ w'.cell? ⟨gb119, 1, none⟩ = some (.int .i64 a1_1) ∧ w'.cell? ⟨gb119, 2, none⟩ = some (.int .i64 a1_2) ∧ w'.cell? ⟨gb119, 3, none⟩ = some (.int .i64 a1_3) ∧ w'.cell? ⟨gb119, 4, none⟩ = some (.int .i64 a1_4) ∧ w'.cell? ⟨gb119, 5, none⟩ = some (.int .i64 a1_5) ∧ w'.cell? ⟨gb119, 6, none⟩ = some (.int .i64 a1_6) ∧ w'.cell? ⟨gb119, 7, none⟩ = some (.int .i64 a1_7) ∧ w'.cell? (ad122.add (((ji8)).toNat * 8)) = some (.int .i64 ((rd_T28 l0 (ji8)).f0.f0)) ∧ w'.cell? ⟨(ad122.add (((ji8)).toNat * 8)).block, (ad122.add (((ji8)).toNat * 8)).off + 1, none⟩ = some (.int .i64 ((rd_T28 l0 (ji8)).f0.f1)) ∧ w'.cell? ⟨(ad122.add (((ji8)).toNat * 8)).block, (ad122.add (((ji8)).toNat * 8)).off + 2, none⟩ = some (.int .i64 ((rd_T28 l0 (ji8)).f0.f2)) ∧ w'.cell? ⟨(ad122.add (((ji8)).toNat * 8)).block, (ad122.add (((ji8)).toNat * 8)).off + 3, none⟩ = some (.int .i64 ((rd_T28 l0 (ji8)).f1)) ∧ w'.cell? ⟨(ad122.add (((ji8)).toNat * 8)).block, (ad122.add (((ji8)).toNat * 8)).off + 4, none⟩ = some (.int .i64 ((rd_T28 l0 (ji8)).f2.f0)) ∧ w'.cell? ⟨(ad122.add (((ji8)).toNat * 8)).block, (ad122.add (((ji8)).toNat * 8)).off + 5, none⟩ = some (.int .i64 ((rd_T28 l0 (ji8)).f2.f1)) ∧ w'.cell? ⟨(ad122.add (((ji8)).toNat * 8)).block, (ad122.add (((ji8)).toNat * 8)).off + 6, none⟩ = some (.int .i64 ((rd_T28 l0 (ji8)).f3)) ∧ w'.cell? ⟨(ad122.add (((ji8)).toNat * 8)).block, (ad122.add (((ji8)).toNat * 8)).off + 7, none⟩ = some (.int .i64 ((rd_T28 l0 (ji8)).f4))) (ds := []) LI440 (by kernel_rfl) rfl rfl ⟨(blk_cell BK119.out 0).trans rfl, (blk_cell BK119.out 1).trans rfl, (blk_cell BK119.out 2).trans rfl, (blk_cell BK119.out 3).trans rfl, (blk_cell BK119.out 4).trans rfl, (blk_cell BK119.out 5).trans rfl, (blk_cell BK119.out 6).trans rfl, (blk_cell BK119.out 7).trans rfl, ((HB.out.cell (World.block_lt_of_cell? w _ hw122_0)).trans hw122_0), ((HB.out.cell (World.block_lt_of_cell? w _ hw122_1)).trans hw122_1), ((HB.out.cell (World.block_lt_of_cell? w _ hw122_2)).trans hw122_2), ((HB.out.cell (World.block_lt_of_cell? w _ hw122_3)).trans hw122_3), ((HB.out.cell (World.block_lt_of_cell? w _ hw122_4)).trans hw122_4), ((HB.out.cell (World.block_lt_of_cell? w _ hw122_5)).trans hw122_5), ((HB.out.cell (World.block_lt_of_cell? w _ hw122_6)).trans hw122_6), ((HB.out.cell (World.block_lt_of_cell? w _ hw122_7)).trans hw122_7)⟩ (fun hHeld => ?_); refine with_tabW facts_Add.tab6 facts_Add.bits6 (fun HT_ HW_ => ?_)); generalize w24.drew = w25 at BK119 HB hx122_0 hx122_1 hx122_2 hx122_3 hx122_4 hx122_5 hx122_6 hx122_7 hHeld ⊢; (refine pure_ (i := 0) (N := some 14) (v := ?_) (a' := ?_) LI441 rfl rfl (any_of HT_.out (by kernel_rfl)) (fun _ _ _ h => h) (Or.inl ⟨by rfl, ?_⟩) ?_ ?_); rotate_left
        ·intro w'; go_simp; (with_reducible rfl)
        rotate_left
        ·go_simp; rfl
        (refine pure_ (i := 1) (N := some 15) (v := ?_) (a' := ?_) LI442 rfl rfl (any_of HT_.out (by kernel_rfl)) (fun _ _ _ h => h) (Or.inl ⟨by rfl, ?_⟩) ?_ ?_); rotate_left
        ·intro w'; go_simp; (with_reducible rfl)
        rotate_left
        ·go_simp; rfl
        (refine pure_ (i := 2) (N := some 16) (v := ?_) (a' := ?_) LI443 rfl rfl (any_of HT_.out (by kernel_rfl)) (fun _ _ _ h => h) (Or.inl ⟨by rfl, ?_⟩) ?_ ?_); rotate_left
        ·intro w'; go_simp; (with_reducible rfl)
        rotate_left
        ·go_simp; rfl
        (refine pure_ (i := 3) (N := some 17) (v := ?_) (a' := ?_) LI444 rfl rfl (any_of HT_.out (by kernel_rfl)) (fun _ _ _ h => h) (Or.inl ⟨by rfl, ?_⟩) ?_ ?_); rotate_left
        ·intro w'; go_simp; (with_reducible rfl)
        rotate_left
        ·go_simp; rfl
        (refine pure_ (i := 4) (N := some 18) (v := ?_) (a' := ?_) LI445 rfl rfl (any_of HT_.out (by kernel_rfl)) (fun _ _ _ h => h) (Or.inl ⟨by rfl, ?_⟩) ?_ ?_); rotate_left
        ·intro w'; go_simp; (with_reducible rfl)
        rotate_left
        ·go_simp; rfl
        (refine pure_ (i := 5) (N := some 19) (v := ?_) (a' := ?_) LI446 rfl rfl (any_of HT_.out (by kernel_rfl)) (fun _ _ _ h => h) (Or.inl ⟨by rfl, ?_⟩) ?_ ?_); rotate_left
        ·intro w'; go_simp; (with_reducible rfl)
        rotate_left
        ·go_simp; rfl
        (refine pure_ (i := 6) (N := some 20) (v := ?_) (a' := ?_) LI447 rfl rfl (any_of HT_.out (by kernel_rfl)) (fun _ _ _ h => h) (Or.inl ⟨by rfl, ?_⟩) ?_ ?_); rotate_left
        ·intro w'; go_simp; (with_reducible rfl)
        rotate_left
        ·go_simp; rfl
        (refine pure_ (i := 7) (N := some 21) (v := ?_) (a' := ?_) LI448 rfl rfl (any_of HT_.out (by kernel_rfl)) (fun _ _ _ h => h) (Or.inl ⟨by rfl, ?_⟩) ?_ ?_); rotate_left
        ·intro w'; go_simp; (with_reducible rfl)
        rotate_left
        ·go_simp; rfl
        (refine pure_ (i := 8) (N := some 22) (v := ?_) (a' := ?_) LI449 rfl rfl (any_of HT_.out (by kernel_rfl)) (fun _ _ _ h => h) (Or.inl ⟨by rfl, ?_⟩) ?_ ?_); rotate_left
        ·intro w'; go_simp; (with_reducible rfl)
        rotate_left
        ·go_simp; rfl
        (refine take_ (i := 9) (N := some 23) (v := ?_) (a' := ?_) LI4410 rfl rfl (take_ofW HT_.out HW_.out (by kernel_rfl)) (fun _ _ _ h => h) (Or.inl ⟨by rfl, ?_⟩) hHeld ?_ ?_); rotate_left
        ·rintro w' ⟨s0, s1, s2, s3, s4, s5, s6, s7, s8, s9, s10, s11, s12, s13, s14, s15⟩; go_simp; (with_reducible rfl)
        rotate_left
        ·go_simp; rfl
        (refine take_ (i := 10) (N := some 24) (v := ?_) (a' := ?_) LI4411 rfl rfl (take_ofW HT_.out HW_.out (by kernel_rfl)) (fun _ _ _ h => h) (Or.inl ⟨by rfl, ?_⟩) hHeld ?_ ?_); rotate_left
        ·rintro w' ⟨s0, s1, s2, s3, s4, s5, s6, s7, s8, s9, s10, s11, s12, s13, s14, s15⟩; go_simp; (with_reducible rfl)
        rotate_left
        ·go_simp; rfl
        (refine one_ (i := 11) (N := some 25) LI4412 rfl rfl (one_of HT_.out (by kernel_rfl)) (by decide) (fun K hK => ?_)); (refine goes_ Try.func33 (by kernel_rfl) rfl #[.agg #[.int .i64 ((rd_T28 l0 (ji8)).f0.f0), .int .i64 ((rd_T28 l0 (ji8)).f0.f1), .int .i64 ((rd_T28 l0 (ji8)).f0.f2), .int .i64 ((rd_T28 l0 (ji8)).f1), .int .i64 ((rd_T28 l0 (ji8)).f2.f0), .int .i64 ((rd_T28 l0 (ji8)).f2.f1), .int .i64 ((rd_T28 l0 (ji8)).f3), .int .i64 ((rd_T28 l0 (ji8)).f4)], .agg #[.int .i64 a1_0, .int .i64 a1_1, .int .i64 a1_2, .int .i64 a1_3, .int .i64 a1_4, .int .i64 a1_5, .int .i64 a1_6, .int .i64 a1_7]] (by rfl) rfl rfl (by (try simp only [List.map_toArray, List.map_cons, List.map_nil]); first | done | (simp only [hji8]; rfl) | rfl | (simp only [List.length_drop, List.length_take]; rfl)) ?_); (with_reducible refine (facts_compare.calls k ((rd_T28 l0 (ji8)).f0.f0) ((rd_T28 l0 (ji8)).f0.f1) ((rd_T28 l0 (ji8)).f0.f2) ((rd_T28 l0 (ji8)).f1) ((rd_T28 l0 (ji8)).f2.f0) ((rd_T28 l0 (ji8)).f2.f1) ((rd_T28 l0 (ji8)).f3) ((rd_T28 l0 (ji8)).f4) a1_0 a1_1 a1_2 a1_3 a1_4 a1_5 a1_6 a1_7 t123 _ A11.out).mono ?_); rintro e w26 ⟨rfl, hb⟩; refine ⟨_, rfl, ?_⟩; (have n0_ := Aside0.mk (blk_below (g := gb119) (o := .cells #[.int .i64 a1_0, .int .i64 a1_1, .int .i64 a1_2, .int .i64 a1_3, .int .i64 a1_4, .int .i64 a1_5, .int .i64 a1_6, .int .i64 a1_7] 28 (0, 0)) (by (with_reducible repeat (first | refine blk_drewN ?_ _ | refine blk_drew ?_ | refine blk_alloc ?_ _)); exact BK119.out) hb)); (have n1_ := Aside0.mk (below_step (by repeat (first | (with_reducible first | exact HB.out | apply below_alloc | apply pw_below_drewN | apply below_drew1 | refine below_set ?_ GE119.out) | exact HB.out)) hb)); clear BK119; clear HB; have BK119 := n0_; have HB := n1_; clear n0_ n1_; ((try clear hb)); ((try clear hb2)); ((try clear hk)); ((try clear hi)); (refine hK.out _ _ ⟨(blk_cell BK119.out 0).trans rfl, (blk_cell BK119.out 1).trans rfl, (blk_cell BK119.out 2).trans rfl, (blk_cell BK119.out 3).trans rfl, (blk_cell BK119.out 4).trans rfl, (blk_cell BK119.out 5).trans rfl, (blk_cell BK119.out 6).trans rfl, (blk_cell BK119.out 7).trans rfl, ((HB.out.cell (World.block_lt_of_cell? w _ hw122_0)).trans hw122_0), ((HB.out.cell (World.block_lt_of_cell? w _ hw122_1)).trans hw122_1), ((HB.out.cell (World.block_lt_of_cell? w _ hw122_2)).trans hw122_2), ((HB.out.cell (World.block_lt_of_cell? w _ hw122_3)).trans hw122_3), ((HB.out.cell (World.block_lt_of_cell? w _ hw122_4)).trans hw122_4), ((HB.out.cell (World.block_lt_of_cell? w _ hw122_5)).trans hw122_5), ((HB.out.cell (World.block_lt_of_cell? w _ hw122_6)).trans hw122_6), ((HB.out.cell (World.block_lt_of_cell? w _ hw122_7)).trans hw122_7)⟩ (fun hHeld => ?_)); clear hK K; refine norm_ (a' := ?_) ?_ ?_; rotate_left
        ·(show Act.put _ (some 25) _ = _); go_simp; rfl
        (refine pure_ (i := 12) (N := some 26) (v := ?_) (a' := ?_) LI4413 rfl rfl (any_of HT_.out (by kernel_rfl)) (fun _ _ _ h => h) (Or.inl ⟨by rfl, ?_⟩) ?_ ?_); rotate_left
        ·intro w'; go_simp; (with_reducible rfl)
        rotate_left
        ·go_simp; rfl
        (refine pure_ (i := 13) (N := some 27) (v := ?_) (a' := ?_) LI4414 rfl rfl (any_of HT_.out (by kernel_rfl)) (fun _ _ _ h => h) (Or.inl ⟨by rfl, ?_⟩) ?_ ?_); rotate_left
        ·intro w'; go_simp; (with_reducible rfl)
        rotate_left
        ·go_simp; rfl
        (refine done_ (done_of HT_.out (by kernel_rfl)) ?_); (try go_wp2); have heq : t124 = l0 := (Option.some.inj A19.out).symm; have z0 : w26.cell? ⟨gb119, 0, none⟩ = some (.int .i64 a1_0) := (blk_cell BK119.out 0).trans rfl; have z1 : w26.cell? ⟨gb119, 1, none⟩ = some (.int .i64 a1_1) := (blk_cell BK119.out 1).trans rfl; have z2 : w26.cell? ⟨gb119, 2, none⟩ = some (.int .i64 a1_2) := (blk_cell BK119.out 2).trans rfl; have z3 : w26.cell? ⟨gb119, 3, none⟩ = some (.int .i64 a1_3) := (blk_cell BK119.out 3).trans rfl; have z4 : w26.cell? ⟨gb119, 4, none⟩ = some (.int .i64 a1_4) := (blk_cell BK119.out 4).trans rfl; have z5 : w26.cell? ⟨gb119, 5, none⟩ = some (.int .i64 a1_5) := (blk_cell BK119.out 5).trans rfl; have z6 : w26.cell? ⟨gb119, 6, none⟩ = some (.int .i64 a1_6) := (blk_cell BK119.out 6).trans rfl; have z7 : w26.cell? ⟨gb119, 7, none⟩ = some (.int .i64 a1_7) := (blk_cell BK119.out 7).trans rfl; have hBB : Below w.heap.size w w26 := HB.out; have hCC : Kd.C k28 w26 (some ad122) l0.length l0 := Kd.C_below HR0.out hBB; (have hLL : l0.length + 1 ≤ 2199023255552 := by have h1 := LMc20.out; have h2 := Ny127.out; rw [heq, h2] at h1; simp at h1; omega); (have hRR := Aside0.mk (show ∀ (W1 W2 : World) (v : Value), Kd.R k28 28 W2 W1.heap.size (fun _ => True) v (l0 ++ [⟨⟨a1_0, a1_1, a1_2⟩, a1_3, ⟨a1_4, a1_5⟩, a1_6, a1_7⟩]) → w.heap.size ≤ W1.heap.size → Kd.R k28 28 W2 w.heap.size (fun _ => True) v y130 from fun W1 W2 v h hs => by rw [Ny130.out, heq, Ny127.out]; exact Kd.R_lower h hs)); have hBs := hBB.size; clear HB BK119; (go_region_held3 (fun w' => w'.cell? ⟨gb119, 0, none⟩ = some (.int .i64 a1_0) ∧ w'.cell? ⟨gb119, 1, none⟩ = some (.int .i64 a1_1) ∧ w'.cell? ⟨gb119, 2, none⟩ = some (.int .i64 a1_2) ∧ w'.cell? ⟨gb119, 3, none⟩ = some (.int .i64 a1_3) ∧ w'.cell? ⟨gb119, 4, none⟩ = some (.int .i64 a1_4) ∧ w'.cell? ⟨gb119, 5, none⟩ = some (.int .i64 a1_5) ∧ w'.cell? ⟨gb119, 6, none⟩ = some (.int .i64 a1_6) ∧ w'.cell? ⟨gb119, 7, none⟩ = some (.int .i64 a1_7) ∧ Kd.C k28 w' (some ad122) l0.length l0 ∧ Below w.heap.size w w') ((go_split_ands; refine ⟨?_, ?_, ?_, ?_, ?_, ?_, ?_, ?_, ?_, ?_⟩ <;> first | assumption | (exact Below.keepc (by assumption) (by assumption)) | (exact Kd.C_below (by assumption) (by assumption)) | (exact Kd.C_alloc (by assumption) _) | (exact Kd.C_drew (by assumption)) | (go_keep; done) | (exact Below.alloc (by assumption) (‹Below w.heap.size w _›).size _) | (exact below_drew1 (by assumption)) | (exact (‹Below w.heap.size w _›).trans (Below.mono (by assumption) (‹Below w.heap.size w _›).size)))) (first | ((go_at_call 34; refine (clip_calls (some ad122) _ _ (by first | exact HC0.out | simp) _).mono ?_; rintro e w5 ⟨A1, rfl, rfl, hA1⟩)) | ((refine clip_step (by rfl) 29 31 (by rfl) (some ad122) A1 l0 ⟨⟨a1_0, a1_1, a1_2⟩, a1_3, ⟨a1_4, a1_5⟩, a1_6, a1_7⟩ _ (by rfl) hA1 (by first | assumption | (go_split_ands; assumption)) (by rfl) (by first | exact World.alloc_heap_new _ _ | simp) hLL ?_; intro v' w6 ho6 hb6)) | fail)); (all_goals go_wp2); (all_goals go_ret2); (all_goals go_split_ands); (all_goals exact ⟨_, by first | rfl | (simp [errW_none, errW_some] <;> rfl) | (simp [*, errW_none, errW_some] <;> rfl), hRR.out _ _ _ ho6 (by simp; omega), by assumption⟩)
       ·rw [if_neg c20] at H; (exact absurd H (by simp))
     ·rw [if_neg c10] at H; (exact absurd H (by simp))
    ·rw [if_neg c9] at H; (exact absurd H (by simp))
   ·rw [if_neg c7] at H; have c7b0 : decide (0 < (l0.length : Int)) = false := decide_eq_false c7; (have c7b1 : decide (0 < l0.length) = false := decide_eq_false (by omega)); clear c7; replace H := Option.bind_eq_some_iff.mp H; obtain ⟨t133, A340, H⟩ := H; (replace H : ((some (([(⟨(⟨a1_0, a1_1, a1_2⟩ : S24), a1_3, (⟨a1_4, a1_5⟩ : S26), a1_6, a1_7⟩ : S28)] : List (S28)) : List (S28))).bind fun y136 => (if t133.length + y136.length < 2199023255552 then (some ((t133 ++ y136), 0)) else (none))) = some (r1, r2) := H); have A34 := Aside0.mk A340; clear A340; obtain ⟨y136, hy136⟩ : ∃ y_ : List (S28), y_ = (([(⟨(⟨a1_0, a1_1, a1_2⟩ : S24), a1_3, (⟨a1_4, a1_5⟩ : S26), a1_6, a1_7⟩ : S28)] : List (S28))) := ⟨_, rfl⟩; (replace H : (if t133.length + y136.length < 2199023255552 then (some ((t133 ++ y136), 0)) else (none)) = some (r1, r2) := by first | (rw [hy136]; with_reducible exact H) | (have H2_ := (Option.bind_some _ _).symm.trans H; rw [hy136]; with_reducible exact H2_) | (have H2_ := (Option.bind_some _ _).symm.trans H; with_reducible exact H2_) | with_reducible exact H | (rw [hy136]; exact H) | exact H); have Ny136 := Aside0.mk hy136; clear hy136; (by_cases c35 : t133.length + y136.length < 2199023255552)
    ·rw [if_pos c35] at H; have LMc35 := Aside0.mk c35; clear c35; obtain ⟨y139, hy139⟩ : ∃ y_ : List (S28), y_ = (t133 ++ y136) := ⟨_, rfl⟩; (replace H : (some (y139, 0)) = some (r1, r2) := by first | (rw [hy139]; with_reducible exact H) | (have H2_ := (Option.bind_some _ _).symm.trans H; rw [hy139]; with_reducible exact H2_) | (have H2_ := (Option.bind_some _ _).symm.trans H; with_reducible exact H2_) | with_reducible exact H | (rw [hy139]; exact H) | exact H); have Ny139 := Aside0.mk hy139; clear hy139; simp only [Option.some.injEq, Prod.mk.injEq] at H; obtain ⟨rfl, rfl⟩ := H; (go_enter Try.func13, Try.ntmps13); (try go_wp2_with (first | ((with_reducible refine gate_dst (N := 3) rfl ?_); (try (refine gate_guard (by rfl) ?_; dsimp only)); refine box_event ?hg (N := 3) ?hd (cs := #[.int .i64 a1_0, .int .i64 a1_1, .int .i64 a1_2, .int .i64 a1_3, .int .i64 a1_4, .int .i64 a1_5, .int .i64 a1_6, .int .i64 a1_7]) (t := 28) ?hr ?_; (case hd => rfl); (case hg => rfl); (case hr => first | (go_simp; done) | (go_simp; rfl)); intro gb119 hg w36 hbox hb; have n0_ := Aside0.mk (below_step (by repeat (first | (with_reducible first | exact HB.out | apply below_alloc | apply pw_below_drewN | apply below_drew1) | exact HB.out)) hb); have n1_ := Aside0.mk (hbox); have n2_ := Aside0.mk ((by rw [hg]; exact (below_size (by repeat (first | (with_reducible first | exact HB.out | apply below_alloc | apply pw_below_drewN | apply below_drew1) | exact HB.out))) : w.heap.size ≤ gb119)); have n3_ := Aside0.mk ((by rw [hg]; exact (below_size (by repeat (first | (with_reducible first | exact HB.out | apply below_alloc | apply pw_below_drewN | apply below_drew1) | exact HB.out))) : w.heap.size ≤ gb119)); clear HB; have HB := n0_; have BK119 := n1_; have GW119 := n2_; have GE119 := n3_; clear n0_ n1_ n2_ n3_; clear hb hbox hg) | ((with_reducible refine gate_callee (f := 15) rfl ?_); refine goesL_ (some 7) rfl rfl Try.func15 (by kernel_rfl) rfl #[.slice A0 l0.length c0] rfl (by (try simp only [List.map_toArray, List.map_cons, List.map_nil]); first | done | rfl | (simp only [List.length_drop, List.length_take]; rfl)) ?_; (with_reducible refine (facts_Check.calls _ _ l0 t120 _ ?side1 ?side2 A3.out).mono ?_); (case side1 => repeat (first | exact (Kd.C_below HR0.out HB.out) | (with_reducible refine Kd.C_alloc ?_ _) | (with_reducible refine Kd.C_drewN ?_ _) | (with_reducible refine Kd.C_drew ?_))); (case side2 => exact HC0.out); rintro e w37 ⟨rfl, hb⟩; refine ⟨_, rfl, ?_⟩; have n0_ := Aside0.mk (blk_below (g := gb119) (o := .cells #[.int .i64 a1_0, .int .i64 a1_1, .int .i64 a1_2, .int .i64 a1_3, .int .i64 a1_4, .int .i64 a1_5, .int .i64 a1_6, .int .i64 a1_7] 28 (0, 0)) (by (with_reducible repeat (first | refine blk_drewN ?_ _ | refine blk_drew ?_ | refine blk_alloc ?_ _)); exact BK119.out) hb); have n1_ := Aside0.mk (below_step (by repeat (first | (with_reducible first | exact HB.out | apply below_alloc | apply pw_below_drewN | apply below_drew1 | refine below_set ?_ GE119.out) | exact HB.out)) hb); clear BK119; clear HB; have BK119 := n0_; have HB := n1_; clear n0_ n1_; (try clear hb); (try clear hb2); (try clear hk); (try clear hi); have hcz38_0 : w37.cell? ⟨gb119, 0, none⟩ = some (.int .i64 a1_0) := (blk_cell BK119.out 0).trans rfl; have hcz38_1 : w37.cell? ⟨gb119, 1, none⟩ = some (.int .i64 a1_1) := (blk_cell BK119.out 1).trans rfl; have hcz38_2 : w37.cell? ⟨gb119, 2, none⟩ = some (.int .i64 a1_2) := (blk_cell BK119.out 2).trans rfl; have hcz38_3 : w37.cell? ⟨gb119, 3, none⟩ = some (.int .i64 a1_3) := (blk_cell BK119.out 3).trans rfl; have hcz38_4 : w37.cell? ⟨gb119, 4, none⟩ = some (.int .i64 a1_4) := (blk_cell BK119.out 4).trans rfl; have hcz38_5 : w37.cell? ⟨gb119, 5, none⟩ = some (.int .i64 a1_5) := (blk_cell BK119.out 5).trans rfl; have hcz38_6 : w37.cell? ⟨gb119, 6, none⟩ = some (.int .i64 a1_6) := (blk_cell BK119.out 6).trans rfl; have hcz38_7 : w37.cell? ⟨gb119, 7, none⟩ = some (.int .i64 a1_7) := (blk_cell BK119.out 7).trans rfl; have hfz38_0 := blk_frozen BK119.out 0; have hfz38_1 := blk_frozen BK119.out 1; have hfz38_2 := blk_frozen BK119.out 2; have hfz38_3 := blk_frozen BK119.out 3; have hfz38_4 := blk_frozen BK119.out 4; have hfz38_5 := blk_frozen BK119.out 5; have hfz38_6 := blk_frozen BK119.out 6; have hfz38_7 := blk_frozen BK119.out 7) | ((with_reducible refine gate_callee (f := 32) rfl ?_); refine goesL_ (some 12) rfl rfl Try.func32 (by kernel_rfl) rfl #[.agg #[.int .i64 a1_0, .int .i64 a1_1, .int .i64 a1_2, .int .i64 a1_3, .int .i64 a1_4, .int .i64 a1_5, .int .i64 a1_6, .int .i64 a1_7]] rfl (by (try simp only [List.map_toArray, List.map_cons, List.map_nil]); first | done | rfl | (simp only [List.length_drop, List.length_take]; rfl)) ?_; (with_reducible refine (facts_fits.calls a1_0 a1_1 a1_2 a1_3 a1_4 a1_5 a1_6 a1_7 true _ A5.out).mono ?_); rintro e w39 ⟨rfl, hb⟩; refine ⟨_, rfl, ?_⟩; have n0_ := Aside0.mk (blk_below (g := gb119) (o := .cells #[.int .i64 a1_0, .int .i64 a1_1, .int .i64 a1_2, .int .i64 a1_3, .int .i64 a1_4, .int .i64 a1_5, .int .i64 a1_6, .int .i64 a1_7] 28 (0, 0)) (by (with_reducible repeat (first | refine blk_drewN ?_ _ | refine blk_drew ?_ | refine blk_alloc ?_ _)); exact BK119.out) hb); have n1_ := Aside0.mk (below_step (by repeat (first | (with_reducible first | exact HB.out | apply below_alloc | apply pw_below_drewN | apply below_drew1 | refine below_set ?_ GE119.out) | exact HB.out)) hb); clear BK119; clear HB; have BK119 := n0_; have HB := n1_; clear n0_ n1_; (try clear hb); (try clear hb2); (try clear hk); (try clear hi)))); have n0_ := Aside0.mk (blk_drew BK119.out); have n1_ := Aside0.mk (below_drew1 HB.out); clear BK119; clear HB; have BK119 := n0_; have HB := n1_; clear n0_ n1_; (refine start_ (n := 14) (S := fun w' => True) (ds := []) LI440 (by kernel_rfl) rfl rfl trivial (fun hHeld => ?_); refine with_tabW facts_Add.tab6 facts_Add.bits6 (fun HT_ HW_ => ?_)); generalize w39.drew = w40 at BK119 HB hHeld ⊢
     (refine pure_ (i := 0) (N := some 14) (v := ?_) (a' := ?_) LI441 rfl rfl (any_of HT_.out (by kernel_rfl)) (fun _ _ _ h => h) (Or.inl ⟨by rfl, ?_⟩) ?_ ?_); rotate_left
     ·intro w'; go_simp; (with_reducible rfl)
     rotate_left
     ·go_simp; rfl
     (refine pure_ (i := 1) (N := some 15) (v := ?_) (a' := ?_) LI442 rfl rfl (any_of HT_.out (by kernel_rfl)) (fun _ _ _ h => h) (Or.inl ⟨by rfl, ?_⟩) ?_ ?_); rotate_left
     ·intro w'; go_simp; (with_reducible rfl)
     rotate_left
     ·go_simp; rfl
     (refine pure_ (i := 2) (N := some 16) (v := ?_) (a' := ?_) LI443 rfl rfl (any_of HT_.out (by kernel_rfl)) (fun _ _ _ h => h) (Or.inl ⟨by rfl, ?_⟩) ?_ ?_); rotate_left
     ·intro w'; go_simp; (with_reducible rfl)
     rotate_left
     ·go_simp; rfl
     (refine pure_ (i := 3) (N := some 17) (v := ?_) (a' := ?_) LI444 rfl rfl (any_of HT_.out (by kernel_rfl)) (fun _ _ _ h => h) (Or.inl ⟨by rfl, ?_⟩) ?_ ?_); rotate_left
     ·intro w'; go_simp; (with_reducible rfl)
     rotate_left
     ·go_simp; rfl
     (refine pure_ (i := 4) (N := some 18) (v := undef) (a' := ?_) LI445 rfl rfl (any_of HT_.out (by kernel_rfl)) (fun _ _ _ h => h) (Or.inr ⟨by rfl, rfl⟩) ?_ ?_); rotate_left
     ·go_simp; rfl
     (refine pure_ (i := 5) (N := some 19) (v := undef) (a' := ?_) LI446 rfl rfl (any_of HT_.out (by kernel_rfl)) (fun _ _ _ h => h) (Or.inr ⟨by rfl, rfl⟩) ?_ ?_); rotate_left
     ·go_simp; rfl
     (refine pure_ (i := 6) (N := some 20) (v := undef) (a' := ?_) LI447 rfl rfl (any_of HT_.out (by kernel_rfl)) (fun _ _ _ h => h) (Or.inr ⟨by rfl, rfl⟩) ?_ ?_); rotate_left
     ·go_simp; rfl
     (refine pure_ (i := 7) (N := some 21) (v := undef) (a' := ?_) LI448 rfl rfl (any_of HT_.out (by kernel_rfl)) (fun _ _ _ h => h) (Or.inr ⟨by rfl, rfl⟩) ?_ ?_); rotate_left
     ·go_simp; rfl
     (refine pure_ (i := 8) (N := some 22) (v := undef) (a' := ?_) LI449 rfl rfl (any_of HT_.out (by kernel_rfl)) (fun _ _ _ h => h) (Or.inr ⟨by rfl, rfl⟩) ?_ ?_); rotate_left
     ·go_simp; rfl
     (refine pure_ (i := 9) (N := some 23) (v := undef) (a' := ?_) LI4410 rfl rfl (any_of HT_.out (by kernel_rfl)) (fun _ _ _ h => h) (Or.inr ⟨by rfl, rfl⟩) ?_ ?_); rotate_left
     ·go_simp; rfl
     (refine pure_ (i := 10) (N := some 24) (v := undef) (a' := ?_) LI4411 rfl rfl (any_of HT_.out (by kernel_rfl)) (fun _ _ _ h => h) (Or.inr ⟨by rfl, rfl⟩) ?_ ?_); rotate_left
     ·go_simp; rfl
     (refine pure_ (i := 11) (N := some 25) (v := undef) (a' := ?_) LI4412 rfl rfl (any_of HT_.out (by kernel_rfl)) (fun _ _ _ h => h) (Or.inr ⟨by rfl, rfl⟩) ?_ ?_); rotate_left
     ·go_simp; rfl
     (refine pure_ (i := 12) (N := some 26) (v := undef) (a' := ?_) LI4413 rfl rfl (any_of HT_.out (by kernel_rfl)) (fun _ _ _ h => h) (Or.inr ⟨by rfl, rfl⟩) ?_ ?_); rotate_left
     ·go_simp; rfl
     (refine pure_ (i := 13) (N := some 27) (v := ?_) (a' := ?_) LI4414 rfl rfl (any_of HT_.out (by kernel_rfl)) (fun _ _ _ h => h) (Or.inl ⟨by rfl, ?_⟩) ?_ ?_); rotate_left
     ·intro w'; go_simp; (with_reducible rfl)
     rotate_left
     ·go_simp; rfl
     (refine done_ (done_of HT_.out (by kernel_rfl)) ?_); (try go_wp2); have heq : t133 = l0 := (Option.some.inj A34.out).symm; have z0 : w40.cell? ⟨gb119, 0, none⟩ = some (.int .i64 a1_0) := (blk_cell BK119.out 0).trans rfl; have z1 : w40.cell? ⟨gb119, 1, none⟩ = some (.int .i64 a1_1) := (blk_cell BK119.out 1).trans rfl; have z2 : w40.cell? ⟨gb119, 2, none⟩ = some (.int .i64 a1_2) := (blk_cell BK119.out 2).trans rfl; have z3 : w40.cell? ⟨gb119, 3, none⟩ = some (.int .i64 a1_3) := (blk_cell BK119.out 3).trans rfl; have z4 : w40.cell? ⟨gb119, 4, none⟩ = some (.int .i64 a1_4) := (blk_cell BK119.out 4).trans rfl; have z5 : w40.cell? ⟨gb119, 5, none⟩ = some (.int .i64 a1_5) := (blk_cell BK119.out 5).trans rfl; have z6 : w40.cell? ⟨gb119, 6, none⟩ = some (.int .i64 a1_6) := (blk_cell BK119.out 6).trans rfl; have z7 : w40.cell? ⟨gb119, 7, none⟩ = some (.int .i64 a1_7) := (blk_cell BK119.out 7).trans rfl; have hBB : Below w.heap.size w w40 := HB.out; have hCC : Kd.C k28 w40 A0 l0.length l0 := Kd.C_below HR0.out hBB; (have hLL : l0.length + 1 ≤ 2199023255552 := by have h1 := LMc35.out; have h2 := Ny136.out; rw [heq, h2] at h1; simp at h1; omega); (have hRR := Aside0.mk (show ∀ (W1 W2 : World) (v : Value), Kd.R k28 28 W2 W1.heap.size (fun _ => True) v (l0 ++ [⟨⟨a1_0, a1_1, a1_2⟩, a1_3, ⟨a1_4, a1_5⟩, a1_6, a1_7⟩]) → w.heap.size ≤ W1.heap.size → Kd.R k28 28 W2 w.heap.size (fun _ => True) v y139 from fun W1 W2 v h hs => by rw [Ny139.out, heq, Ny136.out]; exact Kd.R_lower h hs)); have hBs := hBB.size; clear HB BK119; (go_region_held3 (fun w' => w'.cell? ⟨gb119, 0, none⟩ = some (.int .i64 a1_0) ∧ w'.cell? ⟨gb119, 1, none⟩ = some (.int .i64 a1_1) ∧ w'.cell? ⟨gb119, 2, none⟩ = some (.int .i64 a1_2) ∧ w'.cell? ⟨gb119, 3, none⟩ = some (.int .i64 a1_3) ∧ w'.cell? ⟨gb119, 4, none⟩ = some (.int .i64 a1_4) ∧ w'.cell? ⟨gb119, 5, none⟩ = some (.int .i64 a1_5) ∧ w'.cell? ⟨gb119, 6, none⟩ = some (.int .i64 a1_6) ∧ w'.cell? ⟨gb119, 7, none⟩ = some (.int .i64 a1_7) ∧ Kd.C k28 w' A0 l0.length l0 ∧ Below w.heap.size w w') ((go_split_ands; refine ⟨?_, ?_, ?_, ?_, ?_, ?_, ?_, ?_, ?_, ?_⟩ <;> first | assumption | (exact Below.keepc (by assumption) (by assumption)) | (exact Kd.C_below (by assumption) (by assumption)) | (exact Kd.C_alloc (by assumption) _) | (exact Kd.C_drew (by assumption)) | (go_keep; done) | (exact Below.alloc (by assumption) (‹Below w.heap.size w _›).size _) | (exact below_drew1 (by assumption)) | (exact (‹Below w.heap.size w _›).trans (Below.mono (by assumption) (‹Below w.heap.size w _›).size)))) (first | ((go_at_call 34; refine (clip_calls A0 _ _ (by first | exact HC0.out | simp) _).mono ?_; rintro e w5 ⟨A1, rfl, rfl, hA1⟩)) | ((refine clip_step (by rfl) 29 31 (by rfl) A0 A1 l0 ⟨⟨a1_0, a1_1, a1_2⟩, a1_3, ⟨a1_4, a1_5⟩, a1_6, a1_7⟩ _ (by rfl) hA1 (by first | assumption | (go_split_ands; assumption)) (by rfl) (by first | exact World.alloc_heap_new _ _ | simp) hLL ?_; intro v' w6 ho6 hb6)) | fail)); (all_goals go_wp2); (all_goals go_ret2); (all_goals go_split_ands); (all_goals exact ⟨_, by first | rfl | (simp [errW_none, errW_some] <;> rfl) | (simp [*, errW_none, errW_some] <;> rfl), hRR.out _ _ _ ho6 (by simp; omega), by assumption⟩)
    ·rw [if_neg c35] at H; (exact absurd H (by simp))
  ·replace c6 := Bool.eq_false_iff.mpr c6; subst c6; (have H1 : (some (([] : List (S28)), 70)) = some (r1, r2) := by rw [if_neg (show ¬ (false = true) by decide)] at H; exact H); clear H; have H := H1; clear H1; simp only [Option.some.injEq, Prod.mk.injEq] at H; obtain ⟨rfl, rfl⟩ := H; (go_enter Try.func13, Try.ntmps13); (go_wp2_with (first | ((with_reducible refine gate_dst (N := 3) rfl ?_); (try (refine gate_guard (by rfl) ?_; dsimp only)); refine box_event ?hg (N := 3) ?hd (cs := #[.int .i64 a1_0, .int .i64 a1_1, .int .i64 a1_2, .int .i64 a1_3, .int .i64 a1_4, .int .i64 a1_5, .int .i64 a1_6, .int .i64 a1_7]) (t := 28) ?hr ?_; (case hd => rfl); (case hg => rfl); (case hr => first | (go_simp; done) | (go_simp; rfl)); intro gb119 hg w48 hbox hb; have n0_ := Aside0.mk (below_step (by repeat (first | (with_reducible first | exact HB.out | apply below_alloc | apply pw_below_drewN | apply below_drew1) | exact HB.out)) hb); have n1_ := Aside0.mk (hbox); have n2_ := Aside0.mk ((by rw [hg]; exact (below_size (by repeat (first | (with_reducible first | exact HB.out | apply below_alloc | apply pw_below_drewN | apply below_drew1) | exact HB.out))) : w.heap.size ≤ gb119)); have n3_ := Aside0.mk ((by rw [hg]; exact (below_size (by repeat (first | (with_reducible first | exact HB.out | apply below_alloc | apply pw_below_drewN | apply below_drew1) | exact HB.out))) : w.heap.size ≤ gb119)); clear HB; have HB := n0_; have BK119 := n1_; have GW119 := n2_; have GE119 := n3_; clear n0_ n1_ n2_ n3_; clear hb hbox hg) | ((with_reducible refine gate_callee (f := 15) rfl ?_); refine goesL_ (some 7) rfl rfl Try.func15 (by kernel_rfl) rfl #[.slice A0 l0.length c0] rfl (by (try simp only [List.map_toArray, List.map_cons, List.map_nil]); first | done | rfl | (simp only [List.length_drop, List.length_take]; rfl)) ?_; (with_reducible refine (facts_Check.calls _ _ l0 t120 _ ?side1 ?side2 A3.out).mono ?_); (case side1 => repeat (first | exact (Kd.C_below HR0.out HB.out) | (with_reducible refine Kd.C_alloc ?_ _) | (with_reducible refine Kd.C_drewN ?_ _) | (with_reducible refine Kd.C_drew ?_))); (case side2 => exact HC0.out); rintro e w49 ⟨rfl, hb⟩; refine ⟨_, rfl, ?_⟩; have n0_ := Aside0.mk (blk_below (g := gb119) (o := .cells #[.int .i64 a1_0, .int .i64 a1_1, .int .i64 a1_2, .int .i64 a1_3, .int .i64 a1_4, .int .i64 a1_5, .int .i64 a1_6, .int .i64 a1_7] 28 (0, 0)) (by (with_reducible repeat (first | refine blk_drewN ?_ _ | refine blk_drew ?_ | refine blk_alloc ?_ _)); exact BK119.out) hb); have n1_ := Aside0.mk (below_step (by repeat (first | (with_reducible first | exact HB.out | apply below_alloc | apply pw_below_drewN | apply below_drew1 | refine below_set ?_ GE119.out) | exact HB.out)) hb); clear BK119; clear HB; have BK119 := n0_; have HB := n1_; clear n0_ n1_; (try clear hb); (try clear hb2); (try clear hk); (try clear hi); have hcz50_0 : w49.cell? ⟨gb119, 0, none⟩ = some (.int .i64 a1_0) := (blk_cell BK119.out 0).trans rfl; have hcz50_1 : w49.cell? ⟨gb119, 1, none⟩ = some (.int .i64 a1_1) := (blk_cell BK119.out 1).trans rfl; have hcz50_2 : w49.cell? ⟨gb119, 2, none⟩ = some (.int .i64 a1_2) := (blk_cell BK119.out 2).trans rfl; have hcz50_3 : w49.cell? ⟨gb119, 3, none⟩ = some (.int .i64 a1_3) := (blk_cell BK119.out 3).trans rfl; have hcz50_4 : w49.cell? ⟨gb119, 4, none⟩ = some (.int .i64 a1_4) := (blk_cell BK119.out 4).trans rfl; have hcz50_5 : w49.cell? ⟨gb119, 5, none⟩ = some (.int .i64 a1_5) := (blk_cell BK119.out 5).trans rfl; have hcz50_6 : w49.cell? ⟨gb119, 6, none⟩ = some (.int .i64 a1_6) := (blk_cell BK119.out 6).trans rfl; have hcz50_7 : w49.cell? ⟨gb119, 7, none⟩ = some (.int .i64 a1_7) := (blk_cell BK119.out 7).trans rfl; have hfz50_0 := blk_frozen BK119.out 0; have hfz50_1 := blk_frozen BK119.out 1; have hfz50_2 := blk_frozen BK119.out 2; have hfz50_3 := blk_frozen BK119.out 3; have hfz50_4 := blk_frozen BK119.out 4; have hfz50_5 := blk_frozen BK119.out 5; have hfz50_6 := blk_frozen BK119.out 6; have hfz50_7 := blk_frozen BK119.out 7) | ((with_reducible refine gate_callee (f := 32) rfl ?_); refine goesL_ (some 12) rfl rfl Try.func32 (by kernel_rfl) rfl #[.agg #[.int .i64 a1_0, .int .i64 a1_1, .int .i64 a1_2, .int .i64 a1_3, .int .i64 a1_4, .int .i64 a1_5, .int .i64 a1_6, .int .i64 a1_7]] rfl (by (try simp only [List.map_toArray, List.map_cons, List.map_nil]); first | done | rfl | (simp only [List.length_drop, List.length_take]; rfl)) ?_; (with_reducible refine (facts_fits.calls a1_0 a1_1 a1_2 a1_3 a1_4 a1_5 a1_6 a1_7 false _ A5.out).mono ?_); rintro e w51 ⟨rfl, hb⟩; refine ⟨_, rfl, ?_⟩; have n0_ := Aside0.mk (blk_below (g := gb119) (o := .cells #[.int .i64 a1_0, .int .i64 a1_1, .int .i64 a1_2, .int .i64 a1_3, .int .i64 a1_4, .int .i64 a1_5, .int .i64 a1_6, .int .i64 a1_7] 28 (0, 0)) (by (with_reducible repeat (first | refine blk_drewN ?_ _ | refine blk_drew ?_ | refine blk_alloc ?_ _)); exact BK119.out) hb); have n1_ := Aside0.mk (below_step (by repeat (first | (with_reducible first | exact HB.out | apply below_alloc | apply pw_below_drewN | apply below_drew1 | refine below_set ?_ GE119.out) | exact HB.out)) hb); clear BK119; clear HB; have BK119 := n0_; have HB := n1_; clear n0_ n1_; (try clear hb); (try clear hb2); (try clear hk); (try clear hi)))); (go_ret2); (exact ⟨_, by first | rfl | (simp [errW_none, errW_some] <;> rfl) | (simp [*, errW_none, errW_some] <;> rfl), by first | exact Kd.R_nil _ _ _ _ _ | exact Kd.N_nil _ _ _ _ _ | exact Kd.V_nil _ _ _ _ _ | exact Kd.Q_nil _ _ _ _ _ | exact Kd.S_nil _ _ _ _ _, by repeat (first | (with_reducible first | exact HB.out | apply below_alloc | apply pw_below_drewN | apply below_drew1 | refine below_set ?_ GE119.out) | exact HB.out)⟩)
 ·rw [if_neg c4] at H; have c4b0 : (t120 == 0) = false := beq_eq_false_iff_ne.mpr c4; have c4b1 : (t120 != 0) = true := bne_iff_ne.mpr c4; simp only [Option.some.injEq, Prod.mk.injEq] at H; obtain ⟨rfl, rfl⟩ := H; (go_enter Try.func13, Try.ntmps13); (go_wp2_with (first | ((with_reducible refine gate_dst (N := 3) rfl ?_); (try (refine gate_guard (by rfl) ?_; dsimp only)); refine box_event ?hg (N := 3) ?hd (cs := #[.int .i64 a1_0, .int .i64 a1_1, .int .i64 a1_2, .int .i64 a1_3, .int .i64 a1_4, .int .i64 a1_5, .int .i64 a1_6, .int .i64 a1_7]) (t := 28) ?hr ?_; (case hd => rfl); (case hg => rfl); (case hr => first | (go_simp; done) | (go_simp; rfl)); intro gb119 hg w52 hbox hb; have n0_ := Aside0.mk (below_step (by repeat (first | (with_reducible first | exact HB.out | apply below_alloc | apply pw_below_drewN | apply below_drew1) | exact HB.out)) hb); have n1_ := Aside0.mk (hbox); have n2_ := Aside0.mk ((by rw [hg]; exact (below_size (by repeat (first | (with_reducible first | exact HB.out | apply below_alloc | apply pw_below_drewN | apply below_drew1) | exact HB.out))) : w.heap.size ≤ gb119)); have n3_ := Aside0.mk ((by rw [hg]; exact (below_size (by repeat (first | (with_reducible first | exact HB.out | apply below_alloc | apply pw_below_drewN | apply below_drew1) | exact HB.out))) : w.heap.size ≤ gb119)); clear HB; have HB := n0_; have BK119 := n1_; have GW119 := n2_; have GE119 := n3_; clear n0_ n1_ n2_ n3_; clear hb hbox hg) | ((with_reducible refine gate_callee (f := 15) rfl ?_); refine goesL_ (some 7) rfl rfl Try.func15 (by kernel_rfl) rfl #[.slice A0 l0.length c0] rfl (by (try simp only [List.map_toArray, List.map_cons, List.map_nil]); first | done | rfl | (simp only [List.length_drop, List.length_take]; rfl)) ?_; (with_reducible refine (facts_Check.calls _ _ l0 t120 _ ?side1 ?side2 A3.out).mono ?_); (case side1 => repeat (first | exact (Kd.C_below HR0.out HB.out) | (with_reducible refine Kd.C_alloc ?_ _) | (with_reducible refine Kd.C_drewN ?_ _) | (with_reducible refine Kd.C_drew ?_))); (case side2 => exact HC0.out); rintro e w53 ⟨rfl, hb⟩; refine ⟨_, rfl, ?_⟩; have n0_ := Aside0.mk (blk_below (g := gb119) (o := .cells #[.int .i64 a1_0, .int .i64 a1_1, .int .i64 a1_2, .int .i64 a1_3, .int .i64 a1_4, .int .i64 a1_5, .int .i64 a1_6, .int .i64 a1_7] 28 (0, 0)) (by (with_reducible repeat (first | refine blk_drewN ?_ _ | refine blk_drew ?_ | refine blk_alloc ?_ _)); exact BK119.out) hb); have n1_ := Aside0.mk (below_step (by repeat (first | (with_reducible first | exact HB.out | apply below_alloc | apply pw_below_drewN | apply below_drew1 | refine below_set ?_ GE119.out) | exact HB.out)) hb); clear BK119; clear HB; have BK119 := n0_; have HB := n1_; clear n0_ n1_; (try clear hb); (try clear hb2); (try clear hk); (try clear hi)))); (go_ret2); (exact ⟨_, by first | rfl | (simp [errW_none, errW_some] <;> rfl) | (simp [*, errW_none, errW_some] <;> rfl), by first | exact Kd.R_nil _ _ _ _ _ | exact Kd.N_nil _ _ _ _ _ | exact Kd.V_nil _ _ _ _ _ | exact Kd.Q_nil _ _ _ _ _ | exact Kd.S_nil _ _ _ _ _, by repeat (first | (with_reducible first | exact HB.out | apply below_alloc | apply pw_below_drewN | apply below_drew1 | refine below_set ?_ GE119.out) | exact HB.out)⟩)
end Go.Proofs.Ytamajnhdibcpiaa.G
namespace Go.Proofs.Ytamajnhdibcpiaa.G
open Go.RowKit Go.Shelf Go.Maps
attribute [local go_sem] Oper.semAt_some
theorem laidOut : laidOutB Try.prog = true := by kernel_rfl
theorem key24 : Keyed Try.prog 24 := Keyed.of_law (deep_law_laid laidOut (m := 8) (by omega) (of_decide_eq_true (by kernel_rfl)) (by kernel_rfl) (by rw [Try.underlying24]))
def wfK (k : S24) : Bool := (Lit.int .i64 k.f0).wf && (Lit.int .i64 k.f1).wf && (Lit.int .i64 k.f2).wf
def valK (k : S24) : Value := .agg #[.int .i64 k.f0, .int .i64 k.f1, .int .i64 k.f2]
def litK (k : S24) : Lit := .string (keyBytes [.int .i64 k.f0, .int .i64 k.f1, .int .i64 k.f2])
theorem types_two : ∃ d, Try.prog.types.size + 1 = d + 2 := ⟨Try.prog.types.size - 1, by have : 1 < Try.prog.types.size := of_decide_eq_true (by kernel_rfl); omega⟩
theorem cells3 : Try.prog.cellsOf 3 = 1 := by kernel_rfl
theorem cells24 : Try.prog.cellsOf 24 = 3 := by kernel_rfl
theorem keyLits24 (a b c : Int) (d : Nat) (ha : (Lit.int .i64 a).wf = true) (hb : (Lit.int .i64 b).wf = true) (hc : (Lit.int .i64 c).wf = true) :
    Try.prog.keyLits (d + 2) 24 [.int .i64 a, .int .i64 b, .int .i64 c] = some [.int .i64 a, .int .i64 b, .int .i64 c] := by
 simp [Program.keyLits, Try.underlying24, Try.underlying3, cells3, cells24, ha, hb, hc]
theorem keyOf_mk (k : S24) (h : wfK k = true) : keyOf Try.prog 24 (valK k) = some (litK k) := by
 simp only [wfK, Bool.and_eq_true] at h; unfold keyOf valK; rw [Try.underlying24]; (have h1 : Try.prog.keyType 24 = true := by kernel_rfl); obtain ⟨d, hd⟩ := types_two; simp only [h1, Bool.true_and, hd, Value.cells]; rw [keyLits24 _ _ _ d h.1.1 h.1.2 h.2]; simp [Value.formed, Try.underlying24, cells24, litK]
theorem keyLits3_inv {v : Value} {d : Nat} {ls : List Lit} (h : Try.prog.keyLits (d + 1) 3 [v] = some ls) : ∃ a, v = .int .i64 a ∧ (Lit.int .i64 a).wf = true ∧ ls = [.int .i64 a] := by
 cases v with
 | int q n =>
  simp only [Program.keyLits, Try.underlying3] at h; (by_cases hc : q = .i64 ∧ (Lit.int .i64 n).wf = true)
  ·rw [if_pos hc] at h; obtain ⟨rfl, h2⟩ := hc; exact ⟨n, rfl, h2, (Option.some.inj h).symm⟩
  ·rw [if_neg hc] at h; cases h
 | _ => simp only [Program.keyLits, Try.underlying3] at h; cases h
theorem keyLits24_eq (x y z : Value) (d : Nat) : Try.prog.keyLits (d + 1 + 1) 24 [x, y, z] = (Try.prog.keyLits (d + 1) 3 [x]).bind fun l1 => (Try.prog.keyLits (d + 1) 3 [y]).bind fun l2 => (Try.prog.keyLits (d + 1) 3 [z]).bind fun l3 => some (l1 ++ (l2 ++ l3)) := by
 (conv => lhs; unfold Program.keyLits); simp only [Try.underlying24, cells3, cells24]; cases h1 : Try.prog.keyLits (d + 1) 3 [x] <;> cases h2 : Try.prog.keyLits (d + 1) 3 [y] <;> cases h3 : Try.prog.keyLits (d + 1) 3 [z] <;> simp [h1, h2, h3, cells3]
theorem arr3 {cs : Array Value} (hs : cs.size = 3) : ∃ x y z, cs = #[x, y, z] := by
 obtain ⟨l⟩ := cs
 match l, hs with
 | [x, y, z], _ => exact ⟨x, y, z, rfl⟩
theorem keyOf_inv {v : Value} {kl : Lit} (h : keyOf Try.prog 24 v = some kl) : ∃ k : S24, wfK k = true ∧ v = valK k ∧ kl = litK k := by
 obtain ⟨d, hd⟩ := types_two; simp only [keyOf, Try.underlying24, hd] at h
 cases v with
 | agg cs =>
  by_cases hs : cs.size = 3
  ·obtain ⟨x, y, z, rfl⟩ := arr3 hs; (have h1 : Try.prog.keyType 24 = true := by kernel_rfl); simp only [h1, Value.formed, Try.underlying24, cells24, Bool.true_and, Value.cells, List.size_toArray, List.length_cons, List.length_nil, Nat.reduceAdd, beq_self_eq_true, if_true, keyLits24_eq] at h
   cases e1 : Try.prog.keyLits (d + 1) 3 [x] with
   | none => rw [e1] at h; simp at h
   | some l1 =>
    cases e2 : Try.prog.keyLits (d + 1) 3 [y] with
    | none => rw [e1, e2] at h; simp at h
    | some l2 =>
     cases e3 : Try.prog.keyLits (d + 1) 3 [z] with
     | none => rw [e1, e2, e3] at h; simp at h
     | some l3 =>
      rw [e1, e2, e3] at h; obtain ⟨a, rfl, wa, rfl⟩ := keyLits3_inv e1; obtain ⟨b, rfl, wb, rfl⟩ := keyLits3_inv e2; obtain ⟨c, rfl, wc, rfl⟩ := keyLits3_inv e3; (exact ⟨⟨a, b, c⟩, by simp [wfK, wa, wb, wc], rfl, by simpa [litK] using h.symm⟩)
  ·(have hf : (Value.agg cs).formed Try.prog 24 = false := by simp [Value.formed, Try.underlying24, cells24, hs]); simp [hf] at h
 | _ => simp [Value.formed, Try.underlying24] at h
theorem litK_inj {a b : S24} (ha : wfK a = true) (hb : wfK b = true) (h : litK a = litK b) : a = b := by
 have h1 := keyOf_mk a ha; have h2 := keyOf_mk b hb; rw [← h] at h2; have := key24.inj h1 h2; simp only [valK, Value.agg.injEq, Array.mk.injEq, List.cons.injEq, Value.int.injEq] at this; cases a; cases b; simp_all
instance decS24 : DecidableEq S24 := fun a b => decidable_of_iff (a.f0 = b.f0 ∧ a.f1 = b.f1 ∧ a.f2 = b.f2) ⟨fun h => by cases a; cases b; simp_all, fun h => by subst h; exact ⟨rfl, rfl, rfl⟩⟩
theorem litK_same {a b : S24} (ha : wfK a = true) (hb : wfK b = true) : (litK a).sameKey (litK b) = decide (a = b) := by
 by_cases h : a = b
 ·subst h; simp [litK, Lit.sameKey]
 ·rw [sameKey_ne (fun e => h (litK_inj ha hb e))]; simp [h]
def Coll (D : DataW Unit) (left : Lit → Bool) (ss : List S24) : Prop := ss.Nodup ∧ ∀ x, x ∈ ss ↔ (wfK x = true ∧ has D (litK x) = true ∧ left (litK x) = false)
theorem Coll.start (D : DataW Unit) : Coll D (has D) [] := ⟨List.nodup_nil, fun x => by cases has D (litK x) <;> simp⟩
theorem Coll.step {D : DataW Unit} {left : Lit → Bool} {ss : List S24} (h : Coll D left ss) {x : S24} {y : DataW Unit} (hw : wfK x = true) (hlk : left (litK x) = true) (hat : ∀ zd, D.atKey (litK x) zd = y) : Coll D (fun z => left z && !z.sameKey (litK x)) (ss ++ [x]) := by
 have hhas : has D (litK x) = true := has_true_of_atKey hat; (have hnew : x ∉ ss := fun hx => by have := ((h.2 x).1 hx).2.2; rw [hlk] at this; cases this); (refine ⟨List.nodup_append.2 ⟨h.1, by simp, fun a ha b hb => by simp at hb; subst hb; exact fun e => hnew (e ▸ ha)⟩, fun y => ?_⟩); (by_cases hy : y = x)
 ·subst hy; simp [hhas, litK_same hw hw, hw]
 ·by_cases hwy : wfK y = true
  ·simp [h.2 y, hy, litK_same hwy hw]
  ·simp [h.2 y, hy, hwy]
def AllK (D : DataW Unit) (ss : List S24) : Prop := ss.Nodup ∧ ∀ x, x ∈ ss ↔ (wfK x = true ∧ has D (litK x) = true)
set_option maxRecDepth 100000 in
set_option maxHeartbeats 2000000 in
theorem keys1_in (F : Fence) (n : Nat) (h56 : F.fn 56) (hro : F.round = none) (hn : 1 ≤ n) (l Bm b nn : Nat) (D : DataW Unit) (J Jx : List S24 → World → Prop)
    (hY : ∀ pre x W, J pre W → pre.length < size D → YieldAt F (n - 1) Try.prog l #[valK x] W fun e W' =>
      (e = .returned (.bool true) ∧ J (pre ++ [x]) W' ∧ KeepsWalks W W') ∨ (e = .returned (.bool false) ∧ Jx (pre ++ [x]) W'))
    (W : World) (hJ : AbidesFrom W.heap.size J) (hm : W.cell? ⟨Bm, 0, none⟩ = some (.map (some b))) (hown : W.ownsMap Try.prog 24 (plainElem Try.prog 4) b nn D) (h0 : J [] W) :
    CallsIn F n Try.prog 56 #[.func (.yield l) #[] #[], .pointer (some ⟨Bm, 0, none⟩)] W fun e W' => (∃ v, e = .returned v) ∧
      ((∃ ss, AllK D ss ∧ J ss W') ∨ (∃ pre, True ∧ Jx pre W')) := by
 have hu24 := Try.underlying24; (have hJa : ∀ s (X : World) o, J s X → J s (X.alloc o) := fun s X o h => hJ s X _ none h (World.grownBy_alloc X o none) (fun r e => by cases e)); refine callsIn_of_wp Try.func56 rfl h56 ?_ hro; simp only [Try.ntmps56, List.size_toArray, List.length_cons, List.length_nil, Nat.reduceAdd, Nat.reduceSub, Array.replicate_succ, Array.replicate_zero, List.push_toArray, List.append_toArray, List.nil_append, List.cons_append]; (gi_wp2_with (gi_at_range; refine wpListIn_range_own _ rfl _ 72 rfl 24 4 key24 Try.underlying72 _ b nn _ rfl hown ?_; intro w0 hrg0 hg0 hs0)); (go_frame)
 gi_loopw [3] (fun _ wr => ∃ (left : Lit → Bool) (cnt : Nat) (ss : List S24), wr.ranges Try.prog 24 (plainElem Try.prog 4) b W.heap.size nn D left cnt ∧ ss.length + cnt ≤ size D ∧ Coll D left ss ∧ J ss wr)
  (fun _ wr => wr.rangeLeft b W.heap.size)
 case atStart =>
  exact ⟨_, _, [], hrg0, by simp, Coll.start D, hJ [] W w0 none h0 hg0 (fun r e => by cases e)⟩
 case round =>
  obtain ⟨left, cnt, ss, hrg, hcs, hC, hJs⟩ := hrel; (gi_wp2_with (gi_at_next; refine wpListIn_next_ranges _ rfl _ rfl 24 key24 (plainElem Try.prog 4) valK id (fun key kl hk => by obtain ⟨x, _, hx, _⟩ := keyOf_inv hk; exact ⟨x, hx⟩) (fun v _ _ => ⟨v, rfl⟩) b W.heap.size nn _ _ _ rfl hrg ?_ ?_))
  ·intro hc0 hl0; (gi_wp2); (go_end0); (exact ⟨⟨_, rfl⟩, .inl ⟨ss, ⟨hC.1, fun x => by rw [hC.2 x, hl0]; simp⟩, hJs⟩⟩)
  ·intro x c kl yd yp w2 cnt2 hkey hlk hv hat hrg2 hlt hg2 hs2 hen; obtain ⟨x', hwx, ex, rfl⟩ := keyOf_inv hkey
   obtain rfl : x = x' := by
    simp only [valK, Value.agg.injEq, Array.mk.injEq, List.cons.injEq, Value.int.injEq] at ex; cases x; cases x'; simp_all
   (have hJ2 : J ss w2 := hJ ss wr w2 (some W.heap.size) hJs hg2 (fun r e => by cases e; exact ⟨Nat.le_refl _, hrg.iter_walk⟩)); have hJ3 := hJa ss w2 (.cells #[.int .i64 x.f0, .int .i64 x.f1, .int .i64 x.f2] 24) hJ2; (obtain ⟨fn, tmps, assign, body, hy, hR⟩ := hY ss x _ hJ3 (by omega)); have hC2 := hC.step hwx hlk hat; have hrg2a := hrg2.alloc (.cells #[.int .i64 x.f0, .int .i64 x.f1, .int .i64 x.f2] 24); simp only [valK] at hy hen; clear hs2 ex hJ2 hkey; (gi_wp2); refine hR.mono ?_; (rintro e W3 (⟨rfl, hJ4, hk3⟩ | ⟨rfl, hJx3⟩))
   ·have hrg3 := hrg2a.of_walks hk3; clear hy hR; (gi_wp2); (go_roundw)
    case rel => exact ⟨_, cnt2, ss ++ [x], hrg3, by simp; omega, hC2, hJ4⟩
    case measure => rw [hrg3.left_eq, hrg.left_eq]; exact hlt
   ·clear hy hR; (gi_wp2); refine bodyPost_ret (results_none rfl _ _ _) rfl ?_; exact ⟨⟨_, rfl⟩, .inr ⟨ss ++ [x], trivial, hJx3⟩⟩
theorem keys_stops (F : Fence) (n : Nat) (h56 : F.fn 56) (hro : F.round = none) (hn : 1 ≤ n) (Bm b nn : Nat) (D : DataW Unit) (w : World) (hBm : Bm < w.heap.size) (hm : w.cell? ⟨Bm, 0, none⟩ = some (.map (some b))) (hown : w.ownsMap Try.prog 24 (plainElem Try.prog 4) b nn D) :
    SeqStopsK F n Try.prog 56 #[.pointer (some ⟨Bm, 0, none⟩)] (fun x : S24 => #[valK x]) KeepsWalks (AllK D) (fun _ => True) (size D) w := fun l J Jx W hW hJ _ hY h0 => by
  have hown' : W.ownsMap Try.prog 24 (plainElem Try.prog 4) b nn D := by
    have hbl := hown.lt
    obtain ⟨es, clock, hb, Ft, hs, hD⟩ := hown
    exact ⟨es, clock, (hW.block b hbl).trans hb, Ft, hs, hD⟩
  exact keys1_in F n h56 hro hn l Bm b nn D J Jx hY W hJ ((hW.cell (p := ⟨Bm, 0, none⟩) hBm).trans hm) hown' h0
end Go.Proofs.Ytamajnhdibcpiaa.G
namespace Go.Proofs.Ytamajnhdibcpiaa.G
open Go.RowKit Go.Shelf Go.Maps Go.Proofs.YtamajnhdibcpiaaW.PrintWords Go.Proofs.YtamajnhdibcpiaaW.PrintLast Go.Proofs.YtamajnhdibcpiaaW.PrintMore
attribute [local go_sem] Oper.semAt_some
def enc24 (k : S24) : List Value := [.int .i64 k.f0, .int .i64 k.f1, .int .i64 k.f2]
def flat24 (ss : List S24) : List Value := ss.flatMap enc24
theorem flat24_snoc (ss : List S24) (x : S24) : flat24 (ss ++ [x]) = flat24 ss ++ [.int .i64 x.f0, .int .i64 x.f1, .int .i64 x.f2] := by simp [flat24, enc24]
theorem info24g : (Try.prog.info? 24).map (fun i => (i.zero, i.size, i.bytes)) = some (some (.agg #[.int .i64 0, .int .i64 0, .int .i64 0]), 3, 24) := by kernel_rfl
theorem cells_new3 (w : World) (x y z : Value) (t : TypeId) : ∀ j u, [x, y, z][j]? = some u → (w.alloc (.cells #[x, y, z] t)).cell? ((⟨w.heap.size, 0, none⟩ : Addr).add j) = some u := by
 intro j u hj; have hb := World.alloc_heap_new w (.cells #[x, y, z] t); (rw [show ((⟨w.heap.size, 0, none⟩ : Addr).add j) = ⟨w.heap.size, j, none⟩ from by unfold Addr.add; split <;> simp_all]); rw [cell_of_row _ _ j _ _ _ hb]; (simpa using hj)
theorem ownPost_norm' {α : Type} {B : Nat} {Kp : World → World → Prop} {I : List α → World → Prop} {Ix : Code → List α → World → Prop} {s : List α} {W : World} {a : Act} {w : World} (h : KeepsFrom B W w ∧ Kp W w ∧ I s w) : ownPostG B Kp I Ix s W .normal a w := h
theorem keepsWalks_of_others {W W' : World} (h : KeepsOthers W W') : KeepsWalks W W' := by
 exact h.walks
set_option maxRecDepth 100000 in
set_option maxHeartbeats 2000000 in
theorem appendSeq_calls (Bm b nn : Nat) (D : DataW Unit) (w : World) (hBm : Bm < w.heap.size) (hm : w.cell? ⟨Bm, 0, none⟩ = some (.map (some b))) (hown : w.ownsMap Try.prog 24 (plainElem Try.prog 4) b nn D) (hsize : size D ≤ 1099511627776) :
    Calls Try.prog 59 #[.slice none 0 0, .func (.func 56) #[] #[.pointer (some ⟨Bm, 0, none⟩)]] w fun e w' => ∃ v ss, e = .returned v ∧ AllK D ss ∧ w'.ownsRow w.heap.size 24 3 v ss.length (flat24 ss) ∧ Below w.heap.size w w' := by
 have hu24 := Try.underlying24; (have h1 : 1 ≤ 9 := by omega); obtain ⟨i0, hi, hz0, hz1, hz2⟩ := info_parts info24g; refine (callsIn_wide (n := 9)).1 ?_; refine callsIn_of_wp_marks Try.func59 rfl trivial ?_ rfl; simp only [Try.ntmps59, List.size_toArray, List.length_cons, List.length_nil, Nat.reduceAdd, Nat.reduceSub, Array.replicate_succ, Array.replicate_zero, List.push_toArray, List.append_toArray, List.nil_append, List.cons_append]; (gi_wp2); have bO := Boxed.new w 37 (.slice none 0 0); have hB0 : Below w.heap.size w (w.alloc (.cells #[.slice none 0 0] 37)) := (Below.refl _ w).alloc (Nat.le_refl _) _; have hm0 : (w.alloc (.cells #[.slice none 0 0] 37)).cell? ⟨Bm, 0, none⟩ = some (.map (some b)) := (World.cell?_alloc_lt w _ ⟨Bm, 0, none⟩ hBm).trans hm; have hown0 := hown.alloc (.cells #[.slice none 0 0] 37); have hsz0 : (w.alloc (.cells #[.slice none 0 0] 37)).heap.size = w.heap.size + 1 := World.size_alloc _ _; obtain ⟨B, hB⟩ : ∃ B, B = w.heap.size := ⟨_, rfl⟩; rw [← hB] at bO hsz0 ⊢; have HBe := Aside0.mk hB; generalize w.alloc (.cells #[.slice none 0 0] 37) = W0 at bO hB0 hm0 hown0 hsz0 ⊢; have hwB : w.heap.size ≤ B := Nat.le_of_eq hB.symm; clear hB
 refine wpIn_rangeFunc_ownH rfl h1 (gf := 56) (lb := #[.pointer (some ⟨Bm, 0, none⟩)]) rfl trivial (enters_of Try.func56 (by kernel_rfl) rfl)
  (keys_stops Fence.wide (9 - 1) trivial rfl (by omega) Bm b nn D W0 (by omega) hm0 hown0) walksK_t walksK_b (Below.refl _ _) (fun _ => rfl)
  (fun pre W => (∃ v, Boxed W B 37 v ∧ W.ownsRow B 24 3 v pre.length (flat24 pre) ∧ True) ∧ Below w.heap.size w W)
  (fun c pre W => False)
  (OwnFrom.and (Own.from (holdsRow_own B B 37 24 3 (fun pre : List S24 => pre.length) (fun pre => flat24 pre) (fun pre v => True)) _) (ownFrom_below (Nat.le_refl _) (by omega)))
  (fun c s W W' row h => h.elim)
  ⟨⟨_, bO, World.ownsRow_nil _ _ _ _, trivial⟩, hB0⟩
  (fun (x : S24) (a' : Act) (W : World) => ∃ Bx : Nat, (B < Bx ∧ W.heap[Bx]? = some (Obj.cells #[.int .i64 x.f0, .int .i64 x.f1, .int .i64 x.f2] 24)) ∧ ∃ v0 v1 v3 v4 v6 v7 v8 v9 v10 v11 v12 : Value, a' = { tmps := #[v0, v1, .pointer (some ⟨B, 0, none⟩), v3, v4, .pointer (some ⟨Bx, 0, none⟩), v6, v7, v8, v9, v10, v11, v12], defers := [] })
  ?own ?assign ?body ?done ?stop
 case own =>
  rintro x a' _ X Y row ⟨Bx, ⟨e0, e1⟩, e3⟩ hg hr
  have same : ∀ (i : Nat) (cs : Array Value) (t : TypeId), X.heap[i]? = some (.cells cs t) → Y.heap[i]? = some (.cells cs t) := fun i cs t hi =>
   (hg.block i (Array.getElem?_eq_some_iff.1 hi).1 (fun e => by obtain ⟨_, o, ho, hc⟩ := hr i e.symm; rw [hi] at ho; cases ho; cases hc)).trans hi
  exact ⟨Bx, ⟨e0, same _ _ _ e1⟩, e3⟩
 case assign =>
  rintro l pre x W K ⟨⟨v, hv, hrow, _⟩, hB1⟩ hK; simp only [valK]; (gi_wp2); (refine hK _ _ ((KeepsOthers.alloc _ _).from _) (KeepsWalks.alloc _ _) ⟨⟨v, hv.alloc _, hrow.alloc _, trivial⟩, hB1.alloc hB1.size _⟩ ⟨W.heap.size, ⟨hv.lt, World.alloc_heap_new W _⟩, _, _, _, _, _, _, _, _, _, _, _, rfl⟩)
 case body =>
  rintro l pre x a' W hl hrec ⟨⟨v, hv, hrow, _⟩, hB1⟩ ⟨Bx, ⟨e0, e1⟩, v0, v1, v3, v4, v6, v7, v8, v9, v10, v11, v12, rfl⟩ hlt; (have b0 : W.cell? ⟨Bx, 0, none⟩ = some (.int .i64 x.f0) := by simp [World.cell?, e1]); (have b1 : W.cell? ⟨Bx, 1, none⟩ = some (.int .i64 x.f1) := by simp [World.cell?, e1]); (have b2 : W.cell? ⟨Bx, 2, none⟩ = some (.int .i64 x.f2) := by simp [World.cell?, e1]); have hc := hv.cell; have HS := Aside0.mk (And.intro hlt hsize); have hBs : B ≤ W.heap.size := Nat.le_of_lt hv.lt; have HV := Aside0.mk (And.intro hv (And.intro hrow (And.intro hB1 e1))); clear hsize hlt hv e1; (gi_wp2_with (gi_at_builtin; refine wpListIn_append_own _ rfl (.tmp 8) (.tmp 10) 37 rfl B 24 i0 (.agg #[.int .i64 0, .int .i64 0, .int .i64 0]) 3 24 Try.underlying37 hi hz0 hz1 hz2 rfl (by decide) _ _ _ rfl (hrow.alloc _) ⟨W.heap.size, 0, none⟩ 1 1 [.int .i64 x.f0, .int .i64 x.f1, .int .i64 x.f2] rfl rfl (cells_new3 _ _ _ _ _) (by simp [Value.oneCell']) (by have := HS.out; unfold maxLen; omega) (by have := HS.out; omega) (by simp; omega) ?_; intro v' w1 hown' hgrow _; obtain ⟨g', cap', rfl⟩ := ownsRow_succ hown'; obtain ⟨hv1, hv2, hr2, hk2, hb2⟩ := HV.out.1.appended (by decide) HV.out.2.1 hBs (Nat.le_refl _) hown' hgrow; have hc1 := hv1.cell; have hf1 := hv1.frozen)); (refine ownPost_norm' ⟨hk2.from _, keepsWalks_of_others hk2, ⟨⟨_, hv2, ?_, trivial⟩, HV.out.2.2.1.trans (hb2.mono hwB)⟩⟩); rw [flat24_snoc]; (simpa using hr2)
 case done =>
  rintro D1 ys W hD hall ⟨⟨v, hv, hrow, _⟩, hB1⟩ hK; have hc := hv.cell; (gi_wp2); (refine ⟨by simp, .inl ⟨_, _, rfl, run_takeDeferred hK, ?_⟩⟩); (exact ⟨_, results_tmp rfl _ _ _, v, ys, rfl, hall, by rw [HBe.out] at hrow; exact ownsRow_putObj hrow _ hK rfl, hB1.trans (belowK_b (w := w) (Nat.le_refl _) W D1 _ _ (by omega) hK rfl rfl)⟩)
 case stop =>
  rintro D1 c pre W hD hpre h hK; exact h.elim
set_option maxHeartbeats 1000000 in
theorem collect_calls (Bm b nn : Nat) (D : DataW Unit) (w : World) (hBm : Bm < w.heap.size) (hm : w.cell? ⟨Bm, 0, none⟩ = some (.map (some b))) (hown : w.ownsMap Try.prog 24 (plainElem Try.prog 4) b nn D) (hsize : size D ≤ 1099511627776) :
    Calls Try.prog 54 #[.func (.func 56) #[] #[.pointer (some ⟨Bm, 0, none⟩)]] w fun e w' => ∃ v ss, e = .returned v ∧ AllK D ss ∧ w'.ownsRow w.heap.size 24 3 v ss.length (flat24 ss) ∧ Below w.heap.size w w' := by
 have HS := Aside0.mk (appendSeq_calls Bm b nn D w hBm hm hown hsize); (go_enter Try.func54, Try.ntmps54); (go_wp2_with (go_at_call 59; refine HS.out.mono ?_; rintro e w1 ⟨v, ss, rfl, hall, hrow, hb⟩)); (go_ret); exact ⟨v, ss, rfl, hall, hrow, hb⟩
end Go.Proofs.Ytamajnhdibcpiaa.G
namespace Go.Proofs.Ytamajnhdibcpiaa.G
open Go.RowKit Go.Shelf Go.Proofs.YtamajnhdibcpiaaW.PrintWords Go.Proofs.YtamajnhdibcpiaaW.PrintLast Go.Proofs.YtamajnhdibcpiaaW.PrintMore
def cmpK (x y : S24) : Int := if x.f0 < y.f0 then -1 else if y.f0 < x.f0 then 1 else if x.f1 < y.f1 then -1 else if y.f1 < x.f1 then 1 else if x.f2 < y.f2 then -1 else if y.f2 < x.f2 then 1 else 0
def ci (a b : Int) : Int := if a < b then -1 else if b < a then 1 else 0
theorem or3 (x y : S24) : cmp_Or_int.f 6 [ci x.f0 y.f0, ci x.f1 y.f1, ci x.f2 y.f2] = some (cmpK x y) := by
 unfold cmpK ci; (by_cases h1 : x.f0 < y.f0)
 ·simp [h1, cmp_Or_int.f, cmp_Or_int.l0, rd]
 ·by_cases h2 : y.f0 < x.f0
  ·simp [h1, h2, cmp_Or_int.f, cmp_Or_int.l0, rd]
  ·by_cases h3 : x.f1 < y.f1
   ·simp [h1, h2, h3, cmp_Or_int.f, cmp_Or_int.l0, rd, wrap64]
   ·by_cases h4 : y.f1 < x.f1
    ·simp [h1, h2, h3, h4, cmp_Or_int.f, cmp_Or_int.l0, rd, wrap64]
    ·by_cases h5 : x.f2 < y.f2
     ·simp [h1, h2, h3, h4, h5, cmp_Or_int.f, cmp_Or_int.l0, rd, wrap64]
     ·by_cases h6 : y.f2 < x.f2
      ·simp [h1, h2, h3, h4, h5, h6, cmp_Or_int.f, cmp_Or_int.l0, rd, wrap64]
      ·simp [h1, h2, h3, h4, h5, h6, cmp_Or_int.f, cmp_Or_int.l0, rd, wrap64]
def Grew (W X : World) : Prop := ∃ q os, X = Go.Sort.grow (W.drewN q) os
theorem Grew.refl (W : World) : Grew W W := ⟨0, #[], by rw [Go.Sort.grow_empty]; rfl⟩
theorem Grew.drewN {W X : World} (h : Grew W X) (n : Nat) : Grew W (X.drewN n) := by
 obtain ⟨q, os, rfl⟩ := h; (exact ⟨q + n, os, by rw [← World.drewN_drewN]; rfl⟩)
theorem Grew.drew {W X : World} (h : Grew W X) : Grew W X.drew := h.drewN 1
theorem Grew.alloc {W X : World} (h : Grew W X) (o : Obj) : Grew W (X.alloc o) := by
 obtain ⟨q, os, rfl⟩ := h; (exact ⟨q, os ++ #[o], by rw [Go.Sort.alloc_eq_grow, Go.Sort.grow_grow]⟩)
theorem C_new3 (W : World) (a b c : Int) : Kd.C (Kd.int .i64) (W.alloc (.cells #[.int .i64 a, .int .i64 b, .int .i64 c] 3)) (some ⟨W.heap.size, 0, none⟩) ([a, b, c] : List Int).length [a, b, c] := by
 (refine ⟨rfl, by simp, fun _ => ⟨_, rfl, fun j p hj => ⟨[.int .i64 p], rfl, rfl, fun i u hu => ?_⟩⟩⟩); have hb := World.alloc_heap_new W (.cells #[.int .i64 a, .int .i64 b, .int .i64 c] 3); have hs : (Kd.int .i64).sz = 1 := rfl; obtain ⟨hi, hu2⟩ := List.getElem?_eq_some_iff.1 hu; (obtain rfl : i = 0 := by simp at hi; omega); simp at hu2; subst hu2; rw [hs, add_plain, cell_of_row _ _ _ _ _ _ hb]
 match j, hj with
 | 0, hj => cases hj; rfl
 | 1, hj => cases hj; rfl
 | 2, hj => cases hj; rfl
set_option maxRecDepth 100000 in
set_option maxHeartbeats 4000000 in
theorem closure42 (x y : S24) (W : World) : Calls Try.prog 42 #[valK x, valK y] W fun e w' => e = .returned (.int .i64 (cmpK x y)) ∧ Grew W w' := by
 have hu24 := Try.underlying24; simp only [valK]; have h0 : cmp_Compare_int.f x.f0 y.f0 = some (ci x.f0 y.f0) := cmp_int x.f0 y.f0; have h1 : cmp_Compare_int.f x.f1 y.f1 = some (ci x.f1 y.f1) := cmp_int x.f1 y.f1; have h2 : cmp_Compare_int.f x.f2 y.f2 = some (ci x.f2 y.f2) := cmp_int x.f2 y.f2; have h3 := or3 x y; generalize ci x.f0 y.f0 = c0 at h0 h3; generalize ci x.f1 y.f1 = c1 at h1 h3; generalize ci x.f2 y.f2 = c2 at h2 h3; generalize cmpK x y = r at h3 ⊢; have A0 := Aside0.mk h0; have A1 := Aside0.mk h1; have A2 := Aside0.mk h2; have A3 := Aside0.mk h3; clear h0 h1 h2 h3; (go_enter Try.func42, Try.ntmps42); (go_wp2); have hG : Grew W ((W.alloc (.cells #[.int .i64 x.f0, .int .i64 x.f1, .int .i64 x.f2] 24)).alloc (.cells #[.int .i64 y.f0, .int .i64 y.f1, .int .i64 y.f2] 24)) := ((Grew.refl W).alloc _).alloc _; have e1 := (World.alloc_heap_new W (.cells #[.int .i64 x.f0, .int .i64 x.f1, .int .i64 x.f2] 24)); (have e2 : ((W.alloc (.cells #[.int .i64 x.f0, .int .i64 x.f1, .int .i64 x.f2] 24)).alloc (.cells #[.int .i64 y.f0, .int .i64 y.f1, .int .i64 y.f2] 24)).heap[W.heap.size]? = some (.cells #[.int .i64 x.f0, .int .i64 x.f1, .int .i64 x.f2] 24) := (Below.heap_alloc _ _ _ (by simp)).trans e1)
 have e3 : ((W.alloc (.cells #[.int .i64 x.f0, .int .i64 x.f1, .int .i64 x.f2] 24)).alloc (.cells #[.int .i64 y.f0, .int .i64 y.f1, .int .i64 y.f2] 24)).heap[W.heap.size + 1]? = some (.cells #[.int .i64 y.f0, .int .i64 y.f1, .int .i64 y.f2] 24) := by
  have := World.alloc_heap_new (W.alloc (.cells #[.int .i64 x.f0, .int .i64 x.f1, .int .i64 x.f2] 24)) (.cells #[.int .i64 y.f0, .int .i64 y.f1, .int .i64 y.f2] 24); (rwa [World.size_alloc] at this)
 clear e1; generalize (W.alloc (.cells #[.int .i64 x.f0, .int .i64 x.f1, .int .i64 x.f2] 24)).alloc (.cells #[.int .i64 y.f0, .int .i64 y.f1, .int .i64 y.f2] 24) = W1 at hG e2 e3 ⊢; generalize W.heap.size + 1 = H1 at e3 ⊢; generalize W.heap.size = H0 at e2 ⊢; (have a0 : W1.cell? ⟨H0, 0, none⟩ = some (.int .i64 x.f0) := by simp [World.cell?, e2]); (have a1 : W1.cell? ⟨H0, 1, none⟩ = some (.int .i64 x.f1) := by simp [World.cell?, e2]); (have a2 : W1.cell? ⟨H0, 2, none⟩ = some (.int .i64 x.f2) := by simp [World.cell?, e2]); (have b0 : W1.cell? ⟨H1, 0, none⟩ = some (.int .i64 y.f0) := by simp [World.cell?, e3]); (have b1 : W1.cell? ⟨H1, 1, none⟩ = some (.int .i64 y.f1) := by simp [World.cell?, e3]); (have b2 : W1.cell? ⟨H1, 2, none⟩ = some (.int .i64 y.f2) := by simp [World.cell?, e3]); have l0 : H0 < W1.heap.size := (Array.getElem?_eq_some_iff.1 e2).1; have l1 : H1 < W1.heap.size := (Array.getElem?_eq_some_iff.1 e3).1; clear e2 e3
 go_region_held3 (fun w' => (w'.cell? ⟨H0, 0, none⟩ = some (.int .i64 x.f0) ∧ w'.cell? ⟨H0, 1, none⟩ = some (.int .i64 x.f1) ∧ w'.cell? ⟨H0, 2, none⟩ = some (.int .i64 x.f2) ∧ w'.cell? ⟨H1, 0, none⟩ = some (.int .i64 y.f0) ∧ w'.cell? ⟨H1, 1, none⟩ = some (.int .i64 y.f1) ∧ w'.cell? ⟨H1, 2, none⟩ = some (.int .i64 y.f2)) ∧ H0 < w'.heap.size ∧ H1 < w'.heap.size ∧ Grew W w')
  (first | (go_split_ands; refine ⟨⟨?_, ?_, ?_, ?_, ?_, ?_⟩, ?_, ?_, ?_⟩ <;> first | assumption | (simp; omega) | (exact Grew.drew (by assumption)) | (exact Grew.drewN (by assumption) _) | (exact Grew.alloc (by assumption) _) | (rw [World.cell?_alloc_lt _ _ _ (by assumption)]; assumption)))
  (first | (go_at_call_of 51 (Value.int .i64 x.f0); refine (cmp_Compare_int.calls _ _ _ _ A0.out).mono ?_; rintro e w' ⟨rfl, ⟨nd, rfl⟩⟩) | (go_at_call_of 51 (Value.int .i64 x.f1); refine (cmp_Compare_int.calls _ _ _ _ A1.out).mono ?_; rintro e w' ⟨rfl, ⟨nd, rfl⟩⟩) | (go_at_call_of 51 (Value.int .i64 x.f2); refine (cmp_Compare_int.calls _ _ _ _ A2.out).mono ?_; rintro e w' ⟨rfl, ⟨nd, rfl⟩⟩) | (go_at_call 50; refine (cmp_Or_int.calls 6 _ _ _ _ _ (C_new3 _ _ _ _) (by simp) A3.out).mono ?_; rintro e w' ⟨rfl, ⟨nd, rfl⟩⟩) | fail)
 (all_goals go_split_ands); (all_goals go_wp2); (all_goals go_ret); (all_goals exact ⟨rfl, by assumption⟩)
end Go.Proofs.Ytamajnhdibcpiaa.G
namespace Go.Proofs
open Go.Shelf
def Try.sortK_ren : Go.Shelf.Ren := ⟨fun | 6 => 55 | 15 => 61 | 14 => 60 | 28 => 70 | 29 => 71 | 20 => 62 | 21 => 63 | 22 => 64 | 23 => 65 | 24 => 66 | 25 => 67 | 26 => 68 | 27 => 69 | 46 => 72 | 47 => 73 | 48 => 74 | 49 => 75 | 50 => 76 | 57 => 77 | n => n, fun | 22 => 37 | 24 => 24 | 25 => 77 | 3 => 3 | 39 => 95 | 0 => 0 | 53 => 104 | 55 => 106 | 4 => 4 | 46 => 98 | 45 => 97 | 50 => 38 | 5 => 5 | 9 => 9 | 66 => 107 | 70 => 111 | 76 => 113 | 77 => 114 | n => n, fun | n => n⟩
theorem Try.sortK : Go.Proofs.SlLaysF0.n6 Try.prog Try.sortK_ren := {
  mixed := by kernel_rfl
  f6 := ⟨Try.f55.name, by decide, Try.func55.trans (congrArg some (by kernel_rfl))⟩
  f14 := ⟨Try.f60.name, by decide, Try.func60.trans (congrArg some (by kernel_rfl))⟩
  f15 := Try.func61.trans (congrArg some (by kernel_rfl))
  f20 := ⟨Try.f62.name, by decide, Try.func62.trans (congrArg some (by kernel_rfl))⟩
  f21 := ⟨Try.f63.name, by decide, Try.func63.trans (congrArg some (by kernel_rfl))⟩
  f22 := ⟨Try.f64.name, by decide, Try.func64.trans (congrArg some (by kernel_rfl))⟩
  f23 := ⟨Try.f65.name, by decide, Try.func65.trans (congrArg some (by kernel_rfl))⟩
  f24 := ⟨Try.f66.name, by decide, Try.func66.trans (congrArg some (by kernel_rfl))⟩
  f25 := ⟨Try.f67.name, by decide, Try.func67.trans (congrArg some (by kernel_rfl))⟩
  f26 := ⟨Try.f68.name, by decide, Try.func68.trans (congrArg some (by kernel_rfl))⟩
  f27 := ⟨Try.f69.name, by decide, Try.func69.trans (congrArg some (by kernel_rfl))⟩
  f28 := Try.func70.trans (congrArg some (by kernel_rfl))
  f29 := Try.func71.trans (congrArg some (by kernel_rfl))
  f46 := ⟨Try.f72.name, by decide, Try.func72.trans (congrArg some (by kernel_rfl))⟩
  f47 := Try.func73.trans (congrArg some (by kernel_rfl))
  f48 := Try.func74.trans (congrArg some (by kernel_rfl))
  f49 := ⟨Try.f75.name, by decide, Try.func75.trans (congrArg some (by kernel_rfl))⟩
  f50 := ⟨Try.f76.name, by decide, Try.func76.trans (congrArg some (by kernel_rfl))⟩
  f57 := ⟨Try.f77.name, by decide, Try.func77.trans (congrArg some (by kernel_rfl))⟩
  t0 := Try.underlying0
  a0 := Try.isAgg0
  z0 := Try.sizeOf0
  v0 := Try.zeroValue0
  t3 := Try.underlying3
  a3 := Try.isAgg3
  z3 := Try.sizeOf3
  v3 := Try.zeroValue3
  t4 := Try.underlying4
  a4 := Try.isAgg4
  z4 := Try.sizeOf4
  v4 := Try.zeroValue4
  t5 := Try.underlying5
  a5 := Try.isAgg5
  z5 := Try.sizeOf5
  v5 := Try.zeroValue5
  t9 := Try.underlying9
  a9 := Try.isAgg9
  z9 := Try.sizeOf9
  v9 := Try.zeroValue9
  t22 := Try.underlying37
  a22 := Try.isAgg37
  z22 := Try.sizeOf37
  v22 := Try.zeroValue37
  t25 := Try.underlying77
  a25 := Try.isAgg77
  z25 := Try.sizeOf77
  v25 := Try.zeroValue77
  t39 := Try.underlying95
  a39 := Try.isAgg95
  z39 := Try.sizeOf95
  v39 := Try.zeroValue95
  t45 := Try.underlying97
  a45 := Try.isAgg97
  z45 := Try.sizeOf97
  v45 := Try.zeroValue97
  t46 := Try.underlying98
  a46 := Try.isAgg98
  z46 := Try.sizeOf98
  v46 := Try.zeroValue98
  t50 := Try.underlying38
  a50 := Try.isAgg38
  z50 := Try.sizeOf38
  v50 := Try.zeroValue38
  t53 := Try.underlying104
  a53 := Try.isAgg104
  z53 := Try.sizeOf104
  v53 := Try.zeroValue104
  t55 := Try.underlying106
  a55 := Try.isAgg106
  z55 := Try.sizeOf106
  v55 := Try.zeroValue106
  t66 := Try.underlying107
  a66 := Try.isAgg107
  z66 := Try.sizeOf107
  v66 := Try.zeroValue107
  t70 := Try.underlying111
  a70 := Try.isAgg111
  z70 := Try.sizeOf111
  v70 := Try.zeroValue111
  t76 := Try.underlying113
  a76 := Try.isAgg113
  z76 := Try.sizeOf113
  v76 := Try.zeroValue113
  t77 := Try.underlying114
  a77 := Try.isAgg114
  z77 := Try.sizeOf114
  v77 := Try.zeroValue114 }
end Go.Proofs
namespace Go.Proofs.Ytamajnhdibcpiaa.G
open Go.RowKit Go.Shelf Go.Proofs.YtamajnhdibcpiaaW.PrintWords Go.Proofs.YtamajnhdibcpiaaW.PrintLast Go.Proofs.YtamajnhdibcpiaaW.PrintMore
open Go.Sort hiding Below
instance : Inhabited S24 := ⟨z24⟩
def lessK (x y : S24) : Bool := decide (x.f0 < y.f0 ∨ x.f0 = y.f0 ∧ (x.f1 < y.f1 ∨ x.f1 = y.f1 ∧ x.f2 < y.f2))
theorem ltCmp (x y : S24) : ltOf cmpK x y = lessK x y := by
 unfold ltOf cmpK lessK; rw [Bool.eq_iff_iff]; simp only [decide_eq_true_eq]; (repeat' split); (all_goals omega)
theorem swoK : Go.Sort.SWO (ltOf cmpK) where
  irrefl x := by rw [ltCmp]; simp [lessK]
  trans x y z h1 h2 := by rw [ltCmp] at *; simp only [lessK, decide_eq_true_eq] at *; omega
  ntrans x y z h1 h2 := by rw [ltCmp] at *; simp only [lessK, decide_eq_false_iff_not] at *; omega
theorem totK (x y : S24) (h1 : ltOf cmpK x y = false) (h2 : ltOf cmpK y x = false) : x = y := by
 rw [ltCmp] at h1 h2; simp only [lessK, decide_eq_false_iff_not] at h1 h2; (have : x.f0 = y.f0 ∧ x.f1 = y.f1 ∧ x.f2 = y.f2 := by omega); cases x; cases y; simp_all
def sortK (ss : List S24) : List S24 := ss.mergeSort fun x y => !(ltOf cmpK) y x
theorem sortK_perm (ss : List S24) : (sortK ss).Perm ss := List.mergeSort_perm _ _
theorem sortK_length (ss : List S24) : (sortK ss).length = ss.length := (sortK_perm ss).length_eq
theorem sortK_sorted (ss : List S24) : (sortK ss).Pairwise (fun x y => lessK y x = false) := by
  have := List.pairwise_mergeSort (le := fun x y : S24 => !(ltOf cmpK) y x) (fun x y z h1 h2 => by
    simp only [ltCmp, Bool.not_eq_true', lessK, decide_eq_false_iff_not] at *; omega) (fun x y => by
    simp only [ltCmp, Bool.or_eq_true, Bool.not_eq_true', lessK, decide_eq_false_iff_not]; omega) ss
  refine this.imp ?_
  intro a b h
  simpa [ltCmp] using h
theorem flat24_at : ∀ (ss : List S24) (j i : Nat), i < 3 → (flat24 ss)[j * 3 + i]? = (ss[j]?).bind fun x => (enc24 x)[i]?
  | [], j, i, _ => by simp [flat24]
  | x :: r, 0, i, hi => by
    show (enc24 x ++ flat24 r)[0 * 3 + i]? = _
    rw [Nat.zero_mul, Nat.zero_add, List.getElem?_append_left (by simpa [enc24] using hi)]
    rfl
  | x :: r, j + 1, i, hi => by
    show (enc24 x ++ flat24 r)[(j + 1) * 3 + i]? = _
    rw [List.getElem?_append_right (by simp [enc24]; omega)]
    have := flat24_at r j i hi
    rw [show (j + 1) * 3 + i - (enc24 x).length = j * 3 + i by simp [enc24]; omega, this]
    rfl
theorem holds24 {w : World} {base g cap : Nat} {ss : List S24} (h : w.ownsRow base 24 3 (.slice (some ⟨g, 0, none⟩) ss.length cap) ss.length (flat24 ss)) : HoldsK enc24 3 w g 0 ss.toArray := by
 obtain ⟨cur, hh⟩ : ∃ cur, w.heap[g]? = some (.cells cur 24 (0, 0)) := by
  rcases h.2 with ⟨e, _⟩ | ⟨g', cap', cur, e, h1, h2, _⟩
  ·cases e
  ·cases e; exact ⟨cur, h2⟩
 intro t ht; simp only [size_flatK, List.size_toArray] at ht; (have hq : t / 3 < ss.length := by omega); refine ⟨?_, blk_frozen hh _⟩; (rw [get_flatK _ _ _ _ (by simpa using ht)]); (have hx : (ss.toArray)[t / 3]! = ss[t / 3] := by rw [getElem!_pos _ _ (by simpa using hq)]; simp); rw [hx]; (have hf := flat24_at ss (t / 3) (t % 3) (by omega)); (rw [show t / 3 * 3 + t % 3 = t by omega, List.getElem?_eq_getElem hq] at hf); simp only [Option.bind_some] at hf; (have hl : t % 3 < (enc24 ss[t / 3]).length := by simp [enc24]; omega); rw [List.getElem?_eq_getElem hl] at hf; have := h.cells (g := g) rfl t _ hf; rw [add_plain] at this; rw [Nat.zero_add, this, getElem!_pos (enc24 ss[t / 3]) (t % 3) hl]; rfl
theorem reads24 {w : World} {g : Nat} {xs : List S24} (h : HoldsK enc24 3 w g 0 xs.toArray) (hn : xs.length ≤ 9223372036854775807) : Kd.C k24 w (some ⟨g, 0, none⟩) xs.length xs := by
 (refine ⟨rfl, hn, fun _ => ⟨_, rfl, fun j p hj => ⟨enc24 p, rfl, k24_mk w p, fun i u hu => ?_⟩⟩⟩); obtain ⟨hl, hp⟩ := List.getElem?_eq_some_iff.1 hj; (have hi : i < 3 := by have := (List.getElem?_eq_some_iff.1 hu).1; simpa [enc24] using this); have hs : k24.sz = 3 := rfl; (have := (h (j * 3 + i) (by simp only [size_flatK, List.size_toArray]; omega)).1); (rw [get_flatK _ _ _ _ (by simp only [List.size_toArray]; omega), show (j * 3 + i) / 3 = j by omega, show (j * 3 + i) % 3 = i by omega] at this); (rw [getElem!_pos xs.toArray j (by simpa using hl)] at this); simp only [List.getElem_toArray, hp, Nat.zero_add, id] at this; rw [hs, add_plain, this]; obtain ⟨h1, h2⟩ := List.getElem?_eq_some_iff.1 hu; rw [getElem!_pos (enc24 p) i h1, h2]
theorem below_sortedK (w : World) (g m : Nat) (d : Array S24) (os : Array Obj) (base : Nat) (hg : base ≤ g) (hb : base ≤ w.heap.size) : Below base w (sortWorldK enc24 3 w g 0 m d os) := by
 refine ⟨rfl, rfl, rfl, ?_, fun k hk => ?_⟩
 ·(show w.heap.size ≤ ((w.heap.modify g _) ++ os).size); simp
 ·(show ((w.heap.modify g _) ++ os)[k]? = w.heap[k]?); (rw [Array.getElem?_append_left (by simp; omega), Array.getElem?_modify, if_neg (by omega)])
theorem sort_callsK (v : Value) (ss : List S24) (base : Nat) (w : World) (hown : w.ownsRow base 24 3 v ss.length (flat24 ss)) (hb : base ≤ w.heap.size) (hn : ss.length < 4611686018427387904) :
    Calls Try.prog 55 #[v, .func (.func 42) #[] #[]] w fun e w' => e = .returned (.tuple #[]) ∧ Below base w w' ∧ ∃ A c, v = .slice A ss.length c ∧ ss.length ≤ c ∧ Kd.C k24 w' A ss.length (sortK ss) := by
 have hown2 := hown; (rcases hown.2 with ⟨rfl, h0⟩ | ⟨g, cap, cur, rfl, h1, h2, h3, _⟩)
 ·have hx : ss = [] := List.eq_nil_of_length_eq_zero h0; subst hx; have hcon := AnyF.slices_SortFunc_none Try.sortK none 0 (.func (.func 42) #[] #[]) w; (change Calls Try.prog 55 _ _ _ at hcon); refine hcon.mono ?_; rintro e w' ⟨rfl, rfl⟩; (exact ⟨rfl, Below.refl _ _, none, 0, rfl, by simp, by rw [show ([] : List S24).length = (sortK []).length from (sortK_length []).symm]; exact ⟨rfl, by rw [sortK_length]; simp, fun h => absurd h (by rw [sortK_length]; simp)⟩⟩)
 ·have hgl : g < w.heap.size := (Array.getElem?_eq_some_iff.1 h2).1; have hH := holds24 hown2
  have hcon := AnyQ.slices_SortFunc_total Try.sortK 3 (fun w => by kernel_rfl) (fun w => by kernel_rfl) enc24 (fun _ => rfl) (fun x v hv => by simp [enc24] at hv; rcases hv with rfl | rfl | rfl <;> rfl) cmpK swoK 42 #[] g 0 cap ss.toArray w
   (enters_of Try.func42 (by kernel_rfl) rfl) (fun _ _ _ _ x y => closure42 x y _) hH hgl (by simpa using hn) totK
  (change Calls Try.prog 55 _ _ _ at hcon); refine hcon.mono ?_; rintro e w' ⟨rfl, n, os, rfl⟩; have hl : (sortK ss).length = ss.length := sortK_length ss; (refine ⟨rfl, below_sortedK w g n _ os base h1 hb, _, _, rfl, by omega, ?_⟩); (have := Go.Proofs.holdsK_sortWorldK enc24 3 w g 0 n ss.toArray (sortK ss).toArray os hgl hH (by simp [hl])); (have h3 := reads24 this (by omega)); (rwa [hl] at h3)
set_option maxHeartbeats 1000000 in
theorem sorted_calls (Bm b nn : Nat) (D : Go.DataW Unit) (w : World) (hBm : Bm < w.heap.size) (hm : w.cell? ⟨Bm, 0, none⟩ = some (.map (some b))) (hown : w.ownsMap Try.prog 24 (plainElem Try.prog 4) b nn D) (hsize : Go.Maps.size D ≤ 1099511627776) (hcap : ∀ ss, AllK D ss → ss.length ≤ 1099511627776) :
    Calls Try.prog 40 #[.func (.func 56) #[] #[.pointer (some ⟨Bm, 0, none⟩)], .func (.func 42) #[] #[]] w fun e w' => ∃ ss A c, AllK D ss ∧ e = .returned (.slice A ss.length c) ∧ ss.length ≤ c ∧ Kd.C k24 w' A ss.length (sortK ss) ∧ Below w.heap.size w w' := by
 have HS := Aside0.mk (collect_calls Bm b nn D w hBm hm hown hsize); have HC := Aside0.mk hcap; clear hcap hown hm; (go_enter Try.func40, Try.ntmps40); (go_wp2_with (first | (go_at_call 54; refine HS.out.mono ?_; rintro e w1 ⟨v, ss, rfl, hall, hrow, hb⟩; have HA := Aside0.mk hall; have HB := Aside0.mk hb; clear hall hb) | (go_at_call 55; refine (sort_callsK v ss w.heap.size w1 hrow HB.out.size (by have := HC.out ss HA.out; omega)).mono ?_; rintro e w2 ⟨rfl, hb2, A, c, rfl, hc, hC⟩; have HD := Aside0.mk (And.intro hb2 hC); clear hb2 hC hrow))); (go_ret); exact ⟨ss, A, c, HA.out, rfl, hc, HD.out.2, HB.out.trans HD.out.1⟩
end Go.Proofs.Ytamajnhdibcpiaa.G
namespace Go.Proofs.Ytamajnhdibcpiaa.G
open Go.RowKit Go.Shelf Go.Maps Go.Proofs.YtamajnhdibcpiaaW.PrintWords Go.Proofs.YtamajnhdibcpiaaW.PrintLast Go.Proofs.YtamajnhdibcpiaaW.PrintMore
theorem lessK_irrefl (x : S24) : lessK x x = false := by simp [lessK]
theorem lessK_trans {x y z : S24} (h1 : lessK x y = true) (h2 : lessK y z = true) : lessK x z = true := by simp only [lessK, decide_eq_true_eq] at *; omega
theorem lessK_tot {x y : S24} (h1 : lessK x y = false) (h2 : lessK y x = false) : x = y := totK x y (by rw [ltCmp]; exact h1) (by rw [ltCmp]; exact h2)
def insK (k : S24) : List S24 → List S24
  | [] => [k]
  | x :: r => if lessK k x = true then k :: x :: r else if lessK x k = true then x :: insK k r else x :: r
def keysM (l : List S28) : List S24 := l.foldl (fun acc x => insK x.f0 acc) []
theorem mem_insK (k z : S24) : ∀ l : List S24, z ∈ insK k l ↔ z = k ∨ z ∈ l
  | [] => by simp [insK]
  | x :: r => by
    unfold insK
    split
    · simp
    · split
      · simp only [List.mem_cons, mem_insK k z r]
        constructor <;> (intro h; rcases h with h | h | h <;> simp [h])
      · rename_i h1 h2
        have : k = x := lessK_tot (by simpa using h1) (by simpa using h2)
        subst this
        simp
theorem insK_sorted (k : S24) : ∀ l : List S24, l.Pairwise (fun x y => lessK x y = true) → (insK k l).Pairwise (fun x y => lessK x y = true)
  | [], _ => by simp [insK]
  | x :: r, h => by
    obtain ⟨h1, h2⟩ := List.pairwise_cons.1 h
    unfold insK
    split
    · rename_i hk
      refine List.pairwise_cons.2 ⟨fun z hz => ?_, h⟩
      rcases List.mem_cons.1 hz with rfl | hz
      · exact hk
      · exact lessK_trans hk (h1 z hz)
    · split
      · rename_i hx
        refine List.pairwise_cons.2 ⟨fun z hz => ?_, insK_sorted k r h2⟩
        rcases (mem_insK k z r).1 hz with rfl | hz
        · exact hx
        · exact h1 z hz
      · exact h
theorem keysFold_mem (z : S24) : ∀ (l : List S28) (acc : List S24), z ∈ l.foldl (fun acc x => insK x.f0 acc) acc ↔ z ∈ acc ∨ ∃ x ∈ l, x.f0 = z
  | [], acc => by simp
  | x :: r, acc => by
    rw [List.foldl_cons, keysFold_mem z r, mem_insK]
    constructor
    · rintro ((h | h) | ⟨y, hy, e⟩)
      · exact .inr ⟨x, by simp, h.symm⟩
      · exact .inl h
      · exact .inr ⟨y, by simp [hy], e⟩
    · rintro (h | ⟨y, hy, e⟩)
      · exact .inl (.inr h)
      · rcases List.mem_cons.1 hy with rfl | hy
        · exact .inl (.inl e.symm)
        · exact .inr ⟨y, hy, e⟩
theorem mem_keysM (z : S24) (l : List S28) : z ∈ keysM l ↔ ∃ x ∈ l, x.f0 = z := by rw [keysM, keysFold_mem]; simp
theorem keysFold_sorted : ∀ (l : List S28) (acc : List S24), acc.Pairwise (fun x y => lessK x y = true) → (l.foldl (fun acc x => insK x.f0 acc) acc).Pairwise (fun x y => lessK x y = true)
  | [], acc, h => h
  | x :: r, acc, h => keysFold_sorted r _ (insK_sorted _ _ h)
theorem keysM_sorted (l : List S28) : (keysM l).Pairwise (fun x y => lessK x y = true) := keysFold_sorted l [] List.Pairwise.nil
theorem rising_unique : ∀ (a b : List S24), a.Pairwise (fun x y => lessK x y = true) → b.Pairwise (fun x y => lessK x y = true) → (∀ z, z ∈ a ↔ z ∈ b) → a = b
  | [], [], _, _, _ => rfl
  | [], y :: s, _, _, h => by have := (h y).2 (by simp); simp at this
  | x :: r, [], _, _, h => by have := (h x).1 (by simp); simp at this
  | x :: r, y :: s, ha, hb, h => by
    obtain ⟨a1, a2⟩ := List.pairwise_cons.1 ha
    obtain ⟨b1, b2⟩ := List.pairwise_cons.1 hb
    have hxy : x = y := by
      rcases List.mem_cons.1 ((h x).1 (by simp)) with e | hx
      · exact e
      · rcases List.mem_cons.1 ((h y).2 (by simp)) with e | hy
        · exact e.symm
        · have := lessK_trans (b1 x hx) (a1 y hy)
          rw [lessK_irrefl] at this; cases this
    subst hxy
    congr 1
    refine rising_unique r s a2 b2 (fun z => ?_)
    constructor
    · intro hz
      rcases List.mem_cons.1 ((h z).1 (by simp [hz])) with e | h'
      · subst e; have := a1 z hz; rw [lessK_irrefl] at this; cases this
      · exact h'
    · intro hz
      rcases List.mem_cons.1 ((h z).2 (by simp [hz])) with e | h'
      · subst e; have := b1 z hz; rw [lessK_irrefl] at this; cases this
      · exact h'
theorem sortK_rising {ss : List S24} (hn : ss.Nodup) : (sortK ss).Pairwise (fun x y => lessK x y = true) := by
 have h1 := sortK_sorted ss; have h2 : (sortK ss).Nodup := (sortK_perm ss).nodup_iff.2 hn; refine (h1.and h2).imp ?_; rintro a b ⟨h3, h4⟩
 cases h : lessK a b with
 | true => rfl
 | false => exact absurd (lessK_tot h h3) h4
def Dset (l : List S28) : Go.DataW Unit := setOf (.lit (.bool true)) (l.map fun x => litK x.f0)
theorem Dset_snoc (l : List S28) (x : S28) : Dset (l ++ [x]) = (Dset l).put (litK x.f0) (.lit (.bool true)) := by
 unfold Dset; rw [List.map_append, List.map_cons, List.map_nil, setOf_snoc]
theorem litK_key (l : List S28) : ∀ x ∈ l.map (fun x => litK x.f0), WideAt.IsKeyLit x := by
 intro x hx; obtain ⟨y, _, rfl⟩ := List.mem_map.1 hx; (trivial)
theorem has_Dset (l : List S28) (hw : ∀ x ∈ l, wfK x.f0 = true) (z : S24) (hz : wfK z = true) : has (Dset l) (litK z) = true ↔ ∃ x ∈ l, x.f0 = z := by
 unfold Dset; rw [has_setOf _ _ _ (litK_key l), List.any_map, List.any_eq_true]; constructor
 ·rintro ⟨x, hx, h⟩; simp only [Function.comp, litK_same (hw x hx) hz, decide_eq_true_eq] at h; exact ⟨x, hx, h⟩
 ·rintro ⟨x, hx, rfl⟩; (exact ⟨x, hx, by simp [Function.comp, litK_same (hw x hx) hz]⟩)
theorem allK_keys {l : List S28} (hw : ∀ x ∈ l, wfK x.f0 = true) {ss : List S24} (h : AllK (Dset l) ss) : sortK ss = keysM l := by
 (refine rising_unique _ _ (sortK_rising h.1) (keysM_sorted l) (fun z => ?_)); rw [(sortK_perm ss).mem_iff, h.2 z, mem_keysM]; constructor
 ·rintro ⟨h1, h2⟩; exact (has_Dset l hw z h1).1 h2
 ·rintro ⟨x, hx, rfl⟩; exact ⟨hw x hx, (has_Dset l hw _ (hw x hx)).2 ⟨x, hx, rfl⟩⟩
theorem addKey_length (xs : List Lit) : ∀ acc : List Lit, (xs.foldl addKey acc).length ≤ acc.length + xs.length := by
 induction xs with
 | nil => intro acc; simp
 | cons x r ih =>
  intro acc; rw [List.foldl_cons]; have := ih (addKey acc x); (have h2 : (addKey acc x).length ≤ acc.length + 1 := by unfold addKey; split <;> simp); simp only [List.length_cons]; omega
theorem size_Dset (l : List S28) : size (Dset l) ≤ l.length := by
 unfold Dset; rw [size_setOf _ _ (litK_key l)]; (have := addKey_length (l.map fun x => litK x.f0) []); (simpa using this)
theorem keysM_length (l : List S28) : (keysM l).length ≤ l.length := by
 have h : ∀ (l : List S28) (acc : List S24), (l.foldl (fun acc x => insK x.f0 acc) acc).length ≤ acc.length + l.length := by
  intro l
  induction l with
  | nil => intro acc; simp
  | cons x r ih =>
   intro acc; rw [List.foldl_cons]; have h1 := ih (insK x.f0 acc)
   have h2 : ∀ acc : List S24, (insK x.f0 acc).length ≤ acc.length + 1 := by
    intro acc
    induction acc with
    | nil => simp [insK]
    | cons y s ih2 => unfold insK; split <;> (try split) <;> simp <;> omega
   have := h2 acc; simp only [List.length_cons]; omega
 have := h l []; (simpa [keysM] using this)
end Go.Proofs.Ytamajnhdibcpiaa.G
namespace Go.Proofs.Ytamajnhdibcpiaa.G
open Go.RowKit Go.Shelf Go.Proofs.YtamajnhdibcpiaaW.PrintWords Go.Proofs.YtamajnhdibcpiaaW.PrintLast Go.Proofs.YtamajnhdibcpiaaW.PrintMore
def TS (W : World) (n0 : Nat) (v6 : Value) (acc : List S57) (v14 : Value) (ts : List S26) : Prop := Kd.S k57 57 W n0 (fun k_ => some k_ ≠ v14.ownBlock) v6 acc ∧ Kd.R k26 26 W n0 (fun _ => True) v14 ts
theorem TS.below {W W' : World} {n0 : Nat} {v6 v14 : Value} {acc : List S57} {ts : List S26} (h : TS W n0 v6 acc v14 ts) (hb : Below W.heap.size W W') : TS W' n0 v6 acc v14 ts := ⟨Kd.S_below h.1 hb, Kd.R_below h.2 hb⟩
theorem TS.start {W : World} {n0 : Nat} {v6 : Value} {acc : List S57} (h : Kd.S k57 57 W n0 (fun _ => True) v6 acc) : TS W n0 v6 acc (.slice none 0 0) [] := ⟨Kd.S_mono h (fun k_ _ => by simp [Value.ownBlock]), Kd.R_nil _ _ _ _ _⟩
theorem info26g : (Try.prog.info? 26).map (fun i => (i.zero, i.size, i.bytes)) = some (some (.agg #[(.int .i64 0), (.int .i64 0)]), 2, 16) := by kernel_rfl
theorem info57g : (Try.prog.info? 57).map (fun i => (i.zero, i.size, i.bytes)) = some (some (.agg #[(.int .i64 0), (.int .i64 0), (.int .i64 0), (.slice none 0 0)]), 4, 48) := by kernel_rfl
section
variable {ops : Array Oper} {rest : List Oper} {o : Oper} {a : Act} {Q : Exit → Act → World → Prop}
theorem TS_append {w0 W : World} {n0 H : Nat} {v6 v14 : Value} {acc : List S57} {ts : List S26} {x y : Int} (s q : Tmp) (ho : o.op = .call { callee := .builtin .append, args := #[.tmp s, .tmp q], argTypes := #[55, 55] }) (hgd : o.guard = none)
    (hs : a.eval (.tmp s) = v14) (hx : a.eval (.tmp q) = .slice (some ⟨H, 0, none⟩) 1 1) (hH : W.heap.size = H) (HT : TS W n0 v6 acc v14 ts) (HB : Below n0 w0 W) (hbase : n0 ≤ W.heap.size) (hl : ts.length ≤ 1024)
    (h : ∀ v1 w1, TS w1 n0 v6 acc v1 (ts ++ [⟨x, y⟩]) → Below n0 w0 w1 → wpList Try.prog ops Q rest (a.put o.dst v1) w1) :
    wpList Try.prog ops Q (o :: rest) a (W.alloc (.cells #[.int .i64 x, .int .i64 y] 26)) := by
 subst hH; (refine Kd.R_append k26 (w0 := w0) n0 hgd (.tmp s) (.tmp q) 55 26 (.agg #[.int .i64 0, .int .i64 0]) 16 ho Try.underlying55 info26g rfl (by decide) (by omega) v14 ts (⟨x, y⟩ : S26) [.int .i64 x, .int .i64 y] (fun _ => True) (fun _ => False) hs hx (k26_mkM _ _ _ (⟨x, y⟩ : S26)) (fun _ h => h.elim) (fun _ _ => trivial) HT.2 HB hbase (by omega) ?_); intro v1 w1 ho1 hb hg hat; (exact h v1 w1 ⟨Kd.S_mono (Kd.S_after (ok := (fun _ => True)) (Kd.S_mono HT.1 (fun _ hk => ⟨trivial, hk⟩)) hg hat) (fun _ hk => hk.2), ho1⟩ hb)
theorem S_append57 {w0 W : World} {n0 H : Nat} {v6 : Value} {acc : List S57} {ts : List S26} {A : Option Addr} {c : Nat} {key : S24} (s q : Tmp) (ho : o.op = .call { callee := .builtin .append, args := #[.tmp s, .tmp q], argTypes := #[46, 46] }) (hgd : o.guard = none)
    (hs : a.eval (.tmp s) = v6) (hx : a.eval (.tmp q) = .slice (some ⟨H, 0, none⟩) 1 1) (hH : W.heap.size = H) (HT : TS W n0 v6 acc (.slice A ts.length c) ts) (HB : Below n0 w0 W) (hbase : n0 ≤ W.heap.size) (hl : acc.length ≤ 1099511627776)
    (h : ∀ v1 w1, Kd.S k57 57 w1 n0 (fun _ => True) v1 (acc ++ [⟨key, ts⟩]) → Below n0 w0 w1 → wpList Try.prog ops Q rest (a.put o.dst v1) w1) :
    wpList Try.prog ops Q (o :: rest) a (W.alloc (.cells #[.int .i64 key.f0, .int .i64 key.f1, .int .i64 key.f2, .slice A ts.length c] 57)) := by
 subst hH; (have hap := Kd.R_apart' HT.2 (Kd.S_typed HT.1) (by decide))
 refine Kd.S_append k57 (w0 := w0) n0 hgd (.tmp s) (.tmp q) 46 57 (.agg #[(.int .i64 0), (.int .i64 0), (.int .i64 0), (.slice none 0 0)]) 48 ho Try.underlying46 info57g rfl (by decide) (by omega) v6 acc (⟨key, ts⟩ : S57) [.int .i64 key.f0, .int .i64 key.f1, .int .i64 key.f2, .slice A ts.length c] (fun _ => True) (fun k_ => some k_ = (.slice A ts.length c : Value).ownBlock) hs hx
  (k57_mkM _ _ _ (⟨key, ts⟩ : S57) (Kd.R_mono (Kd.R_tight rfl (Kd.R_mono (ok' := fun k_ => ((fun _ => True)) k_ ∧ some k_ ≠ (v6 : Value).ownBlock) hap (fun k_ hk => ⟨trivial, hk.2⟩))) (fun _ h_ => h_)))
  (fun k_ hk_ => (Kd.R_mono (ok' := fun k_ => ((fun _ => True)) k_ ∧ some k_ ≠ (v6 : Value).ownBlock) hap (fun k_ hk => ⟨trivial, hk.2⟩)).1 k_ hk_.symm) (fun _ _ => trivial) (Kd.S_mono HT.1 (fun k_ hk => ⟨trivial, fun e_ => hk e_⟩)) HB hbase (by omega) ?_
 intro v1 w1 ho1 hb hg hat; exact h v1 w1 ho1 hb
end
theorem TS_store {W : World} {n0 : Nat} {v6 : Value} {acc : List S57} {ts : List S26} {g c : Nat} (HT : TS W n0 v6 acc (.slice (some ⟨g, 0, none⟩) ts.length c) ts) (i : Nat) (hi : i < ts.length) (u : Int) :
    TS (W.setCell ⟨g, i * 2 + 1, none⟩ (.int .i64 u)) n0 v6 acc (.slice (some ⟨g, 0, none⟩) ts.length c) (ts.set i ⟨(ts.getD i z26).f0, u⟩) ∧ Below n0 W (W.setCell ⟨g, i * 2 + 1, none⟩ (.int .i64 u)) := by
 have hsz : k26.sz = 2 := rfl
 obtain ⟨cur, hh, hcs, hn⟩ : ∃ cur, W.heap[g]? = some (.cells cur 26 (0, 0)) ∧ ts.length * 2 ≤ cur.size ∧ n0 ≤ g := by
  obtain ⟨_, inner, ho, hr⟩ := HT.2; (rcases ho.2 with ⟨e, _⟩ | ⟨g', cap', cur, e, h1, h2, h3, h4, h5, h6⟩)
  ·cases e
  ·cases e; rw [hsz] at h5; (exact ⟨cur, h2, by omega, h1⟩)
 (obtain ⟨ce, hcl, hM, hcc, hfr⟩ := Kd.R_elem HT.2 z26 (i : Int) (by omega) (by omega)); obtain rfl := k26_openM hM; (obtain ⟨hp1, hp2⟩ := Kd.R_seg HT.2 (i : Int) (by omega) (by omega) (seg := [.int .i64 u]) (j := 1) hcl hcc (show 2 ≤ 2 from by decide) (x' := (⟨(ts.getD (i : Int).toNat z26).f0, u⟩ : S26)) (k26_mkM _ _ _ (⟨(ts.getD (i : Int).toNat z26).f0, u⟩ : S26)) (fun _ hk => hk)); simp only [Int.toNat_natCast, hsz] at hp1 hp2; have hset : W.setCells g (i * 2 + 1) [.int .i64 u] = W.setCell ⟨g, i * 2 + 1, none⟩ (.int .i64 u) := rfl; rw [hset] at hp1 hp2; refine ⟨⟨?_, hp1⟩, ?_⟩
 ·exact Kd.S_mono (Kd.S_after (v := (.slice (some ⟨g, 0, none⟩) ts.length c)) (v1 := (.slice (some ⟨g, 0, none⟩) ts.length c)) (ok := (fun _ => True)) (Kd.S_mono HT.1 (fun _ hk => ⟨trivial, hk⟩)) hp2 (.inl rfl)) (fun _ hk => hk.2)
 ·exact ((Below.refl n0 W).grown hp2 (by have := (Array.getElem?_eq_some_iff.1 hh).1; omega) (fun k hk => by cases hk; exact hn))
end Go.Proofs.Ytamajnhdibcpiaa.G
namespace Go.Proofs.Ytamajnhdibcpiaa.G
open Go.RowKit Go.Shelf
section
variable {P : Program} {ops : Array Oper} {Q : Exit → Act → World → Prop}
theorem mem_ready {listed : Array Bool} {i : Nat} : i ∈ Region.ready .any ops listed ↔ i < ops.size ∧ listed.getD i true = false ∧ ∀ o, ops[i]? = some o → ∀ e ∈ o.after, Region.binds .any e = true → listed.getD e.on false = true := by
 unfold Region.ready; rw [List.mem_filter, List.mem_range]; constructor
 ·rintro ⟨h1, h2⟩; rw [Bool.and_eq_true] at h2; obtain ⟨h2, h3⟩ := h2; (refine ⟨h1, by simpa using h2, fun o ho e he hb => ?_⟩); rw [ho] at h3; simp only [Option.map_some, Option.getD_some, Array.all_eq_true_iff_forall_mem] at h3; have := h3 e he; rw [hb] at this; (simpa using this)
 ·rintro ⟨h1, h2, h3⟩; refine ⟨h1, ?_⟩; rw [Bool.and_eq_true]; (refine ⟨by simpa using h2, ?_⟩); have ho : ops[i]? = some (ops[i]) := Array.getElem?_eq_getElem h1; rw [ho]; simp only [Option.map_some, Option.getD_some, Array.all_eq_true_iff_forall_mem]; intro e he
  cases hb : Region.binds .any e with
  | false => simp
  | true => simpa using h3 _ ho e he hb
def unlisted (n : Nat) (listed : Array Bool) : Nat := ((List.range n).filter fun i => !listed.getD i true).length
theorem unlisted_set {n i : Nat} {listed : Array Bool} (hs : listed.size = n) (hi : i < n) (h : listed.getD i true = false) : unlisted n (listed.setIfInBounds i true) < unlisted n listed := by
 unfold unlisted
 have e : ((List.range n).filter fun j => !(listed.setIfInBounds i true).getD j true) = (((List.range n).filter fun j => !listed.getD j true).filter fun j => !(listed.setIfInBounds i true).getD j true) := by
  rw [List.filter_filter]; apply List.filter_congr; intro j hj; (by_cases hji : j = i)
  ·subst hji; simp [Array.getD_eq_getD_getElem?, hs, hi]
  ·simp [Array.getD_eq_getD_getElem?, Array.getElem?_setIfInBounds, Ne.symm hji]
 rw [e]; refine List.length_filter_lt_length_iff_exists.2 ⟨i, ?_, ?_⟩
 ·rw [List.mem_filter]; exact ⟨List.mem_range.2 hi, by simp [h]⟩
 ·simp [Array.getD_eq_getD_getElem?, hs, hi]
theorem all_listed {n : Nat} {listed : Array Bool} (h : unlisted n listed = 0) : ∀ i, i < n → listed.getD i true = true := by
 intro i hi
 cases hl : listed.getD i true with
 | true => rfl
 | false =>
  (have : i ∈ (List.range n).filter fun i => !listed.getD i true := List.mem_filter.2 ⟨List.mem_range.2 hi, by simp [hl]⟩); rw [List.eq_nil_of_length_eq_zero h] at this; simp at this
def setL (L : Nat → Bool) (i : Nat) : Nat → Bool := fun j => if j = i then true else L j
theorem ready_nil (hac : ∀ (i : Nat) (o : Oper), ops[i]? = some o → ∀ e ∈ o.after, e.on < i) {listed : Array Bool} (hs : listed.size = ops.size) (h : Region.ready .any ops listed = []) : ∀ i, i < ops.size → listed.getD i true = true := by
  intro i
  induction i using Nat.strongRecOn with
  | ind i ih =>
    intro hi
    cases hl : listed.getD i true with
    | true => rfl
    | false =>
      have : i ∈ Region.ready .any ops listed := mem_ready.2 ⟨hi, hl, fun o ho e he hb => by
        have h1 := hac i o ho e he
        have h2 := ih e.on h1 (by omega)
        rw [Array.getD_eq_getD_getElem?] at h2 ⊢
        rw [Array.getElem?_eq_getElem (by omega)] at h2 ⊢
        exact h2⟩
      rw [h] at this
      simp at this
theorem wpAny_inv (hac : ∀ (i : Nat) (o : Oper), ops[i]? = some o → ∀ e ∈ o.after, e.on < i) (I : (Nat → Bool) → Act → World → Prop)
    (hstep : ∀ (L : Nat → Bool) (a : Act) (w : World) (i : Nat) (o : Oper), ops[i]? = some o → L i = false → (∀ e ∈ o.after, Region.binds .any e = true → L e.on = true) → I L a w → wpOp P ops Q i (fun a' w' => I (setL L i) a' w') a w)
    (hend : ∀ L a w, (∀ i, i < ops.size → L i = true) → I L a w → Q .normal a w) :
    ∀ (fuel : Nat) (listed : Array Bool) (a : Act) (w : World), listed.size = ops.size → unlisted ops.size listed ≤ fuel → I (fun i => listed.getD i true) a w → wpAny P .any ops Q fuel listed a w := by
 intro fuel
 induction fuel with
 | zero =>
  intro listed a w hs hu hI; have hall := all_listed (Nat.le_zero.1 hu); refine ⟨?_, hend _ _ _ hall hI⟩; apply List.eq_nil_iff_forall_not_mem.2; intro i hi; obtain ⟨h1, h2, _⟩ := mem_ready.1 hi; rw [hall i h1] at h2; cases h2
 | succ fuel ih =>
  intro listed a w hs hu hI; (refine ⟨fun hr => hend _ _ _ (ready_nil hac hs hr) hI, fun i hi => ?_⟩); obtain ⟨h1, h2, h3⟩ := mem_ready.1 hi; have ho : ops[i]? = some (ops[i]) := Array.getElem?_eq_getElem h1; (refine wpOp_mono (fun a' w' h' => ih _ a' w' (by simpa using hs) (by have := unlisted_set hs h1 h2; omega) ?_) (hstep _ a w i _ ho h2 (fun e he hb => ?_) hI))
  ·have : (fun j => (listed.setIfInBounds i true).getD j true) = setL (fun j => listed.getD j true) i := by
    (funext j); unfold setL; (by_cases hji : j = i)
    ·subst hji; simp [Array.getD_eq_getD_getElem?, hs, h1]
    ·simp [Array.getD_eq_getD_getElem?, Array.getElem?_setIfInBounds, Ne.symm hji, hji]
   rw [this]; exact h'
  ·have := h3 _ ho e he hb; rw [Array.getD_eq_getD_getElem?] at this ⊢
   cases hq : listed[e.on]? with
   | none => rfl
   | some b => rw [hq] at this; simpa using this
theorem wp_region_inv {id : Nat} {a : Act} {w : World} (hm : P.follows .mixedOrders = true) (hac : ∀ (i : Nat) (o : Oper), ops[i]? = some o → ∀ e ∈ o.after, e.on < i) (I : (Nat → Bool) → Act → World → Prop)
    (h0 : I (fun i => decide (ops.size ≤ i)) a w.drew)
    (hstep : ∀ (L : Nat → Bool) (a : Act) (w : World) (i : Nat) (o : Oper), ops[i]? = some o → L i = false → (∀ e ∈ o.after, Region.binds .any e = true → L e.on = true) → I L a w → wpOp P ops Q i (fun a' w' => I (setL L i) a' w') a w)
    (hend : ∀ L a w, (∀ i, i < ops.size → L i = true) → I L a w → Q .normal a w) : (Code.region id ops true).wp P Q a w := by
 refine wp_region_any hm (wpAny_inv hac I hstep hend ops.size _ _ _ (by simp) ?_ ?_)
 ·unfold unlisted; (have := List.length_filter_le (fun i => !(Array.replicate ops.size false).getD i true) (List.range ops.size)); (simpa using this)
 ·have : (fun i => (Array.replicate ops.size false).getD i true) = fun i => decide (ops.size ≤ i) := by
   (funext i); rw [Array.getD_eq_getD_getElem?]; (by_cases h : i < ops.size)
   ·simp [h]
   ·simp [h]; omega
  rw [this]; exact h0
end
end Go.Proofs.Ytamajnhdibcpiaa.G
namespace Go.Proofs.Ytamajnhdibcpiaa.G
open Go.RowKit Go.Shelf Go.Proofs.YtamajnhdibcpiaaW.PrintWords Go.Proofs.YtamajnhdibcpiaaW.PrintLast Go.Proofs.YtamajnhdibcpiaaW.PrintMore
def twoOps : Array Oper := #[{ dst := some 36, op := Go.Op.move (Go.Operand.tmp 0), type := 22, pos := "facts.go:123", after := #[], guard := none }, { dst := some 37, op := Go.Op.load 24 (Go.Operand.tmp 11), type := 24, pos := "facts.go:123", after := #[], guard := none }, { dst := some 38, op := Go.Op.move (Go.Operand.tmp 1), type := 3, pos := "facts.go:123", after := #[], guard := none }, { dst := some 39, op := Go.Op.call { callee := Go.Callee.value (Go.Operand.func 39), args := #[Go.Operand.tmp 36, Go.Operand.tmp 37, Go.Operand.tmp 38], argTypes := #[22, 24, 3] }, type := 70, pos := "facts.go:123", after := #[{ on := 0, ground := Go.Ground.data }, { on := 1, ground := Go.Ground.data }, { on := 2, ground := Go.Ground.data }], guard := none }, { dst := some 40, op := Go.Op.move (Go.Operand.tmp 0), type := 22, pos := "facts.go:123", after := #[], guard := none }, { dst := some 41, op := Go.Op.load 24 (Go.Operand.tmp 11), type := 24, pos := "facts.go:123", after := #[], guard := none }, { dst := some 42, op := Go.Op.move (Go.Operand.tmp 2), type := 3, pos := "facts.go:123", after := #[], guard := none }, { dst := some 43, op := Go.Op.call { callee := Go.Callee.value (Go.Operand.func 39), args := #[Go.Operand.tmp 40, Go.Operand.tmp 41, Go.Operand.tmp 42], argTypes := #[22, 24, 3] }, type := 70, pos := "facts.go:123", after := #[{ on := 4, ground := Go.Ground.data }, { on := 5, ground := Go.Ground.data }, { on := 6, ground := Go.Ground.data }, { on := 3, ground := Go.Ground.chain }], guard := none }, { dst := some 12, op := Go.Op.alloc 70, type := 0, pos := "facts.go:123", after := #[], guard := none }, { dst := some 13, op := Go.Op.alloc 70, type := 0, pos := "facts.go:123", after := #[], guard := none }, { dst := none, op := Go.Op.store 70 (Go.Operand.tmp 12) (Go.Operand.tmp 39), type := 0, pos := "facts.go:123", after := #[{ on := 8, ground := Go.Ground.data }, { on := 3, ground := Go.Ground.data }, { on := 7, ground := Go.Ground.chain }, { on := 0, ground := Go.Ground.phase }, { on := 1, ground := Go.Ground.phase }, { on := 2, ground := Go.Ground.phase }, { on := 3, ground := Go.Ground.phase }, { on := 4, ground := Go.Ground.textOnly Go.Departure.lateStores }, { on := 5, ground := Go.Ground.textOnly Go.Departure.lateStores }, { on := 6, ground := Go.Ground.textOnly Go.Departure.lateStores }, { on := 7, ground := Go.Ground.textOnly Go.Departure.lateStoresUnsure }, { on := 8, ground := Go.Ground.phase }, { on := 9, ground := Go.Ground.phase }], guard := none }, { dst := none, op := Go.Op.store 70 (Go.Operand.tmp 13) (Go.Operand.tmp 43), type := 0, pos := "facts.go:123", after := #[{ on := 9, ground := Go.Ground.data }, { on := 7, ground := Go.Ground.data }, { on := 10, ground := Go.Ground.chain }, { on := 0, ground := Go.Ground.phase }, { on := 1, ground := Go.Ground.phase }, { on := 2, ground := Go.Ground.phase }, { on := 3, ground := Go.Ground.phase }, { on := 4, ground := Go.Ground.phase }, { on := 5, ground := Go.Ground.phase }, { on := 6, ground := Go.Ground.phase }, { on := 7, ground := Go.Ground.phase }, { on := 8, ground := Go.Ground.phase }, { on := 9, ground := Go.Ground.phase }, { on := 10, ground := Go.Ground.phase }], guard := none }]
structure RS (T : Array Value) (W : World) (E : Nat → Value) (Va Vb : Array Value) (L : Nat → Bool) (a : Act) (w : World) : Prop where
  defers : a.defers = []
  size : a.tmps.size = T.size
  same : ∀ j, j ≠ 12 → j ≠ 13 → ¬ (36 ≤ j ∧ j ≤ 43) → a.tmps[j]? = T[j]?
  below : Below W.heap.size W w
  hv : ∀ i, i < 8 → L i = true → a.tmps[36 + i]? = some (E i)
  h8 : L 8 = true → ∃ p, a.tmps[12]? = some (.pointer (some ⟨p, 0, none⟩)) ∧ W.heap.size ≤ p ∧ ∃ Z, w.heap[p]? = some (.cells Z 70 (0, 0)) ∧ Z.size = 1024 ∧ (L 10 = true → Z = Va)
  h9 : L 9 = true → ∃ q, a.tmps[13]? = some (.pointer (some ⟨q, 0, none⟩)) ∧ W.heap.size ≤ q ∧ ∃ Z, w.heap[q]? = some (.cells Z 70 (0, 0)) ∧ Z.size = 1024 ∧ (L 11 = true → Z = Vb)
  ne : L 8 = true → L 9 = true → ∀ p q, a.tmps[12]? = some (.pointer (some ⟨p, 0, none⟩)) → a.tmps[13]? = some (.pointer (some ⟨q, 0, none⟩)) → p ≠ q
  d10 : L 10 = true → L 8 = true
  d11 : L 11 = true → L 9 = true
theorem put_at {a : Act} {n j : Nat} {v : Value} : (a.put (some n) v).tmps[j]? = if n = j then (if n < a.tmps.size then some v else none) else a.tmps[j]? := by
 (show (a.tmps.setIfInBounds n v)[j]? = _); rw [Array.getElem?_setIfInBounds]
theorem eval_of {a : Act} {n : Nat} {v : Value} (h : a.tmps[n]? = some v) : a.eval (.tmp n) = v := by
 (show a.tmps.getD n undef = v); rw [Array.getD_eq_getD_getElem?, h]; rfl
section
variable {T : Array Value} {W : World} {E : Nat → Value} {Va Vb : Array Value} {L : Nat → Bool} {a : Act} {w w' : World}
theorem RS.val (hT : T.size = 96) (h : RS T W E Va Vb L a w) {i : Nat} (hi : i < 8) (hb : Below w.heap.size w w') : RS T W E Va Vb (setL L i) (a.put (some (36 + i)) (E i)) w' := by
 have hs : a.tmps.size = 96 := h.size.trans hT; (have keep : ∀ (p : Nat) (Z : Array Value), w.heap[p]? = some (.cells Z 70 (0, 0)) → w'.heap[p]? = some (.cells Z 70 (0, 0)) := fun p Z hp => (hb.block p (Array.getElem?_eq_some_iff.1 hp).1).trans hp); (refine ⟨h.defers, by show (a.tmps.setIfInBounds _ _).size = _; simp [h.size], fun j h1 h2 h3 => ?_, h.below.trans (hb.mono h.below.size), fun j hj hl => ?_, fun hl => ?_, fun hl => ?_, fun h8 h9 p q hp hq => ?_, fun hl => by simp only [setL] at hl ⊢; rw [if_neg (by omega)] at hl ⊢; exact h.d10 hl, fun hl => by simp only [setL] at hl ⊢; rw [if_neg (by omega)] at hl ⊢; exact h.d11 hl⟩)
 ·rw [put_at, if_neg (by omega)]; exact h.same j h1 h2 h3
 ·rw [put_at]; (by_cases e : i = j)
  ·subst e; rw [if_pos rfl, if_pos (by omega)]
  ·(rw [if_neg (by omega)]); (exact h.hv j hj (by simpa [setL, Ne.symm e] using hl))
 ·(obtain ⟨p, e1, e2, Z, e3, e4, e5⟩ := h.h8 (by simpa [setL, show (8 : Nat) ≠ i by omega] using hl)); (exact ⟨p, by rw [put_at, if_neg (by omega)]; exact e1, e2, Z, keep p Z e3, e4, fun hq => e5 (by simpa [setL, show (10 : Nat) ≠ i by omega] using hq)⟩)
 ·(obtain ⟨p, e1, e2, Z, e3, e4, e5⟩ := h.h9 (by simpa [setL, show (9 : Nat) ≠ i by omega] using hl)); (exact ⟨p, by rw [put_at, if_neg (by omega)]; exact e1, e2, Z, keep p Z e3, e4, fun hq => e5 (by simpa [setL, show (11 : Nat) ≠ i by omega] using hq)⟩)
 ·(rw [put_at, if_neg (by omega)] at hp hq); (exact h.ne (by simpa [setL, show (8 : Nat) ≠ i by omega] using h8) (by simpa [setL, show (9 : Nat) ≠ i by omega] using h9) p q hp hq)
theorem RS.new8 (hT : T.size = 96) (h : RS T W E Va Vb L a w) {Z0 : Array Value} (hZ : Z0.size = 1024) (hf : L 8 = false) : RS T W E Va Vb (setL L 8) (a.put (some 12) (.pointer (some ⟨w.heap.size, 0, none⟩))) (w.alloc (.cells Z0 70)) := by
 have hs : a.tmps.size = 96 := h.size.trans hT; have hb : Below w.heap.size w (w.alloc (.cells Z0 70)) := (Below.refl _ _).alloc (Nat.le_refl _) _; (refine ⟨h.defers, by show (a.tmps.setIfInBounds _ _).size = _; simp [h.size], fun j h1 h2 h3 => ?_, h.below.trans (hb.mono h.below.size), fun j hj hl => ?_, fun hl => ?_, fun hl => ?_, fun h8 h9 p q hp hq => ?_, fun _ => by simp [setL], fun hl => by simpa [setL] using h.d11 (by simpa [setL] using hl)⟩)
 ·rw [put_at, if_neg (by omega)]; exact h.same j h1 h2 h3
 ·(rw [put_at, if_neg (by omega)]); (exact h.hv j hj (by simpa [setL, show j ≠ 8 by omega] using hl))
 ·exact ⟨w.heap.size, by rw [put_at, if_pos rfl, if_pos (by omega)], h.below.size, Z0, World.alloc_heap_new _ _, hZ, fun hq => absurd (h.d10 (by simpa [setL] using hq)) (by rw [hf]; simp)⟩
 ·(obtain ⟨p, e1, e2, Z, e3, e4, e5⟩ := h.h9 (by simpa [setL] using hl)); (exact ⟨p, by rw [put_at, if_neg (by omega)]; exact e1, e2, Z, (hb.block p (Array.getElem?_eq_some_iff.1 e3).1).trans e3, e4, fun hq => e5 (by simpa [setL] using hq)⟩)
 ·(rw [put_at, if_pos rfl, if_pos (by omega)] at hp); (rw [put_at, if_neg (by omega)] at hq); (obtain ⟨q', e1, _, Z, e3, _⟩ := h.h9 (by simpa [setL] using h9)); rw [e1] at hq; cases hp; cases hq; have := (Array.getElem?_eq_some_iff.1 e3).1; omega
theorem RS.new9 (hT : T.size = 96) (h : RS T W E Va Vb L a w) {Z0 : Array Value} (hZ : Z0.size = 1024) (hf : L 9 = false) : RS T W E Va Vb (setL L 9) (a.put (some 13) (.pointer (some ⟨w.heap.size, 0, none⟩))) (w.alloc (.cells Z0 70)) := by
 have hs : a.tmps.size = 96 := h.size.trans hT; have hb : Below w.heap.size w (w.alloc (.cells Z0 70)) := (Below.refl _ _).alloc (Nat.le_refl _) _; (refine ⟨h.defers, by show (a.tmps.setIfInBounds _ _).size = _; simp [h.size], fun j h1 h2 h3 => ?_, h.below.trans (hb.mono h.below.size), fun j hj hl => ?_, fun hl => ?_, fun hl => ?_, fun h8 h9 p q hp hq => ?_, fun hl => by simpa [setL] using h.d10 (by simpa [setL] using hl), fun _ => by simp [setL]⟩)
 ·rw [put_at, if_neg (by omega)]; exact h.same j h1 h2 h3
 ·(rw [put_at, if_neg (by omega)]); (exact h.hv j hj (by simpa [setL, show j ≠ 9 by omega] using hl))
 ·(obtain ⟨p, e1, e2, Z, e3, e4, e5⟩ := h.h8 (by simpa [setL] using hl)); (exact ⟨p, by rw [put_at, if_neg (by omega)]; exact e1, e2, Z, (hb.block p (Array.getElem?_eq_some_iff.1 e3).1).trans e3, e4, fun hq => e5 (by simpa [setL] using hq)⟩)
 ·exact ⟨w.heap.size, by rw [put_at, if_pos rfl, if_pos (by omega)], h.below.size, Z0, World.alloc_heap_new _ _, hZ, fun hq => absurd (h.d11 (by simpa [setL] using hq)) (by rw [hf]; simp)⟩
 ·(rw [put_at, if_pos rfl, if_pos (by omega)] at hq); (rw [put_at, if_neg (by omega)] at hp); (obtain ⟨q', e1, _, Z, e3, _⟩ := h.h8 (by simpa [setL] using h8)); rw [e1] at hp; cases hp; cases hq; have := (Array.getElem?_eq_some_iff.1 e3).1; omega
theorem RS.st10 (h : RS T W E Va Vb L a w) {p : Nat} {w1 : World} (hp : a.tmps[12]? = some (.pointer (some ⟨p, 0, none⟩))) (hW : W.heap.size ≤ p) (h1 : w1.heap[p]? = some (.cells Va 70 (0, 0))) (hV : Va.size = 1024) (h8 : L 8 = true) (ho : ∀ k, k ≠ p → w1.heap[k]? = w.heap[k]?) (o1 : w1.os = w.os) (o2 : w1.tape = w.tape) (o3 : w1.output = w.output) (o4 : w1.heap.size = w.heap.size) : RS T W E Va Vb (setL L 10) a w1 := by
 (refine ⟨h.defers, h.size, h.same, h.below.trans ⟨o1, o2, o3, by omega, fun k hk => ho k (by omega)⟩, fun j hj hl => h.hv j hj (by simpa [setL, show j ≠ 10 by omega] using hl), fun hl => ⟨p, hp, hW, Va, h1, hV, fun _ => rfl⟩, fun hl => ?_, fun h8 h9 p' q' hp' hq' => h.ne (by simpa [setL] using h8) (by simpa [setL] using h9) p' q' hp' hq', fun _ => by simpa [setL] using h8, fun hl => by simpa [setL] using h.d11 (by simpa [setL] using hl)⟩); (obtain ⟨q, e1, e2, Z, e3, e4, e5⟩ := h.h9 (by simpa [setL] using hl)); (have hne := h.ne h8 (by simpa [setL] using hl) p q hp e1); (exact ⟨q, e1, e2, Z, (ho q (Ne.symm hne)).trans e3, e4, fun hq => e5 (by simpa [setL] using hq)⟩)
theorem RS.st11 (h : RS T W E Va Vb L a w) {p : Nat} {w1 : World} (hp : a.tmps[13]? = some (.pointer (some ⟨p, 0, none⟩))) (hW : W.heap.size ≤ p) (h1 : w1.heap[p]? = some (.cells Vb 70 (0, 0))) (hV : Vb.size = 1024) (h9 : L 9 = true) (ho : ∀ k, k ≠ p → w1.heap[k]? = w.heap[k]?) (o1 : w1.os = w.os) (o2 : w1.tape = w.tape) (o3 : w1.output = w.output) (o4 : w1.heap.size = w.heap.size) : RS T W E Va Vb (setL L 11) a w1 := by
 (refine ⟨h.defers, h.size, h.same, h.below.trans ⟨o1, o2, o3, by omega, fun k hk => ho k (by omega)⟩, fun j hj hl => h.hv j hj (by simpa [setL, show j ≠ 11 by omega] using hl), fun hl => ?_, fun hl => ⟨p, hp, hW, Vb, h1, hV, fun _ => rfl⟩, fun h8 h9 p' q' hp' hq' => h.ne (by simpa [setL] using h8) (by simpa [setL] using h9) p' q' hp' hq', fun hl => by simpa [setL] using h.d10 (by simpa [setL] using hl), fun _ => by simpa [setL] using h9⟩); (obtain ⟨q, e1, e2, Z, e3, e4, e5⟩ := h.h8 (by simpa [setL] using hl)); (have hne := h.ne (by simpa [setL] using hl) h9 q p e1 hp); (exact ⟨q, e1, e2, Z, (ho q hne).trans e3, e4, fun hq => e5 (by simpa [setL] using hq)⟩)
end
section
variable {P : Program} {ops : Array Oper} {o : Oper} {i : Nat} {a : Act} {w : World} {K : Act → World → Prop} {Q : Exit → Act → World → Prop}
theorem op_move (ho : ops[i]? = some o) (hg : o.guard = none) (x : Operand) (hop : o.op = .move x) {v : Value} (hx : a.eval x = v) (h : K (a.put o.dst v) w) : wpOp P ops Q i K a w := by
 unfold wpOp; rw [ho]; simp only [Region.wanted, hg, if_true]; refine .inl ?_; unfold Oper.wp; simp [execOp, hop, hx]; exact h
theorem op_load (ho : ops[i]? = some o) (hg : o.guard = none) (t : TypeId) (x : Operand) (hop : o.op = .load t x) {ad v : Value} (hx : a.eval x = ad) (hrun : (Instr.loadAt t ad).run P w = .ok v w) (h : K (a.put o.dst v) w) : wpOp P ops Q i K a w := by
 unfold wpOp; rw [ho]; simp only [Region.wanted, hg, if_true]; refine .inl ?_; unfold Oper.wp; simp [execOp, hop, hx, hrun, Result.andThen]; exact h
theorem op_alloc (ho : ops[i]? = some o) (hg : o.guard = none) (t : TypeId) (hop : o.op = .alloc t) {Z : Array Value} (hz : (zeroValue t).run P w = .ok (.agg Z) w) (h : K (a.put o.dst (.pointer (some ⟨w.heap.size, 0, none⟩))) (w.alloc (.cells Z t))) : wpOp P ops Q i K a w := by
 unfold wpOp; rw [ho]; simp only [Region.wanted, hg, if_true]; refine .inl ?_; unfold Oper.wp; simp [execOp, hop, Instr.alloc, hz, newVar, newRow, Value.cells, Result.andThen, go_sem]; exact h
theorem op_store (ho : ops[i]? = some o) (hg : o.guard = none) (hN : o.dst = none) (t : TypeId) (p x : Operand) (hop : o.op = .store t p x) {ad v : Value} {w1 : World} (hp : a.eval p = ad) (hx : a.eval x = v) (hrun : (Instr.storeAt t ad v).run P w = .ok () w1) (h : K a w1) : wpOp P ops Q i K a w := by
 unfold wpOp; rw [ho]; simp only [Region.wanted, hg, if_true]; refine .inl ?_; unfold Oper.wp; simp [execOp, hop, hp, hx, hrun, Result.andThen]; rw [Oper.upon_skip, hN]; exact h
theorem op_call (ho : ops[i]? = some o) (hg : o.guard = none) {f : FuncId} {ags : Array Operand} {ts : Array TypeId} (hop : o.op = .call { callee := .value (.func f), args := ags, argTypes := ts }) (args : Array Value) (hargs : ags.map a.eval = args) (eg : ∀ args w, (callFunc f args).run P w = .ok (.enter f args) w)
    (h : Calls P f args w fun e w' => ∃ v, e = .returned v ∧ K (a.put o.dst v) w') : wpOp P ops Q i K a w := by
 unfold wpOp; rw [ho]; simp only [Region.wanted, hg, if_true]; refine .inl ?_; unfold Oper.wp
 have hrun : (execOp a.eval o).run P w = .ok (.enter f args) w := by
  unfold execOp; simp [hop, resolve, Deferred.ofValue, invoke, Act.eval, eg]; exact hargs
 rw [hrun, Oper.upon_enter]; (refine h.mono fun e w'' hh => ?_); obtain ⟨v, rfl, hk⟩ := hh; exact hk
end
theorem twoOps_ac : ∀ (i : Nat) (o : Oper), twoOps[i]? = some o → ∀ e ∈ o.after, e.on < i := by
 (have h : ((List.range 12).all fun i => (twoOps[i]?).all fun o => o.after.all fun e => decide (e.on < i)) = true := by kernel_rfl); have hs : twoOps.size = 12 := rfl; intro i o ho e he; (have hi : i < 12 := by rw [← hs]; exact (Array.getElem?_eq_some_iff.1 ho).1); have := List.all_eq_true.1 h i (List.mem_range.2 hi); rw [ho] at this; simp only [Option.all_some, Array.all_eq_true_iff_forall_mem] at this; (simpa using this e he)
theorem two_rows {id : Nat} {Q : Exit → Act → World → Prop} (T : Array Value) (W : World) (Z0 Va Vb : Array Value) (sl : Value) (key : S24) (bef aft : Int) (Kx : Nat) (hT : T.size = 96) (hZ : Z0.size = 1024) (hz : ∀ w, (zeroValue 70).run Try.prog w = .ok (.agg Z0) w)
    (t0 : T[0]? = some sl) (t1 : T[1]? = some (.int .i64 bef)) (t2 : T[2]? = some (.int .i64 aft)) (t11 : T[11]? = some (.pointer (some ⟨Kx, 0, none⟩))) (hK : W.heap[Kx]? = some (.cells #[.int .i64 key.f0, .int .i64 key.f1, .int .i64 key.f2] 24 (0, 0)))
    (hVa : Va.size = 1024) (hVb : Vb.size = 1024) (oVa : Va.all (·.oneCell') = true) (oVb : Vb.all (·.oneCell') = true)
    (ca : ∀ w, Below W.heap.size W w → Calls Try.prog 39 #[sl, valK key, .int .i64 bef] w fun e w' => e = .returned (.agg Va) ∧ Below w.heap.size w w')
    (cb : ∀ w, Below W.heap.size W w → Calls Try.prog 39 #[sl, valK key, .int .i64 aft] w fun e w' => e = .returned (.agg Vb) ∧ Below w.heap.size w w')
    (h : ∀ (a : Act) (w : World) (p q : Nat), a.defers = [] → a.tmps.size = 96 → (∀ j, j ≠ 12 → j ≠ 13 → ¬ (36 ≤ j ∧ j ≤ 43) → a.tmps[j]? = T[j]?) → Below W.heap.size W w → a.tmps[12]? = some (.pointer (some ⟨p, 0, none⟩)) → a.tmps[13]? = some (.pointer (some ⟨q, 0, none⟩)) → W.heap.size ≤ p → W.heap.size ≤ q →
      w.heap[p]? = some (.cells Va 70 (0, 0)) → w.heap[q]? = some (.cells Vb 70 (0, 0)) → Q .normal a w) : (Code.region id twoOps true).wp Try.prog Q { tmps := T, defers := [] } W := by
 have ldK : ∀ w, Below W.heap.size W w → (Instr.loadAt 24 (.pointer (some ⟨Kx, 0, none⟩))).run Try.prog w = .ok (valK key) w := fun w hb => by
  simp only [Instr.loadAt, Instr.sureAddr, Sem.run_bind, Sem.run_pure, Result.andThen]; (exact run_loadVar_row w Kx 24 24 _ (0, 0) _ ((hb.block Kx (Array.getElem?_eq_some_iff.1 hK).1).trans hK) Try.underlying24 rfl (by rw [show (Try.prog.info? 24).map (·.size) = some 3 from by kernel_rfl]; rfl))
 (obtain ⟨E, hE⟩ : ∃ E : Nat → Value, E = fun i => match i with | 0 => sl | 1 => valK key | 2 => .int .i64 bef | 3 => .agg Va | 4 => sl | 5 => valK key | 6 => .int .i64 aft | _ => .agg Vb := ⟨_, rfl⟩); (have eg := enters_of Try.func39 (by kernel_rfl) rfl); (refine wp_region_inv (by kernel_rfl) twoOps_ac (RS T W E Va Vb) ?_ ?_ ?_)
 ·exact ⟨rfl, rfl, fun _ _ _ _ => rfl, (Below.refl _ _).drew, fun i hi hl => by have : twoOps.size = 12 := rfl; simp [this] at hl; omega, fun hl => by have : twoOps.size = 12 := rfl; simp [this] at hl, fun hl => by have : twoOps.size = 12 := rfl; simp [this] at hl, fun hl => by have : twoOps.size = 12 := rfl; simp [this] at hl, fun hl => by have : twoOps.size = 12 := rfl; simp [this] at hl, fun hl => by have : twoOps.size = 12 := rfl; simp [this] at hl⟩
 ·intro L a w i o ho hL hdep hI; have hi : i < 12 := (Array.getElem?_eq_some_iff.1 ho).1; (have same := fun (j : Nat) (h1 : j ≠ 12) (h2 : j ≠ 13) (h3 : ¬ (36 ≤ j ∧ j ≤ 43)) => hI.same j h1 h2 h3)
  match i, hi with
  | 0, _ =>
   have ho2 := ho; simp [twoOps] at ho2; subst ho2; (refine op_move (i := 0) ho rfl (.tmp 0) rfl (eval_of ((same 0 (by omega) (by omega) (by omega)).trans t0)) ?_); (have := hI.val hT (i := 0) (by omega) (Below.refl _ w)); rw [hE] at this; rw [hE]; exact this
  | 1, _ =>
   have ho2 := ho; simp [twoOps] at ho2; subst ho2; (refine op_load (i := 1) ho rfl 24 (.tmp 11) rfl (eval_of ((same 11 (by omega) (by omega) (by omega)).trans t11)) (ldK w hI.below) ?_); (have := hI.val hT (i := 1) (by omega) (Below.refl _ w)); rw [hE] at this; rw [hE]; exact this
  | 2, _ =>
   have ho2 := ho; simp [twoOps] at ho2; subst ho2; (refine op_move (i := 2) ho rfl (.tmp 1) rfl (eval_of ((same 1 (by omega) (by omega) (by omega)).trans t1)) ?_); (have := hI.val hT (i := 2) (by omega) (Below.refl _ w)); rw [hE] at this; rw [hE]; exact this
  | 3, _ =>
   have ho2 := ho; simp [twoOps] at ho2; subst ho2; (have d0 := hI.hv 0 (by omega) (hdep ⟨0, .data⟩ (by simp) rfl)); (have d1 := hI.hv 1 (by omega) (hdep ⟨1, .data⟩ (by simp) rfl)); (have d2 := hI.hv 2 (by omega) (hdep ⟨2, .data⟩ (by simp) rfl)); rw [hE] at d0 d1 d2; (refine op_call (i := 3) ho rfl rfl #[sl, valK key, .int .i64 bef] (by simp only [List.map_toArray, List.map_cons, List.map_nil, eval_of d0, eval_of d1, eval_of d2]) eg ((ca w hI.below).mono ?_)); rintro e w' ⟨rfl, hb⟩; refine ⟨_, rfl, ?_⟩; (have := hI.val hT (i := 3) (by omega) hb); rw [hE] at this; rw [hE]; exact this
  | 4, _ =>
   have ho2 := ho; simp [twoOps] at ho2; subst ho2; (refine op_move (i := 4) ho rfl (.tmp 0) rfl (eval_of ((same 0 (by omega) (by omega) (by omega)).trans t0)) ?_); (have := hI.val hT (i := 4) (by omega) (Below.refl _ w)); rw [hE] at this; rw [hE]; exact this
  | 5, _ =>
   have ho2 := ho; simp [twoOps] at ho2; subst ho2; (refine op_load (i := 5) ho rfl 24 (.tmp 11) rfl (eval_of ((same 11 (by omega) (by omega) (by omega)).trans t11)) (ldK w hI.below) ?_); (have := hI.val hT (i := 5) (by omega) (Below.refl _ w)); rw [hE] at this; rw [hE]; exact this
  | 6, _ =>
   have ho2 := ho; simp [twoOps] at ho2; subst ho2; (refine op_move (i := 6) ho rfl (.tmp 2) rfl (eval_of ((same 2 (by omega) (by omega) (by omega)).trans t2)) ?_); (have := hI.val hT (i := 6) (by omega) (Below.refl _ w)); rw [hE] at this; rw [hE]; exact this
  | 7, _ =>
   have ho2 := ho; simp [twoOps] at ho2; subst ho2; (have d0 := hI.hv 4 (by omega) (hdep ⟨4, .data⟩ (by simp) rfl)); (have d1 := hI.hv 5 (by omega) (hdep ⟨5, .data⟩ (by simp) rfl)); (have d2 := hI.hv 6 (by omega) (hdep ⟨6, .data⟩ (by simp) rfl)); rw [hE] at d0 d1 d2; (refine op_call (i := 7) ho rfl rfl #[sl, valK key, .int .i64 aft] (by simp only [List.map_toArray, List.map_cons, List.map_nil, eval_of d0, eval_of d1, eval_of d2]) eg ((cb w hI.below).mono ?_)); rintro e w' ⟨rfl, hb⟩; refine ⟨_, rfl, ?_⟩; (have := hI.val hT (i := 7) (by omega) hb); rw [hE] at this; rw [hE]; exact this
  | 8, _ =>
   have ho2 := ho; simp [twoOps] at ho2; subst ho2; refine op_alloc (i := 8) ho rfl 70 rfl (hz w) ?_; exact hI.new8 hT hZ hL
  | 9, _ =>
   have ho2 := ho; simp [twoOps] at ho2; subst ho2; refine op_alloc (i := 9) ho rfl 70 rfl (hz w) ?_; exact hI.new9 hT hZ hL
  | 10, _ =>
   have ho2 := ho; simp [twoOps] at ho2; subst ho2; (have l8 := hdep ⟨8, .data⟩ (by simp) rfl); obtain ⟨p, e1, e2, Z, e3, e4, e5⟩ := hI.h8 l8; (have d3 := hI.hv 3 (by omega) (hdep ⟨3, .data⟩ (by simp) rfl)); rw [hE] at d3; (obtain ⟨W1, cur', r1, r2, r3, r4, r5, r6, r7, r8, r9, r10⟩ := seg_store (W := w) (g := p) (o := 0) 70 (.agg Va) Va.toList e3 (by simp [Value.cells]) (by rw [show (Try.prog.info? 70).map (·.size) = some 1024 from by kernel_rfl]; simp [hVa]) (by simp [hVa, e4]) (by intro q hq; have := Array.all_eq_true_iff_forall_mem.1 oVa q (by simpa using hq); simpa using this))
   have hcr : cur' = Va := by
    apply Array.ext_getElem?; intro i; (by_cases hi : i < Va.size)
    ·(have := r4 i (by simpa using hi)); (simpa using this)
    ·rw [Array.getElem?_eq_none (by omega), Array.getElem?_eq_none (by omega)]
   rw [hcr] at r2; refine op_store (i := 10) ho rfl rfl 70 (.tmp 12) (.tmp 39) rfl (eval_of e1) (eval_of d3) r1 (hI.st10 e1 e2 r2 hVa l8 r6 r7 r8 r9 r10)
  | 11, _ =>
   have ho2 := ho; simp [twoOps] at ho2; subst ho2; (have l9 := hdep ⟨9, .data⟩ (by simp) rfl); obtain ⟨p, e1, e2, Z, e3, e4, e5⟩ := hI.h9 l9; (have d3 := hI.hv 7 (by omega) (hdep ⟨7, .data⟩ (by simp) rfl)); rw [hE] at d3; (obtain ⟨W1, cur', r1, r2, r3, r4, r5, r6, r7, r8, r9, r10⟩ := seg_store (W := w) (g := p) (o := 0) 70 (.agg Vb) Vb.toList e3 (by simp [Value.cells]) (by rw [show (Try.prog.info? 70).map (·.size) = some 1024 from by kernel_rfl]; simp [hVb]) (by simp [hVb, e4]) (by intro q hq; have := Array.all_eq_true_iff_forall_mem.1 oVb q (by simpa using hq); simpa using this))
   have hcr : cur' = Vb := by
    apply Array.ext_getElem?; intro i; (by_cases hi : i < Vb.size)
    ·(have := r4 i (by simpa using hi)); (simpa using this)
    ·rw [Array.getElem?_eq_none (by omega), Array.getElem?_eq_none (by omega)]
   rw [hcr] at r2; refine op_store (i := 11) ho rfl rfl 70 (.tmp 13) (.tmp 43) rfl (eval_of e1) (eval_of d3) r1 (hI.st11 e1 e2 r2 hVb l9 r6 r7 r8 r9 r10)
 ·intro L a w hall hI; have hall' : ∀ i, i < 12 → L i = true := hall; (obtain ⟨p, e1, e2, Z, e3, e4, e5⟩ := hI.h8 (hall' 8 (by omega))); (obtain ⟨q, f1, f2, Y, f3, f4, f5⟩ := hI.h9 (hall' 9 (by omega))); (rw [e5 (hall' 10 (by omega))] at e3); (rw [f5 (hall' 11 (by omega))] at f3); exact h a w p q hI.defers (hI.size.trans hT) hI.same hI.below e1 f1 e2 f2 e3 f3
def frameTwo (T : Array Value) (p q : Nat) (u0 u1 u2 u3 u4 u5 u6 u7 : Value) : Array Value :=
  (((((((((T.setIfInBounds 12 (.pointer (some ⟨p, 0, none⟩))).setIfInBounds 13 (.pointer (some ⟨q, 0, none⟩))).setIfInBounds 36 u0).setIfInBounds 37 u1).setIfInBounds 38 u2).setIfInBounds 39 u3).setIfInBounds 40 u4).setIfInBounds 41 u5).setIfInBounds 42 u6).setIfInBounds 43 u7
theorem frameTwo_eq {T t : Array Value} {p q : Nat} (hT : T.size = 96) (ht : t.size = 96) (hs : ∀ j, j ≠ 12 → j ≠ 13 → ¬ (36 ≤ j ∧ j ≤ 43) → t[j]? = T[j]?) (h12 : t[12]? = some (.pointer (some ⟨p, 0, none⟩))) (h13 : t[13]? = some (.pointer (some ⟨q, 0, none⟩))) :
    t = frameTwo T p q (t.getD 36 undef) (t.getD 37 undef) (t.getD 38 undef) (t.getD 39 undef) (t.getD 40 undef) (t.getD 41 undef) (t.getD 42 undef) (t.getD 43 undef) := by
 have g : ∀ j, j < 96 → t[j]? = some (t.getD j undef) := fun j hj => by
  rw [Array.getD_eq_getD_getElem?, Array.getElem?_eq_getElem (by omega)]; rfl
 apply Array.ext_getElem?; intro j; simp only [frameTwo, Array.getElem?_setIfInBounds, Array.size_setIfInBounds, hT]; (by_cases h1 : j = 12)
 ·subst h1; simpa using h12
 by_cases h2 : j = 13
 ·subst h2; simpa using h13
 by_cases h3 : 36 ≤ j ∧ j ≤ 43
 ·(have : j = 36 ∨ j = 37 ∨ j = 38 ∨ j = 39 ∨ j = 40 ∨ j = 41 ∨ j = 42 ∨ j = 43 := by omega); (rcases this with rfl | rfl | rfl | rfl | rfl | rfl | rfl | rfl <;> simpa using g _ (by omega))
 ·rw [hs j h1 h2 h3]; (rw [if_neg (by omega), if_neg (by omega), if_neg (by omega), if_neg (by omega), if_neg (by omega), if_neg (by omega), if_neg (by omega), if_neg (by omega), if_neg (by omega), if_neg (by omega)])
end Go.Proofs.Ytamajnhdibcpiaa.G
