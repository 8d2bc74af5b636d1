/- Part 27 of the proof of the claim; the conditions are the statement's own. Own texts and printed texts, merged by pack.py (ours). -/
import Derived.Test.YtamajnhdibcpiaaRows
import Derived.Deep.Slices
import Derived.Deep.Fields
import Derived.ChangeSame
import Derived.WalkKit
import Derived.ProofKit
import Derived.OpenShut
import Derived.ChangeOld
import Derived.Below
import Derived.SizedLaws
import Derived.ShutString
import Derived.Test.YtamajnhdibcpiaaKH4
set_option linter.unusedVariables false
set_option linter.unusedSimpArgs false
namespace Go.Proofs.Ytamajnhdibcpiaa.G
open Go.RowKit Go.Proofs.YtamajnhdibcpiaaW.PrintWords Go.Proofs.YtamajnhdibcpiaaW.PrintLast Go.Proofs.YtamajnhdibcpiaaW.PrintMore
attribute [local go_sem] max2_int min2_int max_two min_two max_three min_three max_four min_four
def sizarref07_Upto.l0 : Nat → List (S28) → Int → List (S28) → Int → Option ((List (S28)))
  | 0, _, _, _, _ => none
  | k + 1, x0, x1, x5, x6 => if x6 < (x0.length : Int) then (if 0 ≤ x6 then (if ((rd_T28 x0 x6).f3) ≤ x1 then (if x5.length < 2199023255552 then (sizarref07_Upto.l0 k x0 x1 (x5 ++ [(⟨(⟨(rd_T28 x0 x6).f0.f0, (rd_T28 x0 x6).f0.f1, (rd_T28 x0 x6).f0.f2⟩ : S24), (rd_T28 x0 x6).f1, (⟨(rd_T28 x0 x6).f2.f0, (rd_T28 x0 x6).f2.f1⟩ : S26), (rd_T28 x0 x6).f3, (rd_T28 x0 x6).f4⟩ : S28)]) (wrap64 (x6 + 1))) else (none)) else (sizarref07_Upto.l0 k x0 x1 x5 (wrap64 (x6 + 1)))) else (none)) else (some x5)
def sizarref07_Upto.f (k : Nat) (l0 : List (S28)) (a1 : Int) : Option ((List (S28))) := sizarref07_Upto.l0 k l0 a1 (([] : List (S28))) 0
theorem sizarref07_Upto.mono_l : ∀ k, (∀ y0 y1 y2 y3, LeO (sizarref07_Upto.l0 k y0 y1 y2 y3) (sizarref07_Upto.l0 (k + 1) y0 y1 y2 y3))
  | 0 => fun _ _ _ _ r h => by simp [sizarref07_Upto.l0] at h
  | k + 1 => by
    have ih0 := sizarref07_Upto.mono_l k
    · intro y0 y1 y2 y3
      unfold sizarref07_Upto.l0
      repeat' first
      | (with_reducible exact ih0 _ _ _ _)
      | (with_reducible exact LeO.refl _)
      | (with_reducible exact LeO.none _)
      | (with_reducible refine LeO.ite ?_ ?_)
      | (with_reducible refine LeO.bind ?_ (fun _ => ?_))
      | exact ih0 _ _ _ _
      | exact LeO.none _
      | refine LeO.ite ?_ ?_
      | refine LeO.bind ?_ (fun _ => ?_)
theorem sizarref07_Upto.mono : ∀ a0 a1 k, LeO (sizarref07_Upto.f k a0 a1) (sizarref07_Upto.f (k + 1) a0 a1) := by
 intro a0 a1 k; have ih0 := sizarref07_Upto.mono_l k; unfold sizarref07_Upto.f
 repeat' first
  | (with_reducible exact ih0 _ _ _ _)
  | (with_reducible exact LeO.refl _)
  | (with_reducible exact LeO.none _)
  | (with_reducible refine LeO.ite ?_ ?_)
  | (with_reducible refine LeO.bind ?_ (fun _ => ?_))
  | exact ih0 _ _ _ _
  | exact LeO.none _
  | refine LeO.ite ?_ ?_
  | refine LeO.bind ?_ (fun _ => ?_)
set_option maxHeartbeats 8000000 in
set_option maxRecDepth 100000 in
theorem sizarref07_Upto.calls (k : Nat) (A0 : Option Addr) (c0 : Nat) (l0 : List (S28)) (a1 : Int) (r : List (S28)) (w : World) (hr0 : Kd.C k28 w A0 l0.length l0) (hc0 : l0.length ≤ c0) (h : sizarref07_Upto.f k l0 a1 = some r) :
    Calls Try.prog 29 #[.slice A0 l0.length c0, .int .i64 a1] w fun e w' => ∃ v0_ : Value, e = .returned (v0_) ∧ Kd.R k28 28 w' w.heap.size (fun _ => True) v0_ r ∧ Below w.heap.size w w' := by
 have hu28 := Try.underlying28; have HR0 := Aside0.mk hr0; have HC0 := Aside0.mk hc0; clear hr0 hc0; have HB := Aside0.mk (Below.refl w.heap.size w); have H : (sizarref07_Upto.l0 k l0 a1 (([] : List (S28))) 0) = some r := h; clear h; obtain ⟨y358, hy358⟩ : ∃ y_ : List (S28), y_ = (([] : List (S28))) := ⟨_, rfl⟩; (replace H : (sizarref07_Upto.l0 k l0 a1 y358 0) = some r := by first | (rw [hy358]; with_reducible exact H) | (have H2_ := (Option.bind_some _ _).symm.trans H; rw [hy358]; with_reducible exact H2_) | (have H2_ := (Option.bind_some _ _).symm.trans H; with_reducible exact H2_) | with_reducible exact H | (rw [hy358]; exact H) | exact H); have Ny358 := Aside0.mk hy358; clear hy358; have H' := Aside0.mk H; clear H; (go_enter Try.func29, Try.ntmps29); (go_wp2_with (first | ((with_reducible refine gate_dst (N := 7) rfl ?_); refine Kd.R_lit k28 _ 28 ?hg (N := 7) ?hd (xs := ([] : List (S28))) (inner := []) (ok := fun _ => True) (okp := fun _ => True) ?hr ?hp (fun _ hk => hk) trivial (Below.refl _ _) (Nat.le_refl _) (by simp) ?_; (case hd => rfl); (case hg => rfl); (case hr => first | (go_simp; done) | (go_simp; rfl)); (case hp => exact (Reps.none _ _)); intro v359 w3 ho4 hb hg_ hnew_; clear hg_ hnew_; (first | rw [← Ny358.out] at ho4 | (simp only [Int.reduceToNat] at ho4; rw [← Ny358.out] at ho4)); have n0_ := Aside0.mk (Kd.R_lower ho4 (below_size (by repeat (first | (with_reducible first | exact HB.out | apply below_alloc | apply pw_below_drewN | apply below_drew1) | exact HB.out)))); have n1_ := Aside0.mk (below_step (by repeat (first | (with_reducible first | exact HB.out | apply below_alloc | apply pw_below_drewN | apply below_drew1) | exact HB.out)) hb); clear HB; have HO360 := n0_; have HB := n1_; clear n0_ n1_; clear hb ho4))); (go_loopg [5, 6] k (fun kq v5 v6 w' => ∃ (x5_1 : List (S28)) (x6_1 : Int), v6 = .int .i64 x6_1 ∧ Aside0 (sizarref07_Upto.l0 kq l0 a1 x5_1 x6_1 = some r) ∧ Aside0 (kq ≤ k) ∧ Aside0 (Kd.R k28 28 w' w.heap.size (fun _ => True) v5 x5_1) ∧ Aside0 (Below w.heap.size w w')))
 case atStart => exact ⟨(y358), (0), (by first | rfl | (simp; done) | (simp [*]; done)), H', ⟨Nat.le_refl _⟩, ⟨by (with_reducible repeat (first | apply Kd.R_alloc | apply Kd.R_drewN | apply Kd.R_drew)); exact HO360.out⟩, ⟨by repeat (first | (with_reducible first | exact HB.out | apply below_alloc | apply pw_below_drewN | apply below_drew1) | exact HB.out)⟩⟩
 case round =>
  clear H'; (try clear c2); (try clear p2); obtain ⟨x5_1, x6_1, rfl, HA, HK1, HO_5, HB⟩ := hrel
  cases gk with
  | zero => exact absurd HA.out (by simp [sizarref07_Upto.l0])
  | succ k1 =>
   have H := HA.out; clear HA; simp only [sizarref07_Upto.l0] at H; (by_cases c5 : x6_1 < (l0.length : Int))
   ·rw [if_pos c5] at H; have c5b0 : decide (x6_1 < (l0.length : Int)) = true := decide_eq_true c5; clear c5; (by_cases c6 : 0 ≤ x6_1)
    ·rw [if_pos c6] at H; have c6b0 : decide (0 ≤ x6_1) = true := decide_eq_true c6; clear c6; (by_cases c7 : ((rd_T28 l0 x6_1).f3) ≤ a1)
     ·rw [if_pos c7] at H; have c7b0 : decide (((rd_T28 l0 x6_1).f3) ≤ a1) = true := decide_eq_true c7; clear c7; (by_cases c8 : x5_1.length < 2199023255552)
      ·rw [if_pos c8] at H; have LMc8 := Aside0.mk c8; clear c8; obtain ⟨y363, hy363⟩ : ∃ y_ : List (S28), y_ = (x5_1 ++ [(⟨(⟨(rd_T28 l0 x6_1).f0.f0, (rd_T28 l0 x6_1).f0.f1, (rd_T28 l0 x6_1).f0.f2⟩ : S24), (rd_T28 l0 x6_1).f1, (⟨(rd_T28 l0 x6_1).f2.f0, (rd_T28 l0 x6_1).f2.f1⟩ : S26), (rd_T28 l0 x6_1).f3, (rd_T28 l0 x6_1).f4⟩ : S28)]) := ⟨_, rfl⟩; (replace H : (sizarref07_Upto.l0 k1 l0 a1 y363 (wrap64 (x6_1 + 1))) = some r := by first | (rw [hy363]; with_reducible exact H) | (have H2_ := (Option.bind_some _ _).symm.trans H; rw [hy363]; with_reducible exact H2_) | (have H2_ := (Option.bind_some _ _).symm.trans H; with_reducible exact H2_) | with_reducible exact H | (rw [hy363]; exact H) | exact H); have Ny363 := Aside0.mk hy363; clear hy363; have H' := Aside0.mk H; clear H; (have p361 : 0 ≤ (x6_1 : Int) := of_decide_eq_true (by assumption)); (have q361 : x6_1 < (l0.length : Int) := of_decide_eq_true (by assumption)); obtain ⟨ad361, e361, hx361_0, hx361_1, hx361_2, hx361_3, hx361_4, hx361_5, hx361_6, hx361_7⟩ := at_T28 HR0.out x6_1 p361 q361; cases e361; replace hx361_0 := (HB.out.cell (World.block_lt_of_cell? w _ hx361_0)).trans hx361_0; replace hx361_1 := (HB.out.cell (World.block_lt_of_cell? w _ hx361_1)).trans hx361_1; replace hx361_2 := (HB.out.cell (World.block_lt_of_cell? w _ hx361_2)).trans hx361_2; replace hx361_3 := (HB.out.cell (World.block_lt_of_cell? w _ hx361_3)).trans hx361_3; replace hx361_4 := (HB.out.cell (World.block_lt_of_cell? w _ hx361_4)).trans hx361_4; replace hx361_5 := (HB.out.cell (World.block_lt_of_cell? w _ hx361_5)).trans hx361_5; replace hx361_6 := (HB.out.cell (World.block_lt_of_cell? w _ hx361_6)).trans hx361_6; replace hx361_7 := (HB.out.cell (World.block_lt_of_cell? w _ hx361_7)).trans hx361_7; replace p361 := eq_true p361; replace q361 := eq_true q361; (have p362 : 0 ≤ (x6_1 : Int) := of_decide_eq_true (by assumption)); (have q362 : x6_1 < (l0.length : Int) := of_decide_eq_true (by assumption)); obtain ⟨ad362, e362, hx362_0, hx362_1, hx362_2, hx362_3, hx362_4, hx362_5, hx362_6, hx362_7⟩ := at_T28 HR0.out x6_1 p362 q362; (obtain rfl : ad361 = ad362 := (by injection e362)); replace hx362_0 := (HB.out.cell (World.block_lt_of_cell? w _ hx362_0)).trans hx362_0; replace hx362_1 := (HB.out.cell (World.block_lt_of_cell? w _ hx362_1)).trans hx362_1; replace hx362_2 := (HB.out.cell (World.block_lt_of_cell? w _ hx362_2)).trans hx362_2; replace hx362_3 := (HB.out.cell (World.block_lt_of_cell? w _ hx362_3)).trans hx362_3; replace hx362_4 := (HB.out.cell (World.block_lt_of_cell? w _ hx362_4)).trans hx362_4; replace hx362_5 := (HB.out.cell (World.block_lt_of_cell? w _ hx362_5)).trans hx362_5; replace hx362_6 := (HB.out.cell (World.block_lt_of_cell? w _ hx362_6)).trans hx362_6; replace hx362_7 := (HB.out.cell (World.block_lt_of_cell? w _ hx362_7)).trans hx362_7; replace p362 := eq_true p362; replace q362 := eq_true q362; (go_wp2_with (first | ((with_reducible refine gate_builtin (b := .append) (xs := #[.tmp 21, .tmp 26]) rfl ?_); at_builtin; refine Kd.R_append k28 (w0 := w) w.heap.size rfl (.tmp 21) (.tmp 26) 22 28 (.agg #[(.int .i64 0), (.int .i64 0), (.int .i64 0), (.int .i64 0), (.int .i64 0), (.int .i64 0), (.int .i64 0), (.int .i64 0)]) 64 rfl Try.underlying22 info28 rfl (by decide) (by omega) u5 x5_1 (⟨(⟨(rd_T28 l0 x6_1).f0.f0, (rd_T28 l0 x6_1).f0.f1, (rd_T28 l0 x6_1).f0.f2⟩ : S24), (rd_T28 l0 x6_1).f1, (⟨(rd_T28 l0 x6_1).f2.f0, (rd_T28 l0 x6_1).f2.f1⟩ : S26), (rd_T28 l0 x6_1).f3, (rd_T28 l0 x6_1).f4⟩ : S28) [.int .i64 ((rd_T28 l0 x6_1).f0.f0), .int .i64 ((rd_T28 l0 x6_1).f0.f1), .int .i64 ((rd_T28 l0 x6_1).f0.f2), .int .i64 ((rd_T28 l0 x6_1).f1), .int .i64 ((rd_T28 l0 x6_1).f2.f0), .int .i64 ((rd_T28 l0 x6_1).f2.f1), .int .i64 ((rd_T28 l0 x6_1).f3), .int .i64 ((rd_T28 l0 x6_1).f4)] (fun _ => True) (fun _ => False) rfl rfl ?aP (fun _ hk => hk.elim) ?aF ?aO ?aB ?aS ?aL ?_; (case aP => exact k28_mkM _ _ _ (⟨(⟨(rd_T28 l0 x6_1).f0.f0, (rd_T28 l0 x6_1).f0.f1, (rd_T28 l0 x6_1).f0.f2⟩ : S24), (rd_T28 l0 x6_1).f1, (⟨(rd_T28 l0 x6_1).f2.f0, (rd_T28 l0 x6_1).f2.f1⟩ : S26), (rd_T28 l0 x6_1).f3, (rd_T28 l0 x6_1).f4⟩ : S28)); (case aB => exact (by repeat (first | (with_reducible first | exact HB.out | apply below_alloc | apply pw_below_drewN | apply below_drew1) | exact HB.out))); (case aF => exact (fun _ _ => trivial)); (case aO => exact (by (with_reducible repeat (first | apply Kd.R_alloc | apply Kd.R_drewN | apply Kd.R_drew)); exact HO_5.out)); (case aS => exact (below_size (by repeat (first | (with_reducible first | exact HB.out | apply below_alloc | apply pw_below_drewN | apply below_drew1) | exact HB.out)))); (case aL => have := LMc8.out; omega); intro v364 w9 ho hb hg hat; rw [← Ny363.out] at ho; have n0_ := Aside0.mk (hb); have n1_ := Aside0.mk (ho); clear HB; clear HO_5; have HB := n0_; have HO365 := n1_; clear n0_ n1_; clear ho hb hg hat))); (go_roundg k1)
       case measure => have := HK1.out; omega
       case rel => exact ⟨(y363), (wrap64 (x6_1 + 1)), (by first | rfl | (simp; done) | (simp [*]; done)), H', ⟨by have := HK1.out; omega⟩, ⟨by (with_reducible repeat (first | apply Kd.R_alloc | apply Kd.R_drewN | apply Kd.R_drew)); exact HO365.out⟩, ⟨by repeat (first | (with_reducible first | exact HB.out | apply below_alloc | apply pw_below_drewN | apply below_drew1) | exact HB.out)⟩⟩
      ·rw [if_neg c8] at H; (exact absurd H (by simp))
     ·rw [if_neg c7] at H; have c7b0 : decide (((rd_T28 l0 x6_1).f3) ≤ a1) = false := decide_eq_false c7; clear c7; have H' := Aside0.mk H; clear H; (have p361 : 0 ≤ (x6_1 : Int) := of_decide_eq_true (by assumption)); (have q361 : x6_1 < (l0.length : Int) := of_decide_eq_true (by assumption)); obtain ⟨ad361, e361, hx361_0, hx361_1, hx361_2, hx361_3, hx361_4, hx361_5, hx361_6, hx361_7⟩ := at_T28 HR0.out x6_1 p361 q361; cases e361; replace hx361_0 := (HB.out.cell (World.block_lt_of_cell? w _ hx361_0)).trans hx361_0; replace hx361_1 := (HB.out.cell (World.block_lt_of_cell? w _ hx361_1)).trans hx361_1; replace hx361_2 := (HB.out.cell (World.block_lt_of_cell? w _ hx361_2)).trans hx361_2; replace hx361_3 := (HB.out.cell (World.block_lt_of_cell? w _ hx361_3)).trans hx361_3; replace hx361_4 := (HB.out.cell (World.block_lt_of_cell? w _ hx361_4)).trans hx361_4; replace hx361_5 := (HB.out.cell (World.block_lt_of_cell? w _ hx361_5)).trans hx361_5; replace hx361_6 := (HB.out.cell (World.block_lt_of_cell? w _ hx361_6)).trans hx361_6; replace hx361_7 := (HB.out.cell (World.block_lt_of_cell? w _ hx361_7)).trans hx361_7; replace p361 := eq_true p361; replace q361 := eq_true q361; (go_wp2); (go_roundg k1)
      case measure => have := HK1.out; omega
      case rel => exact ⟨(x5_1), (wrap64 (x6_1 + 1)), (by first | rfl | (simp; done) | (simp [*]; done)), H', ⟨by have := HK1.out; omega⟩, ⟨by (with_reducible repeat (first | apply Kd.R_alloc | apply Kd.R_drewN | apply Kd.R_drew)); exact HO_5.out⟩, ⟨by repeat (first | (with_reducible first | exact HB.out | apply below_alloc | apply pw_below_drewN | apply below_drew1) | exact HB.out)⟩⟩
    ·rw [if_neg c6] at H; (exact absurd H (by simp))
   ·rw [if_neg c5] at H; have c5b0 : decide (x6_1 < (l0.length : Int)) = false := decide_eq_false c5; clear c5; obtain rfl := Option.some.inj H; (go_wp2); (go_ret); (exact ⟨_, by first | rfl | (simp [errW_none, errW_some] <;> rfl) | (simp [*, errW_none, errW_some] <;> rfl), by (with_reducible repeat (first | apply Kd.R_alloc | apply Kd.R_drewN | apply Kd.R_drew)); exact HO_5.out, by repeat (first | (with_reducible first | exact HB.out | apply below_alloc | apply pw_below_drewN | apply below_drew1) | exact HB.out)⟩)
end Go.Proofs.Ytamajnhdibcpiaa.G
namespace Go.Proofs.Ytamajnhdibcpiaa.G
open Go.RowKit Go.Proofs.YtamajnhdibcpiaaW.PrintWords Go.Proofs.YtamajnhdibcpiaaW.PrintLast Go.Proofs.YtamajnhdibcpiaaW.PrintMore
attribute [local go_sem] max2_int min2_int max_two min_two max_three min_three max_four min_four
def sizarlaw07_FactsChangedSpec.j0 : Nat → List (S28) → List (S54) → Int → Int → Bool → Option (Bool)
  | 0, _, _, _, _, _ => none
  | k + 1, x0, x1, x2, x3, x18 => if x18 = true then (some true) else ((facts_Changed.f x0 x2 x3).bind fun t367 => ((sizarref07_Changed.f k x0 x2 x3).bind fun t370 => ((sizarref07_SameChanges.f k t367 t370).bind fun t373 => (if t373 = true then ((facts_Alike.f k x0 x1 x2 x3).bind fun t374 => ((sizarref07_Alike.f k x0 x1 x2 x3).bind fun t375 => (if (t374 == t375) = true then ((facts_Upto.f x0 x2).bind fun t376 => ((sizarref07_Upto.f k x0 x2).bind fun t379 => ((sizarref07_Same.f k t376 t379).bind fun t382 => (some t382)))) else (none)))) else (none)))))
def sizarlaw07_FactsChangedSpec.f (k : Nat) (l0 : List (S28)) (l1 : List (S54)) (a2 : Int) (a3 : Int) : Option (Bool) := (sizarlaw07_sane.f k).bind fun t366 => (if t366 = true then (if (l0.length : Int) > 14 then (sizarlaw07_FactsChangedSpec.j0 k l0 l1 a2 a3 true) else (sizarlaw07_FactsChangedSpec.j0 k l0 l1 a2 a3 (decide ((l1.length : Int) > 6)))) else (none))
theorem sizarlaw07_FactsChangedSpec.mono_l : ∀ k, (∀ y0 y1 y2 y3 y4, LeO (sizarlaw07_FactsChangedSpec.j0 k y0 y1 y2 y3 y4) (sizarlaw07_FactsChangedSpec.j0 (k + 1) y0 y1 y2 y3 y4))
  | 0 => fun _ _ _ _ _ r h => by simp [sizarlaw07_FactsChangedSpec.j0] at h
  | k + 1 => by
    have ih0 := sizarlaw07_FactsChangedSpec.mono_l k
    · intro y0 y1 y2 y3 y4
      unfold sizarlaw07_FactsChangedSpec.j0
      repeat' first
      | (with_reducible exact ih0 _ _ _ _ _)
      | (with_reducible exact facts_Alike.mono _ _ _ _ _)
      | (with_reducible exact sizarlaw07_sane.mono _)
      | (with_reducible exact sizarref07_Alike.mono _ _ _ _ _)
      | (with_reducible exact sizarref07_Changed.mono _ _ _ _)
      | (with_reducible exact sizarref07_Same.mono _ _ _)
      | (with_reducible exact sizarref07_SameChanges.mono _ _ _)
      | (with_reducible exact sizarref07_Upto.mono _ _ _)
      | (with_reducible exact LeO.refl _)
      | (with_reducible exact LeO.none _)
      | (with_reducible refine LeO.ite ?_ ?_)
      | (with_reducible refine LeO.bind ?_ (fun _ => ?_))
      | exact ih0 _ _ _ _ _
      | exact facts_Alike.mono _ _ _ _ _
      | exact sizarlaw07_sane.mono _
      | exact sizarref07_Alike.mono _ _ _ _ _
      | exact sizarref07_Changed.mono _ _ _ _
      | exact sizarref07_Same.mono _ _ _
      | exact sizarref07_SameChanges.mono _ _ _
      | exact sizarref07_Upto.mono _ _ _
      | exact LeO.none _
      | refine LeO.ite ?_ ?_
      | refine LeO.bind ?_ (fun _ => ?_)
theorem sizarlaw07_FactsChangedSpec.mono : ∀ a0 a1 a2 a3 k, LeO (sizarlaw07_FactsChangedSpec.f k a0 a1 a2 a3) (sizarlaw07_FactsChangedSpec.f (k + 1) a0 a1 a2 a3) := by
 intro a0 a1 a2 a3 k; have ih0 := sizarlaw07_FactsChangedSpec.mono_l k; unfold sizarlaw07_FactsChangedSpec.f
 repeat' first
  | (with_reducible exact ih0 _ _ _ _ _)
  | (with_reducible exact facts_Alike.mono _ _ _ _ _)
  | (with_reducible exact sizarlaw07_sane.mono _)
  | (with_reducible exact sizarref07_Alike.mono _ _ _ _ _)
  | (with_reducible exact sizarref07_Changed.mono _ _ _ _)
  | (with_reducible exact sizarref07_Same.mono _ _ _)
  | (with_reducible exact sizarref07_SameChanges.mono _ _ _)
  | (with_reducible exact sizarref07_Upto.mono _ _ _)
  | (with_reducible exact LeO.refl _)
  | (with_reducible exact LeO.none _)
  | (with_reducible refine LeO.ite ?_ ?_)
  | (with_reducible refine LeO.bind ?_ (fun _ => ?_))
  | exact ih0 _ _ _ _ _
  | exact facts_Alike.mono _ _ _ _ _
  | exact sizarlaw07_sane.mono _
  | exact sizarref07_Alike.mono _ _ _ _ _
  | exact sizarref07_Changed.mono _ _ _ _
  | exact sizarref07_Same.mono _ _ _
  | exact sizarref07_SameChanges.mono _ _ _
  | exact sizarref07_Upto.mono _ _ _
  | exact LeO.none _
  | refine LeO.ite ?_ ?_
  | refine LeO.bind ?_ (fun _ => ?_)
set_option maxHeartbeats 8000000 in
set_option maxRecDepth 100000 in
theorem sizarlaw07_FactsChangedSpec.calls (k : Nat) (A0 : Option Addr) (c0 : Nat) (l0 : List (S28)) (A1 : Option Addr) (c1 : Nat) (l1 : List (S54)) (a2 : Int) (a3 : Int) (r : Bool) (w : World) (hr0 : Kd.C k28 w A0 l0.length l0) (hc0 : l0.length ≤ c0) (hr1 : Kd.C k54 w A1 l1.length l1) (hc1 : l1.length ≤ c1) (h : sizarlaw07_FactsChangedSpec.f k l0 l1 a2 a3 = some r) :
    Calls Try.prog 5 #[.slice A0 l0.length c0, .slice A1 l1.length c1, .int .i64 a2, .int .i64 a3] w fun e w' => e = .returned (.bool r) ∧ Below w.heap.size w w' := by
 have HR0 := Aside0.mk hr0; have HC0 := Aside0.mk hc0; clear hr0 hc0; have HR1 := Aside0.mk hr1; have HC1 := Aside0.mk hc1; clear hr1 hc1; have HB := Aside0.mk (Below.refl w.heap.size w); (have H : ((sizarlaw07_sane.f k).bind fun t366 => (if t366 = true then (if (l0.length : Int) > 14 then (sizarlaw07_FactsChangedSpec.j0 k l0 l1 a2 a3 true) else (sizarlaw07_FactsChangedSpec.j0 k l0 l1 a2 a3 (decide ((l1.length : Int) > 6)))) else (none))) = some r := h); clear h; replace H := Option.bind_eq_some_iff.mp H; obtain ⟨t366, A50, H⟩ := H; replace H : (if t366 = true then (if (l0.length : Int) > 14 then (sizarlaw07_FactsChangedSpec.j0 k l0 l1 a2 a3 true) else (sizarlaw07_FactsChangedSpec.j0 k l0 l1 a2 a3 (decide ((l1.length : Int) > 6)))) else (none)) = some r := H; have A5 := Aside0.mk A50; clear A50; (by_cases c6 : t366 = true)
 ·subst c6; (have H1 : (if (l0.length : Int) > 14 then (sizarlaw07_FactsChangedSpec.j0 k l0 l1 a2 a3 true) else (sizarlaw07_FactsChangedSpec.j0 k l0 l1 a2 a3 (decide ((l1.length : Int) > 6)))) = some r := by rw [if_pos rfl] at H; exact H); clear H; have H := H1; clear H1; have HC7 := Aside0.mk H; clear H; (go_enter Try.func5, Try.ntmps5); (go_upto_region 3 with (first | ((with_reducible refine gate_callee (f := 11) rfl ?_); refine goesL_ (some 9) rfl rfl Try.func11 (by kernel_rfl) rfl #[] rfl (by (try simp only [List.map_toArray, List.map_cons, List.map_nil]); first | done | rfl | (simp only [List.length_drop, List.length_take]; rfl)) ?_; (with_reducible refine (sizarlaw07_sane.calls k  true _ A5.out).mono ?_); rintro e w8 ⟨rfl, hb⟩; refine ⟨_, rfl, ?_⟩; have n0_ := Aside0.mk (below_step (by repeat (first | (with_reducible first | exact HB.out | apply below_alloc | apply pw_below_drewN | apply below_drew1) | exact HB.out)) hb); clear HB; have HB := n0_; clear n0_; (try clear hb); (try clear hb2); (try clear hk); (try clear hi)))); ((try simp only [Act.put, List.setIfInBounds_toArray, List.set_cons_zero, List.set_cons_succ])); (go_cut [18] (fun v18 wc => ∃ (kq : Nat) (x18_6 : Bool), v18 = .bool x18_6 ∧ Aside0 (sizarlaw07_FactsChangedSpec.j0 kq l0 l1 a2 a3 x18_6 = some r) ∧ Aside0 (kq ≤ k) ∧ Aside0 (Below w.heap.size w wc)))
  case first =>
   have H := HC7.out; clear HC7; (by_cases c9 : (l0.length : Int) > 14)
   ·rw [if_pos c9] at H; have c9b0 : decide (14 < (l0.length : Int)) = true := decide_eq_true c9; (have c9b1 : decide (14 < l0.length) = true := decide_eq_true (by omega)); clear c9; ((first | rw [c9b0] | (simp only [i64_w, i32_w]; rw [c9b0]) | skip)); have H' := Aside0.mk H; clear H; (go_wp2); (go_meet)
    case rel => exact ⟨_, (true), (by first | rfl | (simp; done) | (simp [*]; done)), H', ⟨by first | omega | exact Nat.le_refl _⟩, ⟨by repeat (first | (with_reducible first | exact HB.out | apply below_alloc | apply pw_below_drewN | apply below_drew1) | exact HB.out)⟩⟩
   ·rw [if_neg c9] at H; have c9b0 : decide (14 < (l0.length : Int)) = false := decide_eq_false c9; (have c9b1 : decide (14 < l0.length) = false := decide_eq_false (by omega)); clear c9; ((first | rw [c9b0] | (simp only [i64_w, i32_w]; rw [c9b0]) | skip)); have H' := Aside0.mk H; clear H; (go_wp2); (go_meet)
    case rel => exact ⟨_, (decide ((l1.length : Int) > 6)), (by first | rfl | (simp; done) | (simp [*]; done)), H', ⟨by first | omega | exact Nat.le_refl _⟩, ⟨by repeat (first | (with_reducible first | exact HB.out | apply below_alloc | apply pw_below_drewN | apply below_drew1) | exact HB.out)⟩⟩
  case rest =>
   clear HC7; (try clear c1); (try clear p2); (try clear c5); (try clear c6); (try clear c9); (try clear c9b0); (try clear c9b1); obtain ⟨kq, x18_6, rfl, HA, HJ6, HB⟩ := hcut
   cases kq with
   | zero => exact absurd HA.out (by simp [sizarlaw07_FactsChangedSpec.j0])
   | succ kj6 =>
    have H := HA.out; clear HA; simp only [sizarlaw07_FactsChangedSpec.j0] at H; (by_cases c10 : x18_6 = true)
    ·subst c10; (have H1 : (some true) = some r := by rw [if_pos rfl] at H; exact H); clear H; have H := H1; clear H1; obtain rfl := Option.some.inj H; (go_wp2); (go_ret); (exact ⟨by first | rfl | (simp [errW_none, errW_some] <;> rfl) | (simp [*, errW_none, errW_some] <;> rfl), by repeat (first | (with_reducible first | exact HB.out | apply below_alloc | apply pw_below_drewN | apply below_drew1) | exact HB.out)⟩)
    ·replace c10 := Bool.eq_false_iff.mpr c10; subst c10; (have H1 : ((facts_Changed.f l0 a2 a3).bind fun t367 => ((sizarref07_Changed.f kj6 l0 a2 a3).bind fun t370 => ((sizarref07_SameChanges.f kj6 t367 t370).bind fun t373 => (if t373 = true then ((facts_Alike.f kj6 l0 l1 a2 a3).bind fun t374 => ((sizarref07_Alike.f kj6 l0 l1 a2 a3).bind fun t375 => (if (t374 == t375) = true then ((facts_Upto.f l0 a2).bind fun t376 => ((sizarref07_Upto.f kj6 l0 a2).bind fun t379 => ((sizarref07_Same.f kj6 t376 t379).bind fun t382 => (some t382)))) else (none)))) else (none))))) = some r := by rw [if_neg (show ¬ (false = true) by decide)] at H; exact H); clear H; have H := H1; clear H1; replace H := Option.bind_eq_some_iff.mp H; obtain ⟨t367, A110, H⟩ := H; (replace H : ((sizarref07_Changed.f kj6 l0 a2 a3).bind fun t370 => ((sizarref07_SameChanges.f kj6 t367 t370).bind fun t373 => (if t373 = true then ((facts_Alike.f kj6 l0 l1 a2 a3).bind fun t374 => ((sizarref07_Alike.f kj6 l0 l1 a2 a3).bind fun t375 => (if (t374 == t375) = true then ((facts_Upto.f l0 a2).bind fun t376 => ((sizarref07_Upto.f kj6 l0 a2).bind fun t379 => ((sizarref07_Same.f kj6 t376 t379).bind fun t382 => (some t382)))) else (none)))) else (none)))) = some r := H); have A11 := Aside0.mk A110; clear A110; replace H := Option.bind_eq_some_iff.mp H; obtain ⟨t370, A120, H⟩ := H; (replace H : ((sizarref07_SameChanges.f kj6 t367 t370).bind fun t373 => (if t373 = true then ((facts_Alike.f kj6 l0 l1 a2 a3).bind fun t374 => ((sizarref07_Alike.f kj6 l0 l1 a2 a3).bind fun t375 => (if (t374 == t375) = true then ((facts_Upto.f l0 a2).bind fun t376 => ((sizarref07_Upto.f kj6 l0 a2).bind fun t379 => ((sizarref07_Same.f kj6 t376 t379).bind fun t382 => (some t382)))) else (none)))) else (none))) = some r := H); have A12 := Aside0.mk A120; clear A120; replace H := Option.bind_eq_some_iff.mp H; obtain ⟨t373, A130, H⟩ := H; (replace H : (if t373 = true then ((facts_Alike.f kj6 l0 l1 a2 a3).bind fun t374 => ((sizarref07_Alike.f kj6 l0 l1 a2 a3).bind fun t375 => (if (t374 == t375) = true then ((facts_Upto.f l0 a2).bind fun t376 => ((sizarref07_Upto.f kj6 l0 a2).bind fun t379 => ((sizarref07_Same.f kj6 t376 t379).bind fun t382 => (some t382)))) else (none)))) else (none)) = some r := H); have A13 := Aside0.mk A130; clear A130; (by_cases c14 : t373 = true)
     ·subst c14; (have H1 : ((facts_Alike.f kj6 l0 l1 a2 a3).bind fun t374 => ((sizarref07_Alike.f kj6 l0 l1 a2 a3).bind fun t375 => (if (t374 == t375) = true then ((facts_Upto.f l0 a2).bind fun t376 => ((sizarref07_Upto.f kj6 l0 a2).bind fun t379 => ((sizarref07_Same.f kj6 t376 t379).bind fun t382 => (some t382)))) else (none)))) = some r := by rw [if_pos rfl] at H; exact H); clear H; have H := H1; clear H1; replace H := Option.bind_eq_some_iff.mp H; obtain ⟨t374, A150, H⟩ := H; (replace H : ((sizarref07_Alike.f kj6 l0 l1 a2 a3).bind fun t375 => (if (t374 == t375) = true then ((facts_Upto.f l0 a2).bind fun t376 => ((sizarref07_Upto.f kj6 l0 a2).bind fun t379 => ((sizarref07_Same.f kj6 t376 t379).bind fun t382 => (some t382)))) else (none))) = some r := H); have A15 := Aside0.mk A150; clear A150; replace H := Option.bind_eq_some_iff.mp H; obtain ⟨t375, A160, H⟩ := H; (replace H : (if (t374 == t375) = true then ((facts_Upto.f l0 a2).bind fun t376 => ((sizarref07_Upto.f kj6 l0 a2).bind fun t379 => ((sizarref07_Same.f kj6 t376 t379).bind fun t382 => (some t382)))) else (none)) = some r := H); have A16 := Aside0.mk A160; clear A160; (by_cases c17 : (t374 == t375) = true)
      ·rw [if_pos c17] at H; have c17b0 : (t374 == t375) = true := c17; ((try (have c17b1 : decide (t374 = t375) = true := by simpa using c17))); ((try (have c17b2 : (t374 == t375) = true := by first | simpa using c17 | (have b_ : (!(t374 == t375)) = false := c17b0; cases h_ : (t374 == t375) with | true => rfl | false => rw [h_] at b_; cases b_)))); clear c17; replace H := Option.bind_eq_some_iff.mp H; obtain ⟨t376, A180, H⟩ := H; (replace H : ((sizarref07_Upto.f kj6 l0 a2).bind fun t379 => ((sizarref07_Same.f kj6 t376 t379).bind fun t382 => (some t382))) = some r := H); have A18 := Aside0.mk A180; clear A180; replace H := Option.bind_eq_some_iff.mp H; obtain ⟨t379, A190, H⟩ := H; (replace H : ((sizarref07_Same.f kj6 t376 t379).bind fun t382 => (some t382)) = some r := H); have A19 := Aside0.mk A190; clear A190; replace H := Option.bind_eq_some_iff.mp H; obtain ⟨t382, A200, H⟩ := H; replace H : (some t382) = some r := H; have A20 := Aside0.mk A200; clear A200; obtain rfl := Option.some.inj H
       (go_wp2_with (first | ((with_reducible refine gate_callee (f := 24) rfl ?_); refine goesL_ (some 22) rfl rfl Try.func24 (by kernel_rfl) rfl #[.slice A0 l0.length c0, .int .i64 a2, .int .i64 a3] rfl (by (try simp only [List.map_toArray, List.map_cons, List.map_nil]); first | done | rfl | (simp only [List.length_drop, List.length_take]; rfl)) ?_; (with_reducible refine (facts_Changed.calls _ _ l0 a2 a3 t367 _ ?side1 ?side2 A11.out).mono ?_); (case side1 => repeat (first | exact (Kd.C_below HR0.out HB.out) | (with_reducible refine Kd.C_alloc ?_ _) | (with_reducible refine Kd.C_drewN ?_ _) | (with_reducible refine Kd.C_drew ?_))); (case side2 => exact HC0.out); rintro e w21 ⟨v368, rfl, ho0, hb⟩; refine ⟨_, rfl, ?_⟩; have n0_ := Aside0.mk (Kd.S_lower ho0 (below_size (by repeat (first | (with_reducible first | exact HB.out | apply below_alloc | apply pw_below_drewN | apply below_drew1) | exact HB.out)))); have n1_ := Aside0.mk (below_step (by repeat (first | (with_reducible first | exact HB.out | apply below_alloc | apply pw_below_drewN | apply below_drew1) | exact HB.out)) hb); clear HB; have HO369 := n0_; have HB := n1_; clear n0_ n1_; (try clear hb); (try clear hb2); (try clear hk); (try clear hi); (try clear ho0)) | ((with_reducible refine gate_callee (f := 25) rfl ?_); refine goesL_ (some 26) rfl rfl Try.func25 (by kernel_rfl) rfl #[.slice A0 l0.length c0, .int .i64 a2, .int .i64 a3] rfl (by (try simp only [List.map_toArray, List.map_cons, List.map_nil]); first | done | rfl | (simp only [List.length_drop, List.length_take]; rfl)) ?_; (with_reducible refine (sizarref07_Changed.calls kj6 _ _ l0 a2 a3 t370 _ ?side1 ?side2 A12.out).mono ?_); (case side1 => repeat (first | exact (Kd.C_below HR0.out HB.out) | (with_reducible refine Kd.C_alloc ?_ _) | (with_reducible refine Kd.C_drewN ?_ _) | (with_reducible refine Kd.C_drew ?_))); (case side2 => exact HC0.out); rintro e w22 ⟨v371, rfl, ho0, hb⟩; refine ⟨_, rfl, ?_⟩; have n0_ := Aside0.mk (Kd.S_elder' (by (with_reducible repeat (first | apply Kd.S_alloc | apply Kd.S_drewN | apply Kd.S_drew)); exact HO369.out) (Kd.S_base ho0) hb); have n1_ := Aside0.mk (Kd.S_lower (Kd.S_new' ho0 (Kd.S_lt (by (with_reducible repeat (first | apply Kd.S_alloc | apply Kd.S_drewN | apply Kd.S_drew)); exact HO369.out))) (below_size (by repeat (first | (with_reducible first | exact HB.out | apply below_alloc | apply pw_below_drewN | apply below_drew1) | exact HB.out)))); have n2_ := Aside0.mk (below_step (by repeat (first | (with_reducible first | exact HB.out | apply below_alloc | apply pw_below_drewN | apply below_drew1) | exact HB.out)) hb); clear HO369; clear HB; have HO369 := n0_; have HO372 := n1_; have HB := n2_; clear n0_ n1_ n2_; (try clear hb); (try clear hb2); (try clear hk); (try clear hi); (try clear ho0); obtain ⟨Ao23, co23, eo23⟩ := Kd.S_slice HO369.out; subst eo23; obtain ⟨Ao24, co24, eo24⟩ := Kd.S_slice HO372.out; subst eo24) | ((with_reducible refine gate_callee (f := 23) rfl ?_); refine goesL_ (some 27) rfl rfl Try.func23 (by kernel_rfl) rfl #[.slice Ao23 t367.length co23, .slice Ao24 t370.length co24] rfl (by (try simp only [List.map_toArray, List.map_cons, List.map_nil]); first | done | rfl | (simp only [List.length_drop, List.length_take]; rfl)) ?_; (with_reducible refine (sizarref07_SameChanges.calls kj6 _ _ t367 _ _ t370 true _ ?side1 ?side2 ?side3 ?side4 A13.out).mono ?_); (case side1 => repeat (first | exact (Kd.S_reads' HO369.out).2.2 | (with_reducible refine Kd.C_alloc ?_ _) | (with_reducible refine Kd.C_drewN ?_ _) | (with_reducible refine Kd.C_drew ?_))); (case side2 => exact (Kd.S_reads' HO369.out).2.1); (case side3 => repeat (first | exact (Kd.S_reads' HO372.out).2.2 | (with_reducible refine Kd.C_alloc ?_ _) | (with_reducible refine Kd.C_drewN ?_ _) | (with_reducible refine Kd.C_drew ?_))); (case side4 => exact (Kd.S_reads' HO372.out).2.1); rintro e w' ⟨rfl, ⟨nd, rfl⟩⟩; refine ⟨_, rfl, ?_⟩) | (go_at_call 26; (with_reducible refine (facts_Alike.calls kj6 _ _ l0 _ _ l1 a2 a3 t374 _ ?side1 ?side2 ?side3 ?side4 A15.out).mono ?_); (case side1 => repeat (first | exact (Kd.C_below HR0.out (by repeat (first | (with_reducible first | exact HB.out | apply below_alloc | apply pw_below_drewN | apply below_drew1) | exact HB.out))) | (with_reducible refine Kd.C_alloc ?_ _) | (with_reducible refine Kd.C_drewN ?_ _) | (with_reducible refine Kd.C_drew ?_))); (case side2 => exact HC0.out); (case side3 => repeat (first | exact (Kd.C_below HR1.out (by repeat (first | (with_reducible first | exact HB.out | apply below_alloc | apply pw_below_drewN | apply below_drew1) | exact HB.out))) | (with_reducible refine Kd.C_alloc ?_ _) | (with_reducible refine Kd.C_drewN ?_ _) | (with_reducible refine Kd.C_drew ?_))); (case side4 => exact HC1.out); rintro e w25 ⟨rfl, hb⟩; have n0_ := Aside0.mk (Kd.S_below (by (with_reducible repeat (first | apply Kd.S_alloc | apply Kd.S_drewN | apply Kd.S_drew)); exact HO369.out) hb); have n1_ := Aside0.mk (Kd.S_below (by (with_reducible repeat (first | apply Kd.S_alloc | apply Kd.S_drewN | apply Kd.S_drew)); exact HO372.out) hb); have n2_ := Aside0.mk (below_step (by repeat (first | (with_reducible first | exact HB.out | apply below_alloc | apply pw_below_drewN | apply below_drew1) | exact HB.out)) hb); clear HO369; clear HO372; clear HB; have HO369 := n0_; have HO372 := n1_; have HB := n2_; clear n0_ n1_ n2_; (try clear hb); (try clear hb2); (try clear hk); (try clear hi)) | (go_at_call 27; (with_reducible refine (sizarref07_Alike.calls kj6 _ _ l0 _ _ l1 a2 a3 t375 _ ?side1 ?side2 ?side3 ?side4 A16.out).mono ?_); (case side1 => repeat (first | exact (Kd.C_below HR0.out HB.out) | (with_reducible refine Kd.C_alloc ?_ _) | (with_reducible refine Kd.C_drewN ?_ _) | (with_reducible refine Kd.C_drew ?_))); (case side2 => exact HC0.out); (case side3 => repeat (first | exact (Kd.C_below HR1.out HB.out) | (with_reducible refine Kd.C_alloc ?_ _) | (with_reducible refine Kd.C_drewN ?_ _) | (with_reducible refine Kd.C_drew ?_))); (case side4 => exact HC1.out); rintro e w26 ⟨rfl, hb⟩; have n0_ := Aside0.mk (Kd.S_below (by (with_reducible repeat (first | apply Kd.S_alloc | apply Kd.S_drewN | apply Kd.S_drew)); exact HO369.out) hb); have n1_ := Aside0.mk (Kd.S_below (by (with_reducible repeat (first | apply Kd.S_alloc | apply Kd.S_drewN | apply Kd.S_drew)); exact HO372.out) hb); have n2_ := Aside0.mk (below_step (by repeat (first | (with_reducible first | exact HB.out | apply below_alloc | apply pw_below_drewN | apply below_drew1) | exact HB.out)) hb); clear HO369; clear HO372; clear HB; have HO369 := n0_; have HO372 := n1_; have HB := n2_; clear n0_ n1_ n2_; (try clear hb); (try clear hb2); (try clear hk); (try clear hi)) | (go_at_call 28; (with_reducible refine (facts_Upto.calls _ _ l0 a2 t376 _ ?side1 ?side2 A18.out).mono ?_); (case side1 => repeat (first | exact (Kd.C_below HR0.out HB.out) | (with_reducible refine Kd.C_alloc ?_ _) | (with_reducible refine Kd.C_drewN ?_ _) | (with_reducible refine Kd.C_drew ?_))); (case side2 => exact HC0.out); rintro e w27 ⟨v377, rfl, ho0, hb⟩; have n0_ := Aside0.mk (Kd.S_below (by (with_reducible repeat (first | apply Kd.S_alloc | apply Kd.S_drewN | apply Kd.S_drew)); exact HO369.out) hb); have n1_ := Aside0.mk (Kd.S_below (by (with_reducible repeat (first | apply Kd.S_alloc | apply Kd.S_drewN | apply Kd.S_drew)); exact HO372.out) hb); have n2_ := Aside0.mk (Kd.R_lower ho0 (below_size (by repeat (first | (with_reducible first | exact HB.out | apply below_alloc | apply pw_below_drewN | apply below_drew1) | exact HB.out)))); have n3_ := Aside0.mk (below_step (by repeat (first | (with_reducible first | exact HB.out | apply below_alloc | apply pw_below_drewN | apply below_drew1) | exact HB.out)) hb); clear HO369; clear HO372; clear HB; have HO369 := n0_; have HO372 := n1_; have HO378 := n2_; have HB := n3_; clear n0_ n1_ n2_ n3_; (try clear hb); (try clear hb2); (try clear hk); (try clear hi); (try clear ho0)) | (go_at_call 29; (with_reducible refine (sizarref07_Upto.calls kj6 _ _ l0 a2 t379 _ ?side1 ?side2 A19.out).mono ?_); (case side1 => repeat (first | exact (Kd.C_below HR0.out HB.out) | (with_reducible refine Kd.C_alloc ?_ _) | (with_reducible refine Kd.C_drewN ?_ _) | (with_reducible refine Kd.C_drew ?_))); (case side2 => exact HC0.out); rintro e w28 ⟨v380, rfl, ho0, hb⟩; have n0_ := Aside0.mk (Kd.S_below (by (with_reducible repeat (first | apply Kd.S_alloc | apply Kd.S_drewN | apply Kd.S_drew)); exact HO369.out) hb); have n1_ := Aside0.mk (Kd.S_below (by (with_reducible repeat (first | apply Kd.S_alloc | apply Kd.S_drewN | apply Kd.S_drew)); exact HO372.out) hb); have n2_ := Aside0.mk (Kd.R_elder' (by (with_reducible repeat (first | apply Kd.R_alloc | apply Kd.R_drewN | apply Kd.R_drew)); exact HO378.out) (Kd.R_base ho0) hb); have n3_ := Aside0.mk (Kd.R_lower (Kd.R_new' ho0 (Kd.R_lt (by (with_reducible repeat (first | apply Kd.R_alloc | apply Kd.R_drewN | apply Kd.R_drew)); exact HO378.out))) (below_size (by repeat (first | (with_reducible first | exact HB.out | apply below_alloc | apply pw_below_drewN | apply below_drew1) | exact HB.out)))); have n4_ := Aside0.mk (below_step (by repeat (first | (with_reducible first | exact HB.out | apply below_alloc | apply pw_below_drewN | apply below_drew1) | exact HB.out)) hb); clear HO369; clear HO372; clear HO378; clear HB; have HO369 := n0_; have HO372 := n1_; have HO378 := n2_; have HO381 := n3_; have HB := n4_; clear n0_ n1_ n2_ n3_ n4_; (try clear hb); (try clear hb2); (try clear hk); (try clear hi); (try clear ho0); obtain ⟨Ao29, co29, eo29⟩ := Kd.R_slice HO378.out; subst eo29; obtain ⟨Ao30, co30, eo30⟩ := Kd.R_slice HO381.out; subst eo30) | (go_at_call 17; (with_reducible refine (sizarref07_Same.calls kj6 _ _ t376 _ _ t379 t382 _ ?side1 ?side2 ?side3 ?side4 A20.out).mono ?_); (case side1 => repeat (first | exact (Kd.R_reads' HO378.out).2.2 | (with_reducible refine Kd.C_alloc ?_ _) | (with_reducible refine Kd.C_drewN ?_ _) | (with_reducible refine Kd.C_drew ?_))); (case side2 => exact (Kd.R_reads' HO378.out).2.1); (case side3 => repeat (first | exact (Kd.R_reads' HO381.out).2.2 | (with_reducible refine Kd.C_alloc ?_ _) | (with_reducible refine Kd.C_drewN ?_ _) | (with_reducible refine Kd.C_drew ?_))); (case side4 => exact (Kd.R_reads' HO381.out).2.1); rintro e w' ⟨rfl, ⟨nd, rfl⟩⟩)))
       (go_ret); (exact ⟨by first | rfl | (simp [errW_none, errW_some] <;> rfl) | (simp [*, errW_none, errW_some] <;> rfl), by repeat (first | (with_reducible first | exact HB.out | apply below_alloc | apply pw_below_drewN | apply below_drew1) | exact HB.out)⟩)
      ·rw [if_neg c17] at H; (exact absurd H (by simp))
     ·replace c14 := Bool.eq_false_iff.mpr c14; subst c14; (have H1 : (none) = some r := by rw [if_neg (show ¬ (false = true) by decide)] at H; exact H); clear H; have H := H1; clear H1; (exact absurd H (by simp))
 ·replace c6 := Bool.eq_false_iff.mpr c6; subst c6; (have H1 : (none) = some r := by rw [if_neg (show ¬ (false = true) by decide)] at H; exact H); clear H; have H := H1; clear H1; (exact absurd H (by simp))
end Go.Proofs.Ytamajnhdibcpiaa.G
namespace Go.Proofs.Ytamajnhdibcpiaa.G
open Go.RowKit Go.Proofs.YtamajnhdibcpiaaW.PrintWords Go.Proofs.YtamajnhdibcpiaaW.PrintLast Go.Proofs.YtamajnhdibcpiaaW.PrintMore
theorem at_val (l : List S28) (key : S24) (t known : Int) : atM l key t known = (if 0 ≤ valM l key known t then valM l key known t else 0, decide (0 ≤ valM l key known t)) := by
 unfold atM valM
 cases h : bestM (ofM l key known) t with
 | none => simp
 | some b =>
  simp only; (by_cases hb : b.f1 < 0)
  ·(rw [if_pos hb, if_neg (by omega)]); simp; omega
  ·(rw [if_neg hb, if_pos (by omega)]); simp; omega
end Go.Proofs.Ytamajnhdibcpiaa.G
namespace Go.Proofs.Ytamajnhdibcpiaa.G
open Go.RowKit Go.Proofs.YtamajnhdibcpiaaW.PrintWords Go.Proofs.YtamajnhdibcpiaaW.PrintLast Go.Proofs.YtamajnhdibcpiaaW.PrintMore
theorem sane20 : sizarlaw07_sane.f 20 = some true := by kernel_rfl
theorem sane_all : Evt (fun k => sizarlaw07_sane.f k) true := by
 (refine ⟨20, fun k hk => ?_⟩); (obtain ⟨d, rfl⟩ : ∃ d, k = 20 + d := ⟨k - 20, by omega⟩); clear hk
 induction d with
 | zero => exact sane20
 | succ d ih => exact sizarlaw07_sane.mono (20 + d) _ ih
end Go.Proofs.Ytamajnhdibcpiaa.G
namespace Go.Proofs.Ytamajnhdibcpiaa.G
open Go.ChangeShapes Go.WideShapes Go.Deep Go.ChangeAt Go.RowKit Go.Proofs.YtamajnhdibcpiaaW.PrintWords Go.Proofs.YtamajnhdibcpiaaW.PrintLast
set_option maxRecDepth 100000
theorem own : ownKnob Try.prog.godebug = none := by kernel_rfl
def wfi (n : Int) : Bool := (Lit.int .i64 n).wf
def wf28 (x : S28) : Bool := wfK x.f0 && (wfi x.f1 && (wfi x.f2.f0 && (wfi x.f2.f1 && (wfi x.f3 && wfi x.f4))))
def wf54 (x : S54) : Bool := wfK x.f0 && (wfi x.f1 && wfi x.f2)
theorem cells26 : Try.prog.cellsOf 26 = 2 := by kernel_rfl
theorem cells28n : Try.prog.cellsOf 28 = 8 := by kernel_rfl
theorem cells54 : Try.prog.cellsOf 54 = 5 := by kernel_rfl
section
variable {H : Type} {enc : TypeId × Value → H} {w : World} {base : Nat} {spare : Nat → Bool} {held : Bool} {fuel : Nat} {cs : List Value} {x : DataW H × List MemPlace}
theorem t24 (hl : cs.length = 3) (h : DataW.trod enc Try.prog w base spare held fuel 24 cs = some x) : ∃ k : S24, cs = [.int .i64 k.f0, .int .i64 k.f1, .int .i64 k.f2] ∧ wfK k = true := by
 match cs, hl with
 | [c0, c1, c2], _ =>
  obtain ⟨xs, n, _, hx, _, hlen, hg⟩ := DataW.trod_struct Try.underlying24 h
  match xs, hlen with
  | [y0, y1, y2], _ =>
   have t0 : DataW.trod enc Try.prog w base spare held n 3 [c0] = some y0 := hg 0 _ rfl; have t1 : DataW.trod enc Try.prog w base spare held n 3 [c1] = some y1 := hg 1 _ rfl; have t2 : DataW.trod enc Try.prog w base spare held n 3 [c2] = some y2 := hg 2 _ rfl; obtain ⟨n0, e0, _, w0⟩ := DataW.trod_int Try.underlying3 t0; obtain ⟨n1, e1, _, w1⟩ := DataW.trod_int Try.underlying3 t1; obtain ⟨n2, e2, _, w2⟩ := DataW.trod_int Try.underlying3 t2; cases e0; cases e1; cases e2; (exact ⟨⟨n0, n1, n2⟩, rfl, by simp [wfK, w0, w1, w2]⟩)
theorem t26 (hl : cs.length = 2) (h : DataW.trod enc Try.prog w base spare held fuel 26 cs = some x) : ∃ k : S26, cs = [.int .i64 k.f0, .int .i64 k.f1] ∧ (wfi k.f0 && wfi k.f1) = true := by
 match cs, hl with
 | [c0, c1], _ =>
  obtain ⟨xs, n, _, hx, _, hlen, hg⟩ := DataW.trod_struct Try.underlying26 h
  match xs, hlen with
  | [y0, y1], _ =>
   have t0 : DataW.trod enc Try.prog w base spare held n 3 [c0] = some y0 := hg 0 _ rfl; have t1 : DataW.trod enc Try.prog w base spare held n 3 [c1] = some y1 := hg 1 _ rfl; obtain ⟨n0, e0, _, w0⟩ := DataW.trod_int Try.underlying3 t0; obtain ⟨n1, e1, _, w1⟩ := DataW.trod_int Try.underlying3 t1; cases e0; cases e1; (exact ⟨⟨n0, n1⟩, rfl, by simp [wfi, w0, w1]⟩)
theorem t28 (hl : cs.length = 8) (h : DataW.trod enc Try.prog w base spare held fuel 28 cs = some x) :
    ∃ k : S28, cs = [.int .i64 k.f0.f0, .int .i64 k.f0.f1, .int .i64 k.f0.f2, .int .i64 k.f1, .int .i64 k.f2.f0, .int .i64 k.f2.f1, .int .i64 k.f3, .int .i64 k.f4] ∧ wf28 k = true := by
 match cs, hl with
 | [c0, c1, c2, c3, c4, c5, c6, c7], _ =>
  obtain ⟨xs, n, _, hx, _, hlen, hg⟩ := DataW.trod_struct Try.underlying28 h
  match xs, hlen with
  | [y0, y1, y2, y3, y4], _ =>
   have t0 : DataW.trod enc Try.prog w base spare held n 24 (([c0, c1, c2, c3, c4, c5, c6, c7].drop 0).take (Try.prog.cellsOf 24)) = some y0 := hg 0 _ rfl; have t1 : DataW.trod enc Try.prog w base spare held n 3 [c3] = some y1 := hg 1 _ rfl; have t2 : DataW.trod enc Try.prog w base spare held n 26 (([c0, c1, c2, c3, c4, c5, c6, c7].drop 4).take (Try.prog.cellsOf 26)) = some y2 := hg 2 _ rfl; have t3 : DataW.trod enc Try.prog w base spare held n 3 [c6] = some y3 := hg 3 _ rfl; have t4 : DataW.trod enc Try.prog w base spare held n 3 [c7] = some y4 := hg 4 _ rfl; rw [cells24] at t0; rw [cells26] at t2; obtain ⟨k0, e0, w0⟩ := t24 rfl t0; obtain ⟨n1, e1, _, w1⟩ := DataW.trod_int Try.underlying3 t1; obtain ⟨k2, e2, w2⟩ := t26 rfl t2; obtain ⟨n3, e3, _, w3⟩ := DataW.trod_int Try.underlying3 t3; obtain ⟨n4, e4, _, w4⟩ := DataW.trod_int Try.underlying3 t4; cases e0; cases e1; cases e2; cases e3; cases e4; refine ⟨⟨k0, n1, k2, n3, n4⟩, rfl, ?_⟩; simp only [Bool.and_eq_true] at w2; simp only [wf28, Bool.and_eq_true]; exact ⟨w0, w1, w2.1, w2.2, w3, w4⟩
theorem t54 (hl : cs.length = 5) (h : DataW.trod enc Try.prog w base spare held fuel 54 cs = some x) :
    ∃ k : S54, cs = [.int .i64 k.f0.f0, .int .i64 k.f0.f1, .int .i64 k.f0.f2, .int .i64 k.f1, .int .i64 k.f2] ∧ wf54 k = true := by
 match cs, hl with
 | [c0, c1, c2, c3, c4], _ =>
  obtain ⟨xs, n, _, hx, _, hlen, hg⟩ := DataW.trod_struct Try.underlying54 h
  match xs, hlen with
  | [y0, y1, y2], _ =>
   have t0 : DataW.trod enc Try.prog w base spare held n 24 (([c0, c1, c2, c3, c4].drop 0).take (Try.prog.cellsOf 24)) = some y0 := hg 0 _ rfl; have t1 : DataW.trod enc Try.prog w base spare held n 3 [c3] = some y1 := hg 1 _ rfl; have t2 : DataW.trod enc Try.prog w base spare held n 3 [c4] = some y2 := hg 2 _ rfl; rw [cells24] at t0; obtain ⟨k0, e0, w0⟩ := t24 rfl t0; obtain ⟨n1, e1, _, w1⟩ := DataW.trod_int Try.underlying3 t1; obtain ⟨n2, e2, _, w2⟩ := DataW.trod_int Try.underlying3 t2; cases e0; cases e1; cases e2; (exact ⟨⟨k0, n1, n2⟩, rfl, by simp only [wf54, Bool.and_eq_true]; exact ⟨w0, w1, w2⟩⟩)
end
section
variable {H : Type} {enc : TypeId × Value → H} {W : World} {base b0 : Nat} {r : Reach} {spare : Nat → Bool} {held : Bool} {a : Option Addr} {len cap : Nat} {d : DataW H} {p : List MemPlace} {v : Value}
theorem open28 (h : DataW.Trod enc Try.prog W base spare held 22 (.slice a len cap) d p) : ∃ l : List S28, len = l.length ∧ Kd.C k28 W a l.length l ∧ l.length ≤ cap ∧ ∀ x ∈ l, wf28 x = true := by
 obtain ⟨fuel, hf⟩ := h; (rcases open_slice Try.underlying22 hf with ⟨hcs, _⟩ | ⟨x, l, c, m, n, D, Pl, hcs, _, hl, hm, hmm, _, hi⟩)
 ·simp [Value.cells] at hcs; obtain ⟨rfl, rfl, rfl⟩ := hcs; (exact ⟨[], rfl, ⟨rfl, by simp, fun h => absurd h (by simp)⟩, by simp, by simp⟩)
 ·simp [Value.cells] at hcs; obtain ⟨rfl, rfl, rfl⟩ := hcs; (have hlm : len ≤ m := by rw [hmm]; split <;> omega)
  have hel : ∀ i, i < len → ∃ y : S28, (∀ q u, [Value.int .i64 y.f0.f0, .int .i64 y.f0.f1, .int .i64 y.f0.f2, .int .i64 y.f1, .int .i64 y.f2.f0, .int .i64 y.f2.f1, .int .i64 y.f3, .int .i64 y.f4][q]? = some u → W.cell? (x.add (i * 8 + q)) = some u) ∧ wf28 y = true := by
   intro i hi2; (obtain ⟨cs', hc, ht'⟩ := hi i (by omega)); rw [cells28n] at hc; obtain ⟨_, hcl, hat⟩ := World.cells?_some hc; obtain ⟨k, rfl, hk⟩ := t28 hcl ht'; (refine ⟨k, fun q u hq => ?_, hk⟩); have hq8 : q < 8 := (List.getElem?_eq_some_iff.1 hq).1; rw [← Go.Deep.add_add, hat q hq8]; exact hq
  refine ⟨(List.range len).map fun i => if h : i < len then (hel i h).choose else z28, by simp, ⟨rfl, by simp; unfold maxLen at hm; omega, fun _ => ⟨x, rfl, fun j y hj => ?_⟩⟩, by simp; exact hl, ?_⟩
  ·obtain ⟨hj1, hj2⟩ := List.getElem?_eq_some_iff.1 hj; simp only [List.length_map, List.length_range] at hj1; simp only [List.getElem_map, List.getElem_range, hj1, dif_pos] at hj2; subst hj2; exact ⟨_, rfl, k28_mk W _, (hel j hj1).choose_spec.1⟩
  ·intro y hy; obtain ⟨j, hj, rfl⟩ := List.mem_map.1 hy; (have hj1 : j < len := by simpa using hj); rw [dif_pos hj1]; exact (hel j hj1).choose_spec.2
theorem open54 (h : DataW.Trod enc Try.prog W base spare held 44 (.slice a len cap) d p) : ∃ l : List S54, len = l.length ∧ Kd.C k54 W a l.length l ∧ l.length ≤ cap ∧ ∀ x ∈ l, wf54 x = true := by
 obtain ⟨fuel, hf⟩ := h; (rcases open_slice Try.underlying44 hf with ⟨hcs, _⟩ | ⟨x, l, c, m, n, D, Pl, hcs, _, hl, hm, hmm, _, hi⟩)
 ·simp [Value.cells] at hcs; obtain ⟨rfl, rfl, rfl⟩ := hcs; (exact ⟨[], rfl, ⟨rfl, by simp, fun h => absurd h (by simp)⟩, by simp, by simp⟩)
 ·simp [Value.cells] at hcs; obtain ⟨rfl, rfl, rfl⟩ := hcs; (have hlm : len ≤ m := by rw [hmm]; split <;> omega)
  have hel : ∀ i, i < len → ∃ y : S54, (∀ q u, [Value.int .i64 y.f0.f0, .int .i64 y.f0.f1, .int .i64 y.f0.f2, .int .i64 y.f1, .int .i64 y.f2][q]? = some u → W.cell? (x.add (i * 5 + q)) = some u) ∧ wf54 y = true := by
   intro i hi2; (obtain ⟨cs', hc, ht'⟩ := hi i (by omega)); rw [cells54] at hc; obtain ⟨_, hcl, hat⟩ := World.cells?_some hc; obtain ⟨k, rfl, hk⟩ := t54 hcl ht'; (refine ⟨k, fun q u hq => ?_, hk⟩); have hq8 : q < 5 := (List.getElem?_eq_some_iff.1 hq).1; rw [← Go.Deep.add_add, hat q hq8]; exact hq
  refine ⟨(List.range len).map fun i => if h : i < len then (hel i h).choose else z54, by simp, ⟨rfl, by simp; unfold maxLen at hm; omega, fun _ => ⟨x, rfl, fun j y hj => ?_⟩⟩, by simp; exact hl, ?_⟩
  ·obtain ⟨hj1, hj2⟩ := List.getElem?_eq_some_iff.1 hj; simp only [List.length_map, List.length_range] at hj1; simp only [List.getElem_map, List.getElem_range, hj1, dif_pos] at hj2; subst hj2; exact ⟨_, rfl, k54_mk W _, (hel j hj1).choose_spec.1⟩
  ·intro y hy; obtain ⟨j, hj, rfl⟩ := List.mem_map.1 hy; (have hj1 : j < len := by simpa using hj); rw [dif_pos hj1]; exact (hel j hj1).choose_spec.2
end
end Go.Proofs.Ytamajnhdibcpiaa.G
namespace Go.Proofs.Ytamajnhdibcpiaa.G
open Go.RowKit Go.Proofs.YtamajnhdibcpiaaW.PrintWords Go.Proofs.YtamajnhdibcpiaaW.PrintLast Go.Proofs.YtamajnhdibcpiaaW.PrintMore
theorem valC_ge (l : List S28) (key : S24) (known t : Int) : -1 ≤ valM l key known t := by
 unfold valM; (split <;> omega)
theorem differs_f (l : List S28) (hl : l.length ≤ 1000000) (key : S24) (t b a : Int) : sizarref07_differs.f l key.f0 key.f1 key.f2 t b a = some (decide (valM l key b t ≠ valM l key a t)) := by
 have h1 := valC_ge l key b t; have h2 := valC_ge l key a t; (have hat : ∀ known, sizarref07_At.f l key.f0 key.f1 key.f2 t known = some (atM l key t known) := fun known => by unfold sizarref07_At.f; rw [if_pos hl]); simp only [sizarref07_differs.f, hat, Option.bind_some, at_val]; generalize valM l key b t = u at *; generalize valM l key a t = v at *; (by_cases hu : 0 ≤ u)
 ·by_cases hv : 0 ≤ v
  ·simp [hu, hv]; rw [Bool.eq_iff_iff]; simp
  ·(have : u ≠ v := by omega); simp [hu, hv, this]
 ·by_cases hv : 0 ≤ v
  ·(have : u ≠ v := by omega); simp [hu, hv, this]
  ·(have : u = v := by omega); simp [hu, hv, this]
def chgTo (l : List S28) (b a : Int) (n : Nat) : List S57 := ((keysM l).take n).filterMap (chgOne l b a)
theorem takeMap_succ {α β : Type} (f : α → Option β) (d : α) (L : List α) (n : Nat) (hn : n < L.length) : (L.take (n + 1)).filterMap f = (L.take n).filterMap f ++ (f (L.getD n d)).toList := by
 (have : L[n]?.toList = [L.getD n d] := by simp [hn]); rw [List.take_add_one, List.filterMap_append, this, filterMap_one]
theorem chgTo_succ (l : List S28) (b a : Int) (n : Nat) (hn : n < (keysM l).length) : chgTo l b a (n + 1) = chgTo l b a n ++ (chgOne l b a ((keysM l).getD n z24)).toList := takeMap_succ (chgOne l b a) z24 (keysM l) n hn
theorem chgTo_length (l : List S28) (b a : Int) (n : Nat) : (chgTo l b a n).length ≤ n := by
 unfold chgTo; have h1 := List.length_filterMap_le (chgOne l b a) ((keysM l).take n); (have h2 : ((keysM l).take n).length ≤ n := by rw [List.length_take]; omega); omega
theorem refchg_in (l : List S28) (hl : l.length ≤ 1000) (b a : Int) (i : Nat) (hi : i < (keysM l).length) (r : List S57)
    (hnext : Evt (fun k => sizarref07_Changed.l0 k l b a (chgTo l b a (i + 1)) (keysM l) ((i + 1 : Nat) : Int)) r) :
    ∀ (d t : Nat), 1024 - t = d → t ≤ 1024 → Evt (fun k => sizarref07_Changed.l1 k l b a (chgTo l b a i) (keysM l) (i : Int) (termsTo (fun t : Nat => valM l ((keysM l).getD i z24) b (t : Int)) (fun t : Nat => valM l ((keysM l).getD i z24) a (t : Int)) t) (t : Int)) r := by
 have hkl := keysM_length l; have hcl := chgTo_length l b a i; (have hr : rd_T24 (keysM l) (i : Int) = (keysM l).getD i z24 := by unfold rd_T24; rw [Int.toNat_natCast]); have hsucc := chgTo_succ l b a i hi; (have hwi : wrap64 ((i : Int) + 1) = ((i + 1 : Nat) : Int) := by rw [w64 (by omega) (by omega)]; omega); rw [hsucc] at hnext; generalize hk : (keysM l).getD i z24 = key at hr hnext; intro d
 induction d with
 | zero =>
  intro t hd ht; (obtain rfl : t = 1024 := by omega); (have hone : chgOne l b a key = if termsTo (fun t : Nat => valM l key b (t : Int)) (fun t : Nat => valM l key a (t : Int)) 1024 = [] then none else some ⟨key, termsTo (fun t : Nat => valM l key b (t : Int)) (fun t : Nat => valM l key a (t : Int)) 1024⟩ := rfl); rw [hone] at hnext; (generalize termsTo (fun t : Nat => valM l key b (t : Int)) (fun t : Nat => valM l key a (t : Int)) 1024 = T at hnext ⊢); (by_cases hT : T = [])
  ·rw [if_pos hT] at hnext; (refine hnext.succ fun k => ?_); simp only [sizarref07_Changed.l1, hwi, Option.toList, List.append_nil]; (rw [if_neg (by omega), if_neg (by rw [hT]; simp)])
  ·rw [if_neg hT] at hnext; (refine hnext.succ fun k => ?_); have hTl : 0 < T.length := List.length_pos_iff.2 hT; simp only [sizarref07_Changed.l1, hwi, hr, Option.toList]; (rw [if_neg (by omega), if_pos (by omega), if_pos (by omega), if_pos (by omega), if_pos (by omega)])
 | succ d ih =>
  intro t hd ht; (have hn := ih (t + 1) (by omega) (by omega)); (have hwt : wrap64 ((t : Int) + 1) = ((t + 1 : Nat) : Int) := by rw [w64 (by omega) (by omega)]; omega); (have hlenT := termsTo_length (fun t : Nat => valM l key b (t : Int)) (fun t : Nat => valM l key a (t : Int)) t); rw [termsTo_succ] at hn; (generalize termsTo (fun t : Nat => valM l key b (t : Int)) (fun t : Nat => valM l key a (t : Int)) t = T at hn hlenT ⊢); (by_cases he : valM l key b (t : Int) = valM l key a (t : Int))
  ·(have hs : stepT (fun t : Nat => valM l key b (t : Int)) (fun t : Nat => valM l key a (t : Int)) T t = T := if_pos he); rw [hs] at hn; (refine hn.succ fun k => ?_); (simp only [sizarref07_Changed.l1, hwt, hr, differs_f l (show l.length ≤ 1000000 by omega), Option.bind_some]); (rw [if_pos (by omega), if_pos (by omega), if_pos (by omega), if_neg (by simpa using he)])
  ·by_cases hT : 0 < T.length
   ·(have hw1 : wrap64 ((T.length : Int) - 1) = ((T.length - 1 : Nat) : Int) := by rw [w64 (by omega) (by omega)]; omega); (have hr26 : rd_T26 T ((T.length - 1 : Nat) : Int) = T.getD (T.length - 1) z26 := by unfold rd_T26; rw [Int.toNat_natCast]); (by_cases hlast : (T.getD (T.length - 1) z26).f1 = (t : Int))
    ·have hs : stepT (fun t : Nat => valM l key b (t : Int)) (fun t : Nat => valM l key a (t : Int)) T t = T.set (T.length - 1) ⟨(T.getD (T.length - 1) z26).f0, ((t + 1 : Nat) : Int)⟩ := by
      unfold stepT; rw [if_neg he, if_pos ⟨hT, hlast⟩]; rfl
     rw [hs] at hn; (refine hn.succ fun k => ?_); (simp only [sizarref07_Changed.l1, hwt, hr, hw1, hr26, differs_f l (show l.length ≤ 1000000 by omega), Option.bind_some, Int.toNat_natCast]); (rw [if_pos (by omega), if_pos (by omega), if_pos (by omega), if_pos (by simpa using he), if_pos (by omega), if_pos (by omega), if_pos (by omega), if_pos hlast])
    ·have hs : stepT (fun t : Nat => valM l key b (t : Int)) (fun t : Nat => valM l key a (t : Int)) T t = T ++ [⟨(t : Int), ((t + 1 : Nat) : Int)⟩] := by
      unfold stepT; (rw [if_neg he, if_neg (fun h => hlast h.2)]); rfl
     rw [hs] at hn; (refine hn.succ fun k => ?_); (simp only [sizarref07_Changed.l1, hwt, hr, hw1, hr26, differs_f l (show l.length ≤ 1000000 by omega), Option.bind_some]); (rw [if_pos (by omega), if_pos (by omega), if_pos (by omega), if_pos (by simpa using he), if_pos (by omega), if_pos (by omega), if_pos (by omega), if_neg hlast, if_pos (by omega)])
   ·have hs : stepT (fun t : Nat => valM l key b (t : Int)) (fun t : Nat => valM l key a (t : Int)) T t = T ++ [⟨(t : Int), ((t + 1 : Nat) : Int)⟩] := by
     unfold stepT; (rw [if_neg he, if_neg (fun h => hT h.1)]); rfl
    rw [hs] at hn; (refine hn.succ fun k => ?_); (simp only [sizarref07_Changed.l1, hwt, hr, differs_f l (show l.length ≤ 1000000 by omega), Option.bind_some]); (rw [if_pos (by omega), if_pos (by omega), if_pos (by omega), if_pos (by simpa using he), if_neg (by omega), if_pos (by omega)])
theorem refchg_from (l : List S28) (hl : l.length ≤ 1000) (b a : Int) : ∀ (d i : Nat), (keysM l).length - i = d → i ≤ (keysM l).length → Evt (fun k => sizarref07_Changed.l0 k l b a (chgTo l b a i) (keysM l) (i : Int)) (changedM l b a) := by
 intro d
 induction d with
 | zero =>
  intro i hd hi
  have e : chgTo l b a i = changedM l b a := by
   unfold chgTo changedM; (rw [List.take_of_length_le (by omega)])
  rw [e]; (refine ⟨1, fun k hk => ?_⟩); (obtain ⟨m, rfl⟩ : ∃ m, k = m + 1 := ⟨k - 1, by omega⟩); simp only [sizarref07_Changed.l0]; (rw [if_neg (by omega)])
 | succ d ih =>
  intro i hd hi; (refine (refchg_in l hl b a i (by omega) _ (ih (i + 1) (by omega) (by omega)) _ 0 rfl (by omega)).succ fun k => ?_); simp only [sizarref07_Changed.l0]; (rw [if_pos (by omega)]); rfl
theorem refchg (l : List S28) (hl : l.length ≤ 1000) (b a : Int) : Evt (fun k => sizarref07_Changed.f k l b a) (changedM l b a) := by
 (have := refchg_from l hl b a _ 0 rfl (by omega)); unfold sizarref07_Changed.f sizarref07_Keys.f; (simp only [if_pos (show l.length ≤ 1000000 by omega), Option.bind_some]); exact this
theorem refupto_from (l : List S28) (hl : l.length ≤ 1000) (known : Int) : ∀ (d i : Nat), l.length - i = d → i ≤ l.length → Evt (fun k => sizarref07_Upto.l0 k l known (uptoM (l.take i) known) (i : Int)) (uptoM l known) := by
 intro d
 induction d with
 | zero =>
  intro i hd hi; (rw [List.take_of_length_le (show l.length ≤ i by omega)]); (refine ⟨1, fun k hk => ?_⟩); (obtain ⟨m, rfl⟩ : ∃ m, k = m + 1 := ⟨k - 1, by omega⟩); simp only [sizarref07_Upto.l0]; (rw [if_neg (by omega)])
 | succ d ih =>
  intro i hd hi; (have hr : rd_T28 l (i : Int) = l.getD i z28 := by unfold rd_T28; rw [Int.toNat_natCast]); (have hw : wrap64 ((i : Int) + 1) = ((i + 1 : Nat) : Int) := by rw [w64 (by omega) (by omega)]; omega); (have hn := ih (i + 1) (by omega) (by omega))
  have e : uptoM (l.take (i + 1)) known = uptoM (l.take i) known ++ (if (l.getD i z28).f3 ≤ known then [l.getD i z28] else []) := by
   have e1 : l.take (i + 1) = l.take i ++ [l.getD i z28] := by
    rw [List.take_add_one]; (simp [show i < l.length by omega])
   unfold uptoM; rw [e1, List.filter_append]; (congr 1); generalize l.getD i z28 = x; (by_cases h : x.f3 ≤ known)
   ·(have h2 : lateB known x = false := decide_eq_false (by omega)); rw [if_pos h]; simp only [List.filter_cons, h2, Bool.not_false, if_true, List.filter_nil]
   ·(have h2 : lateB known x = true := decide_eq_true (by omega)); rw [if_neg h]; simp only [List.filter_cons, h2, Bool.not_true, Bool.false_eq_true, if_false, List.filter_nil]
  rw [e] at hn; have hul : (uptoM (l.take i) known).length ≤ (l.take i).length := List.length_filter_le _ _; (have htl : (l.take i).length ≤ l.length := by rw [List.length_take]; omega); (by_cases h : (l.getD i z28).f3 ≤ known)
  ·rw [if_pos h] at hn; (refine hn.succ fun k => ?_); simp only [sizarref07_Upto.l0, hr, hw]; (rw [if_pos (by omega), if_pos (by omega), if_pos h, if_pos (by omega)])
  ·rw [if_neg h, List.append_nil] at hn; (refine hn.succ fun k => ?_); simp only [sizarref07_Upto.l0, hr, hw]; (rw [if_pos (by omega), if_pos (by omega), if_neg h])
theorem refupto (l : List S28) (hl : l.length ≤ 1000) (known : Int) : Evt (fun k => sizarref07_Upto.f k l known) (uptoM l known) := by
 unfold sizarref07_Upto.f; (exact refupto_from l hl known _ 0 rfl (by omega))
theorem samePts_from (a : List S60) (hn : a.length ≤ 1000000) : ∀ (d i : Nat), a.length - i = d → i ≤ a.length → Evt (fun k => sizarref07_SamePoints.l0 k a a (i : Int)) true := by
  intro d
  induction d with
  | zero =>
    intro i hd hi
    exact ⟨1, fun k hk => by
      obtain ⟨m, rfl⟩ : ∃ m, k = m + 1 := ⟨k - 1, by omega⟩
      simp only [sizarref07_SamePoints.l0]; rw [if_neg (by omega)]⟩
  | succ d ih =>
    intro i hd hi
    refine (ih (i + 1) (by omega) (by omega)).succ fun k => ?_
    simp only [sizarref07_SamePoints.l0]
    rw [if_pos (by omega), if_pos (by omega), if_pos (by omega), if_neg (by simp), w64 (by omega) (by omega)]
    rfl
theorem samePts (a : List S60) (hn : a.length ≤ 1000000) : Evt (fun k => sizarref07_SamePoints.f k a a) true := by
 (refine (samePts_from a hn a.length 0 (by omega) (by omega)).congr fun k => ?_); unfold sizarref07_SamePoints.f; rw [if_pos rfl]; rfl
theorem pointsM_length (l : List S28) (key : S24) (frm upt known : Int) : (pointsM l key frm upt known).length ≤ 1000000 := by
 (have := ptsTo_length (fun t : Nat => valM l key known (t : Int)) frm upt 1024); unfold pointsM; omega
theorem refpoints_from (l : List S28) (hl : l.length ≤ 1000000) (key : S24) (frm upt known : Int) : ∀ (d i : Nat), (mn upt 1024 - (i : Int)).toNat = d → frm ≤ (i : Int) → i ≤ 1024 →
    Evt (fun k => sizarref07_Points.l0 k l upt known (ptsTo (fun t : Nat => valM l key known (t : Int)) frm upt i) (i : Int) key.f0 key.f1 key.f2) (pointsM l key frm upt known) := by
  have hm : mn upt 1024 ≤ upt ∧ mn upt 1024 ≤ 1024 ∧ (mn upt 1024 = upt ∨ mn upt 1024 = 1024) := by unfold mn; split <;> omega
  intro d
  induction d with
  | zero =>
    intro i hd hf hi
    have hend : ptsTo (fun t : Nat => valM l key known (t : Int)) frm upt i = pointsM l key frm upt known := by
      unfold pointsM
      by_cases e : i = 1024
      · rw [e]
      · have := ptsTo_more (fun t : Nat => valM l key known (t : Int)) frm upt i (fun t ht h => by
          rcases hm.2.2 with h2 | h2 <;> omega) (1024 - i)
        rw [show i + (1024 - i) = 1024 by omega] at this
        exact this.symm
    refine ⟨1, fun k hk => ?_⟩
    obtain ⟨m, rfl⟩ : ∃ m, k = m + 1 := ⟨k - 1, by omega⟩
    simp only [sizarref07_Points.l0]
    rw [if_neg (by omega), hend]
  | succ d ih =>
    intro i hd hf hi
    have hlen := ptsTo_length (fun t : Nat => valM l key known (t : Int)) frm upt i
    have hn := ih (i + 1) (by omega) (by omega) (by omega)
    rw [ptsTo_succ] at hn
    have hat : sizarref07_At.f l key.f0 key.f1 key.f2 (i : Int) known = some (atM l key (i : Int) known) := by unfold sizarref07_At.f; rw [if_pos hl]
    by_cases hv : 0 ≤ valM l key known (i : Int)
    · rw [if_pos ⟨hf, by omega, hv⟩] at hn
      refine hn.succ fun k => ?_
      simp only [sizarref07_Points.l0, hat, Option.bind_some, at_val]
      rw [if_pos (by omega), if_pos (by simpa using hv), if_pos (by omega), if_pos hv, w64 (by omega) (by omega)]
      rfl
    · rw [if_neg (fun h => hv h.2.2)] at hn
      refine hn.succ fun k => ?_
      simp only [sizarref07_Points.l0, hat, Option.bind_some, at_val]
      rw [if_pos (by omega), if_neg (by simpa using hv), w64 (by omega) (by omega)]
      rfl
theorem refpoints (l : List S28) (hl : l.length ≤ 1000000) (key : S24) (frm upt known : Int) : Evt (fun k => sizarref07_Points.f k l key.f0 key.f1 key.f2 frm upt known) (pointsM l key frm upt known) := by
 unfold sizarref07_Points.f; (have hm : mn upt 1024 ≤ upt ∧ mn upt 1024 ≤ 1024 ∧ (mn upt 1024 = upt ∨ mn upt 1024 = 1024) := by unfold mn; split <;> omega); (have hx : mx 0 frm = ((mx 0 frm).toNat : Int) ∧ frm ≤ mx 0 frm ∧ (mx 0 frm = 0 ∨ mx 0 frm = frm) := by unfold mx; split <;> omega); (by_cases h : mx 0 frm < mn upt 1024)
 ·(have h0 : ptsTo (fun t : Nat => valM l key known (t : Int)) frm upt (mx 0 frm).toNat = [] := ptsTo_none _ _ _ _ (fun t ht h2 => by omega)); (have := refpoints_from l hl key frm upt known _ (mx 0 frm).toNat rfl (by omega) (by omega)); rw [h0, ← hx.1] at this; exact this
 ·(have h0 : pointsM l key frm upt known = [] := ptsTo_none _ _ _ _ (fun t ht h2 => by omega)); rw [h0]; (refine ⟨1, fun k hk => ?_⟩); (obtain ⟨m, rfl⟩ : ∃ m, k = m + 1 := ⟨k - 1, by omega⟩); simp only [sizarref07_Points.l0]; rw [if_neg h]
theorem apiPts_same_from (a : List S60) (hn : a.length ≤ 1000000) : ∀ (d i : Nat), a.length - i = d → i ≤ a.length → Evt (fun k => api_Point.l0 k a a (a.length : Int) (i : Int)) true := by
  intro d
  induction d with
  | zero =>
    intro i hd hi
    exact ⟨1, fun k hk => by
      obtain ⟨m, rfl⟩ : ∃ m, k = m + 1 := ⟨k - 1, by omega⟩
      simp only [api_Point.l0]; rw [if_neg (by omega)]⟩
  | succ d ih =>
    intro i hd hi
    refine (ih (i + 1) (by omega) (by omega)).succ fun k => ?_
    simp only [api_Point.l0]
    rw [if_pos (by omega), if_pos (by omega), if_pos (by omega), if_pos (by omega), if_neg (by simp), w64 (by omega) (by omega)]
    rfl
theorem apiPts_same (a : List S60) (hn : a.length ≤ 1000000) : Evt (fun k => api_Point.f k a a) true := by
 (refine (apiPts_same_from a hn a.length 0 (by omega) (by omega)).congr fun k => ?_); unfold api_Point.f; rw [if_pos rfl]; rfl
theorem apiPts_other_from (a b : List S60) (hn : a.length ≤ 1000000) (he : a.length = b.length) : ∀ (d i : Nat), a.length - i = d → i ≤ a.length → (∃ j, i ≤ j ∧ j < a.length ∧ a.getD j z60 ≠ b.getD j z60) → Evt (fun k => api_Point.l0 k a b (a.length : Int) (i : Int)) false := by
 intro d
 induction d with
 | zero =>
  intro i hd hi hj; obtain ⟨j, h1, h2, _⟩ := hj; omega
 | succ d ih =>
  intro i hd hi hj; (by_cases hs : a.getD i z60 = b.getD i z60)
  ·obtain ⟨j, h1, h2, h3⟩ := hj; (have : i ≠ j := fun e => h3 (e ▸ hs)); (refine (ih (i + 1) (by omega) (by omega) ⟨j, by omega, h2, h3⟩).succ fun k => ?_); simp only [api_Point.l0, rd_T60, Int.toNat_natCast, hs]; (rw [if_pos (by omega), if_pos (by omega), if_pos (by omega), if_pos (by omega), if_neg (by simp), w64 (by omega) (by omega)]); rfl
  ·(refine (Evt.of (g := fun _ => some false) (r := false) fun _ => rfl).succ fun k => ?_); simp only [api_Point.l0, rd_T60, Int.toNat_natCast]; (rw [if_pos (by omega), if_pos (by omega), if_pos (by omega), if_pos (by omega)]); refine if_pos ?_; rw [Bool.or_eq_true]; (by_cases h0 : (a.getD i z60).f0 = (b.getD i z60).f0)
   ·(right); (have : (a.getD i z60).f1 ≠ (b.getD i z60).f1 := fun h1 => hs (by cases hA : a.getD i z60; cases hB : b.getD i z60; rw [hA, hB] at h0 h1; simp_all)); (simpa using this)
   ·left; simpa using h0
theorem apiPts_other (a b : List S60) (hn : a.length ≤ 1000000) (hne : a ≠ b) : Evt (fun k => api_Point.f k a b) false := by
 by_cases he : a.length = b.length
 ·refine (apiPts_other_from a b hn he a.length 0 (by omega) (by omega) ?_).congr fun k => ?_
  ·(refine Classical.byContradiction fun hno => hne ?_); (refine List.ext_getElem he fun j h1 h2 => ?_); (refine Classical.byContradiction fun h3 => hno ⟨j, by omega, h1, ?_⟩); (simpa [h1, h2] using h3)
  ·unfold api_Point.f; (rw [if_pos (by omega)]; rfl)
 ·(refine Evt.of fun k => ?_); unfold api_Point.f; (rw [if_neg (by omega)])
theorem samePts_other_from (a b : List S60) (hn : a.length ≤ 1000000) (he : a.length = b.length) : ∀ (d i : Nat), a.length - i = d → i ≤ a.length → (∃ j, i ≤ j ∧ j < a.length ∧ a.getD j z60 ≠ b.getD j z60) → Evt (fun k => sizarref07_SamePoints.l0 k a b (i : Int)) false := by
 intro d
 induction d with
 | zero =>
  intro i hd hi hj; obtain ⟨j, h1, h2, _⟩ := hj; omega
 | succ d ih =>
  intro i hd hi hj; (by_cases hs : a.getD i z60 = b.getD i z60)
  ·obtain ⟨j, h1, h2, h3⟩ := hj; (have : i ≠ j := fun e => h3 (e ▸ hs)); (refine (ih (i + 1) (by omega) (by omega) ⟨j, by omega, h2, h3⟩).succ fun k => ?_); simp only [sizarref07_SamePoints.l0, rd_T60, Int.toNat_natCast, hs]; (rw [if_pos (by omega), if_pos (by omega), if_pos (by omega), if_neg (by simp), w64 (by omega) (by omega)]); rfl
  ·(refine (Evt.of (g := fun _ => some false) (r := false) fun _ => rfl).succ fun k => ?_); simp only [sizarref07_SamePoints.l0, rd_T60, Int.toNat_natCast]; (rw [if_pos (by omega), if_pos (by omega), if_pos (by omega)]); refine if_pos ?_; rw [Bool.or_eq_true]; (by_cases h0 : (a.getD i z60).f0 = (b.getD i z60).f0)
   ·(right); (have : (a.getD i z60).f1 ≠ (b.getD i z60).f1 := fun h1 => hs (by cases hA : a.getD i z60; cases hB : b.getD i z60; rw [hA, hB] at h0 h1; simp_all)); (simpa using this)
   ·left; simpa using h0
theorem samePts_other (a b : List S60) (hn : a.length ≤ 1000000) (hne : a ≠ b) : Evt (fun k => sizarref07_SamePoints.f k a b) false := by
 by_cases he : a.length = b.length
 ·refine (samePts_other_from a b hn he a.length 0 (by omega) (by omega) ?_).congr fun k => ?_
  ·(refine Classical.byContradiction fun hno => hne ?_); (refine List.ext_getElem he fun j h1 h2 => ?_); (refine Classical.byContradiction fun h3 => hno ⟨j, by omega, h1, ?_⟩); (simpa [h1, h2] using h3)
  ·unfold sizarref07_SamePoints.f; (rw [if_pos (by omega)]; rfl)
 ·(refine Evt.of fun k => ?_); unfold sizarref07_SamePoints.f; (rw [if_neg (by omega)])
theorem alike_facts (l : List S28) (reads : List S54) (hr : reads.length ≤ 1000) (b a : Int) : ∀ (d i : Nat) (r : Bool), reads.length - i = d → i ≤ reads.length →
    (r = true ↔ ∀ j, i ≤ j → j < reads.length → pointsM l (reads.getD j z54).f0 (reads.getD j z54).f1 (reads.getD j z54).f2 b = pointsM l (reads.getD j z54).f0 (reads.getD j z54).f1 (reads.getD j z54).f2 a) →
    Evt (fun k => facts_Alike.l0 k l b a reads (reads.length : Int) (i : Int)) r := by
 intro d
 induction d with
 | zero =>
  intro i r hd hi h; (obtain rfl : r = true := h.2 fun j h1 h2 => by omega); (refine ⟨1, fun k hk => ?_⟩); (obtain ⟨m, rfl⟩ : ∃ m, k = m + 1 := ⟨k - 1, by omega⟩); simp only [facts_Alike.l0]; (rw [if_neg (by omega)])
 | succ d ih =>
  intro i r hd hi h; (have hw : wrap64 ((i : Int) + 1) = ((i + 1 : Nat) : Int) := by rw [w64 (by omega) (by omega)]; omega); (have hq : rd_T54 reads (i : Int) = reads.getD i z54 := by unfold rd_T54; rw [Int.toNat_natCast])
  have hev : Evt (fun k => (api_Point.f k (pointsM l (reads.getD i z54).f0 (reads.getD i z54).f1 (reads.getD i z54).f2 b) (pointsM l (reads.getD i z54).f0 (reads.getD i z54).f1 (reads.getD i z54).f2 a)).bind fun t138 => (if t138 = true then (facts_Alike.l0 k l b a reads (reads.length : Int) ((i + 1 : Nat) : Int)) else (some false))) r := by
   by_cases he : pointsM l (reads.getD i z54).f0 (reads.getD i z54).f1 (reads.getD i z54).f2 b = pointsM l (reads.getD i z54).f0 (reads.getD i z54).f1 (reads.getD i z54).f2 a
   ·rw [he]; refine (apiPts_same _ (pointsM_length _ _ _ _ _)).bind ?_; simp only [if_true]; (refine ih (i + 1) r (by omega) (by omega) (h.trans ⟨fun h1 j h2 h3 => h1 j (by omega) h3, fun h1 j h2 h3 => ?_⟩)); (by_cases e : j = i)
    ·subst e; exact he
    ·exact h1 j (by omega) h3
   ·have hrf : r = false := by
     cases r with
     | false => rfl
     | true => exact absurd (h.1 rfl i (by omega) (by omega)) he
    rw [hrf]; (exact (apiPts_other _ _ (pointsM_length _ _ _ _ _) he).bind (Evt.of fun _ => rfl))
  (refine hev.succ fun k => ?_); simp only [facts_Alike.l0, facts_Points.f, Option.bind_some, hq, hw]; (rw [if_pos (by omega), if_pos (by omega), if_pos (by omega)])
theorem alike_ref (l : List S28) (hl : l.length ≤ 1000000) (reads : List S54) (hr : reads.length ≤ 1000) (b a : Int) : ∀ (d i : Nat) (r : Bool), reads.length - i = d → i ≤ reads.length →
    (r = true ↔ ∀ j, i ≤ j → j < reads.length → pointsM l (reads.getD j z54).f0 (reads.getD j z54).f1 (reads.getD j z54).f2 b = pointsM l (reads.getD j z54).f0 (reads.getD j z54).f1 (reads.getD j z54).f2 a) →
    Evt (fun k => sizarref07_Alike.l0 k l reads b a (i : Int)) r := by
 intro d
 induction d with
 | zero =>
  intro i r hd hi h; (obtain rfl : r = true := h.2 fun j h1 h2 => by omega); (refine ⟨1, fun k hk => ?_⟩); (obtain ⟨m, rfl⟩ : ∃ m, k = m + 1 := ⟨k - 1, by omega⟩); simp only [sizarref07_Alike.l0]; (rw [if_neg (by omega)])
 | succ d ih =>
  intro i r hd hi h; (have hw : wrap64 ((i : Int) + 1) = ((i + 1 : Nat) : Int) := by rw [w64 (by omega) (by omega)]; omega); (have hq : rd_T54 reads (i : Int) = reads.getD i z54 := by unfold rd_T54; rw [Int.toNat_natCast]); have hp1 := refpoints l hl (reads.getD i z54).f0 (reads.getD i z54).f1 (reads.getD i z54).f2 b; have hp2 := refpoints l hl (reads.getD i z54).f0 (reads.getD i z54).f1 (reads.getD i z54).f2 a
  have hev : Evt (fun k => (sizarref07_Points.f k l (reads.getD i z54).f0.f0 (reads.getD i z54).f0.f1 (reads.getD i z54).f0.f2 (reads.getD i z54).f1 (reads.getD i z54).f2 b).bind fun t351 => ((sizarref07_Points.f k l (reads.getD i z54).f0.f0 (reads.getD i z54).f0.f1 (reads.getD i z54).f0.f2 (reads.getD i z54).f1 (reads.getD i z54).f2 a).bind fun t354 => ((sizarref07_SamePoints.f k t351 t354).bind fun t357 => (if t357 = true then (sizarref07_Alike.l0 k l reads b a ((i + 1 : Nat) : Int)) else (some false))))) r := by
   refine hp1.bind ?_; refine hp2.bind ?_; (by_cases he : pointsM l (reads.getD i z54).f0 (reads.getD i z54).f1 (reads.getD i z54).f2 b = pointsM l (reads.getD i z54).f0 (reads.getD i z54).f1 (reads.getD i z54).f2 a)
   ·rw [he]; refine (samePts _ (pointsM_length _ _ _ _ _)).bind ?_; simp only [if_true]; (refine ih (i + 1) r (by omega) (by omega) (h.trans ⟨fun h1 j h2 h3 => h1 j (by omega) h3, fun h1 j h2 h3 => ?_⟩)); (by_cases e : j = i)
    ·subst e; exact he
    ·exact h1 j (by omega) h3
   ·have hrf : r = false := by
     cases r with
     | false => rfl
     | true => exact absurd (h.1 rfl i (by omega) (by omega)) he
    rw [hrf]; (exact (samePts_other _ _ (pointsM_length _ _ _ _ _) he).bind (Evt.of fun _ => rfl))
  (refine hev.succ fun k => ?_); simp only [sizarref07_Alike.l0, hq, hw]; (rw [if_pos (by omega), if_pos (by omega)])
theorem bool_of (p : Prop) : ∃ r : Bool, (r = true ↔ p) := by
 by_cases h : p
 ·exact ⟨true, by simp [h]⟩
 ·exact ⟨false, by simp [h]⟩
theorem changed_law (l0 : List S28) (l1 : List S54) (b a : Int) (w0 : ∀ x ∈ l0, wf28 x = true) : ∃ k, sizarlaw07_FactsChangedSpec.f k l0 l1 b a = some true := by
  refine Evt.ex (r := true) ?_
  unfold sizarlaw07_FactsChangedSpec.f
  refine sane_all.bind ?_
  simp only [if_true]
  have hstop : Evt (fun k => sizarlaw07_FactsChangedSpec.j0 k l0 l1 b a true) true := (Evt.of (g := fun _ => some true) (r := true) fun _ => rfl).succ fun k => by simp only [sizarlaw07_FactsChangedSpec.j0, if_true]
  by_cases h0 : (l0.length : Int) > 14
  · simp only [if_pos h0]; exact hstop
  · simp only [if_neg h0]
    by_cases h1 : (l1.length : Int) > 6
    · simp only [h1, decide_true]; exact hstop
    · simp only [h1, decide_false]
      have hc : facts_Changed.f l0 b a = some (changedM l0 b a) := by
        unfold facts_Changed.f
        rw [if_pos ⟨by omega, List.all_eq_true.2 fun x hx => by
          have := w0 x hx
          simp only [wf28, Bool.and_eq_true] at this
          exact this.1⟩]
      have hcl : (changedM l0 b a).length ≤ 1000000 := by
        have h1 : (changedM l0 b a).length ≤ (keysM l0).length := List.length_filterMap_le _ _
        have h2 := keysM_length l0
        omega
      have hct : ∀ y ∈ changedM l0 b a, y.f1.length ≤ 1000000 := by
        intro y hy
        obtain ⟨k, _, hk⟩ := List.mem_filterMap.1 hy
        unfold chgOne at hk
        split at hk
        · cases hk
        · cases hk
          have := termsTo_length (fun t : Nat => valM l0 k b (t : Int)) (fun t : Nat => valM l0 k a (t : Int)) 1024
          generalize termsTo (fun t : Nat => valM l0 k b (t : Int)) (fun t : Nat => valM l0 k a (t : Int)) 1024 = T at this ⊢
          show T.length ≤ 1000000
          omega
      have hu : facts_Upto.f l0 b = some (uptoM l0 b) := by unfold facts_Upto.f; rw [if_pos (by omega)]
      have hul : (uptoM l0 b).length ≤ 1000000 := by
        have : (uptoM l0 b).length ≤ l0.length := List.length_filter_le _ _
        omega
      obtain ⟨r, hr⟩ := bool_of (∀ j, 0 ≤ j → j < l1.length → pointsM l0 (l1.getD j z54).f0 (l1.getD j z54).f1 (l1.getD j z54).f2 b = pointsM l0 (l1.getD j z54).f0 (l1.getD j z54).f1 (l1.getD j z54).f2 a)
      have ha1 : Evt (fun k => facts_Alike.f k l0 l1 b a) r := alike_facts l0 l1 (by omega) b a _ 0 r rfl (by omega) hr
      have ha2 : Evt (fun k => sizarref07_Alike.f k l0 l1 b a) r := alike_ref l0 (by omega) l1 (by omega) b a _ 0 r rfl (by omega) hr
      have hev : Evt (fun k => (sizarref07_Changed.f k l0 b a).bind fun t370 => ((sizarref07_SameChanges.f k (changedM l0 b a) t370).bind fun t373 => (if t373 = true then ((facts_Alike.f k l0 l1 b a).bind fun t374 => ((sizarref07_Alike.f k l0 l1 b a).bind fun t375 => (if (t374 == t375) = true then ((sizarref07_Upto.f k l0 b).bind fun t379 => ((sizarref07_Same.f k (uptoM l0 b) t379).bind fun t382 => (some t382))) else (none)))) else (none)))) true := by
        refine (refchg l0 (by omega) b a).bind ?_
        refine (sameCh _ hcl hct).bind ?_
        simp only [if_true]
        refine ha1.bind ?_
        refine ha2.bind ?_
        simp only [beq_self_eq_true, if_true]
        refine (refupto l0 (by omega) b).bind ?_
        exact (same28 _ hul).bind (Evt.of fun _ => rfl)
      refine hev.succ fun k => ?_
      simp only [sizarlaw07_FactsChangedSpec.j0, hc, hu, Option.bind_some, Bool.false_eq_true, if_false]
end Go.Proofs.Ytamajnhdibcpiaa.G
namespace Go.Proofs.Ytamajnhdibcpiaa.factsChangedSpec
open Go.ChangeShapes Go.WideShapes Go.ChangeAt Go.RowKit Go.Proofs.Ytamajnhdibcpiaa.G
set_option maxRecDepth 100000 in
theorem lifted (os : Os) (started : os.Started) (H : Type) (enc : TypeId × Value → H) :
    ReturnsInHanded {} Try.checked os 5 .any (Rows.factsChangedSpecSpec.pre6 enc Try.prog Try.f5 Rows.factsChangedSpecRow.domain false) (Rows.factsChangedSpecSpec.post enc Try.prog Try.f5 false true false false) := by
 refine returnsInHanded_of_change_sized (C := Try.checked) own started (by kernel_rfl) Try.func5
  (ChangeSpec.witness6 (enc := enc) (C := Try.checked) false ⟨#[], #[.slice none 0 0, .slice none 0 0, .int .i64 0, .int .i64 0], []⟩ 8 (by kernel_rfl) (by kernel_rfl) (by kernel_rfl) (by kernel_rfl)) ?_
 intro W base args ds gs before hval0 hW hcnd hsz0 _; have hval : ∀ (j : Nat) t v, Try.f5.params[j]? = some t → args[j]? = some v → Value.okWide Try.prog W .any base t v := hval0; have hW' := hW; obtain ⟨p, q, hA0, hV, rfl, hfz, hnd⟩ := hW; (have hA : DataW.TrodAll enc Try.prog W 0 (fun _ => true) true Try.f5.params.toList args.toList ds p := hA0); rw [Try.params5] at hA hval; obtain ⟨v0, vs0, d0, ds0, p0, q0, hargs, rfl, rfl, h0, r0⟩ := trodAll_cons hA; obtain ⟨v1, vs1, d1, ds1, p1, q1, rfl, rfl, rfl, h1, r1⟩ := trodAll_cons r0; obtain ⟨v2, vs2, d2, ds2, p2, q2, rfl, rfl, rfl, h2, r2⟩ := trodAll_cons r1; obtain ⟨v3, vs3, d3, ds3, p3, q3, rfl, rfl, rfl, h3, r3⟩ := trodAll_cons r2; obtain ⟨rfl, rfl, rfl⟩ := trodAll_nil r3; (obtain rfl : args = #[v0, v1, v2, v3] := by cases args; simp_all); obtain ⟨rfl, rfl⟩ := trodVars_none hV; obtain ⟨a0, len0, cap0, rfl⟩ := okWide_slice Try.underlying22 (hval 0 22 v0 rfl rfl); have k0 := h0; (have lt0 : ∀ x ∈ p0, x.block < W.heap.size := by obtain ⟨m, hm⟩ := k0; exact DataW.trod_lt m _ _ _ hm); obtain ⟨z0, rfl, w0, y0, f0⟩ := open28 h0; obtain ⟨a1, len1, cap1, rfl⟩ := okWide_slice Try.underlying44 (hval 1 44 v1 rfl rfl); have k1 := h1; (have lt1 : ∀ x ∈ p1, x.block < W.heap.size := by obtain ⟨m, hm⟩ := k1; exact DataW.trod_lt m _ _ _ hm); obtain ⟨z1, rfl, w1, y1, f1⟩ := open54 h1; obtain ⟨a2, rfl, rfl, rfl, w2⟩ := open_int Try.underlying3 (hval 2 3 v2 rfl rfl) h2; obtain ⟨a3, rfl, rfl, rfl, w3⟩ := open_int Try.underlying3 (hval 3 3 v3 rfl rfl) h3; clear hA0 hval0; obtain ⟨k, hk⟩ := changed_law z0 z1 a2 a3 f0; (refine (G.sizarlaw07_FactsChangedSpec.calls k a0 cap0 z0 a1 cap1 z1 a2 a3 true W w0 y0 w1 y1 hk).mono fun e W' ⟨he, bel⟩ => ?_); subst he; (exact ⟨_, rfl, _, _, _, [], _, [], hW', trodAll_mk1 (shut_bool Try.underlying4 _), (trodAll_cons_mk (Below.trod laidOut (by kernel_rfl) (of_decide_eq_true (by kernel_rfl)) k0 bel lt0) (trodAll_cons_mk (Below.trod laidOut (by kernel_rfl) (of_decide_eq_true (by kernel_rfl)) k1 bel lt1) (trodAll_cons_mk (shut_int Try.underlying3 w2) (trodAll_cons_mk (shut_int Try.underlying3 w3) trodAll_mk0)))), rfl, bel.frame _, fun h => by cases h⟩)
theorem over : Rows.factsChangedSpecRow.holds Try.pinned (OpenSpec.ofChange Rows.factsChangedSpecSpec) :=
  OpenClaim.holds_of_wide 5 Try.f5 rfl rfl rfl rfl rfl rfl rfl ⟨rfl, rfl, rfl, rfl, rfl⟩ rfl rfl rfl rfl rfl (by kernel_rfl) Try.func5 (by kernel_rfl)
    (of_decide_eq_true (by kernel_rfl)) (by unfold Func.isWrapper; first | (rw [if_pos (by decide +kernel)]; kernel_rfl) | (rw [if_neg (by decide +kernel)]; exact ⟨rfl, rfl⟩))
    (fun os started H enc _ => lifted os started H enc)
theorem proved : Rows.FactsChangedSpecSaid := over
end Go.Proofs.Ytamajnhdibcpiaa.factsChangedSpec
namespace Go.Proofs.Ytamajnhdibcpiaa
theorem factsChangedSpec_holds : Rows.FactsChangedSpecSaid := factsChangedSpec.proved
end Go.Proofs.Ytamajnhdibcpiaa
