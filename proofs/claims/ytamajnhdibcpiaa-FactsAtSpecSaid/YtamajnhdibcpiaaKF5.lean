/- Part 27 of the proof of the claim; the conditions are the statement's own. Own texts and printed texts, merged by pack.py (ours). -/
import Derived.Test.YtamajnhdibcpiaaRows
import Derived.Deep.Slices
import Derived.Deep.Fields
import Derived.ChangeSame
import Derived.WalkKit
import Derived.ProofKit
import Derived.OpenShut
import Derived.ChangeOld
import Derived.Below
import Derived.SizedLaws
import Derived.ShutString
import Derived.Test.YtamajnhdibcpiaaKF4
namespace Go.Proofs.Ytamajnhdibcpiaa.G
open Go.RowKit Go.Proofs.YtamajnhdibcpiaaW.PrintWords Go.Proofs.YtamajnhdibcpiaaW.PrintLast Go.Proofs.YtamajnhdibcpiaaW.PrintMore
set_option linter.unusedVariables false
set_option linter.unusedSimpArgs false
theorem w64 {i : Int} (h0 : -9223372036854775808 ≤ i) (h : i ≤ 9223372036854775807) : wrap64 i = i := by unfold wrap64; omega
/-- From some number of rounds on. -/
def Evt {α : Type} (g : Nat → Option α) (r : α) : Prop := ∃ K, ∀ k, K ≤ k → g k = some r
theorem Evt.of {α : Type} {g : Nat → Option α} {r : α} (h : ∀ k, g k = some r) : Evt g r := ⟨0, fun k _ => h k⟩
theorem Evt.succ {α : Type} {g g' : Nat → Option α} {r : α} (h : Evt g' r) (hs : ∀ k, g (k + 1) = g' k) : Evt g r := by
  obtain ⟨K, hK⟩ := h
  refine ⟨K + 1, fun k hk => ?_⟩
  obtain ⟨m, rfl⟩ : ∃ m, k = m + 1 := ⟨k - 1, by omega⟩
  rw [hs]; exact hK m (by omega)
theorem Evt.bind {α β : Type} {g : Nat → Option α} {f : Nat → α → Option β} {a : α} {r : β} (h : Evt g a) (h2 : Evt (fun k => f k a) r) : Evt (fun k => (g k).bind (f k)) r := by
  obtain ⟨K, hK⟩ := h
  obtain ⟨M, hM⟩ := h2
  refine ⟨max K M, fun k hk => ?_⟩
  show (g k).bind (f k) = some r
  rw [hK k (by omega), Option.bind_some]
  exact hM k (by omega)
theorem Evt.congr {α : Type} {g g' : Nat → Option α} {r : α} (h : Evt g' r) (hs : ∀ k, g k = g' k) : Evt g r := by
  obtain ⟨K, hK⟩ := h
  exact ⟨K, fun k hk => by rw [hs]; exact hK k hk⟩
theorem Evt.ex {α : Type} {g : Nat → Option α} {r : α} (h : Evt g r) : ∃ k, g k = some r := by obtain ⟨K, hK⟩ := h; exact ⟨K, hK K (Nat.le_refl _)⟩
end Go.Proofs.Ytamajnhdibcpiaa.G
namespace Go.Proofs.Ytamajnhdibcpiaa.G
open Go.RowKit Go.Proofs.YtamajnhdibcpiaaW.PrintWords Go.Proofs.YtamajnhdibcpiaaW.PrintLast Go.Proofs.YtamajnhdibcpiaaW.PrintMore
set_option linter.unusedVariables false
set_option linter.unusedSimpArgs false
theorem beforeP_f (x y : S28) : sizarref07_Before.f x.f0.f0 x.f0.f1 x.f0.f2 x.f1 x.f2.f0 x.f2.f1 x.f3 x.f4 y.f0.f0 y.f0.f1 y.f0.f2 y.f1 y.f2.f0 y.f2.f1 y.f3 y.f4 = some (lessB x y) := by
  unfold sizarref07_Before.f lessB
  repeat' split
  all_goals (refine congrArg some ?_; rw [Bool.eq_iff_iff]; simp only [decide_eq_true_eq, Bool.false_eq_true, false_iff, true_iff]; omega)
def stOf (l : List S28) (key : S24) (known term : Int) (i : Nat) : Option S28 := bestM (ofM (l.take i) key known) term
theorem stOf_succ (l : List S28) (key : S24) (known term : Int) (i : Nat) (hi : i < l.length) : stOf l key known term (i + 1) = if selB key known (l.getD i z28) = true then bestStep term (stOf l key known term i) (l.getD i z28) else stOf l key known term i := by
  have e : l.take (i + 1) = l.take i ++ [l.getD i z28] := by
    rw [List.take_add_one]
    simp [hi]
  unfold stOf
  rw [e]
  unfold ofM
  rw [List.filter_append]
  by_cases h : selB key known (l.getD i z28) = true
  · rw [if_pos h]
    simp only [List.filter_cons, h, if_true, List.filter_nil]
    exact bestM_snoc _ _ _
  · rw [if_neg h]
    simp only [List.filter_cons, h, if_false, List.filter_nil, List.append_nil]
    simp
def BestAt (l : List S28) (st : Option S28) (b : Int) : Prop := match st with
  | none => b = -1
  | some s => ∃ m : Nat, b = (m : Int) ∧ m < l.length ∧ l.getD m z28 = s
theorem refat_from (l : List S28) (key : S24) (term known : Int) (hn : l.length ≤ 1000000) : ∀ (d i : Nat), l.length - i = d → i ≤ l.length → ∀ b : Int, BestAt l (stOf l key known term i) b → Evt (fun k => refAtP.l0 k l term known b (i : Int) key.f0 key.f1 key.f2) (atM l key term known) := by
  intro d
  induction d with
  | zero =>
    intro i hd hi b hb
    have e : l.take i = l := List.take_of_length_le (by omega)
    have hs : stOf l key known term i = bestM (ofM l key known) term := by unfold stOf; rw [e]
    rw [hs] at hb
    refine ⟨1, fun k hk => ?_⟩
    obtain ⟨m, rfl⟩ : ∃ m, k = m + 1 := ⟨k - 1, by omega⟩
    unfold atM
    simp only [refAtP.l0]
    rw [if_neg (by omega)]
    cases hst : bestM (ofM l key known) term with
    | none =>
      rw [hst] at hb
      have hb : b = -1 := hb
      rw [if_pos (by omega)]
    | some s =>
      rw [hst] at hb
      obtain ⟨m, rfl, hm, hms⟩ := hb
      have hr : rd_T28 l (m : Int) = s := by unfold rd_T28; rw [Int.toNat_natCast]; exact hms
      rw [if_neg (by omega), if_pos (by omega), if_pos (by omega), hr]
      by_cases h : s.f1 < 0
      · simp only [if_pos h]
      · simp only [if_neg h]
  | succ d ih =>
    intro i hd hi b hb
    have hr : rd_T28 l (i : Int) = l.getD i z28 := by unfold rd_T28; rw [Int.toNat_natCast]
    have hsucc := stOf_succ l key known term i (by omega)
    have hw : wrap64 ((i : Int) + 1) = ((i + 1 : Nat) : Int) := by rw [w64 (by omega) (by omega)]; omega
    have ihn := fun b' hb' => ih (i + 1) (by omega) (by omega) b' hb'
    rw [hsucc] at ihn
    generalize hx : l.getD i z28 = x at hr ihn
    have skip : ¬ (selB key known x = true ∧ x.f2.f0 ≤ term ∧ term < x.f2.f1) → BestAt l (if selB key known x = true then bestStep term (stOf l key known term i) x else stOf l key known term i) b := by
      intro h
      by_cases h1 : selB key known x = true
      · rw [if_pos h1]
        unfold bestStep
        rw [if_neg (fun h2 => h ⟨h1, h2⟩)]
        exact hb
      · rw [if_neg h1]; exact hb
    have take : selB key known x = true ∧ x.f2.f0 ≤ term ∧ term < x.f2.f1 → (if selB key known x = true then bestStep term (stOf l key known term i) x else stOf l key known term i) = (match stOf l key known term i with | none => some x | some b => if lessB x b = true then some b else some x) := by
      rintro ⟨h1, h2⟩
      rw [if_pos h1]
      unfold bestStep
      rw [if_pos h2]
      cases stOf l key known term i <;> rfl
    have hsel : selB key known x = true ↔ (((x.f0.f0 == key.f0) && ((x.f0.f1 == key.f1) && (x.f0.f2 == key.f2))) = true ∧ x.f3 ≤ known) := by
      unfold selB
      simp only [decide_eq_true_eq, Bool.and_eq_true, beq_iff_eq]
      constructor
      · rintro ⟨a, b, c, d⟩; exact ⟨⟨a, b, c⟩, d⟩
      · rintro ⟨⟨a, b, c⟩, d⟩; exact ⟨a, b, c, d⟩
    by_cases h1 : ((x.f0.f0 == key.f0) && ((x.f0.f1 == key.f1) && (x.f0.f2 == key.f2))) = true
    · by_cases h2 : x.f2.f0 ≤ term
      · by_cases h3 : term < x.f2.f1
        · by_cases h4 : x.f3 ≤ known
          · have ht := take ⟨hsel.2 ⟨h1, h4⟩, h2, h3⟩
            rw [ht] at ihn
            cases hst : stOf l key known term i with
            | none =>
              rw [hst] at hb ihn
              have hb : b = -1 := hb
              refine (ihn (i : Int) ⟨i, rfl, by omega, hx⟩).succ fun k => ?_
              simp only [refAtP.l0, hr, hw]
              rw [if_pos (by omega), if_pos (by omega), if_pos h1, if_pos h2, if_pos h3, if_pos h4, if_pos (by omega)]
            | some s =>
              rw [hst] at hb ihn
              obtain ⟨m, rfl, hm, hms⟩ := hb
              have hrm : rd_T28 l (m : Int) = s := by unfold rd_T28; rw [Int.toNat_natCast]; exact hms
              by_cases hl : lessB x s = true
              · refine (ihn (m : Int) (by simp only [if_pos hl]; exact ⟨m, rfl, hm, hms⟩)).succ fun k => ?_
                simp only [refAtP.l0, hr, hw, hrm, beforeP_f, Option.bind_some]
                rw [if_pos (by omega), if_pos (by omega), if_pos h1, if_pos h2, if_pos h3, if_pos h4, if_neg (by omega), if_pos (by omega), if_pos (by omega), if_pos hl]
              · refine (ihn (i : Int) (by simp only [if_neg hl]; exact ⟨i, rfl, by omega, hx⟩)).succ fun k => ?_
                simp only [refAtP.l0, hr, hw, hrm, beforeP_f, Option.bind_some]
                rw [if_pos (by omega), if_pos (by omega), if_pos h1, if_pos h2, if_pos h3, if_pos h4, if_neg (by omega), if_pos (by omega), if_pos (by omega), if_neg hl]
          · refine (ihn b (skip fun h => h4 (hsel.1 h.1).2)).succ fun k => ?_
            simp only [refAtP.l0, hr, hw]
            rw [if_pos (by omega), if_pos (by omega), if_pos h1, if_pos h2, if_pos h3, if_neg h4]
        · refine (ihn b (skip fun h => h3 h.2.2)).succ fun k => ?_
          simp only [refAtP.l0, hr, hw]
          rw [if_pos (by omega), if_pos (by omega), if_pos h1, if_pos h2, if_neg h3]
      · refine (ihn b (skip fun h => h2 h.2.1)).succ fun k => ?_
        simp only [refAtP.l0, hr, hw]
        rw [if_pos (by omega), if_pos (by omega), if_pos h1, if_neg h2]
    · refine (ihn b (skip fun h => h1 (hsel.1 h.1).1)).succ fun k => ?_
      simp only [refAtP.l0, hr, hw]
      rw [if_pos (by omega), if_pos (by omega), if_neg h1]
theorem refat_all (l : List S28) (key : S24) (term known : Int) (hn : l.length ≤ 1000000) : ∃ k, refAtP.f k l key.f0 key.f1 key.f2 term known = some (atM l key term known) :=
  (refat_from l key term known hn _ 0 rfl (by omega) (-1) rfl).ex
def sizarref07_At.f (l0 : List S28) (a1_0 a1_1 a1_2 a2 a3 : Int) : Option (Int × Bool) := if l0.length ≤ 1000000 then some (atM l0 ⟨a1_0, a1_1, a1_2⟩ a2 a3) else none
theorem sizarref07_At.calls (A0 : Option Addr) (c0 : Nat) (l0 : List (S28)) (a1_0 : Int) (a1_1 : Int) (a1_2 : Int) (a2 : Int) (a3 : Int) (r1 : Int) (r2 : Bool) (w : World) (hr0 : Kd.C k28 w A0 l0.length l0) (hc0 : l0.length ≤ c0) (h : sizarref07_At.f l0 a1_0 a1_1 a1_2 a2 a3 = some (r1, r2)) :
    Calls Try.prog 19 #[.slice A0 l0.length c0, .agg #[.int .i64 a1_0, .int .i64 a1_1, .int .i64 a1_2], .int .i64 a2, .int .i64 a3] w fun e w' => e = .returned (.tuple #[.int .i64 r1, .bool r2]) ∧ Below w.heap.size w w' := by
  unfold sizarref07_At.f at h
  by_cases hn : l0.length ≤ 1000000
  · rw [if_pos hn] at h
    obtain ⟨k, hk⟩ := refat_all l0 ⟨a1_0, a1_1, a1_2⟩ a2 a3 hn
    have h2 := hk.trans h
    exact refAtP.calls k A0 c0 l0 a1_0 a1_1 a1_2 a2 a3 r1 r2 w hr0 hc0 h2
  · rw [if_neg hn] at h; cases h
end Go.Proofs.Ytamajnhdibcpiaa.G
namespace Go.Proofs.Ytamajnhdibcpiaa.G
open Go.RowKit Go.Proofs.YtamajnhdibcpiaaW.PrintWords Go.Proofs.YtamajnhdibcpiaaW.PrintLast Go.Proofs.YtamajnhdibcpiaaW.PrintMore
attribute [local go_sem] max2_int min2_int max_two min_two max_three min_three max_four min_four   -- for this text's walks alone
set_option linter.unusedVariables false
set_option linter.unusedSimpArgs false
def sizarref07_Points.l0 : Nat → List (S28) → Int → Int → List (S60) → Int → Int → Int → Int → Option ((List (S60)))
  | 0, _, _, _, _, _, _, _, _ => none
  | k + 1, x0, x3, x4, x11, x12, x284000, x284001, x284002 => if x12 < (mn x3 1024) then ((sizarref07_At.f x0 x284000 x284001 x284002 x12 x4).bind fun bt287 => (if bt287.2 = true then (if x11.length < 8796093022208 then (sizarref07_Points.l0 k x0 x3 x4 (x11 ++ [(⟨x12, bt287.1⟩ : S60)]) (wrap64 (x12 + 1)) x284000 x284001 x284002) else (none)) else (sizarref07_Points.l0 k x0 x3 x4 x11 (wrap64 (x12 + 1)) x284000 x284001 x284002))) else (some x11)
def sizarref07_Points.f (k : Nat) (l0 : List (S28)) (a1_0 : Int) (a1_1 : Int) (a1_2 : Int) (a2 : Int) (a3 : Int) (a4 : Int) : Option ((List (S60))) := sizarref07_Points.l0 k l0 a3 a4 (([] : List (S60))) (mx 0 a2) a1_0 a1_1 a1_2
theorem sizarref07_Points.mono_l : ∀ k, (∀ y0 y1 y2 y3 y4 y5 y6 y7, LeO (sizarref07_Points.l0 k y0 y1 y2 y3 y4 y5 y6 y7) (sizarref07_Points.l0 (k + 1) y0 y1 y2 y3 y4 y5 y6 y7))
  | 0 => fun _ _ _ _ _ _ _ _ r h => by simp [sizarref07_Points.l0] at h
  | k + 1 => by
    have ih0 := sizarref07_Points.mono_l k
    · intro y0 y1 y2 y3 y4 y5 y6 y7
      unfold sizarref07_Points.l0
      repeat' first
      | (with_reducible exact ih0 _ _ _ _ _ _ _ _)
      | (with_reducible exact LeO.refl _)
      | (with_reducible exact LeO.none _)
      | (with_reducible refine LeO.ite ?_ ?_)
      | (with_reducible refine LeO.bind ?_ (fun _ => ?_))
      | exact ih0 _ _ _ _ _ _ _ _
      | exact LeO.none _
      | refine LeO.ite ?_ ?_
      | refine LeO.bind ?_ (fun _ => ?_)
theorem sizarref07_Points.mono : ∀ a0 a1 a2 a3 a4 a5 a6 k, LeO (sizarref07_Points.f k a0 a1 a2 a3 a4 a5 a6) (sizarref07_Points.f (k + 1) a0 a1 a2 a3 a4 a5 a6) := by
  intro a0 a1 a2 a3 a4 a5 a6 k
  have ih0 := sizarref07_Points.mono_l k
  unfold sizarref07_Points.f
  repeat' first
      | (with_reducible exact ih0 _ _ _ _ _ _ _ _)
      | (with_reducible exact LeO.refl _)
      | (with_reducible exact LeO.none _)
      | (with_reducible refine LeO.ite ?_ ?_)
      | (with_reducible refine LeO.bind ?_ (fun _ => ?_))
      | exact ih0 _ _ _ _ _ _ _ _
      | exact LeO.none _
      | refine LeO.ite ?_ ?_
      | refine LeO.bind ?_ (fun _ => ?_)
set_option maxHeartbeats 8000000 in
set_option maxRecDepth 100000 in
theorem sizarref07_Points.calls (k : Nat) (A0 : Option Addr) (c0 : Nat) (l0 : List (S28)) (a1_0 : Int) (a1_1 : Int) (a1_2 : Int) (a2 : Int) (a3 : Int) (a4 : Int) (r : List (S60)) (w : World) (hr0 : Kd.C k28 w A0 l0.length l0) (hc0 : l0.length ≤ c0) (h : sizarref07_Points.f k l0 a1_0 a1_1 a1_2 a2 a3 a4 = some r) :
    Calls Try.prog 22 #[.slice A0 l0.length c0, .agg #[.int .i64 a1_0, .int .i64 a1_1, .int .i64 a1_2], .int .i64 a2, .int .i64 a3, .int .i64 a4] w fun e w' => ∃ v0_ : Value, e = .returned (v0_) ∧ Kd.R k60 60 w' w.heap.size (fun _ => True) v0_ r ∧ Below w.heap.size w w' := by
  have hu24 := Try.underlying24
  have hu60 := Try.underlying60
  have HR0 := Aside0.mk hr0
  have HC0 := Aside0.mk hc0
  clear hr0 hc0
  have HB := Aside0.mk (Below.refl w.heap.size w)
  have H : (sizarref07_Points.l0 k l0 a3 a4 (([] : List (S60))) (mx 0 a2) a1_0 a1_1 a1_2) = some r := h
  clear h
  obtain ⟨y284, hy284⟩ : ∃ y_ : List (S60), y_ = (([] : List (S60))) := ⟨_, rfl⟩
  replace H : (sizarref07_Points.l0 k l0 a3 a4 y284 (mx 0 a2) a1_0 a1_1 a1_2) = some r := by first | (rw [hy284]; with_reducible exact H) | (have H2_ := (Option.bind_some _ _).symm.trans H; rw [hy284]; with_reducible exact H2_) | (have H2_ := (Option.bind_some _ _).symm.trans H; with_reducible exact H2_) | with_reducible exact H | (rw [hy284]; exact H) | exact H
  have Ny284 := Aside0.mk hy284
  clear hy284
  obtain ⟨ji6, hji6⟩ : ∃ j_ : Int, (mx 0 a2) = j_ := ⟨_, rfl⟩
  replace H : (sizarref07_Points.l0 k l0 a3 a4 y284 ji6 a1_0 a1_1 a1_2) = some r := by first | (rw [hji6] at H; exact H) | (simp only [hji6] at H ⊢; exact H)
  (try (have hji6l : 0 ≤ ji6 := by (rw [← hji6]; unfold mx; (repeat' split) <;> omega)))
  (try (have hji6m : 0 ≤ ji6 := by omega))
  have hji6_ : (if 0 < a2 then a2 else 0) = ji6 := hji6
  have H' := Aside0.mk H
  clear H
  go_enter Try.func22, Try.ntmps22
  go_wp2_with (first | ((with_reducible refine gate_dst (N := 6) rfl ?_); refine box_event ?hg (N := 6) ?hd (cs := #[.int .i64 a1_0, .int .i64 a1_1, .int .i64 a1_2]) (t := 24) ?hr ?_; (case hd => rfl); (case hg => rfl); (case hr => first | (go_simp; done) | (go_simp; rfl)); intro gb283 hg w7 hbox hb; have n0_ := Aside0.mk (below_step (by repeat (first | (with_reducible first | exact HB.out | apply below_alloc | apply pw_below_drewN | apply below_drew1) | exact HB.out)) hb); have n1_ := Aside0.mk (hbox); have n2_ := Aside0.mk ((by rw [hg]; exact (below_size (by repeat (first | (with_reducible first | exact HB.out | apply below_alloc | apply pw_below_drewN | apply below_drew1) | exact HB.out))) : w.heap.size ≤ gb283)); have n3_ := Aside0.mk ((by rw [hg]; exact (below_size (by repeat (first | (with_reducible first | exact HB.out | apply below_alloc | apply pw_below_drewN | apply below_drew1) | exact HB.out))) : w.heap.size ≤ gb283)); clear HB; have HB := n0_; have BK283 := n1_; have GW283 := n2_; have GE283 := n3_; clear n0_ n1_ n2_ n3_; clear hb hbox hg) | ((with_reducible refine gate_dst (N := 15) rfl ?_); refine Kd.R_lit k60 _ 60 ?hg (N := 15) ?hd (xs := ([] : List (S60))) (inner := []) (ok := fun _ => True) (okp := fun _ => True) ?hr ?hp (fun _ hk => hk) trivial (Below.refl _ _) (Nat.le_refl _) (by simp) ?_; (case hd => rfl); (case hg => rfl); (case hr => first | (go_simp; done) | (go_simp; rfl)); (case hp => exact (Reps.none _ _)); intro v285 w8 ho9 hb hg_ hnew_; clear hg_ hnew_; (first | rw [← Ny284.out] at ho9 | (simp only [Int.reduceToNat] at ho9; rw [← Ny284.out] at ho9)); have n0_ := Aside0.mk (Kd.R_lower ho9 (below_size (by repeat (first | (with_reducible first | exact HB.out | apply below_alloc | apply pw_below_drewN | apply below_drew1 | refine below_set ?_ GE283.out) | exact HB.out)))); have n1_ := Aside0.mk (blk_below (g := gb283) (o := .cells #[.int .i64 a1_0, .int .i64 a1_1, .int .i64 a1_2] 24 (0, 0)) (by (with_reducible repeat (first | refine blk_drewN ?_ _ | refine blk_drew ?_ | refine blk_alloc ?_ _)); exact BK283.out) hb); have n2_ := Aside0.mk (below_step (by repeat (first | (with_reducible first | exact HB.out | apply below_alloc | apply pw_below_drewN | apply below_drew1 | refine below_set ?_ GE283.out) | exact HB.out)) hb); clear BK283; clear HB; have HO286 := n0_; have BK283 := n1_; have HB := n2_; clear n0_ n1_ n2_; clear hb ho9))
  go_loopg [11, 12] k (fun kq v11 v12 w' => ∃ (x11_1 : List (S60)) (x12_1 : Int), v12 = .int .i64 x12_1 ∧ Aside0 (sizarref07_Points.l0 kq l0 a3 a4 x11_1 x12_1 a1_0 a1_1 a1_2 = some r) ∧ Aside0 (kq ≤ k) ∧ Aside0 (Kd.R k60 60 w' w.heap.size (fun _ => True) v11 x11_1) ∧ Aside0 (w'.heap[gb283]? = some (.cells #[.int .i64 a1_0, .int .i64 a1_1, .int .i64 a1_2] 24 (0, 0))) ∧ Aside0 (Below w.heap.size w w'))
  case atStart => exact ⟨(y284), (ji6), (by first | rfl | (simp; done) | (simp only [← hji6] <;> (first | rfl | simp)) | (simp [*]; done)), H', ⟨Nat.le_refl _⟩, ⟨by (with_reducible repeat (first | apply Kd.R_alloc | apply Kd.R_drewN | apply Kd.R_drew)); exact HO286.out⟩, ⟨by (with_reducible repeat (first | refine blk_drewN ?_ _ | refine blk_drew ?_ | refine blk_alloc ?_ _)); exact BK283.out⟩, ⟨by repeat (first | (with_reducible first | exact HB.out | apply below_alloc | apply pw_below_drewN | apply below_drew1 | refine below_set ?_ GE283.out) | exact HB.out)⟩⟩
  case round =>
    clear H'
    try clear c2
    try clear p2
    obtain ⟨x11_1, x12_1, rfl, HA, HK1, HO_11, BK283, HB⟩ := hrel
    cases gk with
    | zero => exact absurd HA.out (by simp [sizarref07_Points.l0])
    | succ k1 =>
      have H := HA.out
      clear HA
      simp only [sizarref07_Points.l0] at H
      obtain ⟨ji10, hji10⟩ : ∃ j_ : Int, (mn a3 1024) = j_ := ⟨_, rfl⟩
      replace H : (if x12_1 < (ji10) then ((sizarref07_At.f l0 a1_0 a1_1 a1_2 x12_1 a4).bind fun bt287 => (if bt287.2 = true then (if x11_1.length < 8796093022208 then (sizarref07_Points.l0 k1 l0 a3 a4 (x11_1 ++ [(⟨x12_1, bt287.1⟩ : S60)]) (wrap64 (x12_1 + 1)) a1_0 a1_1 a1_2) else (none)) else (sizarref07_Points.l0 k1 l0 a3 a4 x11_1 (wrap64 (x12_1 + 1)) a1_0 a1_1 a1_2))) else (some x11_1)) = some r := by first | (rw [hji10] at H; exact H) | (simp only [hji10] at H ⊢; exact H)
      have hji10_ : (if 1024 < a3 then 1024 else a3) = ji10 := hji10
      by_cases c11 : x12_1 < (ji10)
      · rw [if_pos c11] at H
        have c11b0 : decide (x12_1 < (ji10)) = true := decide_eq_true c11
        clear c11
        replace H := Option.bind_eq_some_iff.mp H
        obtain ⟨⟨t287, t288⟩, A120, H⟩ := H
        replace H : (if t288 = true then (if x11_1.length < 8796093022208 then (sizarref07_Points.l0 k1 l0 a3 a4 (x11_1 ++ [(⟨x12_1, t287⟩ : S60)]) (wrap64 (x12_1 + 1)) a1_0 a1_1 a1_2) else (none)) else (sizarref07_Points.l0 k1 l0 a3 a4 x11_1 (wrap64 (x12_1 + 1)) a1_0 a1_1 a1_2)) = some r := H
        have A12 := Aside0.mk A120
        clear A120
        by_cases c13 : t288 = true
        · subst c13
          have H1 : (if x11_1.length < 8796093022208 then (sizarref07_Points.l0 k1 l0 a3 a4 (x11_1 ++ [(⟨x12_1, t287⟩ : S60)]) (wrap64 (x12_1 + 1)) a1_0 a1_1 a1_2) else (none)) = some r := by rw [if_pos rfl] at H; exact H
          clear H
          have H := H1
          clear H1
          by_cases c14 : x11_1.length < 8796093022208
          · rw [if_pos c14] at H
            have LMc14 := Aside0.mk c14
            clear c14
            obtain ⟨y289, hy289⟩ : ∃ y_ : List (S60), y_ = (x11_1 ++ [(⟨x12_1, t287⟩ : S60)]) := ⟨_, rfl⟩
            replace H : (sizarref07_Points.l0 k1 l0 a3 a4 y289 (wrap64 (x12_1 + 1)) a1_0 a1_1 a1_2) = some r := by first | (rw [hy289]; with_reducible exact H) | (have H2_ := (Option.bind_some _ _).symm.trans H; rw [hy289]; with_reducible exact H2_) | (have H2_ := (Option.bind_some _ _).symm.trans H; with_reducible exact H2_) | with_reducible exact H | (rw [hy289]; exact H) | exact H
            have Ny289 := Aside0.mk hy289
            clear hy289
            have H' := Aside0.mk H
            clear H
            have hcz15_0 : wr.cell? ⟨gb283, 0, none⟩ = some (.int .i64 a1_0) := (blk_cell BK283.out 0).trans rfl
            have hcz15_1 : wr.cell? ⟨gb283, 1, none⟩ = some (.int .i64 a1_1) := (blk_cell BK283.out 1).trans rfl
            have hcz15_2 : wr.cell? ⟨gb283, 2, none⟩ = some (.int .i64 a1_2) := (blk_cell BK283.out 2).trans rfl
            have hfz15_0 := blk_frozen BK283.out 0
            have hfz15_1 := blk_frozen BK283.out 1
            have hfz15_2 := blk_frozen BK283.out 2
            go_wp2_with (first | ((with_reducible refine gate_callee (f := 19) rfl ?_); refine goesL_ (some 29) rfl rfl Try.func19 (by kernel_rfl) rfl #[.slice A0 l0.length c0, .agg #[.int .i64 a1_0, .int .i64 a1_1, .int .i64 a1_2], .int .i64 x12_1, .int .i64 a4] rfl (by (try simp only [List.map_toArray, List.map_cons, List.map_nil]); first | done | rfl | (simp only [List.length_drop, List.length_take]; rfl)) ?_; (with_reducible refine (sizarref07_At.calls _ _ l0 a1_0 a1_1 a1_2 x12_1 a4 t287 true _ ?side1 ?side2 A12.out).mono ?_); (case side1 => repeat (first | exact (Kd.C_below HR0.out HB.out) | (with_reducible refine Kd.C_alloc ?_ _) | (with_reducible refine Kd.C_drewN ?_ _) | (with_reducible refine Kd.C_drew ?_))); (case side2 => exact HC0.out); rintro e w16 ⟨rfl, hb⟩; refine ⟨_, rfl, ?_⟩; have n0_ := Aside0.mk (Kd.R_below (by (with_reducible repeat (first | apply Kd.R_alloc | apply Kd.R_drewN | apply Kd.R_drew)); exact HO_11.out) hb); have n1_ := Aside0.mk (blk_below (g := gb283) (o := .cells #[.int .i64 a1_0, .int .i64 a1_1, .int .i64 a1_2] 24 (0, 0)) (by (with_reducible repeat (first | refine blk_drewN ?_ _ | refine blk_drew ?_ | refine blk_alloc ?_ _)); exact BK283.out) hb); have n2_ := Aside0.mk (below_step (by repeat (first | (with_reducible first | exact HB.out | apply below_alloc | apply pw_below_drewN | apply below_drew1 | refine below_set ?_ GE283.out) | exact HB.out)) hb); clear HO_11; clear BK283; clear HB; have HO_11 := n0_; have BK283 := n1_; have HB := n2_; clear n0_ n1_ n2_; (try clear hb); (try clear hb2); (try clear hk); (try clear hi)) | ((with_reducible refine gate_builtin (b := .append) (xs := #[.tmp 33, .tmp 37]) rfl ?_); at_builtin; refine Kd.R_append k60 (w0 := w) w.heap.size rfl (.tmp 33) (.tmp 37) 41 60 (.agg #[(.int .i64 0), (.int .i64 0)]) 16 rfl Try.underlying41 info60 rfl (by decide) (by omega) u11 x11_1 (⟨x12_1, t287⟩ : S60) [.int .i64 x12_1, .int .i64 t287] (fun _ => True) (fun _ => False) rfl rfl ?aP (fun _ hk => hk.elim) ?aF ?aO ?aB ?aS ?aL ?_; (case aP => exact k60_mkM _ _ _ (⟨x12_1, t287⟩ : S60)); (case aB => exact (by repeat (first | (with_reducible first | exact HB.out | apply below_alloc | apply pw_below_drewN | apply below_drew1 | refine below_set ?_ GE283.out) | exact HB.out))); (case aF => exact (fun _ _ => trivial)); (case aO => exact (by (with_reducible repeat (first | apply Kd.R_alloc | apply Kd.R_drewN | apply Kd.R_drew)); exact HO_11.out)); (case aS => exact (below_size (by repeat (first | (with_reducible first | exact HB.out | apply below_alloc | apply pw_below_drewN | apply below_drew1 | refine below_set ?_ GE283.out) | exact HB.out)))); (case aL => have := LMc14.out; omega); intro v290 w17 ho hb hg hat; rw [← Ny289.out] at ho; have n0_ := Aside0.mk (blk_grown (g := gb283) (o := .cells #[.int .i64 a1_0, .int .i64 a1_1, .int .i64 a1_2] 24 (0, 0)) (by (with_reducible repeat (first | refine blk_drewN ?_ _ | refine blk_drew ?_ | refine blk_alloc ?_ _)); exact BK283.out) hg (Kd.R_ne HO_11.out BK283.out (by decide))); have n1_ := Aside0.mk (hb); have n2_ := Aside0.mk (ho); clear BK283; clear HB; clear HO_11; have BK283 := n0_; have HB := n1_; have HO291 := n2_; clear n0_ n1_ n2_; clear ho hb hg hat))
            go_roundg k1
            case measure => have := HK1.out; omega
            case rel => exact ⟨(y289), (wrap64 (x12_1 + 1)), (by first | rfl | (simp; done) | (simp [*]; done)), H', ⟨by have := HK1.out; omega⟩, ⟨by (with_reducible repeat (first | apply Kd.R_alloc | apply Kd.R_drewN | apply Kd.R_drew)); exact HO291.out⟩, ⟨by (with_reducible repeat (first | refine blk_drewN ?_ _ | refine blk_drew ?_ | refine blk_alloc ?_ _)); exact BK283.out⟩, ⟨by repeat (first | (with_reducible first | exact HB.out | apply below_alloc | apply pw_below_drewN | apply below_drew1 | refine below_set ?_ GE283.out) | exact HB.out)⟩⟩
          · rw [if_neg c14] at H
            exact absurd H (by simp)
        · replace c13 := Bool.eq_false_iff.mpr c13
          subst c13
          have H1 : (sizarref07_Points.l0 k1 l0 a3 a4 x11_1 (wrap64 (x12_1 + 1)) a1_0 a1_1 a1_2) = some r := by rw [if_neg (show ¬ (false = true) by decide)] at H; exact H
          clear H
          have H := H1
          clear H1
          have H' := Aside0.mk H
          clear H
          have hcz18_0 : wr.cell? ⟨gb283, 0, none⟩ = some (.int .i64 a1_0) := (blk_cell BK283.out 0).trans rfl
          have hcz18_1 : wr.cell? ⟨gb283, 1, none⟩ = some (.int .i64 a1_1) := (blk_cell BK283.out 1).trans rfl
          have hcz18_2 : wr.cell? ⟨gb283, 2, none⟩ = some (.int .i64 a1_2) := (blk_cell BK283.out 2).trans rfl
          have hfz18_0 := blk_frozen BK283.out 0
          have hfz18_1 := blk_frozen BK283.out 1
          have hfz18_2 := blk_frozen BK283.out 2
          go_wp2_with (first | ((with_reducible refine gate_callee (f := 19) rfl ?_); refine goesL_ (some 29) rfl rfl Try.func19 (by kernel_rfl) rfl #[.slice A0 l0.length c0, .agg #[.int .i64 a1_0, .int .i64 a1_1, .int .i64 a1_2], .int .i64 x12_1, .int .i64 a4] rfl (by (try simp only [List.map_toArray, List.map_cons, List.map_nil]); first | done | rfl | (simp only [List.length_drop, List.length_take]; rfl)) ?_; (with_reducible refine (sizarref07_At.calls _ _ l0 a1_0 a1_1 a1_2 x12_1 a4 t287 false _ ?side1 ?side2 A12.out).mono ?_); (case side1 => repeat (first | exact (Kd.C_below HR0.out HB.out) | (with_reducible refine Kd.C_alloc ?_ _) | (with_reducible refine Kd.C_drewN ?_ _) | (with_reducible refine Kd.C_drew ?_))); (case side2 => exact HC0.out); rintro e w19 ⟨rfl, hb⟩; refine ⟨_, rfl, ?_⟩; have n0_ := Aside0.mk (Kd.R_below (by (with_reducible repeat (first | apply Kd.R_alloc | apply Kd.R_drewN | apply Kd.R_drew)); exact HO_11.out) hb); have n1_ := Aside0.mk (blk_below (g := gb283) (o := .cells #[.int .i64 a1_0, .int .i64 a1_1, .int .i64 a1_2] 24 (0, 0)) (by (with_reducible repeat (first | refine blk_drewN ?_ _ | refine blk_drew ?_ | refine blk_alloc ?_ _)); exact BK283.out) hb); have n2_ := Aside0.mk (below_step (by repeat (first | (with_reducible first | exact HB.out | apply below_alloc | apply pw_below_drewN | apply below_drew1 | refine below_set ?_ GE283.out) | exact HB.out)) hb); clear HO_11; clear BK283; clear HB; have HO_11 := n0_; have BK283 := n1_; have HB := n2_; clear n0_ n1_ n2_; (try clear hb); (try clear hb2); (try clear hk); (try clear hi)))
          go_roundg k1
          case measure => have := HK1.out; omega
          case rel => exact ⟨(x11_1), (wrap64 (x12_1 + 1)), (by first | rfl | (simp; done) | (simp [*]; done)), H', ⟨by have := HK1.out; omega⟩, ⟨by (with_reducible repeat (first | apply Kd.R_alloc | apply Kd.R_drewN | apply Kd.R_drew)); exact HO_11.out⟩, ⟨by (with_reducible repeat (first | refine blk_drewN ?_ _ | refine blk_drew ?_ | refine blk_alloc ?_ _)); exact BK283.out⟩, ⟨by repeat (first | (with_reducible first | exact HB.out | apply below_alloc | apply pw_below_drewN | apply below_drew1 | refine below_set ?_ GE283.out) | exact HB.out)⟩⟩
      · rw [if_neg c11] at H
        have c11b0 : decide (x12_1 < (ji10)) = false := decide_eq_false c11
        clear c11
        obtain rfl := Option.some.inj H
        go_wp2
        go_ret
        exact ⟨_, by first | rfl | (simp [errW_none, errW_some] <;> rfl) | (simp only [← hji6, ← hji10]; first | rfl | (simp [errW_none, errW_some] <;> rfl)) | (simp [*, errW_none, errW_some] <;> rfl), by (with_reducible repeat (first | apply Kd.R_alloc | apply Kd.R_drewN | apply Kd.R_drew)); exact HO_11.out, by repeat (first | (with_reducible first | exact HB.out | apply below_alloc | apply pw_below_drewN | apply below_drew1 | refine below_set ?_ GE283.out) | exact HB.out)⟩
end Go.Proofs.Ytamajnhdibcpiaa.G
namespace Go.Proofs.Ytamajnhdibcpiaa.G
open Go.RowKit Go.Proofs.YtamajnhdibcpiaaW.PrintWords Go.Proofs.YtamajnhdibcpiaaW.PrintLast Go.Proofs.YtamajnhdibcpiaaW.PrintMore
attribute [local go_sem] max2_int min2_int max_two min_two max_three min_three max_four min_four   -- for this text's walks alone
set_option linter.unusedVariables false
set_option linter.unusedSimpArgs false
mutual
def sizarlaw07_FactsAtSpec.j0 : Nat → List (S28) → Int → Int → Int → List (S24) → Option (Bool)
  | 0, _, _, _, _, _ => none
  | k + 1, x0, x2, x3, x4, x11 => sizarlaw07_FactsAtSpec.l0 k x0 x2 x3 x4 x11 0
def sizarlaw07_FactsAtSpec.l0 : Nat → List (S28) → Int → Int → Int → List (S24) → Int → Option (Bool)
  | 0, _, _, _, _, _, _ => none
  | k + 1, x0, x2, x3, x4, x11, x12 => if x12 < (x11.length : Int) then (if 0 ≤ x12 then ((facts_At.f x0 ((rd_T24 x11 x12).f0) ((rd_T24 x11 x12).f1) ((rd_T24 x11 x12).f2) x2 x4).bind fun bt307 => ((sizarref07_At.f x0 ((rd_T24 x11 x12).f0) ((rd_T24 x11 x12).f1) ((rd_T24 x11 x12).f2) x2 x4).bind fun bt310 => (if bt307.1 = bt310.1 then (if (bt307.2 != bt310.2) = true then (none) else ((facts_Points.f x0 ((rd_T24 x11 x12).f0) ((rd_T24 x11 x12).f1) ((rd_T24 x11 x12).f2) x2 x3 x4).bind fun t313 => ((sizarref07_Points.f k x0 ((rd_T24 x11 x12).f0) ((rd_T24 x11 x12).f1) ((rd_T24 x11 x12).f2) x2 x3 x4).bind fun t317 => ((sizarref07_SamePoints.f k t313 t317).bind fun t320 => (if t320 = true then (sizarlaw07_FactsAtSpec.l0 k x0 x2 x3 x4 x11 (wrap64 (x12 + 1))) else (none)))))) else (none)))) else (none)) else (some true)
end
def sizarlaw07_FactsAtSpec.f (k : Nat) (l0 : List (S28)) (a1_0 : Int) (a1_1 : Int) (a1_2 : Int) (a2 : Int) (a3 : Int) (a4 : Int) : Option (Bool) := (sizarlaw07_sane.f k).bind fun t293 => (if t293 = true then ((sizarref07_Few.f l0).bind fun t294 => (if t294 = true then ((some (([(⟨a1_0, a1_1, a1_2⟩ : S24)] : List (S24)) : List (S24))).bind fun y295 => (if (l0.length : Int) > 0 then (if 0 < (l0.length : Int) then (if 0 ≤ (wrap64 ((l0.length : Int) - 1)) then (if (wrap64 ((l0.length : Int) - 1)) < (l0.length : Int) then ((some (([(⟨(rd_T28 l0 0).f0.f0, (rd_T28 l0 0).f0.f1, (rd_T28 l0 0).f0.f2⟩ : S24), (⟨(rd_T28 l0 (wrap64 ((l0.length : Int) - 1))).f0.f0, (rd_T28 l0 (wrap64 ((l0.length : Int) - 1))).f0.f1, (rd_T28 l0 (wrap64 ((l0.length : Int) - 1))).f0.f2⟩ : S24)] : List (S24)) : List (S24))).bind fun y300 => (if y295.length + y300.length < 5864062014805 then (sizarlaw07_FactsAtSpec.j0 k l0 a2 a3 a4 (y295 ++ y300)) else (none))) else (none)) else (none)) else (none)) else (sizarlaw07_FactsAtSpec.j0 k l0 a2 a3 a4 y295))) else (some true))) else (none))
theorem sizarlaw07_FactsAtSpec.mono_l : ∀ k, (∀ y0 y1 y2 y3 y4, LeO (sizarlaw07_FactsAtSpec.j0 k y0 y1 y2 y3 y4) (sizarlaw07_FactsAtSpec.j0 (k + 1) y0 y1 y2 y3 y4)) ∧ (∀ y0 y1 y2 y3 y4 y5, LeO (sizarlaw07_FactsAtSpec.l0 k y0 y1 y2 y3 y4 y5) (sizarlaw07_FactsAtSpec.l0 (k + 1) y0 y1 y2 y3 y4 y5))
  | 0 => ⟨fun _ _ _ _ _ r h => by simp [sizarlaw07_FactsAtSpec.j0] at h, fun _ _ _ _ _ _ r h => by simp [sizarlaw07_FactsAtSpec.l0] at h⟩
  | k + 1 => by
    obtain ⟨ih0, ih1⟩ := sizarlaw07_FactsAtSpec.mono_l k
    refine ⟨?_, ?_⟩
    · intro y0 y1 y2 y3 y4
      unfold sizarlaw07_FactsAtSpec.j0
      repeat' first
      | (with_reducible exact ih0 _ _ _ _ _)
      | (with_reducible exact ih1 _ _ _ _ _ _)
      | (with_reducible exact sizarlaw07_sane.mono _)
      | (with_reducible exact sizarref07_Points.mono _ _ _ _ _ _ _ _)
      | (with_reducible exact sizarref07_SamePoints.mono _ _ _)
      | (with_reducible exact LeO.refl _)
      | (with_reducible exact LeO.none _)
      | (with_reducible refine LeO.ite ?_ ?_)
      | (with_reducible refine LeO.bind ?_ (fun _ => ?_))
      | exact ih0 _ _ _ _ _
      | exact ih1 _ _ _ _ _ _
      | exact sizarlaw07_sane.mono _
      | exact sizarref07_Points.mono _ _ _ _ _ _ _ _
      | exact sizarref07_SamePoints.mono _ _ _
      | exact LeO.none _
      | refine LeO.ite ?_ ?_
      | refine LeO.bind ?_ (fun _ => ?_)
    · intro y0 y1 y2 y3 y4 y5
      unfold sizarlaw07_FactsAtSpec.l0
      repeat' first
      | (with_reducible exact ih0 _ _ _ _ _)
      | (with_reducible exact ih1 _ _ _ _ _ _)
      | (with_reducible exact sizarlaw07_sane.mono _)
      | (with_reducible exact sizarref07_Points.mono _ _ _ _ _ _ _ _)
      | (with_reducible exact sizarref07_SamePoints.mono _ _ _)
      | (with_reducible exact LeO.refl _)
      | (with_reducible exact LeO.none _)
      | (with_reducible refine LeO.ite ?_ ?_)
      | (with_reducible refine LeO.bind ?_ (fun _ => ?_))
      | exact ih0 _ _ _ _ _
      | exact ih1 _ _ _ _ _ _
      | exact sizarlaw07_sane.mono _
      | exact sizarref07_Points.mono _ _ _ _ _ _ _ _
      | exact sizarref07_SamePoints.mono _ _ _
      | exact LeO.none _
      | refine LeO.ite ?_ ?_
      | refine LeO.bind ?_ (fun _ => ?_)
theorem sizarlaw07_FactsAtSpec.mono : ∀ a0 a1 a2 a3 a4 a5 a6 k, LeO (sizarlaw07_FactsAtSpec.f k a0 a1 a2 a3 a4 a5 a6) (sizarlaw07_FactsAtSpec.f (k + 1) a0 a1 a2 a3 a4 a5 a6) := by
  intro a0 a1 a2 a3 a4 a5 a6 k
  obtain ⟨ih0, ih1⟩ := sizarlaw07_FactsAtSpec.mono_l k
  unfold sizarlaw07_FactsAtSpec.f
  repeat' first
      | (with_reducible exact ih0 _ _ _ _ _)
      | (with_reducible exact ih1 _ _ _ _ _ _)
      | (with_reducible exact sizarlaw07_sane.mono _)
      | (with_reducible exact sizarref07_Points.mono _ _ _ _ _ _ _ _)
      | (with_reducible exact sizarref07_SamePoints.mono _ _ _)
      | (with_reducible exact LeO.refl _)
      | (with_reducible exact LeO.none _)
      | (with_reducible refine LeO.ite ?_ ?_)
      | (with_reducible refine LeO.bind ?_ (fun _ => ?_))
      | exact ih0 _ _ _ _ _
      | exact ih1 _ _ _ _ _ _
      | exact sizarlaw07_sane.mono _
      | exact sizarref07_Points.mono _ _ _ _ _ _ _ _
      | exact sizarref07_SamePoints.mono _ _ _
      | exact LeO.none _
      | refine LeO.ite ?_ ?_
      | refine LeO.bind ?_ (fun _ => ?_)
def sizarlaw07_FactsAtSpec.T7 : Bool × List (List Nat × List Nat) := (true, [([], []), ([], []), ([1], [1]), ([2], [2]), ([3], [3]), ([], []), ([], []), ([6], [6]), ([7], [7]), ([5, 8], [5, 8]), ([9], [9]), ([10], [10]), ([4, 11], [4, 11]), ([0, 12], [0, 12]), ([13, 13, 0, 1, 2, 3, 4, 5, 6, 7, 8, 9, 10, 11, 12, 13], [0, 13])])
def sizarlaw07_FactsAtSpec.B7 : List Nat := [0, 0, 2, 6, 14, 0, 0, 64, 192, 480, 992, 2016, 4094, 8191, 16383]
theorem sizarlaw07_FactsAtSpec.tab7 : rtab .any (opsOf Try.f4 7) = sizarlaw07_FactsAtSpec.T7 := by kernel_rfl
theorem sizarlaw07_FactsAtSpec.bits7 : waitsOk sizarlaw07_FactsAtSpec.T7.2 sizarlaw07_FactsAtSpec.B7 = true := by kernel_rfl
def sizarlaw07_FactsAtSpec.T13 : Bool × List (List Nat × List Nat) := (true, [([], []), ([], []), ([0, 1], [0, 1]), ([2], [2]), ([3], [3]), ([3], [3]), ([4, 5, 3], [3, 4, 5]), ([3, 6], [3, 6]), ([7, 3], [7]), ([8], [8]), ([8], [8]), ([8], [8]), ([10, 11, 8], [8, 10, 11]), ([12, 8], [8, 12]), ([8], [8]), ([8], [8]), ([8], [8]), ([9, 13, 14, 15, 16, 8, 8], [8, 9, 13, 14, 15, 16]), ([8], [8]), ([8], [8]), ([8], [8]), ([19, 20, 8], [8, 19, 20]), ([21, 8], [8, 21]), ([8], [8]), ([8], [8]), ([8], [8]), ([18, 22, 23, 24, 25, 17, 8], [8, 18, 22, 23, 24, 25]), ([17, 26, 26, 8], [8, 17, 26]), ([27, 8], [8, 27]), ([8, 28], [8, 28])])
def sizarlaw07_FactsAtSpec.B13 : List Nat := [0, 0, 3, 7, 15, 15, 63, 127, 255, 511, 511, 511, 3583, 7679, 511, 511, 511, 131071, 511, 511, 511, 1573375, 3670527, 511, 511, 511, 67108863, 134217727, 268435455, 536870911]
theorem sizarlaw07_FactsAtSpec.tab13 : rtab .any (opsOf Try.f4 13) = sizarlaw07_FactsAtSpec.T13 := by kernel_rfl
theorem sizarlaw07_FactsAtSpec.bits13 : waitsOk sizarlaw07_FactsAtSpec.T13.2 sizarlaw07_FactsAtSpec.B13 = true := by kernel_rfl
set_option maxHeartbeats 8000000 in
set_option maxRecDepth 100000 in
theorem sizarlaw07_FactsAtSpec.calls (k : Nat) (A0 : Option Addr) (c0 : Nat) (l0 : List (S28)) (a1_0 : Int) (a1_1 : Int) (a1_2 : Int) (a2 : Int) (a3 : Int) (a4 : Int) (r : Bool) (w : World) (hr0 : Kd.C k28 w A0 l0.length l0) (hc0 : l0.length ≤ c0) (h : sizarlaw07_FactsAtSpec.f k l0 a1_0 a1_1 a1_2 a2 a3 a4 = some r) :
    Calls Try.prog 4 #[.slice A0 l0.length c0, .agg #[.int .i64 a1_0, .int .i64 a1_1, .int .i64 a1_2], .int .i64 a2, .int .i64 a3, .int .i64 a4] w fun e w' => e = .returned (.bool r) ∧ Below w.heap.size w w' := by
  have hu24 := Try.underlying24
  have HR0 := Aside0.mk hr0
  have HC0 := Aside0.mk hc0
  clear hr0 hc0
  have HB := Aside0.mk (Below.refl w.heap.size w)
  have H : ((sizarlaw07_sane.f k).bind fun t293 => (if t293 = true then ((sizarref07_Few.f l0).bind fun t294 => (if t294 = true then ((some (([(⟨a1_0, a1_1, a1_2⟩ : S24)] : List (S24)) : List (S24))).bind fun y295 => (if (l0.length : Int) > 0 then (if 0 < (l0.length : Int) then (if 0 ≤ (wrap64 ((l0.length : Int) - 1)) then (if (wrap64 ((l0.length : Int) - 1)) < (l0.length : Int) then ((some (([(⟨(rd_T28 l0 0).f0.f0, (rd_T28 l0 0).f0.f1, (rd_T28 l0 0).f0.f2⟩ : S24), (⟨(rd_T28 l0 (wrap64 ((l0.length : Int) - 1))).f0.f0, (rd_T28 l0 (wrap64 ((l0.length : Int) - 1))).f0.f1, (rd_T28 l0 (wrap64 ((l0.length : Int) - 1))).f0.f2⟩ : S24)] : List (S24)) : List (S24))).bind fun y300 => (if y295.length + y300.length < 5864062014805 then (sizarlaw07_FactsAtSpec.j0 k l0 a2 a3 a4 (y295 ++ y300)) else (none))) else (none)) else (none)) else (none)) else (sizarlaw07_FactsAtSpec.j0 k l0 a2 a3 a4 y295))) else (some true))) else (none))) = some r := h
  clear h
  replace H := Option.bind_eq_some_iff.mp H
  obtain ⟨t293, A60, H⟩ := H
  replace H : (if t293 = true then ((sizarref07_Few.f l0).bind fun t294 => (if t294 = true then ((some (([(⟨a1_0, a1_1, a1_2⟩ : S24)] : List (S24)) : List (S24))).bind fun y295 => (if (l0.length : Int) > 0 then (if 0 < (l0.length : Int) then (if 0 ≤ (wrap64 ((l0.length : Int) - 1)) then (if (wrap64 ((l0.length : Int) - 1)) < (l0.length : Int) then ((some (([(⟨(rd_T28 l0 0).f0.f0, (rd_T28 l0 0).f0.f1, (rd_T28 l0 0).f0.f2⟩ : S24), (⟨(rd_T28 l0 (wrap64 ((l0.length : Int) - 1))).f0.f0, (rd_T28 l0 (wrap64 ((l0.length : Int) - 1))).f0.f1, (rd_T28 l0 (wrap64 ((l0.length : Int) - 1))).f0.f2⟩ : S24)] : List (S24)) : List (S24))).bind fun y300 => (if y295.length + y300.length < 5864062014805 then (sizarlaw07_FactsAtSpec.j0 k l0 a2 a3 a4 (y295 ++ y300)) else (none))) else (none)) else (none)) else (none)) else (sizarlaw07_FactsAtSpec.j0 k l0 a2 a3 a4 y295))) else (some true))) else (none)) = some r := H
  have A6 := Aside0.mk A60
  clear A60
  by_cases c7 : t293 = true
  · subst c7
    have H1 : ((sizarref07_Few.f l0).bind fun t294 => (if t294 = true then ((some (([(⟨a1_0, a1_1, a1_2⟩ : S24)] : List (S24)) : List (S24))).bind fun y295 => (if (l0.length : Int) > 0 then (if 0 < (l0.length : Int) then (if 0 ≤ (wrap64 ((l0.length : Int) - 1)) then (if (wrap64 ((l0.length : Int) - 1)) < (l0.length : Int) then ((some (([(⟨(rd_T28 l0 0).f0.f0, (rd_T28 l0 0).f0.f1, (rd_T28 l0 0).f0.f2⟩ : S24), (⟨(rd_T28 l0 (wrap64 ((l0.length : Int) - 1))).f0.f0, (rd_T28 l0 (wrap64 ((l0.length : Int) - 1))).f0.f1, (rd_T28 l0 (wrap64 ((l0.length : Int) - 1))).f0.f2⟩ : S24)] : List (S24)) : List (S24))).bind fun y300 => (if y295.length + y300.length < 5864062014805 then (sizarlaw07_FactsAtSpec.j0 k l0 a2 a3 a4 (y295 ++ y300)) else (none))) else (none)) else (none)) else (none)) else (sizarlaw07_FactsAtSpec.j0 k l0 a2 a3 a4 y295))) else (some true))) = some r := by rw [if_pos rfl] at H; exact H
    clear H
    have H := H1
    clear H1
    replace H := Option.bind_eq_some_iff.mp H
    obtain ⟨t294, A80, H⟩ := H
    replace H : (if t294 = true then ((some (([(⟨a1_0, a1_1, a1_2⟩ : S24)] : List (S24)) : List (S24))).bind fun y295 => (if (l0.length : Int) > 0 then (if 0 < (l0.length : Int) then (if 0 ≤ (wrap64 ((l0.length : Int) - 1)) then (if (wrap64 ((l0.length : Int) - 1)) < (l0.length : Int) then ((some (([(⟨(rd_T28 l0 0).f0.f0, (rd_T28 l0 0).f0.f1, (rd_T28 l0 0).f0.f2⟩ : S24), (⟨(rd_T28 l0 (wrap64 ((l0.length : Int) - 1))).f0.f0, (rd_T28 l0 (wrap64 ((l0.length : Int) - 1))).f0.f1, (rd_T28 l0 (wrap64 ((l0.length : Int) - 1))).f0.f2⟩ : S24)] : List (S24)) : List (S24))).bind fun y300 => (if y295.length + y300.length < 5864062014805 then (sizarlaw07_FactsAtSpec.j0 k l0 a2 a3 a4 (y295 ++ y300)) else (none))) else (none)) else (none)) else (none)) else (sizarlaw07_FactsAtSpec.j0 k l0 a2 a3 a4 y295))) else (some true)) = some r := H
    have A8 := Aside0.mk A80
    clear A80
    by_cases c9 : t294 = true
    · subst c9
      have H1 : ((some (([(⟨a1_0, a1_1, a1_2⟩ : S24)] : List (S24)) : List (S24))).bind fun y295 => (if (l0.length : Int) > 0 then (if 0 < (l0.length : Int) then (if 0 ≤ (wrap64 ((l0.length : Int) - 1)) then (if (wrap64 ((l0.length : Int) - 1)) < (l0.length : Int) then ((some (([(⟨(rd_T28 l0 0).f0.f0, (rd_T28 l0 0).f0.f1, (rd_T28 l0 0).f0.f2⟩ : S24), (⟨(rd_T28 l0 (wrap64 ((l0.length : Int) - 1))).f0.f0, (rd_T28 l0 (wrap64 ((l0.length : Int) - 1))).f0.f1, (rd_T28 l0 (wrap64 ((l0.length : Int) - 1))).f0.f2⟩ : S24)] : List (S24)) : List (S24))).bind fun y300 => (if y295.length + y300.length < 5864062014805 then (sizarlaw07_FactsAtSpec.j0 k l0 a2 a3 a4 (y295 ++ y300)) else (none))) else (none)) else (none)) else (none)) else (sizarlaw07_FactsAtSpec.j0 k l0 a2 a3 a4 y295))) = some r := by rw [if_pos rfl] at H; exact H
      clear H
      have H := H1
      clear H1
      obtain ⟨y295, hy295⟩ : ∃ y_ : List (S24), y_ = (([(⟨a1_0, a1_1, a1_2⟩ : S24)] : List (S24))) := ⟨_, rfl⟩
      replace H : (if (l0.length : Int) > 0 then (if 0 < (l0.length : Int) then (if 0 ≤ (wrap64 ((l0.length : Int) - 1)) then (if (wrap64 ((l0.length : Int) - 1)) < (l0.length : Int) then ((some (([(⟨(rd_T28 l0 0).f0.f0, (rd_T28 l0 0).f0.f1, (rd_T28 l0 0).f0.f2⟩ : S24), (⟨(rd_T28 l0 (wrap64 ((l0.length : Int) - 1))).f0.f0, (rd_T28 l0 (wrap64 ((l0.length : Int) - 1))).f0.f1, (rd_T28 l0 (wrap64 ((l0.length : Int) - 1))).f0.f2⟩ : S24)] : List (S24)) : List (S24))).bind fun y300 => (if y295.length + y300.length < 5864062014805 then (sizarlaw07_FactsAtSpec.j0 k l0 a2 a3 a4 (y295 ++ y300)) else (none))) else (none)) else (none)) else (none)) else (sizarlaw07_FactsAtSpec.j0 k l0 a2 a3 a4 y295)) = some r := by first | (rw [hy295]; with_reducible exact H) | (have H2_ := (Option.bind_some _ _).symm.trans H; rw [hy295]; with_reducible exact H2_) | (have H2_ := (Option.bind_some _ _).symm.trans H; with_reducible exact H2_) | with_reducible exact H | (rw [hy295]; exact H) | exact H
      have Ny295 := Aside0.mk hy295
      clear hy295
      have HC10 := Aside0.mk H
      clear H
      go_enter Try.func4, Try.ntmps4
      go_upto_if 26 with (first | ((with_reducible refine gate_dst (N := 6) rfl ?_); refine box_event ?hg (N := 6) ?hd (cs := #[.int .i64 a1_0, .int .i64 a1_1, .int .i64 a1_2]) (t := 24) ?hr ?_; (case hd => rfl); (case hg => rfl); (case hr => first | (go_simp; done) | (go_simp; rfl)); intro gb292 hg w11 hbox hb; have n0_ := Aside0.mk (below_step (by repeat (first | (with_reducible first | exact HB.out | apply below_alloc | apply pw_below_drewN | apply below_drew1) | exact HB.out)) hb); have n1_ := Aside0.mk (hbox); have n2_ := Aside0.mk ((by rw [hg]; exact (below_size (by repeat (first | (with_reducible first | exact HB.out | apply below_alloc | apply pw_below_drewN | apply below_drew1) | exact HB.out))) : w.heap.size ≤ gb292)); have n3_ := Aside0.mk ((by rw [hg]; exact (below_size (by repeat (first | (with_reducible first | exact HB.out | apply below_alloc | apply pw_below_drewN | apply below_drew1) | exact HB.out))) : w.heap.size ≤ gb292)); clear HB; have HB := n0_; have BK292 := n1_; have GW292 := n2_; have GE292 := n3_; clear n0_ n1_ n2_ n3_; clear hb hbox hg) | ((with_reducible refine gate_callee (f := 11) rfl ?_); refine goesL_ (some 17) rfl rfl Try.func11 (by kernel_rfl) rfl #[] rfl (by (try simp only [List.map_toArray, List.map_cons, List.map_nil]); first | done | rfl | (simp only [List.length_drop, List.length_take]; rfl)) ?_; (with_reducible refine (sizarlaw07_sane.calls k  true _ A6.out).mono ?_); rintro e w12 ⟨rfl, hb⟩; refine ⟨_, rfl, ?_⟩; have n0_ := Aside0.mk (blk_below (g := gb292) (o := .cells #[.int .i64 a1_0, .int .i64 a1_1, .int .i64 a1_2] 24 (0, 0)) (by (with_reducible repeat (first | refine blk_drewN ?_ _ | refine blk_drew ?_ | refine blk_alloc ?_ _)); exact BK292.out) hb); have n1_ := Aside0.mk (below_step (by repeat (first | (with_reducible first | exact HB.out | apply below_alloc | apply pw_below_drewN | apply below_drew1 | refine below_set ?_ GE292.out) | exact HB.out)) hb); clear BK292; clear HB; have BK292 := n0_; have HB := n1_; clear n0_ n1_; (try clear hb); (try clear hb2); (try clear hk); (try clear hi)) | ((with_reducible refine gate_callee (f := 12) rfl ?_); refine goesL_ (some 20) rfl rfl Try.func12 (by kernel_rfl) rfl #[.slice A0 l0.length c0] rfl (by (try simp only [List.map_toArray, List.map_cons, List.map_nil]); first | done | rfl | (simp only [List.length_drop, List.length_take]; rfl)) ?_; (with_reducible refine (sizarref07_Few.calls _ _ l0 true _ ?side1 ?side2 A8.out).mono ?_); (case side1 => repeat (first | exact (Kd.C_below HR0.out HB.out) | (with_reducible refine Kd.C_alloc ?_ _) | (with_reducible refine Kd.C_drewN ?_ _) | (with_reducible refine Kd.C_drew ?_))); (case side2 => exact HC0.out); rintro e w' ⟨rfl, ⟨nd, rfl⟩⟩; refine ⟨_, rfl, ?_⟩; have hcz13_0 : w12.cell? ⟨gb292, 0, none⟩ = some (.int .i64 a1_0) := (blk_cell BK292.out 0).trans rfl; have hcz13_1 : w12.cell? ⟨gb292, 1, none⟩ = some (.int .i64 a1_1) := (blk_cell BK292.out 1).trans rfl; have hcz13_2 : w12.cell? ⟨gb292, 2, none⟩ = some (.int .i64 a1_2) := (blk_cell BK292.out 2).trans rfl; have hfz13_0 := blk_frozen BK292.out 0; have hfz13_1 := blk_frozen BK292.out 1; have hfz13_2 := blk_frozen BK292.out 2) | ((with_reducible refine gate_dst (N := 23) rfl ?_); refine Kd.R_lit k24 _ 24 ?hg (N := 23) ?hd (xs := ([(⟨a1_0, a1_1, a1_2⟩ : S24)] : List (S24))) (inner := [.int .i64 a1_0, .int .i64 a1_1, .int .i64 a1_2]) (ok := fun _ => True) (okp := fun _ => True) ?hr ?hp (fun _ hk => hk) trivial (Below.refl _ _) (Nat.le_refl _) (by simp) ?_; (case hd => rfl); (case hg => rfl); (case hr => first | (go_simp; done) | (go_simp; rfl)); (case hp => exact (Reps.c3 (show Kd.M k24 _ _ _ (⟨a1_0, a1_1, a1_2⟩ : S24) [.int .i64 a1_0, .int .i64 a1_1, .int .i64 a1_2] from (k24_mkM _ _ _ (⟨a1_0, a1_1, a1_2⟩ : S24) )) (Reps.none _ _))); intro v296 w14 ho15 hb hg_ hnew_; clear hg_ hnew_; (first | rw [← Ny295.out] at ho15 | (simp only [Int.reduceToNat] at ho15; rw [← Ny295.out] at ho15)); have n0_ := Aside0.mk (Kd.R_lower (Kd.R_newB ho15 (g := gb292) (o := .cells #[.int .i64 a1_0, .int .i64 a1_1, .int .i64 a1_2] 24 (0, 0)) (by (with_reducible repeat (first | refine blk_drewN ?_ _ | refine blk_drew ?_ | refine blk_alloc ?_ _)); exact BK292.out)) (below_size (by repeat (first | (with_reducible first | exact HB.out | apply below_alloc | apply pw_below_drewN | apply below_drew1 | refine below_set ?_ GE292.out) | exact HB.out)))); have n1_ := Aside0.mk (blk_below (g := gb292) (o := .cells #[.int .i64 a1_0, .int .i64 a1_1, .int .i64 a1_2] 24 (0, 0)) (by (with_reducible repeat (first | refine blk_drewN ?_ _ | refine blk_drew ?_ | refine blk_alloc ?_ _)); exact BK292.out) hb); have n2_ := Aside0.mk (below_step (by repeat (first | (with_reducible first | exact HB.out | apply below_alloc | apply pw_below_drewN | apply below_drew1 | refine below_set ?_ GE292.out) | exact HB.out)) hb); clear BK292; clear HB; have HO297 := n0_; have BK292 := n1_; have HB := n2_; clear n0_ n1_ n2_; clear hb ho15))
      (try simp only [Act.put, List.setIfInBounds_toArray, List.set_cons_zero, List.set_cons_succ])
      go_cut [11] (fun v11 wc => ∃ (kq : Nat) (x11_9 : List (S24)), Aside0 (sizarlaw07_FactsAtSpec.j0 kq l0 a2 a3 a4 x11_9 = some r) ∧ Aside0 (kq ≤ k) ∧ Aside0 (Kd.R k24 24 wc w.heap.size (fun k_ => k_ ≠ gb292) v11 x11_9) ∧ Aside0 (wc.heap[gb292]? = some (.cells #[.int .i64 a1_0, .int .i64 a1_1, .int .i64 a1_2] 24 (0, 0))) ∧ Aside0 (Below w.heap.size w wc))
      case first =>
        have H := HC10.out
        clear HC10
        by_cases c16 : (l0.length : Int) > 0
        · rw [if_pos c16] at H
          have c16b0 : decide (0 < (l0.length : Int)) = true := decide_eq_true c16
          have c16b1 : decide (0 < l0.length) = true := decide_eq_true (by omega)
          clear c16
          (first | rw [c16b0] | rw [c16b1] | (simp only [i64_w, i32_w]; rw [c16b0]) | skip)
          by_cases c17 : 0 < (l0.length : Int)
          · rw [if_pos c17] at H
            have c17b0 : decide (0 < (l0.length : Int)) = true := decide_eq_true c17
            have c17b1 : decide (0 < l0.length) = true := decide_eq_true (by omega)
            clear c17
            obtain ⟨ji18, hji18⟩ : ∃ j_ : Int, (wrap64 ((l0.length : Int) - 1)) = j_ := ⟨_, rfl⟩
            replace H : (if 0 ≤ (ji18) then (if (ji18) < (l0.length : Int) then ((some (([(⟨(rd_T28 l0 0).f0.f0, (rd_T28 l0 0).f0.f1, (rd_T28 l0 0).f0.f2⟩ : S24), (⟨(rd_T28 l0 (ji18)).f0.f0, (rd_T28 l0 (ji18)).f0.f1, (rd_T28 l0 (ji18)).f0.f2⟩ : S24)] : List (S24)) : List (S24))).bind fun y300 => (if y295.length + y300.length < 5864062014805 then (sizarlaw07_FactsAtSpec.j0 k l0 a2 a3 a4 (y295 ++ y300)) else (none))) else (none)) else (none)) = some r := by first | (rw [hji18] at H; exact H) | (simp only [hji18] at H ⊢; exact H)
            have hji18w : (IntKind.i64.wrap ((l0.length : Int) - 1)) = ji18 := (i64_w _).trans hji18
            by_cases c19 : 0 ≤ (ji18)
            · rw [if_pos c19] at H
              have c19b0 : decide (0 ≤ (ji18)) = true := decide_eq_true c19
              clear c19
              by_cases c20 : (ji18) < (l0.length : Int)
              · rw [if_pos c20] at H
                have c20b0 : decide ((ji18) < (l0.length : Int)) = true := decide_eq_true c20
                clear c20
                obtain ⟨y300, hy300⟩ : ∃ y_ : List (S24), y_ = (([(⟨(rd_T28 l0 0).f0.f0, (rd_T28 l0 0).f0.f1, (rd_T28 l0 0).f0.f2⟩ : S24), (⟨(rd_T28 l0 (ji18)).f0.f0, (rd_T28 l0 (ji18)).f0.f1, (rd_T28 l0 (ji18)).f0.f2⟩ : S24)] : List (S24))) := ⟨_, rfl⟩
                replace H : (if y295.length + y300.length < 5864062014805 then (sizarlaw07_FactsAtSpec.j0 k l0 a2 a3 a4 (y295 ++ y300)) else (none)) = some r := by first | (rw [hy300]; with_reducible exact H) | (have H2_ := (Option.bind_some _ _).symm.trans H; rw [hy300]; with_reducible exact H2_) | (have H2_ := (Option.bind_some _ _).symm.trans H; with_reducible exact H2_) | with_reducible exact H | (rw [hy300]; exact H) | exact H
                have Ny300 := Aside0.mk hy300
                clear hy300
                by_cases c21 : y295.length + y300.length < 5864062014805
                · rw [if_pos c21] at H
                  have LMc21 := Aside0.mk c21
                  clear c21
                  obtain ⟨y303, hy303⟩ : ∃ y_ : List (S24), y_ = (y295 ++ y300) := ⟨_, rfl⟩
                  replace H : (sizarlaw07_FactsAtSpec.j0 k l0 a2 a3 a4 y303) = some r := by first | (rw [hy303]; with_reducible exact H) | (have H2_ := (Option.bind_some _ _).symm.trans H; rw [hy303]; with_reducible exact H2_) | (have H2_ := (Option.bind_some _ _).symm.trans H; with_reducible exact H2_) | with_reducible exact H | (rw [hy303]; exact H) | exact H
                  have Ny303 := Aside0.mk hy303
                  clear hy303
                  have H' := Aside0.mk H
                  clear H
                  try go_wp2
                  have n0_ := Aside0.mk (Kd.R_drew HO297.out)
                  have n1_ := Aside0.mk (blk_drew BK292.out)
                  have n2_ := Aside0.mk (below_drew1 HB.out)
                  clear HO297
                  clear BK292
                  clear HB
                  have HO297 := n0_
                  have BK292 := n1_
                  have HB := n2_
                  clear n0_ n1_ n2_
                  have p298 : 0 ≤ (0 : Int) := (by omega)
                  have q298 : 0 < (l0.length : Int) := of_decide_eq_true (by first | (with_reducible assumption) | assumption)
                  obtain ⟨ad298, e298, hx298_0, hx298_1, hx298_2, hx298_3, hx298_4, hx298_5, hx298_6, hx298_7⟩ := at_T28 HR0.out 0 p298 q298
                  have hw298_7 := hx298_7
                  (try rw [show ((0 : Int)).toNat = 0 from rfl] at hw298_7)
                  (try rw [show 0 * 8 = 0 from rfl] at hw298_7)
                  (try rw [Addr.add_zero'] at hw298_7)
                  have hw298_6 := hx298_6
                  (try rw [show ((0 : Int)).toNat = 0 from rfl] at hw298_6)
                  (try rw [show 0 * 8 = 0 from rfl] at hw298_6)
                  (try rw [Addr.add_zero'] at hw298_6)
                  have hw298_5 := hx298_5
                  (try rw [show ((0 : Int)).toNat = 0 from rfl] at hw298_5)
                  (try rw [show 0 * 8 = 0 from rfl] at hw298_5)
                  (try rw [Addr.add_zero'] at hw298_5)
                  have hw298_4 := hx298_4
                  (try rw [show ((0 : Int)).toNat = 0 from rfl] at hw298_4)
                  (try rw [show 0 * 8 = 0 from rfl] at hw298_4)
                  (try rw [Addr.add_zero'] at hw298_4)
                  have hw298_3 := hx298_3
                  (try rw [show ((0 : Int)).toNat = 0 from rfl] at hw298_3)
                  (try rw [show 0 * 8 = 0 from rfl] at hw298_3)
                  (try rw [Addr.add_zero'] at hw298_3)
                  have hw298_2 := hx298_2
                  (try rw [show ((0 : Int)).toNat = 0 from rfl] at hw298_2)
                  (try rw [show 0 * 8 = 0 from rfl] at hw298_2)
                  (try rw [Addr.add_zero'] at hw298_2)
                  have hw298_1 := hx298_1
                  (try rw [show ((0 : Int)).toNat = 0 from rfl] at hw298_1)
                  (try rw [show 0 * 8 = 0 from rfl] at hw298_1)
                  (try rw [Addr.add_zero'] at hw298_1)
                  have hw298_0 := hx298_0
                  (try rw [show ((0 : Int)).toNat = 0 from rfl] at hw298_0)
                  (try rw [show 0 * 8 = 0 from rfl] at hw298_0)
                  (try rw [Addr.add_zero'] at hw298_0)
                  cases e298
                  have qi298 : (0 < l0.length) = True := eq_true (by omega)
                  (try rw [show ((0 : Int)).toNat = 0 from rfl] at hx298_0)
                  (try rw [show 0 * 8 = 0 from rfl] at hx298_0)
                  (try rw [Addr.add_zero'] at hx298_0)
                  (try rw [show ((0 : Int)).toNat = 0 from rfl] at hx298_1)
                  (try rw [show 0 * 8 = 0 from rfl] at hx298_1)
                  (try rw [Addr.add_zero'] at hx298_1)
                  (try rw [show ((0 : Int)).toNat = 0 from rfl] at hx298_2)
                  (try rw [show 0 * 8 = 0 from rfl] at hx298_2)
                  (try rw [Addr.add_zero'] at hx298_2)
                  (try rw [show ((0 : Int)).toNat = 0 from rfl] at hx298_3)
                  (try rw [show 0 * 8 = 0 from rfl] at hx298_3)
                  (try rw [Addr.add_zero'] at hx298_3)
                  (try rw [show ((0 : Int)).toNat = 0 from rfl] at hx298_4)
                  (try rw [show 0 * 8 = 0 from rfl] at hx298_4)
                  (try rw [Addr.add_zero'] at hx298_4)
                  (try rw [show ((0 : Int)).toNat = 0 from rfl] at hx298_5)
                  (try rw [show 0 * 8 = 0 from rfl] at hx298_5)
                  (try rw [Addr.add_zero'] at hx298_5)
                  (try rw [show ((0 : Int)).toNat = 0 from rfl] at hx298_6)
                  (try rw [show 0 * 8 = 0 from rfl] at hx298_6)
                  (try rw [Addr.add_zero'] at hx298_6)
                  (try rw [show ((0 : Int)).toNat = 0 from rfl] at hx298_7)
                  (try rw [show 0 * 8 = 0 from rfl] at hx298_7)
                  (try rw [Addr.add_zero'] at hx298_7)
                  replace hx298_0 := (HB.out.cell (World.block_lt_of_cell? w _ hx298_0)).trans hx298_0
                  replace hx298_1 := (HB.out.cell (World.block_lt_of_cell? w _ hx298_1)).trans hx298_1
                  replace hx298_2 := (HB.out.cell (World.block_lt_of_cell? w _ hx298_2)).trans hx298_2
                  replace hx298_3 := (HB.out.cell (World.block_lt_of_cell? w _ hx298_3)).trans hx298_3
                  replace hx298_4 := (HB.out.cell (World.block_lt_of_cell? w _ hx298_4)).trans hx298_4
                  replace hx298_5 := (HB.out.cell (World.block_lt_of_cell? w _ hx298_5)).trans hx298_5
                  replace hx298_6 := (HB.out.cell (World.block_lt_of_cell? w _ hx298_6)).trans hx298_6
                  replace hx298_7 := (HB.out.cell (World.block_lt_of_cell? w _ hx298_7)).trans hx298_7
                  replace p298 := eq_true p298
                  replace q298 := eq_true q298
                  have p299 : 0 ≤ ((ji18) : Int) := of_decide_eq_true (by first | (with_reducible assumption) | assumption)
                  have q299 : (ji18) < (l0.length : Int) := of_decide_eq_true (by first | (with_reducible assumption) | assumption)
                  obtain ⟨ad299, e299, hx299_0, hx299_1, hx299_2, hx299_3, hx299_4, hx299_5, hx299_6, hx299_7⟩ := at_T28 HR0.out (ji18) p299 q299
                  have hw299_7 := hx299_7
                  have hw299_6 := hx299_6
                  have hw299_5 := hx299_5
                  have hw299_4 := hx299_4
                  have hw299_3 := hx299_3
                  have hw299_2 := hx299_2
                  have hw299_1 := hx299_1
                  have hw299_0 := hx299_0
                  obtain rfl : ad298 = ad299 := (by injection e299)
                  replace hx299_0 := (HB.out.cell (World.block_lt_of_cell? w _ hx299_0)).trans hx299_0
                  replace hx299_1 := (HB.out.cell (World.block_lt_of_cell? w _ hx299_1)).trans hx299_1
                  replace hx299_2 := (HB.out.cell (World.block_lt_of_cell? w _ hx299_2)).trans hx299_2
                  replace hx299_3 := (HB.out.cell (World.block_lt_of_cell? w _ hx299_3)).trans hx299_3
                  replace hx299_4 := (HB.out.cell (World.block_lt_of_cell? w _ hx299_4)).trans hx299_4
                  replace hx299_5 := (HB.out.cell (World.block_lt_of_cell? w _ hx299_5)).trans hx299_5
                  replace hx299_6 := (HB.out.cell (World.block_lt_of_cell? w _ hx299_6)).trans hx299_6
                  replace hx299_7 := (HB.out.cell (World.block_lt_of_cell? w _ hx299_7)).trans hx299_7
                  replace p299 := eq_true p299
                  replace q299 := eq_true q299
                  refine start_ (n := 15) (S := fun w' => w'.cell? ad298 = some (.int .i64 ((rd_T28 l0 0).f0.f0)) ∧ w'.cell? ⟨ad298.block, ad298.off + 1, none⟩ = some (.int .i64 ((rd_T28 l0 0).f0.f1)) ∧ w'.cell? ⟨ad298.block, ad298.off + 2, none⟩ = some (.int .i64 ((rd_T28 l0 0).f0.f2)) ∧ w'.cell? ⟨ad298.block, ad298.off + 3, none⟩ = some (.int .i64 ((rd_T28 l0 0).f1)) ∧ w'.cell? ⟨ad298.block, ad298.off + 4, none⟩ = some (.int .i64 ((rd_T28 l0 0).f2.f0)) ∧ w'.cell? ⟨ad298.block, ad298.off + 5, none⟩ = some (.int .i64 ((rd_T28 l0 0).f2.f1)) ∧ w'.cell? ⟨ad298.block, ad298.off + 6, none⟩ = some (.int .i64 ((rd_T28 l0 0).f3)) ∧ w'.cell? ⟨ad298.block, ad298.off + 7, none⟩ = some (.int .i64 ((rd_T28 l0 0).f4)) ∧ w'.cell? (ad298.add (((ji18)).toNat * 8)) = some (.int .i64 ((rd_T28 l0 (ji18)).f0.f0)) ∧ w'.cell? ⟨(ad298.add (((ji18)).toNat * 8)).block, (ad298.add (((ji18)).toNat * 8)).off + 1, none⟩ = some (.int .i64 ((rd_T28 l0 (ji18)).f0.f1)) ∧ w'.cell? ⟨(ad298.add (((ji18)).toNat * 8)).block, (ad298.add (((ji18)).toNat * 8)).off + 2, none⟩ = some (.int .i64 ((rd_T28 l0 (ji18)).f0.f2)) ∧ w'.cell? ⟨(ad298.add (((ji18)).toNat * 8)).block, (ad298.add (((ji18)).toNat * 8)).off + 3, none⟩ = some (.int .i64 ((rd_T28 l0 (ji18)).f1)) ∧ w'.cell? ⟨(ad298.add (((ji18)).toNat * 8)).block, (ad298.add (((ji18)).toNat * 8)).off + 4, none⟩ = some (.int .i64 ((rd_T28 l0 (ji18)).f2.f0)) ∧ w'.cell? ⟨(ad298.add (((ji18)).toNat * 8)).block, (ad298.add (((ji18)).toNat * 8)).off + 5, none⟩ = some (.int .i64 ((rd_T28 l0 (ji18)).f2.f1)) ∧ w'.cell? ⟨(ad298.add (((ji18)).toNat * 8)).block, (ad298.add (((ji18)).toNat * 8)).off + 6, none⟩ = some (.int .i64 ((rd_T28 l0 (ji18)).f3)) ∧ w'.cell? ⟨(ad298.add (((ji18)).toNat * 8)).block, (ad298.add (((ji18)).toNat * 8)).off + 7, none⟩ = some (.int .i64 ((rd_T28 l0 (ji18)).f4))) (ds := []) #[false, false, false, false, false, false, false, false, false, false, false, false, false, false, false] (by kernel_rfl) rfl rfl ⟨((HB.out.cell (World.block_lt_of_cell? w _ hw298_0)).trans hw298_0), ((HB.out.cell (World.block_lt_of_cell? w _ hw298_1)).trans hw298_1), ((HB.out.cell (World.block_lt_of_cell? w _ hw298_2)).trans hw298_2), ((HB.out.cell (World.block_lt_of_cell? w _ hw298_3)).trans hw298_3), ((HB.out.cell (World.block_lt_of_cell? w _ hw298_4)).trans hw298_4), ((HB.out.cell (World.block_lt_of_cell? w _ hw298_5)).trans hw298_5), ((HB.out.cell (World.block_lt_of_cell? w _ hw298_6)).trans hw298_6), ((HB.out.cell (World.block_lt_of_cell? w _ hw298_7)).trans hw298_7), ((HB.out.cell (World.block_lt_of_cell? w _ hw299_0)).trans hw299_0), ((HB.out.cell (World.block_lt_of_cell? w _ hw299_1)).trans hw299_1), ((HB.out.cell (World.block_lt_of_cell? w _ hw299_2)).trans hw299_2), ((HB.out.cell (World.block_lt_of_cell? w _ hw299_3)).trans hw299_3), ((HB.out.cell (World.block_lt_of_cell? w _ hw299_4)).trans hw299_4), ((HB.out.cell (World.block_lt_of_cell? w _ hw299_5)).trans hw299_5), ((HB.out.cell (World.block_lt_of_cell? w _ hw299_6)).trans hw299_6), ((HB.out.cell (World.block_lt_of_cell? w _ hw299_7)).trans hw299_7)⟩ (fun hHeld => ?_); refine with_tabW sizarlaw07_FactsAtSpec.tab7 sizarlaw07_FactsAtSpec.bits7 (fun HT_ HW_ => ?_)
                  generalize w14.drew = w22 at HO297 BK292 HB hx298_0 hx298_1 hx298_2 hx298_3 hx298_4 hx298_5 hx298_6 hx298_7 hx299_0 hx299_1 hx299_2 hx299_3 hx299_4 hx299_5 hx299_6 hx299_7 hHeld ⊢
                  refine pure_ (i := 0) (N := some 27) (v := ?_) (a' := ?_) #[true, false, false, false, false, false, false, false, false, false, false, false, false, false, false] rfl rfl (any_of HT_.out (by kernel_rfl)) (fun _ _ _ h => h) (Or.inl ⟨by rfl, ?_⟩) ?_ ?_
                  rotate_left
                  · intro w'
                    go_simp
                    with_reducible rfl
                  rotate_left
                  · simp only [Act.put, List.setIfInBounds_toArray, List.set_cons_zero, List.set_cons_succ, i64_w, i32_w]
                    rfl
                  refine pure_ (i := 1) (N := some 28) (v := ?_) (a' := ?_) #[true, true, false, false, false, false, false, false, false, false, false, false, false, false, false] rfl rfl (any_of HT_.out (by kernel_rfl)) (fun _ _ _ h => h) (Or.inl ⟨by rfl, ?_⟩) ?_ ?_
                  rotate_left
                  · intro w'
                    go_simp
                    with_reducible rfl
                  rotate_left
                  · simp only [Act.put, List.setIfInBounds_toArray, List.set_cons_zero, List.set_cons_succ, i64_w, i32_w]
                    rfl
                  refine pure_ (i := 2) (N := some 29) (v := ?_) (a' := ?_) #[true, true, true, false, false, false, false, false, false, false, false, false, false, false, false] rfl rfl (any_of HT_.out (by kernel_rfl)) (fun _ _ _ h => h) (Or.inl ⟨by rfl, ?_⟩) ?_ ?_
                  rotate_left
                  · intro w'
                    go_simp
                    with_reducible rfl
                  rotate_left
                  · simp only [Act.put, List.setIfInBounds_toArray, List.set_cons_zero, List.set_cons_succ, i64_w, i32_w]
                    rfl
                  refine pure_ (i := 3) (N := some 30) (v := ?_) (a' := ?_) #[true, true, true, true, false, false, false, false, false, false, false, false, false, false, false] rfl rfl (any_of HT_.out (by kernel_rfl)) (fun _ _ _ h => h) (Or.inl ⟨by rfl, ?_⟩) ?_ ?_
                  rotate_left
                  · intro w'
                    go_simp
                    with_reducible rfl
                  rotate_left
                  · simp only [Act.put, List.setIfInBounds_toArray, List.set_cons_zero, List.set_cons_succ, i64_w, i32_w]
                    rfl
                  refine pure_ (i := 5) (N := some 32) (v := ?_) (a' := ?_) #[true, true, true, true, false, true, false, false, false, false, false, false, false, false, false] rfl rfl (any_of HT_.out (by kernel_rfl)) (fun _ _ _ h => h) (Or.inl ⟨by rfl, ?_⟩) ?_ ?_
                  rotate_left
                  · intro w'
                    go_simp
                    with_reducible rfl
                  rotate_left
                  · simp only [Act.put, List.setIfInBounds_toArray, List.set_cons_zero, List.set_cons_succ, i64_w, i32_w]
                    rfl
                  refine pure_ (i := 6) (N := some 33) (v := ?_) (a' := ?_) #[true, true, true, true, false, true, true, false, false, false, false, false, false, false, false] rfl rfl (any_of HT_.out (by kernel_rfl)) (fun _ _ _ h => h) (Or.inl ⟨by rfl, ?_⟩) ?_ ?_
                  rotate_left
                  · intro w'
                    go_simp
                    with_reducible rfl
                  rotate_left
                  · simp only [Act.put, List.setIfInBounds_toArray, List.set_cons_zero, List.set_cons_succ, i64_w, i32_w]
                    rfl
                  refine pure_ (i := 7) (N := some 34) (v := ?_) (a' := ?_) #[true, true, true, true, false, true, true, true, false, false, false, false, false, false, false] rfl rfl (any_of HT_.out (by kernel_rfl)) (fun _ _ _ h => h) (Or.inl ⟨by rfl, ?_⟩) ?_ ?_
                  rotate_left
                  · intro w'
                    go_simp
                    with_reducible rfl
                  rotate_left
                  · simp only [Act.put, List.setIfInBounds_toArray, List.set_cons_zero, List.set_cons_succ, i64_w, i32_w]
                    rfl
                  refine pure_ (i := 8) (N := some 35) (v := ?_) (a' := ?_) #[true, true, true, true, false, true, true, true, true, false, false, false, false, false, false] rfl rfl (any_of HT_.out (by kernel_rfl)) (fun _ _ _ h => h) (Or.inl ⟨by rfl, ?_⟩) ?_ ?_
                  rotate_left
                  · intro w'
                    go_simp
                    with_reducible rfl
                  rotate_left
                  · simp only [Act.put, List.setIfInBounds_toArray, List.set_cons_zero, List.set_cons_succ, i64_w, i32_w]
                    rfl
                  refine pure_ (i := 9) (N := some 36) (v := ?_) (a' := ?_) #[true, true, true, true, false, true, true, true, true, true, false, false, false, false, false] rfl rfl (any_of HT_.out (by kernel_rfl)) (fun _ _ _ h => h) (Or.inl ⟨by rfl, ?_⟩) ?_ ?_
                  rotate_left
                  · intro w'
                    go_simp
                    with_reducible rfl
                  rotate_left
                  · simp only [Act.put, List.setIfInBounds_toArray, List.set_cons_zero, List.set_cons_succ, i64_w, i32_w]
                    rfl
                  refine pure_ (i := 10) (N := some 37) (v := ?_) (a' := ?_) #[true, true, true, true, false, true, true, true, true, true, true, false, false, false, false] rfl rfl (any_of HT_.out (by kernel_rfl)) (fun _ _ _ h => h) (Or.inl ⟨by rfl, ?_⟩) ?_ ?_
                  rotate_left
                  · intro w'
                    go_simp
                    with_reducible rfl
                  rotate_left
                  · simp only [Act.put, List.setIfInBounds_toArray, List.set_cons_zero, List.set_cons_succ, i64_w, i32_w]
                    rfl
                  refine take_ (i := 4) (N := some 31) (v := ?_) (a' := ?_) #[true, true, true, true, true, true, true, true, true, true, true, false, false, false, false] rfl rfl (take_ofW HT_.out HW_.out (by kernel_rfl)) (fun _ _ _ h => h) (Or.inl ⟨by rfl, ?_⟩) hHeld ?_ ?_
                  rotate_left
                  · rintro w' ⟨s0, s1, s2, s3, s4, s5, s6, s7, s8, s9, s10, s11, s12, s13, s14, s15⟩
                    go_simp
                    with_reducible rfl
                  rotate_left
                  · simp only [Act.put, List.setIfInBounds_toArray, List.set_cons_zero, List.set_cons_succ, i64_w, i32_w]
                    rfl
                  refine take_ (i := 11) (N := some 38) (v := ?_) (a' := ?_) #[true, true, true, true, true, true, true, true, true, true, true, true, false, false, false] rfl rfl (take_ofW HT_.out HW_.out (by kernel_rfl)) (fun _ _ _ h => h) (Or.inl ⟨by rfl, ?_⟩) hHeld ?_ ?_
                  rotate_left
                  · rintro w' ⟨s0, s1, s2, s3, s4, s5, s6, s7, s8, s9, s10, s11, s12, s13, s14, s15⟩
                    go_simp
                    with_reducible rfl
                  rotate_left
                  · simp only [Act.put, List.setIfInBounds_toArray, List.set_cons_zero, List.set_cons_succ, i64_w, i32_w]
                    rfl
                  refine one_ (i := 12) (N := some 39) #[true, true, true, true, true, true, true, true, true, true, true, true, true, false, false] rfl rfl (one_of HT_.out (by kernel_rfl)) (by decide) (fun K hK => ?_)
                  refine Kd.R_lit_step k24 _ 24 ?hg (N := 39) ?hd (xs := ([(⟨(rd_T28 l0 0).f0.f0, (rd_T28 l0 0).f0.f1, (rd_T28 l0 0).f0.f2⟩ : S24), (⟨(rd_T28 l0 (ji18)).f0.f0, (rd_T28 l0 (ji18)).f0.f1, (rd_T28 l0 (ji18)).f0.f2⟩ : S24)] : List (S24))) (inner := [.int .i64 ((rd_T28 l0 0).f0.f0), .int .i64 ((rd_T28 l0 0).f0.f1), .int .i64 ((rd_T28 l0 0).f0.f2), .int .i64 ((rd_T28 l0 (ji18)).f0.f0), .int .i64 ((rd_T28 l0 (ji18)).f0.f1), .int .i64 ((rd_T28 l0 (ji18)).f0.f2)]) (ok := fun _ => True) (okp := fun _ => True) ?hr ?hp (fun _ hk => hk) trivial (Below.refl _ _) (Nat.le_refl _) (by simp) ?_; (case hd => rfl); (case hg => rfl); (case hr => first | (go_simp; done) | (go_simp; rfl)); (case hp => exact (Reps.c3 (show Kd.M k24 _ _ _ (⟨(rd_T28 l0 0).f0.f0, (rd_T28 l0 0).f0.f1, (rd_T28 l0 0).f0.f2⟩ : S24) [.int .i64 ((rd_T28 l0 0).f0.f0), .int .i64 ((rd_T28 l0 0).f0.f1), .int .i64 ((rd_T28 l0 0).f0.f2)] from (k24_mkM _ _ _ (⟨(rd_T28 l0 0).f0.f0, (rd_T28 l0 0).f0.f1, (rd_T28 l0 0).f0.f2⟩ : S24) )) (Reps.c3 (show Kd.M k24 _ _ _ (⟨(rd_T28 l0 (ji18)).f0.f0, (rd_T28 l0 (ji18)).f0.f1, (rd_T28 l0 (ji18)).f0.f2⟩ : S24) [.int .i64 ((rd_T28 l0 (ji18)).f0.f0), .int .i64 ((rd_T28 l0 (ji18)).f0.f1), .int .i64 ((rd_T28 l0 (ji18)).f0.f2)] from (k24_mkM _ _ _ (⟨(rd_T28 l0 (ji18)).f0.f0, (rd_T28 l0 (ji18)).f0.f1, (rd_T28 l0 (ji18)).f0.f2⟩ : S24) )) (Reps.none _ _))))
                  intro v301 w23 ho24 hb hg_ hnew_
                  clear hg_ hnew_
                  (first | rw [← Ny300.out] at ho24 | (simp only [Int.reduceToNat] at ho24; rw [← Ny300.out] at ho24))
                  have n0_ := Aside0.mk (Kd.R_elder' (by (with_reducible repeat (first | apply Kd.R_alloc | apply Kd.R_drewN | apply Kd.R_drew)); exact HO297.out) (Kd.R_base ho24) hb)
                  have n1_ := Aside0.mk (Kd.R_lower (Kd.R_newB (Kd.R_new' ho24 (Kd.R_lt (by (with_reducible repeat (first | apply Kd.R_alloc | apply Kd.R_drewN | apply Kd.R_drew)); exact HO297.out))) (g := gb292) (o := .cells #[.int .i64 a1_0, .int .i64 a1_1, .int .i64 a1_2] 24 (0, 0)) (by (with_reducible repeat (first | refine blk_drewN ?_ _ | refine blk_drew ?_ | refine blk_alloc ?_ _)); exact BK292.out)) (below_size (by repeat (first | (with_reducible first | exact HB.out | apply below_alloc | apply pw_below_drewN | apply below_drew1 | refine below_set ?_ GE292.out) | exact HB.out))))
                  have n2_ := Aside0.mk (blk_below (g := gb292) (o := .cells #[.int .i64 a1_0, .int .i64 a1_1, .int .i64 a1_2] 24 (0, 0)) (by (with_reducible repeat (first | refine blk_drewN ?_ _ | refine blk_drew ?_ | refine blk_alloc ?_ _)); exact BK292.out) hb)
                  have n3_ := Aside0.mk (below_step (by repeat (first | (with_reducible first | exact HB.out | apply below_alloc | apply pw_below_drewN | apply below_drew1 | refine below_set ?_ GE292.out) | exact HB.out)) hb)
                  clear HO297
                  clear BK292
                  clear HB
                  have HO297 := n0_
                  have HO302 := n1_
                  have BK292 := n2_
                  have HB := n3_
                  clear n0_ n1_ n2_ n3_
                  clear hb ho24
                  obtain ⟨Ao26, co26, eo26⟩ := Kd.R_slice HO302.out
                  (first | subst eo26 | (injection eo26 with f1_ f2_ f3_; have f4_ := f1_.symm; have f5_ := f3_.symm; clear f1_ f2_ f3_; subst f4_; subst f5_))
                  refine hK.out _ _ ⟨((HB.out.cell (World.block_lt_of_cell? w _ hw298_0)).trans hw298_0), ((HB.out.cell (World.block_lt_of_cell? w _ hw298_1)).trans hw298_1), ((HB.out.cell (World.block_lt_of_cell? w _ hw298_2)).trans hw298_2), ((HB.out.cell (World.block_lt_of_cell? w _ hw298_3)).trans hw298_3), ((HB.out.cell (World.block_lt_of_cell? w _ hw298_4)).trans hw298_4), ((HB.out.cell (World.block_lt_of_cell? w _ hw298_5)).trans hw298_5), ((HB.out.cell (World.block_lt_of_cell? w _ hw298_6)).trans hw298_6), ((HB.out.cell (World.block_lt_of_cell? w _ hw298_7)).trans hw298_7), ((HB.out.cell (World.block_lt_of_cell? w _ hw299_0)).trans hw299_0), ((HB.out.cell (World.block_lt_of_cell? w _ hw299_1)).trans hw299_1), ((HB.out.cell (World.block_lt_of_cell? w _ hw299_2)).trans hw299_2), ((HB.out.cell (World.block_lt_of_cell? w _ hw299_3)).trans hw299_3), ((HB.out.cell (World.block_lt_of_cell? w _ hw299_4)).trans hw299_4), ((HB.out.cell (World.block_lt_of_cell? w _ hw299_5)).trans hw299_5), ((HB.out.cell (World.block_lt_of_cell? w _ hw299_6)).trans hw299_6), ((HB.out.cell (World.block_lt_of_cell? w _ hw299_7)).trans hw299_7)⟩ (fun hHeld => ?_)
                  clear hK K
                  refine norm_ (a' := ?_) ?_ ?_
                  rotate_left
                  · show Act.put _ (some 39) _ = _
                    simp only [Act.put, List.setIfInBounds_toArray, List.set_cons_zero, List.set_cons_succ, i64_w, i32_w]
                    rfl
                  refine one_ (i := 13) (N := some 40) #[true, true, true, true, true, true, true, true, true, true, true, true, true, true, false] rfl rfl (one_of HT_.out (by kernel_rfl)) (by decide) (fun K hK => ?_)
                  refine Kd.R_append_rows_step k24 (w0 := w) w.heap.size (by rfl) (.tmp 27) (.tmp 39) 37 24 (.agg #[(.int .i64 0), (.int .i64 0), (.int .i64 0)]) 24 rfl Try.underlying37 info24 rfl (by decide) (by omega) v296 y295 y300 _ _ _ (fun k_ => some k_ ≠ (.slice Ao26 y300.length co26 : Value).ownBlock ∧ k_ ≠ gb292) (fun _ => False) rfl rfl ?aO ?aR (fun _ _ h => h) (fun _ h => h.elim) ?aF ?aB ?aS ?aL ?_
                  (case aR => repeat (first | exact (Kd.R_reads' HO302.out).2.2 | (with_reducible refine Kd.C_alloc ?_ _) | (with_reducible refine Kd.C_drewN ?_ _) | (with_reducible refine Kd.C_drew ?_)))
                  (case aB => exact (by repeat (first | (with_reducible first | exact HB.out | apply below_alloc | apply pw_below_drewN | apply below_drew1 | refine below_set ?_ GE292.out) | exact HB.out)))
                  (case aF => exact (fun k_ hk => ⟨Kd.fresh' (Kd.R_lt (by (with_reducible repeat (first | apply Kd.R_alloc | apply Kd.R_drewN | apply Kd.R_drew)); exact HO302.out)) k_ hk, Kd.freshB (g := gb292) (o := .cells #[.int .i64 a1_0, .int .i64 a1_1, .int .i64 a1_2] 24 (0, 0)) (by (with_reducible repeat (first | refine blk_drewN ?_ _ | refine blk_drew ?_ | refine blk_alloc ?_ _)); exact BK292.out) k_ hk⟩))
                  (case aO => exact (by (with_reducible repeat (first | apply Kd.R_alloc | apply Kd.R_drewN | apply Kd.R_drew)); exact Kd.R_mono HO297.out (fun _ hk => ⟨hk.2, hk.1.2⟩)))
                  (case aS => exact (below_size (by repeat (first | (with_reducible first | exact HB.out | apply below_alloc | apply pw_below_drewN | apply below_drew1 | refine below_set ?_ GE292.out) | exact HB.out))))
                  (case aL => have := LMc21.out; omega)
                  intro v304 w25 ho hb hg hat
                  rw [← Ny303.out] at ho
                  have n0_ := Aside0.mk (blk_grown (g := gb292) (o := .cells #[.int .i64 a1_0, .int .i64 a1_1, .int .i64 a1_2] 24 (0, 0)) (by (with_reducible repeat (first | refine blk_drewN ?_ _ | refine blk_drew ?_ | refine blk_alloc ?_ _)); exact BK292.out) hg (Kd.R_away HO297.out (fun _ hk => hk.1.2)))
                  have n1_ := Aside0.mk (Kd.R_after (ok := (fun k_ => k_ ≠ gb292)) (by (with_reducible repeat (first | apply Kd.R_alloc | apply Kd.R_drewN | apply Kd.R_drew)); exact Kd.R_mono HO302.out (fun _ hk => ⟨hk.2, hk.1.2⟩)) hg hat)
                  have n2_ := Aside0.mk (hb)
                  have n3_ := Aside0.mk (ho)
                  clear BK292
                  clear HO302
                  clear HB
                  clear HO297
                  have BK292 := n0_
                  have HO302 := n1_
                  have HB := n2_
                  have HO305 := n3_
                  clear n0_ n1_ n2_ n3_
                  clear ho hb hg hat
                  refine hK.out _ _ ⟨((HB.out.cell (World.block_lt_of_cell? w _ hw298_0)).trans hw298_0), ((HB.out.cell (World.block_lt_of_cell? w _ hw298_1)).trans hw298_1), ((HB.out.cell (World.block_lt_of_cell? w _ hw298_2)).trans hw298_2), ((HB.out.cell (World.block_lt_of_cell? w _ hw298_3)).trans hw298_3), ((HB.out.cell (World.block_lt_of_cell? w _ hw298_4)).trans hw298_4), ((HB.out.cell (World.block_lt_of_cell? w _ hw298_5)).trans hw298_5), ((HB.out.cell (World.block_lt_of_cell? w _ hw298_6)).trans hw298_6), ((HB.out.cell (World.block_lt_of_cell? w _ hw298_7)).trans hw298_7), ((HB.out.cell (World.block_lt_of_cell? w _ hw299_0)).trans hw299_0), ((HB.out.cell (World.block_lt_of_cell? w _ hw299_1)).trans hw299_1), ((HB.out.cell (World.block_lt_of_cell? w _ hw299_2)).trans hw299_2), ((HB.out.cell (World.block_lt_of_cell? w _ hw299_3)).trans hw299_3), ((HB.out.cell (World.block_lt_of_cell? w _ hw299_4)).trans hw299_4), ((HB.out.cell (World.block_lt_of_cell? w _ hw299_5)).trans hw299_5), ((HB.out.cell (World.block_lt_of_cell? w _ hw299_6)).trans hw299_6), ((HB.out.cell (World.block_lt_of_cell? w _ hw299_7)).trans hw299_7)⟩ (fun hHeld => ?_)
                  clear hK K
                  refine norm_ (a' := ?_) ?_ ?_
                  rotate_left
                  · show Act.put _ (some 40) _ = _
                    simp only [Act.put, List.setIfInBounds_toArray, List.set_cons_zero, List.set_cons_succ, i64_w, i32_w]
                    rfl
                  refine pure_ (i := 14) (N := some 11) (v := ?_) (a' := ?_) #[true, true, true, true, true, true, true, true, true, true, true, true, true, true, true] rfl rfl (any_of HT_.out (by kernel_rfl)) (fun _ _ _ h => h) (Or.inl ⟨by rfl, ?_⟩) ?_ ?_
                  rotate_left
                  · intro w'
                    go_simp
                    with_reducible rfl
                  rotate_left
                  · simp only [Act.put, List.setIfInBounds_toArray, List.set_cons_zero, List.set_cons_succ, i64_w, i32_w]
                    rfl
                  refine done_ (done_of HT_.out (by kernel_rfl)) ?_
                  try go_wp2
                  go_meet
                  case rel => exact ⟨_, (y303), H', ⟨by first | omega | exact Nat.le_refl _⟩, ⟨by (with_reducible repeat (first | apply Kd.R_alloc | apply Kd.R_drewN | apply Kd.R_drew)); exact Kd.R_mono HO305.out (fun _ hk => hk.2)⟩, ⟨by (with_reducible repeat (first | refine blk_drewN ?_ _ | refine blk_drew ?_ | refine blk_alloc ?_ _)); exact BK292.out⟩, ⟨by repeat (first | (with_reducible first | exact HB.out | apply below_alloc | apply pw_below_drewN | apply below_drew1 | refine below_set ?_ GE292.out) | exact HB.out)⟩⟩
                · rw [if_neg c21] at H
                  exact absurd H (by simp)
              · rw [if_neg c20] at H
                exact absurd H (by simp)
            · rw [if_neg c19] at H
              exact absurd H (by simp)
          · rw [if_neg c17] at H
            exact absurd H (by simp)
        · rw [if_neg c16] at H
          have c16b0 : decide (0 < (l0.length : Int)) = false := decide_eq_false c16
          have c16b1 : decide (0 < l0.length) = false := decide_eq_false (by omega)
          clear c16
          (first | rw [c16b0] | rw [c16b1] | (simp only [i64_w, i32_w]; rw [c16b0]) | skip)
          have H' := Aside0.mk H
          clear H
          go_wp2
          go_meet
          case rel => exact ⟨_, (y295), H', ⟨by first | omega | exact Nat.le_refl _⟩, ⟨by (with_reducible repeat (first | apply Kd.R_alloc | apply Kd.R_drewN | apply Kd.R_drew)); exact Kd.R_mono HO297.out (fun _ hk => hk.2)⟩, ⟨by (with_reducible repeat (first | refine blk_drewN ?_ _ | refine blk_drew ?_ | refine blk_alloc ?_ _)); exact BK292.out⟩, ⟨by repeat (first | (with_reducible first | exact HB.out | apply below_alloc | apply pw_below_drewN | apply below_drew1 | refine below_set ?_ GE292.out) | exact HB.out)⟩⟩
      case rest =>
        clear HC10
        try clear c1
        try clear c2
        try clear p2
        try clear q2
        try clear hx2
        try clear qi2
        try clear c3
        try clear c4
        try clear p6
        try clear c7
        try clear c9
        try clear c11
        try clear c12
        try clear c16
        try clear c16b0
        try clear c16b1
        try clear c17
        try clear c17b0
        try clear c17b1
        try clear c19
        try clear c19b0
        try clear c20
        try clear c20b0
        try clear c21
        try clear hcz13_0
        try clear hcz13_1
        try clear hcz13_2
        try clear hfz13_0
        try clear hfz13_1
        try clear hfz13_2
        try clear hx298_0
        try clear hx298_1
        try clear hx298_2
        try clear hx298_3
        try clear hx298_4
        try clear hx298_5
        try clear hx298_6
        try clear hx298_7
        try clear hx299_0
        try clear hx299_1
        try clear hx299_2
        try clear hx299_3
        try clear hx299_4
        try clear hx299_5
        try clear hx299_6
        try clear hx299_7
        try clear p298
        try clear p299
        try clear q298
        try clear q299
        obtain ⟨kq, x11_9, HA, HJ9, HO_11, BK292, HB⟩ := hcut
        cases kq with
        | zero => exact absurd HA.out (by simp [sizarlaw07_FactsAtSpec.j0])
        | succ kj9 =>
          have H := HA.out
          clear HA
          simp only [sizarlaw07_FactsAtSpec.j0] at H
          have H' := Aside0.mk H
          clear H
          go_wp2
          go_loopg [12] kj9 (fun kq v12 w' => ∃ (x12_2 : Int), v12 = .int .i64 x12_2 ∧ Aside0 (sizarlaw07_FactsAtSpec.l0 kq l0 a2 a3 a4 x11_9 x12_2 = some r) ∧ Aside0 (kq ≤ kj9) ∧ Aside0 (Kd.R k24 24 w' w.heap.size (fun k_ => k_ ≠ gb292) u11 x11_9) ∧ Aside0 (w'.heap[gb292]? = some (.cells #[.int .i64 a1_0, .int .i64 a1_1, .int .i64 a1_2] 24 (0, 0))) ∧ Aside0 (Below w.heap.size w w'))
          case atStart => exact ⟨(0), (by first | rfl | (simp; done) | (simp [*]; done)), H', ⟨Nat.le_refl _⟩, ⟨by (with_reducible repeat (first | apply Kd.R_alloc | apply Kd.R_drewN | apply Kd.R_drew)); exact HO_11.out⟩, ⟨by (with_reducible repeat (first | refine blk_drewN ?_ _ | refine blk_drew ?_ | refine blk_alloc ?_ _)); exact BK292.out⟩, ⟨by repeat (first | (with_reducible first | exact HB.out | apply below_alloc | apply pw_below_drewN | apply below_drew1 | refine below_set ?_ GE292.out) | exact HB.out)⟩⟩
          case round =>
            clear H'
            try clear c1
            try clear c2
            try clear p2
            try clear q2
            try clear hx2
            try clear qi2
            try clear c3
            try clear c4
            try clear p6
            try clear c7
            try clear c9
            try clear c11
            try clear c12
            try clear c16
            try clear c16b0
            try clear c16b1
            try clear c17
            try clear c17b0
            try clear c17b1
            try clear c19
            try clear c19b0
            try clear c20
            try clear c20b0
            try clear c21
            try clear hcz13_0
            try clear hcz13_1
            try clear hcz13_2
            try clear hfz13_0
            try clear hfz13_1
            try clear hfz13_2
            try clear hx298_0
            try clear hx298_1
            try clear hx298_2
            try clear hx298_3
            try clear hx298_4
            try clear hx298_5
            try clear hx298_6
            try clear hx298_7
            try clear hx299_0
            try clear hx299_1
            try clear hx299_2
            try clear hx299_3
            try clear hx299_4
            try clear hx299_5
            try clear hx299_6
            try clear hx299_7
            try clear p2
            try clear p298
            try clear p299
            try clear p6
            try clear q2
            try clear q298
            try clear q299
            obtain ⟨x12_2, rfl, HA, HK2, HO_11, BK292, HB⟩ := hrel
            cases gk with
            | zero => exact absurd HA.out (by simp [sizarlaw07_FactsAtSpec.l0])
            | succ k2 =>
              have H := HA.out
              clear HA
              simp only [sizarlaw07_FactsAtSpec.l0] at H
              by_cases c27 : x12_2 < (x11_9.length : Int)
              · rw [if_pos c27] at H
                have c27b0 : decide (x12_2 < (x11_9.length : Int)) = true := decide_eq_true c27
                clear c27
                by_cases c28 : 0 ≤ x12_2
                · rw [if_pos c28] at H
                  have c28b0 : decide (0 ≤ x12_2) = true := decide_eq_true c28
                  clear c28
                  replace H := Option.bind_eq_some_iff.mp H
                  obtain ⟨⟨t307, t308⟩, A290, H⟩ := H
                  replace H : ((sizarref07_At.f l0 ((rd_T24 x11_9 x12_2).f0) ((rd_T24 x11_9 x12_2).f1) ((rd_T24 x11_9 x12_2).f2) a2 a4).bind fun bt310 => (if t307 = bt310.1 then (if (t308 != bt310.2) = true then (none) else ((facts_Points.f l0 ((rd_T24 x11_9 x12_2).f0) ((rd_T24 x11_9 x12_2).f1) ((rd_T24 x11_9 x12_2).f2) a2 a3 a4).bind fun t313 => ((sizarref07_Points.f k2 l0 ((rd_T24 x11_9 x12_2).f0) ((rd_T24 x11_9 x12_2).f1) ((rd_T24 x11_9 x12_2).f2) a2 a3 a4).bind fun t317 => ((sizarref07_SamePoints.f k2 t313 t317).bind fun t320 => (if t320 = true then (sizarlaw07_FactsAtSpec.l0 k2 l0 a2 a3 a4 x11_9 (wrap64 (x12_2 + 1))) else (none)))))) else (none))) = some r := H
                  have A29 := Aside0.mk A290
                  clear A290
                  replace H := Option.bind_eq_some_iff.mp H
                  obtain ⟨⟨t310, t311⟩, A300, H⟩ := H
                  replace H : (if t307 = t310 then (if (t308 != t311) = true then (none) else ((facts_Points.f l0 ((rd_T24 x11_9 x12_2).f0) ((rd_T24 x11_9 x12_2).f1) ((rd_T24 x11_9 x12_2).f2) a2 a3 a4).bind fun t313 => ((sizarref07_Points.f k2 l0 ((rd_T24 x11_9 x12_2).f0) ((rd_T24 x11_9 x12_2).f1) ((rd_T24 x11_9 x12_2).f2) a2 a3 a4).bind fun t317 => ((sizarref07_SamePoints.f k2 t313 t317).bind fun t320 => (if t320 = true then (sizarlaw07_FactsAtSpec.l0 k2 l0 a2 a3 a4 x11_9 (wrap64 (x12_2 + 1))) else (none)))))) else (none)) = some r := H
                  have A30 := Aside0.mk A300
                  clear A300
                  by_cases c31 : t307 = t310
                  · rw [if_pos c31] at H
                    have c31b0 : (t307 == t310) = true := beq_iff_eq.mpr c31
                    have c31b1 : (t307 != t310) = false := bne_eq_false_iff_eq.mpr c31
                    clear c31
                    by_cases c32 : (t308 != t311) = true
                    · rw [if_pos c32] at H
                      have c32b0 : (t308 != t311) = true := c32
                      (try (have c32b1 : decide (t308 = t311) = false := by simpa using c32))
                      (try (have c32b2 : (t308 == t311) = false := by simpa using c32))
                      (try (have c32b3 : ¬ (t308 = t311) := by simpa using c32))
                      clear c32
                      exact absurd H (by simp)
                    · rw [if_neg c32] at H
                      have c32b0 : (t308 != t311) = false := by simpa using c32
                      (try (have c32b1 : decide (t308 = t311) = true := by simpa using c32))
                      (try (have c32b2 : (t308 == t311) = true := by first | simpa using c32 | (have b_ : (!(t308 == t311)) = false := c32b0; cases h_ : (t308 == t311) with | true => rfl | false => rw [h_] at b_; cases b_)))
                      clear c32
                      replace H := Option.bind_eq_some_iff.mp H
                      obtain ⟨t313, A330, H⟩ := H
                      replace H : ((sizarref07_Points.f k2 l0 ((rd_T24 x11_9 x12_2).f0) ((rd_T24 x11_9 x12_2).f1) ((rd_T24 x11_9 x12_2).f2) a2 a3 a4).bind fun t317 => ((sizarref07_SamePoints.f k2 t313 t317).bind fun t320 => (if t320 = true then (sizarlaw07_FactsAtSpec.l0 k2 l0 a2 a3 a4 x11_9 (wrap64 (x12_2 + 1))) else (none)))) = some r := H
                      have A33 := Aside0.mk A330
                      clear A330
                      replace H := Option.bind_eq_some_iff.mp H
                      obtain ⟨t317, A340, H⟩ := H
                      replace H : ((sizarref07_SamePoints.f k2 t313 t317).bind fun t320 => (if t320 = true then (sizarlaw07_FactsAtSpec.l0 k2 l0 a2 a3 a4 x11_9 (wrap64 (x12_2 + 1))) else (none))) = some r := H
                      have A34 := Aside0.mk A340
                      clear A340
                      replace H := Option.bind_eq_some_iff.mp H
                      obtain ⟨t320, A350, H⟩ := H
                      replace H : (if t320 = true then (sizarlaw07_FactsAtSpec.l0 k2 l0 a2 a3 a4 x11_9 (wrap64 (x12_2 + 1))) else (none)) = some r := H
                      have A35 := Aside0.mk A350
                      clear A350
                      by_cases c36 : t320 = true
                      · subst c36
                        have H1 : (sizarlaw07_FactsAtSpec.l0 k2 l0 a2 a3 a4 x11_9 (wrap64 (x12_2 + 1))) = some r := by rw [if_pos rfl] at H; exact H
                        clear H
                        have H := H1
                        clear H1
                        have H' := Aside0.mk H
                        clear H
                        obtain ⟨Ao37, co37, eo37⟩ := Kd.R_slice HO_11.out
                        subst eo37
                        have p306 : 0 ≤ (x12_2 : Int) := of_decide_eq_true (by first | (with_reducible assumption) | assumption)
                        have q306 : x12_2 < (x11_9.length : Int) := of_decide_eq_true (by first | (with_reducible assumption) | assumption)
                        obtain ⟨ad306, e306, hx306_0, hx306_1, hx306_2⟩ := at_T24 (Kd.R_reads' HO_11.out).2.2 x12_2 p306 q306
                        cases e306
                        replace p306 := eq_true p306
                        replace q306 := eq_true q306
                        try go_wp2_with (first | ((with_reducible refine gate_callee (f := 18) rfl ?_); refine goesL_ (some 55) rfl rfl Try.func18 (by kernel_rfl) rfl #[.slice A0 l0.length c0, .agg #[.int .i64 ((rd_T24 x11_9 x12_2).f0), .int .i64 ((rd_T24 x11_9 x12_2).f1), .int .i64 ((rd_T24 x11_9 x12_2).f2)], .int .i64 a2, .int .i64 a4] rfl (by (try simp only [List.map_toArray, List.map_cons, List.map_nil]); first | done | rfl | (simp only [List.length_drop, List.length_take]; rfl)) ?_; (with_reducible refine (facts_At.calls _ _ l0 ((rd_T24 x11_9 x12_2).f0) ((rd_T24 x11_9 x12_2).f1) ((rd_T24 x11_9 x12_2).f2) a2 a4 t307 t308 _ ?side1 ?side2 A29.out).mono ?_); (case side1 => repeat (first | exact (Kd.C_below HR0.out HB.out) | (with_reducible refine Kd.C_alloc ?_ _) | (with_reducible refine Kd.C_drewN ?_ _) | (with_reducible refine Kd.C_drew ?_))); (case side2 => exact HC0.out); rintro e w38 ⟨rfl, hb⟩; refine ⟨_, rfl, ?_⟩; have n0_ := Aside0.mk (Kd.R_below (by (with_reducible repeat (first | apply Kd.R_alloc | apply Kd.R_drewN | apply Kd.R_drew)); exact HO_11.out) hb); have n1_ := Aside0.mk (blk_below (g := gb292) (o := .cells #[.int .i64 a1_0, .int .i64 a1_1, .int .i64 a1_2] 24 (0, 0)) (by (with_reducible repeat (first | refine blk_drewN ?_ _ | refine blk_drew ?_ | refine blk_alloc ?_ _)); exact BK292.out) hb); have n2_ := Aside0.mk (below_step (by repeat (first | (with_reducible first | exact HB.out | apply below_alloc | apply pw_below_drewN | apply below_drew1 | refine below_set ?_ GE292.out) | exact HB.out)) hb); clear HO_11; clear BK292; clear HB; have HO_11 := n0_; have BK292 := n1_; have HB := n2_; clear n0_ n1_ n2_; (try clear hb); (try clear hb2); (try clear hk); (try clear hi); have p309 : 0 ≤ (x12_2 : Int) := of_decide_eq_true (by first | (with_reducible assumption) | assumption); have q309 : x12_2 < (x11_9.length : Int) := of_decide_eq_true (by first | (with_reducible assumption) | assumption); obtain ⟨ad309, e309, hx309_0, hx309_1, hx309_2⟩ := at_T24 (Kd.R_reads' HO_11.out).2.2 x12_2 p309 q309; obtain rfl : ad306 = ad309 := (by injection e309); replace p309 := eq_true p309; replace q309 := eq_true q309) | ((with_reducible refine gate_callee (f := 19) rfl ?_); refine goesL_ (some 66) rfl rfl Try.func19 (by kernel_rfl) rfl #[.slice A0 l0.length c0, .agg #[.int .i64 ((rd_T24 x11_9 x12_2).f0), .int .i64 ((rd_T24 x11_9 x12_2).f1), .int .i64 ((rd_T24 x11_9 x12_2).f2)], .int .i64 a2, .int .i64 a4] rfl (by (try simp only [List.map_toArray, List.map_cons, List.map_nil]); first | done | rfl | (simp only [List.length_drop, List.length_take]; rfl)) ?_; (with_reducible refine (sizarref07_At.calls _ _ l0 ((rd_T24 x11_9 x12_2).f0) ((rd_T24 x11_9 x12_2).f1) ((rd_T24 x11_9 x12_2).f2) a2 a4 t310 t311 _ ?side1 ?side2 A30.out).mono ?_); (case side1 => repeat (first | exact (Kd.C_below HR0.out HB.out) | (with_reducible refine Kd.C_alloc ?_ _) | (with_reducible refine Kd.C_drewN ?_ _) | (with_reducible refine Kd.C_drew ?_))); (case side2 => exact HC0.out); rintro e w39 ⟨rfl, hb⟩; refine ⟨_, rfl, ?_⟩; have n0_ := Aside0.mk (Kd.R_below (by (with_reducible repeat (first | apply Kd.R_alloc | apply Kd.R_drewN | apply Kd.R_drew)); exact HO_11.out) hb); have n1_ := Aside0.mk (blk_below (g := gb292) (o := .cells #[.int .i64 a1_0, .int .i64 a1_1, .int .i64 a1_2] 24 (0, 0)) (by (with_reducible repeat (first | refine blk_drewN ?_ _ | refine blk_drew ?_ | refine blk_alloc ?_ _)); exact BK292.out) hb); have n2_ := Aside0.mk (below_step (by repeat (first | (with_reducible first | exact HB.out | apply below_alloc | apply pw_below_drewN | apply below_drew1 | refine below_set ?_ GE292.out) | exact HB.out)) hb); clear HO_11; clear BK292; clear HB; have HO_11 := n0_; have BK292 := n1_; have HB := n2_; clear n0_ n1_ n2_; (try clear hb); (try clear hb2); (try clear hk); (try clear hi)))
                        have n0_ := Aside0.mk (Kd.R_drew HO_11.out)
                        have n1_ := Aside0.mk (blk_drew BK292.out)
                        have n2_ := Aside0.mk (below_drew1 HB.out)
                        clear HO_11
                        clear BK292
                        clear HB
                        have HO_11 := n0_
                        have BK292 := n1_
                        have HB := n2_
                        clear n0_ n1_ n2_
                        have p312 : 0 ≤ (x12_2 : Int) := of_decide_eq_true (by first | (with_reducible assumption) | assumption)
                        have q312 : x12_2 < (x11_9.length : Int) := of_decide_eq_true (by first | (with_reducible assumption) | assumption)
                        obtain ⟨ad312, e312, hx312_0, hx312_1, hx312_2⟩ := at_T24 (Kd.R_reads' HO_11.out).2.2 x12_2 p312 q312
                        obtain rfl : ad306 = ad312 := (by injection e312)
                        replace p312 := eq_true p312
                        replace q312 := eq_true q312
                        have p316 : 0 ≤ (x12_2 : Int) := of_decide_eq_true (by first | (with_reducible assumption) | assumption)
                        have q316 : x12_2 < (x11_9.length : Int) := of_decide_eq_true (by first | (with_reducible assumption) | assumption)
                        obtain ⟨ad316, e316, hx316_0, hx316_1, hx316_2⟩ := at_T24 (Kd.R_reads' HO_11.out).2.2 x12_2 p316 q316
                        obtain rfl : ad306 = ad316 := (by injection e316)
                        replace p316 := eq_true p316
                        replace q316 := eq_true q316
                        refine start_ (n := 30) (S := fun w' => w'.cell? (ad306.add ((x12_2).toNat * 3)) = some (.int .i64 ((rd_T24 x11_9 x12_2).f0)) ∧ w'.cell? ⟨(ad306.add ((x12_2).toNat * 3)).block, (ad306.add ((x12_2).toNat * 3)).off + 1, none⟩ = some (.int .i64 ((rd_T24 x11_9 x12_2).f1)) ∧ w'.cell? ⟨(ad306.add ((x12_2).toNat * 3)).block, (ad306.add ((x12_2).toNat * 3)).off + 2, none⟩ = some (.int .i64 ((rd_T24 x11_9 x12_2).f2)) ∧ w'.cell? (ad306.add ((x12_2).toNat * 3)) = some (.int .i64 ((rd_T24 x11_9 x12_2).f0)) ∧ w'.cell? ⟨(ad306.add ((x12_2).toNat * 3)).block, (ad306.add ((x12_2).toNat * 3)).off + 1, none⟩ = some (.int .i64 ((rd_T24 x11_9 x12_2).f1)) ∧ w'.cell? ⟨(ad306.add ((x12_2).toNat * 3)).block, (ad306.add ((x12_2).toNat * 3)).off + 2, none⟩ = some (.int .i64 ((rd_T24 x11_9 x12_2).f2))) (ds := []) #[false, false, false, false, false, false, false, false, false, false, false, false, false, false, false, false, false, false, false, false, false, false, false, false, false, false, false, false, false, false] (by kernel_rfl) rfl rfl ⟨hx312_0, hx312_1, hx312_2, hx316_0, hx316_1, hx316_2⟩ (fun hHeld => ?_); refine with_tabW sizarlaw07_FactsAtSpec.tab13 sizarlaw07_FactsAtSpec.bits13 (fun HT_ HW_ => ?_)
                        generalize w39.drew = w40 at HO_11 BK292 HB hx312_0 hx312_1 hx312_2 hx316_0 hx316_1 hx316_2 hHeld ⊢
                        refine pure_ (i := 0) (N := some 69) (v := ?_) (a' := ?_) #[true, false, false, false, false, false, false, false, false, false, false, false, false, false, false, false, false, false, false, false, false, false, false, false, false, false, false, false, false, false] rfl rfl (any_of HT_.out (by kernel_rfl)) (fun _ _ _ h => h) (Or.inl ⟨by rfl, ?_⟩) ?_ ?_
                        rotate_left
                        · intro w'
                          go_simp
                          with_reducible rfl
                        rotate_left
                        · simp only [Act.put, List.setIfInBounds_toArray, List.set_cons_zero, List.set_cons_succ, i64_w, i32_w]
                          rfl
                        refine pure_ (i := 1) (N := some 70) (v := ?_) (a' := ?_) #[true, true, false, false, false, false, false, false, false, false, false, false, false, false, false, false, false, false, false, false, false, false, false, false, false, false, false, false, false, false] rfl rfl (any_of HT_.out (by kernel_rfl)) (fun _ _ _ h => h) (Or.inl ⟨by rfl, ?_⟩) ?_ ?_
                        rotate_left
                        · intro w'
                          go_simp
                          with_reducible rfl
                        rotate_left
                        · simp only [Act.put, List.setIfInBounds_toArray, List.set_cons_zero, List.set_cons_succ, i64_w, i32_w]
                          rfl
                        refine pure_ (i := 2) (N := some 71) (v := ?_) (a' := ?_) #[true, true, true, false, false, false, false, false, false, false, false, false, false, false, false, false, false, false, false, false, false, false, false, false, false, false, false, false, false, false] rfl rfl (any_of HT_.out (by kernel_rfl)) (fun _ _ _ h => h) (Or.inl ⟨by rfl, ?_⟩) ?_ ?_
                        rotate_left
                        · intro w'
                          go_simp
                          with_reducible rfl
                        rotate_left
                        · simp only [Act.put, List.setIfInBounds_toArray, List.set_cons_zero, List.set_cons_succ, i64_w, i32_w]
                          rfl
                        refine pure_ (i := 3) (N := some 72) (v := ?_) (a' := ?_) #[true, true, true, true, false, false, false, false, false, false, false, false, false, false, false, false, false, false, false, false, false, false, false, false, false, false, false, false, false, false] rfl rfl (any_of HT_.out (by kernel_rfl)) (fun _ _ _ h => h) (Or.inl ⟨by rfl, ?_⟩) ?_ ?_
                        rotate_left
                        · intro w'
                          go_simp
                          with_reducible rfl
                        rotate_left
                        · simp only [Act.put, List.setIfInBounds_toArray, List.set_cons_zero, List.set_cons_succ, i64_w, i32_w]
                          rfl
                        refine pure_ (i := 4) (N := some 73) (v := ?_) (a' := ?_) #[true, true, true, true, true, false, false, false, false, false, false, false, false, false, false, false, false, false, false, false, false, false, false, false, false, false, false, false, false, false] rfl rfl (any_of HT_.out (by kernel_rfl)) (fun _ _ _ h => h) (Or.inl ⟨by rfl, ?_⟩) ?_ ?_
                        rotate_left
                        · intro w'
                          go_simp
                          with_reducible rfl
                        rotate_left
                        · simp only [Act.put, List.setIfInBounds_toArray, List.set_cons_zero, List.set_cons_succ, i64_w, i32_w]
                          rfl
                        refine pure_ (i := 5) (N := some 74) (v := ?_) (a' := ?_) #[true, true, true, true, true, true, false, false, false, false, false, false, false, false, false, false, false, false, false, false, false, false, false, false, false, false, false, false, false, false] rfl rfl (any_of HT_.out (by kernel_rfl)) (fun _ _ _ h => h) (Or.inl ⟨by rfl, ?_⟩) ?_ ?_
                        rotate_left
                        · intro w'
                          go_simp
                          with_reducible rfl
                        rotate_left
                        · simp only [Act.put, List.setIfInBounds_toArray, List.set_cons_zero, List.set_cons_succ, i64_w, i32_w]
                          rfl
                        refine pure_ (i := 6) (N := some 75) (v := ?_) (a' := ?_) #[true, true, true, true, true, true, true, false, false, false, false, false, false, false, false, false, false, false, false, false, false, false, false, false, false, false, false, false, false, false] rfl rfl (any_of HT_.out (by kernel_rfl)) (fun _ _ _ h => h) (Or.inl ⟨by rfl, ?_⟩) ?_ ?_
                        rotate_left
                        · intro w'
                          go_simp
                          with_reducible rfl
                        rotate_left
                        · simp only [Act.put, List.setIfInBounds_toArray, List.set_cons_zero, List.set_cons_succ, i64_w, i32_w]
                          rfl
                        refine pure_ (i := 7) (N := some 76) (v := ?_) (a' := ?_) #[true, true, true, true, true, true, true, true, false, false, false, false, false, false, false, false, false, false, false, false, false, false, false, false, false, false, false, false, false, false] rfl rfl (any_of HT_.out (by kernel_rfl)) (fun _ _ _ h => h) (Or.inl ⟨by rfl, ?_⟩) ?_ ?_
                        rotate_left
                        · intro w'
                          go_simp
                          with_reducible rfl
                        rotate_left
                        · simp only [Act.put, List.setIfInBounds_toArray, List.set_cons_zero, List.set_cons_succ, i64_w, i32_w]
                          rfl
                        refine pure_ (i := 8) (N := some 77) (v := ?_) (a' := ?_) #[true, true, true, true, true, true, true, true, true, false, false, false, false, false, false, false, false, false, false, false, false, false, false, false, false, false, false, false, false, false] rfl rfl (any_of HT_.out (by kernel_rfl)) (fun _ _ _ h => h) (Or.inl ⟨by rfl, ?_⟩) ?_ ?_
                        rotate_left
                        · intro w'
                          go_simp
                          with_reducible rfl
                        rotate_left
                        · simp only [Act.put, List.setIfInBounds_toArray, List.set_cons_zero, List.set_cons_succ, i64_w, i32_w]
                          rfl
                        refine pure_ (i := 9) (N := some 78) (v := ?_) (a' := ?_) #[true, true, true, true, true, true, true, true, true, true, false, false, false, false, false, false, false, false, false, false, false, false, false, false, false, false, false, false, false, false] rfl rfl (any_of HT_.out (by kernel_rfl)) (fun _ _ _ h => h) (Or.inl ⟨by rfl, ?_⟩) ?_ ?_
                        rotate_left
                        · intro w'
                          go_simp
                          with_reducible rfl
                        rotate_left
                        · simp only [Act.put, List.setIfInBounds_toArray, List.set_cons_zero, List.set_cons_succ, i64_w, i32_w]
                          rfl
                        refine pure_ (i := 10) (N := some 79) (v := ?_) (a' := ?_) #[true, true, true, true, true, true, true, true, true, true, true, false, false, false, false, false, false, false, false, false, false, false, false, false, false, false, false, false, false, false] rfl rfl (any_of HT_.out (by kernel_rfl)) (fun _ _ _ h => h) (Or.inl ⟨by rfl, ?_⟩) ?_ ?_
                        rotate_left
                        · intro w'
                          go_simp
                          with_reducible rfl
                        rotate_left
                        · simp only [Act.put, List.setIfInBounds_toArray, List.set_cons_zero, List.set_cons_succ, i64_w, i32_w]
                          rfl
                        refine pure_ (i := 11) (N := some 80) (v := ?_) (a' := ?_) #[true, true, true, true, true, true, true, true, true, true, true, true, false, false, false, false, false, false, false, false, false, false, false, false, false, false, false, false, false, false] rfl rfl (any_of HT_.out (by kernel_rfl)) (fun _ _ _ h => h) (Or.inl ⟨by rfl, ?_⟩) ?_ ?_
                        rotate_left
                        · intro w'
                          go_simp
                          with_reducible rfl
                        rotate_left
                        · simp only [Act.put, List.setIfInBounds_toArray, List.set_cons_zero, List.set_cons_succ, i64_w, i32_w]
                          rfl
                        refine pure_ (i := 12) (N := some 81) (v := ?_) (a' := ?_) #[true, true, true, true, true, true, true, true, true, true, true, true, true, false, false, false, false, false, false, false, false, false, false, false, false, false, false, false, false, false] rfl rfl (any_of HT_.out (by kernel_rfl)) (fun _ _ _ h => h) (Or.inl ⟨by rfl, ?_⟩) ?_ ?_
                        rotate_left
                        · intro w'
                          go_simp
                          with_reducible rfl
                        rotate_left
                        · simp only [Act.put, List.setIfInBounds_toArray, List.set_cons_zero, List.set_cons_succ, i64_w, i32_w]
                          rfl
                        refine pure_ (i := 14) (N := some 83) (v := ?_) (a' := ?_) #[true, true, true, true, true, true, true, true, true, true, true, true, true, false, true, false, false, false, false, false, false, false, false, false, false, false, false, false, false, false] rfl rfl (any_of HT_.out (by kernel_rfl)) (fun _ _ _ h => h) (Or.inl ⟨by rfl, ?_⟩) ?_ ?_
                        rotate_left
                        · intro w'
                          go_simp
                          with_reducible rfl
                        rotate_left
                        · simp only [Act.put, List.setIfInBounds_toArray, List.set_cons_zero, List.set_cons_succ, i64_w, i32_w]
                          rfl
                        refine pure_ (i := 15) (N := some 84) (v := ?_) (a' := ?_) #[true, true, true, true, true, true, true, true, true, true, true, true, true, false, true, true, false, false, false, false, false, false, false, false, false, false, false, false, false, false] rfl rfl (any_of HT_.out (by kernel_rfl)) (fun _ _ _ h => h) (Or.inl ⟨by rfl, ?_⟩) ?_ ?_
                        rotate_left
                        · intro w'
                          go_simp
                          with_reducible rfl
                        rotate_left
                        · simp only [Act.put, List.setIfInBounds_toArray, List.set_cons_zero, List.set_cons_succ, i64_w, i32_w]
                          rfl
                        refine pure_ (i := 16) (N := some 85) (v := ?_) (a' := ?_) #[true, true, true, true, true, true, true, true, true, true, true, true, true, false, true, true, true, false, false, false, false, false, false, false, false, false, false, false, false, false] rfl rfl (any_of HT_.out (by kernel_rfl)) (fun _ _ _ h => h) (Or.inl ⟨by rfl, ?_⟩) ?_ ?_
                        rotate_left
                        · intro w'
                          go_simp
                          with_reducible rfl
                        rotate_left
                        · simp only [Act.put, List.setIfInBounds_toArray, List.set_cons_zero, List.set_cons_succ, i64_w, i32_w]
                          rfl
                        refine pure_ (i := 18) (N := some 87) (v := ?_) (a' := ?_) #[true, true, true, true, true, true, true, true, true, true, true, true, true, false, true, true, true, false, true, false, false, false, false, false, false, false, false, false, false, false] rfl rfl (any_of HT_.out (by kernel_rfl)) (fun _ _ _ h => h) (Or.inl ⟨by rfl, ?_⟩) ?_ ?_
                        rotate_left
                        · intro w'
                          go_simp
                          with_reducible rfl
                        rotate_left
                        · simp only [Act.put, List.setIfInBounds_toArray, List.set_cons_zero, List.set_cons_succ, i64_w, i32_w]
                          rfl
                        refine pure_ (i := 19) (N := some 88) (v := ?_) (a' := ?_) #[true, true, true, true, true, true, true, true, true, true, true, true, true, false, true, true, true, false, true, true, false, false, false, false, false, false, false, false, false, false] rfl rfl (any_of HT_.out (by kernel_rfl)) (fun _ _ _ h => h) (Or.inl ⟨by rfl, ?_⟩) ?_ ?_
                        rotate_left
                        · intro w'
                          go_simp
                          with_reducible rfl
                        rotate_left
                        · simp only [Act.put, List.setIfInBounds_toArray, List.set_cons_zero, List.set_cons_succ, i64_w, i32_w]
                          rfl
                        refine pure_ (i := 20) (N := some 89) (v := ?_) (a' := ?_) #[true, true, true, true, true, true, true, true, true, true, true, true, true, false, true, true, true, false, true, true, true, false, false, false, false, false, false, false, false, false] rfl rfl (any_of HT_.out (by kernel_rfl)) (fun _ _ _ h => h) (Or.inl ⟨by rfl, ?_⟩) ?_ ?_
                        rotate_left
                        · intro w'
                          go_simp
                          with_reducible rfl
                        rotate_left
                        · simp only [Act.put, List.setIfInBounds_toArray, List.set_cons_zero, List.set_cons_succ, i64_w, i32_w]
                          rfl
                        refine pure_ (i := 21) (N := some 90) (v := ?_) (a' := ?_) #[true, true, true, true, true, true, true, true, true, true, true, true, true, false, true, true, true, false, true, true, true, true, false, false, false, false, false, false, false, false] rfl rfl (any_of HT_.out (by kernel_rfl)) (fun _ _ _ h => h) (Or.inl ⟨by rfl, ?_⟩) ?_ ?_
                        rotate_left
                        · intro w'
                          go_simp
                          with_reducible rfl
                        rotate_left
                        · simp only [Act.put, List.setIfInBounds_toArray, List.set_cons_zero, List.set_cons_succ, i64_w, i32_w]
                          rfl
                        refine pure_ (i := 23) (N := some 92) (v := ?_) (a' := ?_) #[true, true, true, true, true, true, true, true, true, true, true, true, true, false, true, true, true, false, true, true, true, true, false, true, false, false, false, false, false, false] rfl rfl (any_of HT_.out (by kernel_rfl)) (fun _ _ _ h => h) (Or.inl ⟨by rfl, ?_⟩) ?_ ?_
                        rotate_left
                        · intro w'
                          go_simp
                          with_reducible rfl
                        rotate_left
                        · simp only [Act.put, List.setIfInBounds_toArray, List.set_cons_zero, List.set_cons_succ, i64_w, i32_w]
                          rfl
                        refine pure_ (i := 24) (N := some 93) (v := ?_) (a' := ?_) #[true, true, true, true, true, true, true, true, true, true, true, true, true, false, true, true, true, false, true, true, true, true, false, true, true, false, false, false, false, false] rfl rfl (any_of HT_.out (by kernel_rfl)) (fun _ _ _ h => h) (Or.inl ⟨by rfl, ?_⟩) ?_ ?_
                        rotate_left
                        · intro w'
                          go_simp
                          with_reducible rfl
                        rotate_left
                        · simp only [Act.put, List.setIfInBounds_toArray, List.set_cons_zero, List.set_cons_succ, i64_w, i32_w]
                          rfl
                        refine pure_ (i := 25) (N := some 94) (v := ?_) (a' := ?_) #[true, true, true, true, true, true, true, true, true, true, true, true, true, false, true, true, true, false, true, true, true, true, false, true, true, true, false, false, false, false] rfl rfl (any_of HT_.out (by kernel_rfl)) (fun _ _ _ h => h) (Or.inl ⟨by rfl, ?_⟩) ?_ ?_
                        rotate_left
                        · intro w'
                          go_simp
                          with_reducible rfl
                        rotate_left
                        · simp only [Act.put, List.setIfInBounds_toArray, List.set_cons_zero, List.set_cons_succ, i64_w, i32_w]
                          rfl
                        refine take_ (i := 13) (N := some 82) (v := ?_) (a' := ?_) #[true, true, true, true, true, true, true, true, true, true, true, true, true, true, true, true, true, false, true, true, true, true, false, true, true, true, false, false, false, false] rfl rfl (take_ofW HT_.out HW_.out (by kernel_rfl)) (fun _ _ _ h => h) (Or.inl ⟨by rfl, ?_⟩) hHeld ?_ ?_
                        rotate_left
                        · rintro w' ⟨s0, s1, s2, s3, s4, s5⟩
                          go_simp
                          with_reducible rfl
                        rotate_left
                        · simp only [Act.put, List.setIfInBounds_toArray, List.set_cons_zero, List.set_cons_succ, i64_w, i32_w]
                          rfl
                        refine take_ (i := 22) (N := some 91) (v := ?_) (a' := ?_) #[true, true, true, true, true, true, true, true, true, true, true, true, true, true, true, true, true, false, true, true, true, true, true, true, true, true, false, false, false, false] rfl rfl (take_ofW HT_.out HW_.out (by kernel_rfl)) (fun _ _ _ h => h) (Or.inl ⟨by rfl, ?_⟩) hHeld ?_ ?_
                        rotate_left
                        · rintro w' ⟨s0, s1, s2, s3, s4, s5⟩
                          go_simp
                          with_reducible rfl
                        rotate_left
                        · simp only [Act.put, List.setIfInBounds_toArray, List.set_cons_zero, List.set_cons_succ, i64_w, i32_w]
                          rfl
                        refine one_ (i := 17) (N := some 86) #[true, true, true, true, true, true, true, true, true, true, true, true, true, true, true, true, true, true, true, true, true, true, true, true, true, true, false, false, false, false] rfl rfl (one_of HT_.out (by kernel_rfl)) (by decide) (fun K hK => ?_)
                        refine goes_ Try.func21 (by kernel_rfl) rfl #[.slice A0 l0.length c0, .agg #[.int .i64 ((rd_T24 x11_9 x12_2).f0), .int .i64 ((rd_T24 x11_9 x12_2).f1), .int .i64 ((rd_T24 x11_9 x12_2).f2)], .int .i64 a2, .int .i64 a3, .int .i64 a4] (by rfl) rfl rfl (by (try simp only [List.map_toArray, List.map_cons, List.map_nil]); first | done | rfl | (simp only [List.length_drop, List.length_take]; rfl)) ?_
                        with_reducible refine (facts_Points.calls _ _ l0 ((rd_T24 x11_9 x12_2).f0) ((rd_T24 x11_9 x12_2).f1) ((rd_T24 x11_9 x12_2).f2) a2 a3 a4 t313 _ ?side1 ?side2 A33.out).mono ?_
                        (case side1 => repeat (first | exact (Kd.C_below HR0.out HB.out) | (with_reducible refine Kd.C_alloc ?_ _) | (with_reducible refine Kd.C_drewN ?_ _) | (with_reducible refine Kd.C_drew ?_)))
                        (case side2 => exact HC0.out)
                        rintro e w41 ⟨v314, rfl, ho0, hb⟩
                        have HS0_ := (hb.cell (World.block_lt_of_cell? _ _ (hHeld.1))).trans (hHeld.1)
                        have HS1_ := (hb.cell (World.block_lt_of_cell? _ _ (hHeld.2.1))).trans (hHeld.2.1)
                        have HS2_ := (hb.cell (World.block_lt_of_cell? _ _ (hHeld.2.2.1))).trans (hHeld.2.2.1)
                        have HS3_ := (hb.cell (World.block_lt_of_cell? _ _ (hHeld.2.2.2.1))).trans (hHeld.2.2.2.1)
                        have HS4_ := (hb.cell (World.block_lt_of_cell? _ _ (hHeld.2.2.2.2.1))).trans (hHeld.2.2.2.2.1)
                        have HS5_ := (hb.cell (World.block_lt_of_cell? _ _ (hHeld.2.2.2.2.2))).trans (hHeld.2.2.2.2.2)
                        refine ⟨_, rfl, ?_⟩
                        have n0_ := Aside0.mk (Kd.R_below (by (with_reducible repeat (first | apply Kd.R_alloc | apply Kd.R_drewN | apply Kd.R_drew)); exact HO_11.out) hb)
                        have n1_ := Aside0.mk (Kd.R_lower ho0 (below_size (by repeat (first | (with_reducible first | exact HB.out | apply below_alloc | apply pw_below_drewN | apply below_drew1 | refine below_set ?_ GE292.out) | exact HB.out))))
                        have n2_ := Aside0.mk (blk_below (g := gb292) (o := .cells #[.int .i64 a1_0, .int .i64 a1_1, .int .i64 a1_2] 24 (0, 0)) (by (with_reducible repeat (first | refine blk_drewN ?_ _ | refine blk_drew ?_ | refine blk_alloc ?_ _)); exact BK292.out) hb)
                        have n3_ := Aside0.mk (below_step (by repeat (first | (with_reducible first | exact HB.out | apply below_alloc | apply pw_below_drewN | apply below_drew1 | refine below_set ?_ GE292.out) | exact HB.out)) hb)
                        clear HO_11
                        clear BK292
                        clear HB
                        have HO_11 := n0_
                        have HO315 := n1_
                        have BK292 := n2_
                        have HB := n3_
                        clear n0_ n1_ n2_ n3_
                        (try clear hb)
                        (try clear hb2)
                        (try clear hk)
                        (try clear hi)
                        (try clear ho0)
                        refine hK.out _ _ ⟨HS0_, HS1_, HS2_, HS3_, HS4_, HS5_⟩ (fun hHeld => ?_)
                        clear hK K
                        refine norm_ (a' := ?_) ?_ ?_
                        rotate_left
                        · show Act.put _ (some 86) _ = _
                          simp only [Act.put, List.setIfInBounds_toArray, List.set_cons_zero, List.set_cons_succ, i64_w, i32_w]
                          rfl
                        refine one_ (i := 26) (N := some 95) #[true, true, true, true, true, true, true, true, true, true, true, true, true, true, true, true, true, true, true, true, true, true, true, true, true, true, true, false, false, false] rfl rfl (one_of HT_.out (by kernel_rfl)) (by decide) (fun K hK => ?_)
                        refine goes_ Try.func22 (by kernel_rfl) rfl #[.slice A0 l0.length c0, .agg #[.int .i64 ((rd_T24 x11_9 x12_2).f0), .int .i64 ((rd_T24 x11_9 x12_2).f1), .int .i64 ((rd_T24 x11_9 x12_2).f2)], .int .i64 a2, .int .i64 a3, .int .i64 a4] (by rfl) rfl rfl (by (try simp only [List.map_toArray, List.map_cons, List.map_nil]); first | done | rfl | (simp only [List.length_drop, List.length_take]; rfl)) ?_
                        with_reducible refine (sizarref07_Points.calls k2 _ _ l0 ((rd_T24 x11_9 x12_2).f0) ((rd_T24 x11_9 x12_2).f1) ((rd_T24 x11_9 x12_2).f2) a2 a3 a4 t317 _ ?side1 ?side2 A34.out).mono ?_
                        (case side1 => repeat (first | exact (Kd.C_below HR0.out HB.out) | (with_reducible refine Kd.C_alloc ?_ _) | (with_reducible refine Kd.C_drewN ?_ _) | (with_reducible refine Kd.C_drew ?_)))
                        (case side2 => exact HC0.out)
                        rintro e w42 ⟨v318, rfl, ho0, hb⟩
                        have HS0_ := (hb.cell (World.block_lt_of_cell? _ _ (hHeld.1))).trans (hHeld.1)
                        have HS1_ := (hb.cell (World.block_lt_of_cell? _ _ (hHeld.2.1))).trans (hHeld.2.1)
                        have HS2_ := (hb.cell (World.block_lt_of_cell? _ _ (hHeld.2.2.1))).trans (hHeld.2.2.1)
                        have HS3_ := (hb.cell (World.block_lt_of_cell? _ _ (hHeld.2.2.2.1))).trans (hHeld.2.2.2.1)
                        have HS4_ := (hb.cell (World.block_lt_of_cell? _ _ (hHeld.2.2.2.2.1))).trans (hHeld.2.2.2.2.1)
                        have HS5_ := (hb.cell (World.block_lt_of_cell? _ _ (hHeld.2.2.2.2.2))).trans (hHeld.2.2.2.2.2)
                        refine ⟨_, rfl, ?_⟩
                        have n0_ := Aside0.mk (Kd.R_below (by (with_reducible repeat (first | apply Kd.R_alloc | apply Kd.R_drewN | apply Kd.R_drew)); exact HO_11.out) hb)
                        have n1_ := Aside0.mk (Kd.R_elder' (by (with_reducible repeat (first | apply Kd.R_alloc | apply Kd.R_drewN | apply Kd.R_drew)); exact HO315.out) (Kd.R_base ho0) hb)
                        have n2_ := Aside0.mk (Kd.R_lower (Kd.R_new' ho0 (Kd.R_lt (by (with_reducible repeat (first | apply Kd.R_alloc | apply Kd.R_drewN | apply Kd.R_drew)); exact HO315.out))) (below_size (by repeat (first | (with_reducible first | exact HB.out | apply below_alloc | apply pw_below_drewN | apply below_drew1 | refine below_set ?_ GE292.out) | exact HB.out))))
                        have n3_ := Aside0.mk (blk_below (g := gb292) (o := .cells #[.int .i64 a1_0, .int .i64 a1_1, .int .i64 a1_2] 24 (0, 0)) (by (with_reducible repeat (first | refine blk_drewN ?_ _ | refine blk_drew ?_ | refine blk_alloc ?_ _)); exact BK292.out) hb)
                        have n4_ := Aside0.mk (below_step (by repeat (first | (with_reducible first | exact HB.out | apply below_alloc | apply pw_below_drewN | apply below_drew1 | refine below_set ?_ GE292.out) | exact HB.out)) hb)
                        clear HO_11
                        clear HO315
                        clear BK292
                        clear HB
                        have HO_11 := n0_
                        have HO315 := n1_
                        have HO319 := n2_
                        have BK292 := n3_
                        have HB := n4_
                        clear n0_ n1_ n2_ n3_ n4_
                        (try clear hb)
                        (try clear hb2)
                        (try clear hk)
                        (try clear hi)
                        (try clear ho0)
                        obtain ⟨Ao43, co43, eo43⟩ := Kd.R_slice HO315.out
                        (first | subst eo43 | (injection eo43 with f1_ f2_ f3_; have f4_ := f1_.symm; have f5_ := f3_.symm; clear f1_ f2_ f3_; subst f4_; subst f5_))
                        obtain ⟨Ao44, co44, eo44⟩ := Kd.R_slice HO319.out
                        (first | subst eo44 | (injection eo44 with f1_ f2_ f3_; have f4_ := f1_.symm; have f5_ := f3_.symm; clear f1_ f2_ f3_; subst f4_; subst f5_))
                        refine hK.out _ _ ⟨HS0_, HS1_, HS2_, HS3_, HS4_, HS5_⟩ (fun hHeld => ?_)
                        clear hK K
                        refine norm_ (a' := ?_) ?_ ?_
                        rotate_left
                        · show Act.put _ (some 95) _ = _
                          simp only [Act.put, List.setIfInBounds_toArray, List.set_cons_zero, List.set_cons_succ, i64_w, i32_w]
                          rfl
                        refine one_ (i := 27) (N := some 96) #[true, true, true, true, true, true, true, true, true, true, true, true, true, true, true, true, true, true, true, true, true, true, true, true, true, true, true, true, false, false] rfl rfl (one_of HT_.out (by kernel_rfl)) (by decide) (fun K hK => ?_)
                        refine goes_ Try.func20 (by kernel_rfl) rfl #[.slice Ao43 t313.length co43, .slice Ao44 t317.length co44] (by rfl) rfl rfl (by (try simp only [List.map_toArray, List.map_cons, List.map_nil]); first | done | rfl | (simp only [List.length_drop, List.length_take]; rfl)) ?_
                        with_reducible refine (sizarref07_SamePoints.calls k2 _ _ t313 _ _ t317 true _ ?side1 ?side2 ?side3 ?side4 A35.out).mono ?_
                        (case side1 => repeat (first | exact (Kd.R_reads' HO315.out).2.2 | (with_reducible refine Kd.C_alloc ?_ _) | (with_reducible refine Kd.C_drewN ?_ _) | (with_reducible refine Kd.C_drew ?_)))
                        (case side2 => exact (Kd.R_reads' HO315.out).2.1)
                        (case side3 => repeat (first | exact (Kd.R_reads' HO319.out).2.2 | (with_reducible refine Kd.C_alloc ?_ _) | (with_reducible refine Kd.C_drewN ?_ _) | (with_reducible refine Kd.C_drew ?_)))
                        (case side4 => exact (Kd.R_reads' HO319.out).2.1)
                        rintro e w' ⟨rfl, ⟨nd, rfl⟩⟩
                        refine ⟨_, rfl, ?_⟩
                        refine hK.out _ _ ⟨hHeld.1, hHeld.2.1, hHeld.2.2.1, hHeld.2.2.2.1, hHeld.2.2.2.2.1, hHeld.2.2.2.2.2⟩ (fun hHeld => ?_)
                        clear hK K
                        refine norm_ (a' := ?_) ?_ ?_
                        rotate_left
                        · show Act.put _ (some 96) _ = _
                          simp only [Act.put, List.setIfInBounds_toArray, List.set_cons_zero, List.set_cons_succ, i64_w, i32_w]
                          rfl
                        refine pure_ (i := 28) (N := some 97) (v := ?_) (a' := ?_) #[true, true, true, true, true, true, true, true, true, true, true, true, true, true, true, true, true, true, true, true, true, true, true, true, true, true, true, true, true, false] rfl rfl (any_of HT_.out (by kernel_rfl)) (fun _ _ _ h => h) (Or.inl ⟨by rfl, ?_⟩) ?_ ?_
                        rotate_left
                        · intro w'
                          go_simp
                          with_reducible rfl
                        rotate_left
                        · simp only [Act.put, List.setIfInBounds_toArray, List.set_cons_zero, List.set_cons_succ, i64_w, i32_w]
                          rfl
                        refine pure_ (i := 29) (N := some 98) (v := ?_) (a' := ?_) #[true, true, true, true, true, true, true, true, true, true, true, true, true, true, true, true, true, true, true, true, true, true, true, true, true, true, true, true, true, true] rfl rfl (any_of HT_.out (by kernel_rfl)) (fun _ _ _ h => h) (Or.inl ⟨by rfl, ?_⟩) ?_ ?_
                        rotate_left
                        · intro w'
                          go_simp
                          with_reducible rfl
                        rotate_left
                        · simp only [Act.put, List.setIfInBounds_toArray, List.set_cons_zero, List.set_cons_succ, i64_w, i32_w]
                          rfl
                        refine done_ (done_of HT_.out (by kernel_rfl)) ?_
                        try go_wp2
                        go_roundg k2
                        case measure => have := HJ9.out; have := HK2.out; omega
                        case rel => exact ⟨(wrap64 (x12_2 + 1)), (by first | rfl | (simp; done) | (simp [*]; done)), H', ⟨by have := HJ9.out; have := HK2.out; omega⟩, ⟨by (with_reducible repeat (first | apply Kd.R_alloc | apply Kd.R_drewN | apply Kd.R_drew)); exact HO_11.out⟩, ⟨by (with_reducible repeat (first | refine blk_drewN ?_ _ | refine blk_drew ?_ | refine blk_alloc ?_ _)); exact BK292.out⟩, ⟨by repeat (first | (with_reducible first | exact HB.out | apply below_alloc | apply pw_below_drewN | apply below_drew1 | refine below_set ?_ GE292.out) | exact HB.out)⟩⟩
                      · replace c36 := Bool.eq_false_iff.mpr c36
                        subst c36
                        have H1 : (none) = some r := by rw [if_neg (show ¬ (false = true) by decide)] at H; exact H
                        clear H
                        have H := H1
                        clear H1
                        exact absurd H (by simp)
                  · rw [if_neg c31] at H
                    have c31b0 : (t307 == t310) = false := beq_eq_false_iff_ne.mpr c31
                    have c31b1 : (t307 != t310) = true := bne_iff_ne.mpr c31
                    exact absurd H (by simp)
                · rw [if_neg c28] at H
                  exact absurd H (by simp)
              · rw [if_neg c27] at H
                have c27b0 : decide (x12_2 < (x11_9.length : Int)) = false := decide_eq_false c27
                clear c27
                obtain rfl := Option.some.inj H
                obtain ⟨Ao45, co45, eo45⟩ := Kd.R_slice HO_11.out
                subst eo45
                go_wp2
                go_ret
                exact ⟨by first | rfl | (simp [errW_none, errW_some] <;> rfl) | (simp [*, errW_none, errW_some] <;> rfl), by repeat (first | (with_reducible first | exact HB.out | apply below_alloc | apply pw_below_drewN | apply below_drew1 | refine below_set ?_ GE292.out) | exact HB.out)⟩
    · replace c9 := Bool.eq_false_iff.mpr c9
      subst c9
      have H1 : (some true) = some r := by rw [if_neg (show ¬ (false = true) by decide)] at H; exact H
      clear H
      have H := H1
      clear H1
      obtain rfl := Option.some.inj H
      go_enter Try.func4, Try.ntmps4
      go_wp2_with (first | ((with_reducible refine gate_dst (N := 6) rfl ?_); refine box_event ?hg (N := 6) ?hd (cs := #[.int .i64 a1_0, .int .i64 a1_1, .int .i64 a1_2]) (t := 24) ?hr ?_; (case hd => rfl); (case hg => rfl); (case hr => first | (go_simp; done) | (go_simp; rfl)); intro gb292 hg w46 hbox hb; have n0_ := Aside0.mk (below_step (by repeat (first | (with_reducible first | exact HB.out | apply below_alloc | apply pw_below_drewN | apply below_drew1) | exact HB.out)) hb); have n1_ := Aside0.mk (hbox); have n2_ := Aside0.mk ((by rw [hg]; exact (below_size (by repeat (first | (with_reducible first | exact HB.out | apply below_alloc | apply pw_below_drewN | apply below_drew1) | exact HB.out))) : w.heap.size ≤ gb292)); have n3_ := Aside0.mk ((by rw [hg]; exact (below_size (by repeat (first | (with_reducible first | exact HB.out | apply below_alloc | apply pw_below_drewN | apply below_drew1) | exact HB.out))) : w.heap.size ≤ gb292)); clear HB; have HB := n0_; have BK292 := n1_; have GW292 := n2_; have GE292 := n3_; clear n0_ n1_ n2_ n3_; clear hb hbox hg) | ((with_reducible refine gate_callee (f := 11) rfl ?_); refine goesL_ (some 17) rfl rfl Try.func11 (by kernel_rfl) rfl #[] rfl (by (try simp only [List.map_toArray, List.map_cons, List.map_nil]); first | done | rfl | (simp only [List.length_drop, List.length_take]; rfl)) ?_; (with_reducible refine (sizarlaw07_sane.calls k  true _ A6.out).mono ?_); rintro e w47 ⟨rfl, hb⟩; refine ⟨_, rfl, ?_⟩; have n0_ := Aside0.mk (blk_below (g := gb292) (o := .cells #[.int .i64 a1_0, .int .i64 a1_1, .int .i64 a1_2] 24 (0, 0)) (by (with_reducible repeat (first | refine blk_drewN ?_ _ | refine blk_drew ?_ | refine blk_alloc ?_ _)); exact BK292.out) hb); have n1_ := Aside0.mk (below_step (by repeat (first | (with_reducible first | exact HB.out | apply below_alloc | apply pw_below_drewN | apply below_drew1 | refine below_set ?_ GE292.out) | exact HB.out)) hb); clear BK292; clear HB; have BK292 := n0_; have HB := n1_; clear n0_ n1_; (try clear hb); (try clear hb2); (try clear hk); (try clear hi)) | ((with_reducible refine gate_callee (f := 12) rfl ?_); refine goesL_ (some 20) rfl rfl Try.func12 (by kernel_rfl) rfl #[.slice A0 l0.length c0] rfl (by (try simp only [List.map_toArray, List.map_cons, List.map_nil]); first | done | rfl | (simp only [List.length_drop, List.length_take]; rfl)) ?_; (with_reducible refine (sizarref07_Few.calls _ _ l0 false _ ?side1 ?side2 A8.out).mono ?_); (case side1 => repeat (first | exact (Kd.C_below HR0.out HB.out) | (with_reducible refine Kd.C_alloc ?_ _) | (with_reducible refine Kd.C_drewN ?_ _) | (with_reducible refine Kd.C_drew ?_))); (case side2 => exact HC0.out); rintro e w' ⟨rfl, ⟨nd, rfl⟩⟩; refine ⟨_, rfl, ?_⟩))
      go_ret
      exact ⟨by first | rfl | (simp [errW_none, errW_some] <;> rfl) | (simp [*, errW_none, errW_some] <;> rfl), by repeat (first | (with_reducible first | exact HB.out | apply below_alloc | apply pw_below_drewN | apply below_drew1 | refine below_set ?_ GE292.out) | exact HB.out)⟩
  · replace c7 := Bool.eq_false_iff.mpr c7
    subst c7
    have H1 : (none) = some r := by rw [if_neg (show ¬ (false = true) by decide)] at H; exact H
    clear H
    have H := H1
    clear H1
    exact absurd H (by simp)
end Go.Proofs.Ytamajnhdibcpiaa.G
namespace Go.Proofs.Ytamajnhdibcpiaa.G
open Go.RowKit Go.Proofs.YtamajnhdibcpiaaW.PrintWords Go.Proofs.YtamajnhdibcpiaaW.PrintLast Go.Proofs.YtamajnhdibcpiaaW.PrintMore
set_option linter.unusedVariables false
set_option linter.unusedSimpArgs false
theorem at_val (l : List S28) (key : S24) (t known : Int) : atM l key t known = (if 0 ≤ valM l key known t then valM l key known t else 0, decide (0 ≤ valM l key known t)) := by
  unfold atM valM
  cases h : bestM (ofM l key known) t with
  | none => simp
  | some b =>
    simp only
    by_cases hb : b.f1 < 0
    · rw [if_pos hb, if_neg (by omega)]
      simp; omega
    · rw [if_neg hb, if_pos (by omega)]
      simp; omega
end Go.Proofs.Ytamajnhdibcpiaa.G
namespace Go.Proofs.Ytamajnhdibcpiaa.G
open Go.RowKit Go.Proofs.YtamajnhdibcpiaaW.PrintWords Go.Proofs.YtamajnhdibcpiaaW.PrintLast Go.Proofs.YtamajnhdibcpiaaW.PrintMore
set_option linter.unusedVariables false
theorem sane20 : sizarlaw07_sane.f 20 = some true := by kernel_rfl
theorem sane_all : Evt (fun k => sizarlaw07_sane.f k) true := by
  refine ⟨20, fun k hk => ?_⟩
  obtain ⟨d, rfl⟩ : ∃ d, k = 20 + d := ⟨k - 20, by omega⟩
  clear hk
  induction d with
  | zero => exact sane20
  | succ d ih => exact sizarlaw07_sane.mono (20 + d) _ ih
end Go.Proofs.Ytamajnhdibcpiaa.G
namespace Go.Proofs.Ytamajnhdibcpiaa.G
open Go.RowKit Go.Proofs.YtamajnhdibcpiaaW.PrintWords Go.Proofs.YtamajnhdibcpiaaW.PrintLast Go.Proofs.YtamajnhdibcpiaaW.PrintMore
set_option linter.unusedVariables false
set_option linter.unusedSimpArgs false
theorem samePts_from (a : List S60) (hn : a.length ≤ 1000000) : ∀ (d i : Nat), a.length - i = d → i ≤ a.length → Evt (fun k => sizarref07_SamePoints.l0 k a a (i : Int)) true := by
  intro d
  induction d with
  | zero =>
    intro i hd hi
    exact ⟨1, fun k hk => by
      obtain ⟨m, rfl⟩ : ∃ m, k = m + 1 := ⟨k - 1, by omega⟩
      simp only [sizarref07_SamePoints.l0]; rw [if_neg (by omega)]⟩
  | succ d ih =>
    intro i hd hi
    refine (ih (i + 1) (by omega) (by omega)).succ fun k => ?_
    simp only [sizarref07_SamePoints.l0]
    rw [if_pos (by omega), if_pos (by omega), if_pos (by omega), if_neg (by simp), w64 (by omega) (by omega)]
    rfl
theorem samePts (a : List S60) (hn : a.length ≤ 1000000) : Evt (fun k => sizarref07_SamePoints.f k a a) true := by
  refine (samePts_from a hn a.length 0 (by omega) (by omega)).congr fun k => ?_
  unfold sizarref07_SamePoints.f
  rw [if_pos rfl]; rfl
theorem pointsM_length (l : List S28) (key : S24) (frm upt known : Int) : (pointsM l key frm upt known).length ≤ 1000000 := by
  have := ptsTo_length (fun t : Nat => valM l key known (t : Int)) frm upt 1024
  unfold pointsM; omega
theorem refpoints_from (l : List S28) (hl : l.length ≤ 1000000) (key : S24) (frm upt known : Int) : ∀ (d i : Nat), (mn upt 1024 - (i : Int)).toNat = d → frm ≤ (i : Int) → i ≤ 1024 →
    Evt (fun k => sizarref07_Points.l0 k l upt known (ptsTo (fun t : Nat => valM l key known (t : Int)) frm upt i) (i : Int) key.f0 key.f1 key.f2) (pointsM l key frm upt known) := by
  have hm : mn upt 1024 ≤ upt ∧ mn upt 1024 ≤ 1024 ∧ (mn upt 1024 = upt ∨ mn upt 1024 = 1024) := by unfold mn; split <;> omega
  intro d
  induction d with
  | zero =>
    intro i hd hf hi
    have hend : ptsTo (fun t : Nat => valM l key known (t : Int)) frm upt i = pointsM l key frm upt known := by
      unfold pointsM
      by_cases e : i = 1024
      · rw [e]
      · have := ptsTo_more (fun t : Nat => valM l key known (t : Int)) frm upt i (fun t ht h => by
          rcases hm.2.2 with h2 | h2 <;> omega) (1024 - i)
        rw [show i + (1024 - i) = 1024 by omega] at this
        exact this.symm
    refine ⟨1, fun k hk => ?_⟩
    obtain ⟨m, rfl⟩ : ∃ m, k = m + 1 := ⟨k - 1, by omega⟩
    simp only [sizarref07_Points.l0]
    rw [if_neg (by omega), hend]
  | succ d ih =>
    intro i hd hf hi
    have hlen := ptsTo_length (fun t : Nat => valM l key known (t : Int)) frm upt i
    have hn := ih (i + 1) (by omega) (by omega) (by omega)
    rw [ptsTo_succ] at hn
    have hat : sizarref07_At.f l key.f0 key.f1 key.f2 (i : Int) known = some (atM l key (i : Int) known) := by unfold sizarref07_At.f; rw [if_pos hl]
    by_cases hv : 0 ≤ valM l key known (i : Int)
    · rw [if_pos ⟨hf, by omega, hv⟩] at hn
      refine hn.succ fun k => ?_
      simp only [sizarref07_Points.l0, hat, Option.bind_some, at_val]
      rw [if_pos (by omega), if_pos (by simpa using hv), if_pos (by omega), if_pos hv, w64 (by omega) (by omega)]
      rfl
    · rw [if_neg (fun h => hv h.2.2)] at hn
      refine hn.succ fun k => ?_
      simp only [sizarref07_Points.l0, hat, Option.bind_some, at_val]
      rw [if_pos (by omega), if_neg (by simpa using hv), w64 (by omega) (by omega)]
      rfl
theorem refpoints (l : List S28) (hl : l.length ≤ 1000000) (key : S24) (frm upt known : Int) : Evt (fun k => sizarref07_Points.f k l key.f0 key.f1 key.f2 frm upt known) (pointsM l key frm upt known) := by
  unfold sizarref07_Points.f
  have hm : mn upt 1024 ≤ upt ∧ mn upt 1024 ≤ 1024 ∧ (mn upt 1024 = upt ∨ mn upt 1024 = 1024) := by unfold mn; split <;> omega
  have hx : mx 0 frm = ((mx 0 frm).toNat : Int) ∧ frm ≤ mx 0 frm ∧ (mx 0 frm = 0 ∨ mx 0 frm = frm) := by unfold mx; split <;> omega
  by_cases h : mx 0 frm < mn upt 1024
  · have h0 : ptsTo (fun t : Nat => valM l key known (t : Int)) frm upt (mx 0 frm).toNat = [] := ptsTo_none _ _ _ _ (fun t ht h2 => by omega)
    have := refpoints_from l hl key frm upt known _ (mx 0 frm).toNat rfl (by omega) (by omega)
    rw [h0, ← hx.1] at this
    exact this
  · have h0 : pointsM l key frm upt known = [] := ptsTo_none _ _ _ _ (fun t ht h2 => by omega)
    rw [h0]
    refine ⟨1, fun k hk => ?_⟩
    obtain ⟨m, rfl⟩ : ∃ m, k = m + 1 := ⟨k - 1, by omega⟩
    simp only [sizarref07_Points.l0]
    rw [if_neg h]
theorem atspec_from (l : List S28) (hl : l.length ≤ 1000000) (x2 x3 x4 : Int) (keys : List S24) (hk : keys.length ≤ 1000) : ∀ (d i : Nat), keys.length - i = d → i ≤ keys.length → Evt (fun k => sizarlaw07_FactsAtSpec.l0 k l x2 x3 x4 keys (i : Int)) true := by
  intro d
  induction d with
  | zero =>
    intro i hd hi
    exact ⟨1, fun k hk => by
      obtain ⟨m, rfl⟩ : ∃ m, k = m + 1 := ⟨k - 1, by omega⟩
      simp only [sizarlaw07_FactsAtSpec.l0]
      rw [if_neg (by omega)]⟩
  | succ d ih =>
    intro i hd hi
    have hat : sizarref07_At.f l (rd_T24 keys (i : Int)).f0 (rd_T24 keys (i : Int)).f1 (rd_T24 keys (i : Int)).f2 x2 x4 = some (atM l (rd_T24 keys (i : Int)) x2 x4) := by unfold sizarref07_At.f; rw [if_pos hl]
    have h2 : Evt (fun k => (sizarref07_Points.f k l (rd_T24 keys (i : Int)).f0 (rd_T24 keys (i : Int)).f1 (rd_T24 keys (i : Int)).f2 x2 x3 x4).bind fun t317 => ((sizarref07_SamePoints.f k (pointsM l (rd_T24 keys (i : Int)) x2 x3 x4) t317).bind fun t320 => (if t320 = true then (sizarlaw07_FactsAtSpec.l0 k l x2 x3 x4 keys ((i + 1 : Nat) : Int)) else (none)))) true := by
      refine (refpoints l hl (rd_T24 keys (i : Int)) x2 x3 x4).bind ?_
      refine (samePts _ (pointsM_length _ _ _ _ _)).bind ?_
      simp only [if_true]
      exact ih (i + 1) (by omega) (by omega)
    refine h2.succ fun k => ?_
    simp only [sizarlaw07_FactsAtSpec.l0, facts_At.f, facts_Points.f, hat, Option.bind_some]
    rw [if_pos (by omega), if_pos (by omega), if_pos trivial, if_neg (by simp), w64 (by omega) (by omega)]
    rfl
theorem atspec_j (l : List S28) (hl : l.length ≤ 1000000) (x2 x3 x4 : Int) (keys : List S24) (hk : keys.length ≤ 1000) : Evt (fun k => sizarlaw07_FactsAtSpec.j0 k l x2 x3 x4 keys) true :=
  (atspec_from l hl x2 x3 x4 keys hk _ 0 rfl (by omega)).succ fun k => by
    simp only [sizarlaw07_FactsAtSpec.j0]; rfl
theorem at_law (l0 : List S28) (a b c x2 x3 x4 : Int) : ∃ k, sizarlaw07_FactsAtSpec.f k l0 a b c x2 x3 x4 = some true := by
  refine Evt.ex (r := true) ?_
  unfold sizarlaw07_FactsAtSpec.f
  refine sane_all.bind ?_
  simp only [if_true, sizarref07_Few.f, Option.bind_some]
  by_cases hf : decide ((l0.length : Int) ≤ 30) = true
  · simp only [if_pos hf]
    have hf2 := of_decide_eq_true hf
    by_cases h0 : (l0.length : Int) > 0
    · have hw : wrap64 ((l0.length : Int) - 1) = (l0.length : Int) - 1 := w64 (by omega) (by omega)
      simp only [if_pos h0, hw, if_pos (show (0 : Int) ≤ (l0.length : Int) - 1 by omega), if_pos (show (l0.length : Int) - 1 < (l0.length : Int) by omega), if_pos (show (0 : Int) < (l0.length : Int) from h0)]
      simp only [List.length_cons, List.length_nil, if_pos (show (0 + 1 + (0 + 1 + 1) < 5864062014805) by omega)]
      exact atspec_j l0 (by omega) x2 x3 x4 _ (by simp)
    · simp only [if_neg h0]
      exact atspec_j l0 (by omega) x2 x3 x4 _ (by simp)
  · simp only [if_neg hf]
    exact Evt.of fun k => rfl
end Go.Proofs.Ytamajnhdibcpiaa.G
namespace Go.Proofs.Ytamajnhdibcpiaa.G
open Go.ChangeShapes Go.WideShapes Go.Deep Go.ChangeAt Go.RowKit Go.Proofs.YtamajnhdibcpiaaW.PrintWords Go.Proofs.YtamajnhdibcpiaaW.PrintLast
set_option linter.unusedVariables false
set_option maxRecDepth 100000
theorem own : ownKnob Try.prog.godebug = none := by kernel_rfl
def wfi (n : Int) : Bool := (Lit.int .i64 n).wf
def wf28 (x : S28) : Bool := wfK x.f0 && (wfi x.f1 && (wfi x.f2.f0 && (wfi x.f2.f1 && (wfi x.f3 && wfi x.f4))))
theorem cells26 : Try.prog.cellsOf 26 = 2 := by kernel_rfl
theorem cells28n : Try.prog.cellsOf 28 = 8 := by kernel_rfl
section
variable {H : Type} {enc : TypeId × Value → H} {w : World} {base : Nat} {spare : Nat → Bool} {held : Bool} {fuel : Nat} {cs : List Value} {x : DataW H × List MemPlace}
theorem t24 (hl : cs.length = 3) (h : DataW.trod enc Try.prog w base spare held fuel 24 cs = some x) : ∃ k : S24, cs = [.int .i64 k.f0, .int .i64 k.f1, .int .i64 k.f2] ∧ wfK k = true := by
  match cs, hl with
  | [c0, c1, c2], _ =>
    obtain ⟨xs, n, _, hx, _, hlen, hg⟩ := DataW.trod_struct Try.underlying24 h
    match xs, hlen with
    | [y0, y1, y2], _ =>
      have t0 : DataW.trod enc Try.prog w base spare held n 3 [c0] = some y0 := hg 0 _ rfl
      have t1 : DataW.trod enc Try.prog w base spare held n 3 [c1] = some y1 := hg 1 _ rfl
      have t2 : DataW.trod enc Try.prog w base spare held n 3 [c2] = some y2 := hg 2 _ rfl
      obtain ⟨n0, e0, _, w0⟩ := DataW.trod_int Try.underlying3 t0
      obtain ⟨n1, e1, _, w1⟩ := DataW.trod_int Try.underlying3 t1
      obtain ⟨n2, e2, _, w2⟩ := DataW.trod_int Try.underlying3 t2
      cases e0; cases e1; cases e2
      exact ⟨⟨n0, n1, n2⟩, rfl, by simp [wfK, w0, w1, w2]⟩
theorem t26 (hl : cs.length = 2) (h : DataW.trod enc Try.prog w base spare held fuel 26 cs = some x) : ∃ k : S26, cs = [.int .i64 k.f0, .int .i64 k.f1] ∧ (wfi k.f0 && wfi k.f1) = true := by
  match cs, hl with
  | [c0, c1], _ =>
    obtain ⟨xs, n, _, hx, _, hlen, hg⟩ := DataW.trod_struct Try.underlying26 h
    match xs, hlen with
    | [y0, y1], _ =>
      have t0 : DataW.trod enc Try.prog w base spare held n 3 [c0] = some y0 := hg 0 _ rfl
      have t1 : DataW.trod enc Try.prog w base spare held n 3 [c1] = some y1 := hg 1 _ rfl
      obtain ⟨n0, e0, _, w0⟩ := DataW.trod_int Try.underlying3 t0
      obtain ⟨n1, e1, _, w1⟩ := DataW.trod_int Try.underlying3 t1
      cases e0; cases e1
      exact ⟨⟨n0, n1⟩, rfl, by simp [wfi, w0, w1]⟩
theorem t28 (hl : cs.length = 8) (h : DataW.trod enc Try.prog w base spare held fuel 28 cs = some x) :
    ∃ k : S28, cs = [.int .i64 k.f0.f0, .int .i64 k.f0.f1, .int .i64 k.f0.f2, .int .i64 k.f1, .int .i64 k.f2.f0, .int .i64 k.f2.f1, .int .i64 k.f3, .int .i64 k.f4] ∧ wf28 k = true := by
  match cs, hl with
  | [c0, c1, c2, c3, c4, c5, c6, c7], _ =>
    obtain ⟨xs, n, _, hx, _, hlen, hg⟩ := DataW.trod_struct Try.underlying28 h
    match xs, hlen with
    | [y0, y1, y2, y3, y4], _ =>
      have t0 : DataW.trod enc Try.prog w base spare held n 24 (([c0, c1, c2, c3, c4, c5, c6, c7].drop 0).take (Try.prog.cellsOf 24)) = some y0 := hg 0 _ rfl
      have t1 : DataW.trod enc Try.prog w base spare held n 3 [c3] = some y1 := hg 1 _ rfl
      have t2 : DataW.trod enc Try.prog w base spare held n 26 (([c0, c1, c2, c3, c4, c5, c6, c7].drop 4).take (Try.prog.cellsOf 26)) = some y2 := hg 2 _ rfl
      have t3 : DataW.trod enc Try.prog w base spare held n 3 [c6] = some y3 := hg 3 _ rfl
      have t4 : DataW.trod enc Try.prog w base spare held n 3 [c7] = some y4 := hg 4 _ rfl
      rw [cells24] at t0
      rw [cells26] at t2
      obtain ⟨k0, e0, w0⟩ := t24 rfl t0
      obtain ⟨n1, e1, _, w1⟩ := DataW.trod_int Try.underlying3 t1
      obtain ⟨k2, e2, w2⟩ := t26 rfl t2
      obtain ⟨n3, e3, _, w3⟩ := DataW.trod_int Try.underlying3 t3
      obtain ⟨n4, e4, _, w4⟩ := DataW.trod_int Try.underlying3 t4
      cases e0; cases e1; cases e2; cases e3; cases e4
      refine ⟨⟨k0, n1, k2, n3, n4⟩, rfl, ?_⟩
      simp only [Bool.and_eq_true] at w2
      simp only [wf28, Bool.and_eq_true]
      exact ⟨w0, w1, w2.1, w2.2, w3, w4⟩
end
section
variable {H : Type} {enc : TypeId × Value → H} {W : World} {base b0 : Nat} {r : Reach} {spare : Nat → Bool} {held : Bool} {a : Option Addr} {len cap : Nat} {d : DataW H} {p : List MemPlace} {v : Value}
theorem open28 (h : DataW.Trod enc Try.prog W base spare held 22 (.slice a len cap) d p) : ∃ l : List S28, len = l.length ∧ Kd.C k28 W a l.length l ∧ l.length ≤ cap ∧ ∀ x ∈ l, wf28 x = true := by
  obtain ⟨fuel, hf⟩ := h
  rcases open_slice Try.underlying22 hf with ⟨hcs, _⟩ | ⟨x, l, c, m, n, D, Pl, hcs, _, hl, hm, hmm, _, hi⟩
  · simp [Value.cells] at hcs
    obtain ⟨rfl, rfl, rfl⟩ := hcs
    exact ⟨[], rfl, ⟨rfl, by simp, fun h => absurd h (by simp)⟩, by simp, by simp⟩
  · simp [Value.cells] at hcs
    obtain ⟨rfl, rfl, rfl⟩ := hcs
    have hlm : len ≤ m := by rw [hmm]; split <;> omega
    have hel : ∀ i, i < len → ∃ y : S28, (∀ q u, [Value.int .i64 y.f0.f0, .int .i64 y.f0.f1, .int .i64 y.f0.f2, .int .i64 y.f1, .int .i64 y.f2.f0, .int .i64 y.f2.f1, .int .i64 y.f3, .int .i64 y.f4][q]? = some u → W.cell? (x.add (i * 8 + q)) = some u) ∧ wf28 y = true := by
      intro i hi2
      obtain ⟨cs', hc, ht'⟩ := hi i (by omega)
      rw [cells28n] at hc
      obtain ⟨_, hcl, hat⟩ := World.cells?_some hc
      obtain ⟨k, rfl, hk⟩ := t28 hcl ht'
      refine ⟨k, fun q u hq => ?_, hk⟩
      have hq8 : q < 8 := (List.getElem?_eq_some_iff.1 hq).1
      rw [← Go.Deep.add_add, hat q hq8]
      exact hq
    refine ⟨(List.range len).map fun i => if h : i < len then (hel i h).choose else z28, by simp, ⟨rfl, by simp; unfold maxLen at hm; omega, fun _ => ⟨x, rfl, fun j y hj => ?_⟩⟩, by simp; exact hl, ?_⟩
    · obtain ⟨hj1, hj2⟩ := List.getElem?_eq_some_iff.1 hj
      simp only [List.length_map, List.length_range] at hj1
      simp only [List.getElem_map, List.getElem_range, hj1, dif_pos] at hj2
      subst hj2
      exact ⟨_, rfl, k28_mk W _, (hel j hj1).choose_spec.1⟩
    · intro y hy
      obtain ⟨j, hj, rfl⟩ := List.mem_map.1 hy
      have hj1 : j < len := by simpa using hj
      rw [dif_pos hj1]
      exact (hel j hj1).choose_spec.2
theorem open24 (hv : Value.okWide Try.prog W r b0 24 v) (h : DataW.Trod enc Try.prog W base spare held 24 v d p) :
    ∃ n0 n1 n2 : Int, v = .agg #[.int .i64 n0, .int .i64 n1, .int .i64 n2] ∧ wfK ⟨n0, n1, n2⟩ = true := by
  obtain ⟨cs, rfl, hsz⟩ := okWide_struct Try.underlying24 hv
  obtain ⟨l⟩ := cs
  obtain ⟨fuel, hf⟩ := h
  obtain ⟨k, e, hk⟩ := t24 (cs := l) (hsz.trans cells24) hf
  exact ⟨k.f0, k.f1, k.f2, by rw [e], hk⟩
end
end Go.Proofs.Ytamajnhdibcpiaa.G
namespace Go.Proofs.Ytamajnhdibcpiaa.factsAtSpec
open Go.ChangeShapes Go.WideShapes Go.ChangeAt Go.RowKit Go.Proofs.Ytamajnhdibcpiaa.G
set_option linter.unusedVariables false
set_option maxRecDepth 100000 in
theorem lifted (os : Os) (started : os.Started) (H : Type) (enc : TypeId × Value → H) :
    ReturnsInHanded {} Try.checked os 4 .any (Rows.factsAtSpecSpec.pre6 enc Try.prog Try.f4 Rows.factsAtSpecRow.domain false) (Rows.factsAtSpecSpec.post enc Try.prog Try.f4 false true false false) := by
  refine returnsInHanded_of_change_sized (C := Try.checked) own started (by kernel_rfl) Try.func4
    (ChangeSpec.witness6 (enc := enc) (C := Try.checked) false ⟨#[], #[.slice none 0 0, .agg #[.int .i64 0, .int .i64 0, .int .i64 0], .int .i64 0, .int .i64 0, .int .i64 0], []⟩ 8 (by kernel_rfl) (by kernel_rfl) (by kernel_rfl) (by kernel_rfl)) ?_
  intro W base args ds gs before hval0 hW hcnd hsz0 _
  have hval : ∀ (j : Nat) t v, Try.f4.params[j]? = some t → args[j]? = some v → Value.okWide Try.prog W .any base t v := hval0
  have hW' := hW
  obtain ⟨p, q, hA0, hV, rfl, hfz, hnd⟩ := hW
  have hA : DataW.TrodAll enc Try.prog W 0 (fun _ => true) true Try.f4.params.toList args.toList ds p := hA0
  rw [Try.params4] at hA hval
  obtain ⟨v0, vs0, d0, ds0, p0, q0, hargs, rfl, rfl, h0, r0⟩ := trodAll_cons hA
  obtain ⟨v1, vs1, d1, ds1, p1, q1, rfl, rfl, rfl, h1, r1⟩ := trodAll_cons r0
  obtain ⟨v2, vs2, d2, ds2, p2, q2, rfl, rfl, rfl, h2, r2⟩ := trodAll_cons r1
  obtain ⟨v3, vs3, d3, ds3, p3, q3, rfl, rfl, rfl, h3, r3⟩ := trodAll_cons r2
  obtain ⟨v4, vs4, d4, ds4, p4, q4, rfl, rfl, rfl, h4, r4⟩ := trodAll_cons r3
  obtain ⟨rfl, rfl, rfl⟩ := trodAll_nil r4
  obtain rfl : args = #[v0, v1, v2, v3, v4] := by cases args; simp_all
  obtain ⟨rfl, rfl⟩ := trodVars_none hV
  obtain ⟨a0, len0, cap0, rfl⟩ := okWide_slice Try.underlying22 (hval 0 22 v0 rfl rfl)
  have k0 := h0
  have lt0 : ∀ x ∈ p0, x.block < W.heap.size := by obtain ⟨m, hm⟩ := k0; exact DataW.trod_lt m _ _ _ hm
  obtain ⟨z0, rfl, w0, y0, f0⟩ := open28 h0
  have k1 := h1
  have lt1 : ∀ x ∈ p1, x.block < W.heap.size := by obtain ⟨m, hm⟩ := k1; exact DataW.trod_lt m _ _ _ hm
  obtain ⟨a1_0, a1_1, a1_2, rfl, f1⟩ := open24 (hval 1 24 v1 rfl rfl) h1
  obtain ⟨a2, rfl, rfl, rfl, w2⟩ := open_int Try.underlying3 (hval 2 3 v2 rfl rfl) h2
  obtain ⟨a3, rfl, rfl, rfl, w3⟩ := open_int Try.underlying3 (hval 3 3 v3 rfl rfl) h3
  obtain ⟨a4, rfl, rfl, rfl, w4⟩ := open_int Try.underlying3 (hval 4 3 v4 rfl rfl) h4
  clear hA0 hval0
  obtain ⟨k, hk⟩ := at_law z0 a1_0 a1_1 a1_2 a2 a3 a4
  refine (G.sizarlaw07_FactsAtSpec.calls k a0 cap0 z0 a1_0 a1_1 a1_2 a2 a3 a4 true W w0 y0 hk).mono fun e W' ⟨he, bel⟩ => ?_
  subst he
  exact ⟨_, rfl, _, _, _, [], _, [], hW', trodAll_mk1 (shut_bool Try.underlying4 _), (trodAll_cons_mk (Below.trod laidOut (by kernel_rfl) (of_decide_eq_true (by kernel_rfl)) k0 bel lt0) (trodAll_cons_mk (Below.trod laidOut (by kernel_rfl) (of_decide_eq_true (by kernel_rfl)) k1 bel lt1) (trodAll_cons_mk (shut_int Try.underlying3 w2) (trodAll_cons_mk (shut_int Try.underlying3 w3) (trodAll_cons_mk (shut_int Try.underlying3 w4) trodAll_mk0))))), rfl, bel.frame _, fun h => by cases h⟩
theorem over : Rows.factsAtSpecRow.holds Try.pinned (OpenSpec.ofChange Rows.factsAtSpecSpec) :=
  OpenClaim.holds_of_wide 4 Try.f4 rfl rfl rfl rfl rfl rfl rfl ⟨rfl, rfl, rfl, rfl, rfl⟩ rfl rfl rfl rfl rfl (by kernel_rfl) Try.func4 (by kernel_rfl)
    (of_decide_eq_true (by kernel_rfl)) (by unfold Func.isWrapper; first | (rw [if_pos (by decide +kernel)]; kernel_rfl) | (rw [if_neg (by decide +kernel)]; exact ⟨rfl, rfl⟩))
    (fun os started H enc _ => lifted os started H enc)
theorem proved : Rows.FactsAtSpecSaid := over
end Go.Proofs.Ytamajnhdibcpiaa.factsAtSpec
namespace Go.Proofs.Ytamajnhdibcpiaa
/-- The row, under a short name, for the claim. -/
theorem factsAtSpec_holds : Rows.FactsAtSpecSaid := factsAtSpec.proved
end Go.Proofs.Ytamajnhdibcpiaa
