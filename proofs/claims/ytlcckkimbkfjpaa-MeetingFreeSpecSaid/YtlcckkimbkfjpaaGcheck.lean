/- What Check of meetings computes, and its contract: more than 16 meetings, one that is not valid or two that overlap: 220; else 0. -/
import Derived.Test.YtlcckkimbkfjpaaGpairs
import Derived.Test.YtlcckkimbkfjpaaGx2
namespace Go.Proofs.Ytlcckkimbkfjpaa.G
open Go.RowKit Go.Shelf Go.Proofs.YtlcckkimbkfjpaaW.PrintWords Go.Proofs.YtlcckkimbkfjpaaW.PrintLast Go.Proofs.YtlcckkimbkfjpaaW.PrintMore
attribute [local go_sem] Oper.semAt_some
set_option linter.unusedVariables false

def vldB (x : S38) : Bool := decide (0 ≤ x.f0 ∧ x.f0 < 7 ∧ 0 ≤ x.f1 ∧ x.f1 < x.f2 ∧ x.f2 ≤ 1440 ∧ 0 ≤ x.f3 ∧ x.f3 ≤ x.f4 ∧ x.f4 < 60)
def ovlB (x y : S38) : Bool := decide (x.f0 = y.f0 ∧ mx x.f1 y.f1 < mn x.f2 y.f2 ∧ mx x.f3 y.f3 ≤ mn x.f4 y.f4)
theorem vld_f (x : S38) : meeting_weekly_valid.f x.f0 x.f1 x.f2 x.f3 x.f4 = some (vldB x) := by
  unfold meeting_weekly_valid.f vldB
  repeat' split
  all_goals (refine congrArg some ?_; rw [Bool.eq_iff_iff]; simp only [decide_eq_true_eq, Bool.false_eq_true, false_iff]; omega)
theorem ovl_f (x y : S38) : meeting_weekly_overlaps.f x.f0 x.f1 x.f2 x.f3 x.f4 y.f0 y.f1 y.f2 y.f3 y.f4 = some (ovlB x y) := by
  unfold meeting_weekly_overlaps.f ovlB
  repeat' split
  all_goals (refine congrArg some ?_; rw [Bool.eq_iff_iff]; simp only [decide_eq_true_eq, Bool.false_eq_true, false_iff]; omega)
theorem valid_calls (x : S38) (w : World) : Calls Try.prog 30 #[.agg #[.int .i64 x.f0, .int .i64 x.f1, .int .i64 x.f2, .int .i64 x.f3, .int .i64 x.f4]] w fun e w' => e = .returned (.bool (vldB x)) ∧ Below w.heap.size w w' :=
  meeting_weekly_valid.calls _ _ _ _ _ _ w (vld_f x)
theorem overlaps_calls (x y : S38) (w : World) : Calls Try.prog 29 #[.agg #[.int .i64 x.f0, .int .i64 x.f1, .int .i64 x.f2, .int .i64 x.f3, .int .i64 x.f4], .agg #[.int .i64 y.f0, .int .i64 y.f1, .int .i64 y.f2, .int .i64 y.f3, .int .i64 y.f4]] w fun e w' => e = .returned (.bool (ovlB x y)) ∧ Below w.heap.size w w' :=
  meeting_weekly_overlaps.calls _ _ _ _ _ _ _ _ _ _ _ w (ovl_f x y)
theorem KeepsFrom.of_below {B : Nat} {W W' : World} (h : Below W.heap.size W W') : KeepsFrom B W W' := ⟨h.size, fun k o _ hk _ => (h.block k (Array.getElem?_eq_some_iff.1 hk).1).trans hk⟩
/-- Check's answer. -/
def checkM (l : List S38) : Int := if 16 < l.length then 220 else if l.all vldB = false then 220 else if (pairsOf l).any (fun p => ovlB p.1 p.2) = true then 220 else 0
def meeting_Check.f (l0 : List S38) : Option Int := some (checkM l0)

set_option maxHeartbeats 1000000 in
theorem pairs_in (F : Fence) (n : Nat) (h31 : F.fn 31) (hro : F.round = none) (a : Option Addr) (len cap : Nat) (w : World) :
    CallsIn F n Try.prog 31 #[.slice a len cap] w fun e w' => e = .returned (.func (.func 38) #[] #[.pointer (some ⟨w.heap.size, 0, none⟩)]) ∧ w' = w.alloc (.cells #[.slice a len cap] 22) := by
  refine callsIn_of_wp Try.func31 rfl h31 ?_ hro
  simp only [Try.ntmps31, List.size_toArray, List.length_cons, List.length_nil, Nat.reduceAdd, Nat.reduceSub, Array.replicate_succ, Array.replicate_zero, List.push_toArray, List.append_toArray, List.nil_append, List.cons_append]
  gi_wp2
  go_ret
  exact ⟨rfl, rfl⟩

theorem pairs_stops (F : Fence) (n : Nat) (h38 : F.fn 38) (hro : F.round = none) (hn : 1 ≤ n) (Bs : Nat) (w0 : World) (A : Option Addr) (c : Nat) (xs : List S38) (hC : Kd.C k38 w0 A xs.length xs) (hc : xs.length ≤ c) (w : World) (hw : Below w0.heap.size w0 w)
    (hBs : w.heap[Bs]? = some (.cells #[.slice A xs.length c] 22 (0, 0))) :
    SeqStopsK F n Try.prog 38 #[.pointer (some ⟨Bs, 0, none⟩)] (fun x : S38 × S38 => #[ev38 x.1, ev38 x.2]) (Kpt w0.heap.size Bs) (fun ys => ys = pairsOf xs) (fun pre => pre <+: pairsOf xs) (pairsOf xs).length w := fun l J Jx W hW hJ _ hY h0 =>
  pairs1_in F n h38 hro hn l Bs w0 A c xs hC hc J Jx hY W hJ (hw.trans (hW.mono hw.size)) ((hW.block Bs (Array.getElem?_eq_some_iff.1 hBs).1).trans hBs) h0

set_option maxRecDepth 100000 in
set_option maxHeartbeats 4000000 in
theorem meeting_Check.calls (A0 : Option Addr) (c0 : Nat) (l0 : List (S38)) (r : Int) (w : World) (hr0 : Kd.C k38 w A0 l0.length l0) (hc0 : l0.length ≤ c0) (h : meeting_Check.f l0 = some r) :
    Calls Try.prog 17 #[.slice A0 l0.length c0] w fun e w' => e = .returned (.int .i64 r) ∧ Below w.heap.size w w' := by
  have hr : r = checkM l0 := (Option.some.inj h).symm
  clear h
  have hlen : l0.length ≤ 9223372036854775807 := hr0.2.1
  have hu38 := Try.underlying38
  have hu54 := Try.underlying54
  have h1 : 1 ≤ 9 := by omega
  have hR := Aside0.mk hr
  clear hr
  refine (callsIn_wide (n := 9)).1 ?_
  refine callsIn_of_wp_marks Try.func17 rfl trivial ?_ rfl
  simp only [Try.ntmps17, List.size_toArray, List.length_cons, List.length_nil, Nat.reduceAdd, Nat.reduceSub, Array.replicate_succ, Array.replicate_zero, List.push_toArray, List.append_toArray, List.nil_append, List.cons_append]
  by_cases h16 : 16 < l0.length
  · have hans : r = 220 := by rw [hR.out]; unfold checkM; rw [if_pos h16]
    gi_wp2
    refine ⟨.int .i64 220, ?_, by rw [hans], (Below.refl _ w).alloc (Nat.le_refl _) _⟩
    simp [results, Try.f17, go_sem]
  · gi_wp2
    gi_loopw [12] (fun i wr => ∃ k : Nat, k ≤ l0.length ∧ i = .int .i64 k ∧ Below w.heap.size w wr ∧ Boxed wr w.heap.size 25 (.int .i64 0) ∧ Hid ((l0.take k).all vldB = true))
      (fun i _ => l0.length - (intOf i).toNat)
    case atStart => exact ⟨0, by omega, rfl, (Below.refl _ w).alloc (Nat.le_refl _) _, Boxed.new w _ _, rfl⟩
    case round =>
      obtain ⟨k, hk, rfl, hB, bR, hV⟩ := hrel
      have hlt2 := bR.lt
      by_cases hlt : k < l0.length
      · obtain ⟨ad, rfl, g0, g1, g2, g3, g4⟩ := at38 (Kd.C_below hr0 hB) hlt
        have hx : l0.getD k z38 = l0[k] := by simp [hlt]
        rw [hx] at g0 g1 g2 g3 g4
        cases hv : vldB l0[k] with
        | true =>
          have hv2 : Aside0 (vldB l0[k] = true) := ⟨hv⟩
          clear hv
          gi_wp2_with (refine ⟨trivial, ?_⟩; gi_at_call 30; refine (callsIn_wide.2 (valid_calls l0[k] _)).mono ?_; rintro e w1 ⟨rfl, hb1⟩; rw [hv2.out])
          go_roundw
          case rel => exact ⟨k + 1, by omega, by simp, (hB.alloc hB.size _).trans (hb1.mono (Nat.le_trans hB.size (by simp))), (hb1.block _ (by simp; omega)).trans (bR.alloc _), by
            show (l0.take (k + 1)).all vldB = true
            rw [List.take_succ_eq_append_getElem hlt, List.all_append, hV.out]; simp [hv2.out]⟩
          case measure => simp [intOf]; omega
        | false =>
          have hv2 : Aside0 (vldB l0[k] = false) := ⟨hv⟩
          clear hv
          have hans : Aside0 (r = 220) := ⟨by
            rw [hR.out]; unfold checkM; rw [if_neg h16, if_pos]
            rw [Bool.eq_false_iff]; intro hall
            have := List.all_eq_true.1 hall l0[k] (List.getElem_mem hlt)
            rw [hv2.out] at this; cases this⟩
          gi_wp2_with (refine ⟨trivial, ?_⟩; gi_at_call 30; refine (callsIn_wide.2 (valid_calls l0[k] _)).mono ?_; rintro e w1 ⟨rfl, hb1⟩; rw [hv2.out]; have bR1 : Boxed w1 w.heap.size 25 (.int .i64 0) := (hb1.block _ (by simp; omega)).trans (bR.alloc _); have cR1 := bR1.cell; have fR1 := bR1.frozen)
          refine ⟨.int .i64 220, ?_, by rw [hans.out], ((hB.alloc hB.size _).trans (hb1.mono (Nat.le_trans hB.size (by simp)))).setCell (p := ⟨w.heap.size, 0, none⟩) (Nat.le_refl _) _⟩
          have hc5 := (bR1.set (.int .i64 220)).cell
          simp [results, Try.f17, go_sem, hc5]
      · have hke : Aside0 (k = l0.length) := ⟨by omega⟩
        have hall : Aside0 (l0.all vldB = true) := ⟨by have := hV.out; rwa [hke.out, List.take_length] at this⟩
        clear hV
        gi_wp2_with (refine ⟨trivial, ?_⟩; gi_at_call 31; refine (pairs_in _ _ trivial rfl _ _ _ _).mono ?_; rintro e w1 ⟨rfl, rfl⟩)
        have bR0 := bR.alloc (.cells #[.slice A0 l0.length c0] 22)
        have bN := Boxed.new wr 22 (.slice A0 l0.length c0)
        have hB0 : Below w.heap.size w (wr.alloc (.cells #[.slice A0 l0.length c0] 22)) := hB.alloc hB.size _
        obtain ⟨Bs, hBs⟩ : ∃ Bs, Bs = wr.heap.size := ⟨_, rfl⟩
        have hszW : (wr.alloc (.cells #[.slice A0 l0.length c0] 22)).heap.size = Bs + 1 := by simp [hBs]
        rw [← hBs] at bN hlt2 ⊢
        clear hBs bR
        generalize wr.alloc (.cells #[.slice A0 l0.length c0] 22) = W0 at bR0 bN hB0 hszW ⊢
        clear hB hke
        refine wpIn_rangeFunc_ownH rfl h1 (gf := 38) (lb := #[.pointer (some ⟨Bs, 0, none⟩)]) rfl trivial (enters_of Try.func38 (by kernel_rfl) rfl)
          (pairs_stops Fence.wide (9 - 1) trivial rfl (by omega) Bs w A0 c0 l0 hr0 hc0 W0 hB0 bN) Kpt.trans (fun W l o o' hl h hc hw => Kpt.putObj (w := W0) (by omega) W l o o' hl h hc hw) (Below.refl _ _) (fun _ => rfl)
          (fun pre W => (Aside0 (pre.any (fun p => ovlB p.1 p.2) = false) ∧ Boxed W w.heap.size 25 (.int .i64 0)) ∧ Below w.heap.size w W)
          (fun c pre W => (Aside0 (c = .ret ∧ pre.any (fun p => ovlB p.1 p.2) = true) ∧ Boxed W w.heap.size 25 (.int .i64 220)) ∧ Below w.heap.size w W)
          (OwnFrom.and (OwnFrom.and (ownFrom_pure _ _) (Own.from (boxed_own _ _ _) _)) (ownFrom_below (Nat.le_refl _) (by omega)))
          (fun c => OwnFrom.and (OwnFrom.and (ownFrom_pure _ _) (Own.from (boxed_own _ _ _) _)) (ownFrom_below (Nat.le_refl _) (by omega)))
          ⟨⟨⟨by simp⟩, bR0⟩, hB0⟩
          (fun (x : S38 × S38) (a' : Act) (W : World) => ∃ B1 B2 : Nat, W.heap[B1]? = some (Obj.cells #[.int .i64 x.1.f0, .int .i64 x.1.f1, .int .i64 x.1.f2, .int .i64 x.1.f3, .int .i64 x.1.f4] 38) ∧ W.heap[B2]? = some (Obj.cells #[.int .i64 x.2.f0, .int .i64 x.2.f1, .int .i64 x.2.f2, .int .i64 x.2.f3, .int .i64 x.2.f4] 38) ∧ ∃ v0 v1 v3 v4 v7 v8 v9 v10 v11 v12 v13 v14 v15 v16 v17 v18 v19 v20 v21 v22 v23 v24 v25 v26 : Value, a' = { tmps := #[v0, v1, .pointer (some ⟨w.heap.size, 0, none⟩), v3, v4, .pointer (some ⟨B1, 0, none⟩), .pointer (some ⟨B2, 0, none⟩), v7, v8, v9, v10, v11, v12, v13, v14, v15, v16, v17, v18, v19, v20, v21, v22, v23, v24, v25, v26], defers := [] })
          ?own ?assign ?body ?done ?stop
        case own =>
          rintro x a' _ X Y row ⟨B1, B2, e1, e2, e3⟩ hg hr
          have same : ∀ (i : Nat) (cs : Array Value) (t : TypeId), X.heap[i]? = some (.cells cs t) → Y.heap[i]? = some (.cells cs t) := fun i cs t hi =>
            (hg.block i (Array.getElem?_eq_some_iff.1 hi).1 (fun e => by obtain ⟨_, o, ho, hc⟩ := hr i e.symm; rw [hi] at ho; cases ho; cases hc)).trans hi
          exact ⟨B1, B2, same _ _ _ e1, same _ _ _ e2, e3⟩
        case assign =>
          rintro l pre x W K ⟨⟨hp, bR1⟩, hB1⟩ hK
          have a1 := World.alloc_heap_new W (.cells #[.int .i64 x.1.f0, .int .i64 x.1.f1, .int .i64 x.1.f2, .int .i64 x.1.f3, .int .i64 x.1.f4] 38)
          have a2 := World.alloc_heap_new (W.alloc (.cells #[.int .i64 x.1.f0, .int .i64 x.1.f1, .int .i64 x.1.f2, .int .i64 x.1.f3, .int .i64 x.1.f4] 38)) (.cells #[.int .i64 x.2.f0, .int .i64 x.2.f1, .int .i64 x.2.f2, .int .i64 x.2.f3, .int .i64 x.2.f4] 38)
          have a3 := (Below.heap_alloc (W.alloc (.cells #[.int .i64 x.1.f0, .int .i64 x.1.f1, .int .i64 x.1.f2, .int .i64 x.1.f3, .int .i64 x.1.f4] 38)) (.cells #[.int .i64 x.2.f0, .int .i64 x.2.f1, .int .i64 x.2.f2, .int .i64 x.2.f3, .int .i64 x.2.f4] 38) W.heap.size (by simp)).trans a1
          simp only [World.size_alloc] at a2
          simp only [ev38]
          gi_wp2
          refine hK _ _ (((KeepsOthers.alloc _ _).trans (KeepsOthers.alloc _ _)).from _) ((Kpt.alloc _ hB1.size _).trans (Kpt.alloc _ (by have := hB1.size; simp; omega) _)) ⟨⟨hp, (bR1.alloc _).alloc _⟩, (hB1.alloc hB1.size _).alloc (by have := hB1.size; simp; omega) _⟩ ⟨W.heap.size, W.heap.size + 1, a3, a2, ?_⟩
          exact ⟨_, _, _, _, _, _, _, _, _, _, _, _, _, _, _, _, _, _, _, _, _, _, _, _, rfl⟩
        case body =>
          rintro l pre x a' W hl hrec ⟨⟨hp, bR1⟩, hB1⟩ ⟨B1, B2, e1, e2, v0, v1, v3, v4, v7, v8, v9, v10, v11, v12, v13, v14, v15, v16, v17, v18, v19, v20, v21, v22, v23, v24, v25, v26, rfl⟩ hlt
          have b0 : W.cell? ⟨B1, 0, none⟩ = some (.int .i64 x.1.f0) := by simp [World.cell?, e1]
          have b1 : W.cell? ⟨B1, 1, none⟩ = some (.int .i64 x.1.f1) := by simp [World.cell?, e1]
          have b2 : W.cell? ⟨B1, 2, none⟩ = some (.int .i64 x.1.f2) := by simp [World.cell?, e1]
          have b3 : W.cell? ⟨B1, 3, none⟩ = some (.int .i64 x.1.f3) := by simp [World.cell?, e1]
          have b4 : W.cell? ⟨B1, 4, none⟩ = some (.int .i64 x.1.f4) := by simp [World.cell?, e1]
          have d0 : W.cell? ⟨B2, 0, none⟩ = some (.int .i64 x.2.f0) := by simp [World.cell?, e2]
          have d1 : W.cell? ⟨B2, 1, none⟩ = some (.int .i64 x.2.f1) := by simp [World.cell?, e2]
          have d2 : W.cell? ⟨B2, 2, none⟩ = some (.int .i64 x.2.f2) := by simp [World.cell?, e2]
          have d3 : W.cell? ⟨B2, 3, none⟩ = some (.int .i64 x.2.f3) := by simp [World.cell?, e2]
          have d4 : W.cell? ⟨B2, 4, none⟩ = some (.int .i64 x.2.f4) := by simp [World.cell?, e2]
          have hR1 := bR1.lt
          cases ho : ovlB x.1 x.2 with
          | true =>
            have ho2 : Aside0 (ovlB x.1 x.2 = true) := ⟨ho⟩
            clear ho
            gi_wp2_with (refine ⟨trivial, ?_⟩; gi_at_call 29; refine (CallsIn.inRound l (callsIn_wide.2 (overlaps_calls x.1 x.2 _))).mono ?_; rintro e w2 ⟨rfl, hb2⟩; rw [ho2.out]; have bR2 : Boxed w2 w.heap.size 25 (.int .i64 0) := (hb2.block _ hR1).trans bR1; have cR2 := bR2.cell; have fR2 := bR2.frozen)
            exact ⟨(Ytlcckkimbkfjpaa.G.KeepsFrom.of_below hb2).trans ((KeepsOthers.setCell _ _ _).from _), ⟨⟨rfl, by simp [ho2.out]⟩, bR2.set _⟩, (hB1.trans (hb2.mono hB1.size)).setCell (p := ⟨w.heap.size, 0, none⟩) (Nat.le_refl _) _⟩
          | false =>
            have ho2 : Aside0 (ovlB x.1 x.2 = false) := ⟨ho⟩
            clear ho
            gi_wp2_with (refine ⟨trivial, ?_⟩; gi_at_call 29; refine (CallsIn.inRound l (callsIn_wide.2 (overlaps_calls x.1 x.2 _))).mono ?_; rintro e w2 ⟨rfl, hb2⟩; rw [ho2.out])
            exact ⟨Ytlcckkimbkfjpaa.G.KeepsFrom.of_below hb2, Kpt.of_below hB1.size hb2, ⟨⟨by simp [ho2.out, hp.out]⟩, (hb2.block _ hR1).trans bR1⟩, hB1.trans (hb2.mono hB1.size)⟩
        case done =>
          rintro D ys W hD rfl ⟨⟨hp, bR1⟩, hB1⟩ hK
          have hans : Aside0 (r = 0) := ⟨by rw [hR.out]; unfold checkM; rw [if_neg h16, if_neg (by rw [hall.out]; simp), if_neg (by rw [hp.out]; simp)]⟩
          have cR := bR1.cell
          have fR := bR1.frozen
          gi_wp2
          have hK' := (KeepsOthers.setCell W ⟨w.heap.size, 0, none⟩ (.int .i64 0)).same D _ hK rfl
          refine ⟨by simp, .inl ⟨_, _, rfl, run_takeDeferred hK', ?_⟩⟩
          have hc5 := cell_kept (bR1.set (.int .i64 0)).cell (grownBy_putObj' _ D (.deferred none)) (fun r e => by cases e; exact ⟨_, hK', rfl⟩)
          refine ⟨.int .i64 0, ?_, by rw [hans.out], (hB1.setCell (p := ⟨w.heap.size, 0, none⟩) (by simp) _).trans (belowK_b (w := w) (Nat.le_refl _) _ D _ _ (by omega) hK' rfl rfl)⟩
          simp [results, Try.f17, go_sem, hc5]
        case stop =>
          rintro D c pre W hD hpre ⟨⟨⟨rfl, hex⟩, bR1⟩, hB1⟩ hK
          have hans : Aside0 (r = 220) := ⟨by
            rw [hR.out]; unfold checkM; rw [if_neg h16, if_neg (by rw [hall.out]; simp), if_pos]
            obtain ⟨y, hy1, hy2⟩ := List.any_eq_true.1 hex
            exact List.any_eq_true.2 ⟨y, hpre.subset hy1, hy2⟩⟩
          gi_wp2
          refine ⟨by simp, .inl ⟨_, _, rfl, run_takeDeferred hK, ?_⟩⟩
          have hc5 := cell_kept bR1.cell (grownBy_putObj' _ D (.deferred none)) (fun r e => by cases e; exact ⟨_, hK, rfl⟩)
          refine ⟨.int .i64 220, ?_, by rw [hans.out], hB1.trans (belowK_b (w := w) (Nat.le_refl _) W D _ _ (by omega) hK rfl rfl)⟩
          simp [results, Try.f17, go_sem, hc5]
end Go.Proofs.Ytlcckkimbkfjpaa.G
