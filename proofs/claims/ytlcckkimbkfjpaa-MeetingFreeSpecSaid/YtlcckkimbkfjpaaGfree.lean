/- What Free of a list of meetings computes, and its contract. -/
import Derived.Test.YtlcckkimbkfjpaaGdel
import Derived.Test.YtlcckkimbkfjpaaGsort
import Derived.Shelf.SlSortCmp.NoneTotal
namespace Go.Proofs.Ytlcckkimbkfjpaa.G
open Go.RowKit Go.Shelf Go.Proofs.YtlcckkimbkfjpaaW.PrintWords Go.Proofs.YtlcckkimbkfjpaaW.PrintLast Go.Proofs.YtlcckkimbkfjpaaW.PrintMore
set_option linter.unusedVariables false
/-- A meeting is not held on this day of this week. -/
def offB (day week : Int) (x : S38) : Bool := decide (x.f0 ≠ day ∨ week < x.f3 ∨ x.f4 < week)
def spansGo (frm : Int) (acc : List S42) : List S38 → List S42 × Int
  | [] => (acc, frm)
  | m :: r => spansGo m.f2 (if frm < m.f1 then acc ++ [⟨frm, m.f1⟩] else acc) r
def spansM (l : List S38) : List S42 := if (spansGo 0 [] l).2 < 1440 then (spansGo 0 [] l).1 ++ [⟨(spansGo 0 [] l).2, 1440⟩] else (spansGo 0 [] l).1
def todayM (l : List S38) (day week : Int) : List S38 := sortM (l.filter fun x => !offB day week x)
def freeM (l : List S38) (day week : Int) : List S42 × Int :=
  if checkM l = 0 then (if 0 ≤ day ∧ day < 7 ∧ 0 ≤ week ∧ week < 60 then (spansM (todayM l day week), 0) else ([], 1)) else ([], checkM l)
def meeting_Free.f (l0 : List S38) (a1 a2 : Int) : Option (List S42 × Int) := some (freeM l0 a1 a2)

set_option maxRecDepth 100000 in
set_option maxHeartbeats 2000000 in
theorem off_calls (day week : Int) (b1 b2 : Nat) (x : S38) (W : World) (h1 : W.cell? ⟨b1, 0, none⟩ = some (.int .i64 day)) (h2 : W.cell? ⟨b2, 0, none⟩ = some (.int .i64 week)) (l1 : b1 < W.heap.size) (l2 : b2 < W.heap.size) :
    Calls Try.prog 23 #[.agg #[.int .i64 x.f0, .int .i64 x.f1, .int .i64 x.f2, .int .i64 x.f3, .int .i64 x.f4], .pointer (some ⟨b1, 0, none⟩), .pointer (some ⟨b2, 0, none⟩)] W fun e w' => e = .returned (.bool (offB day week x)) ∧ Below W.heap.size W w' := by
  have hu38 := Try.underlying38
  by_cases c1 : x.f0 = day
  · have k1 : (x.f0 != day) = false := bne_eq_false_iff_eq.2 c1
    by_cases c2 : week < x.f3
    · have k2 : decide (week < x.f3) = true := decide_eq_true c2
      have hans : Aside0 (offB day week x = true) := ⟨by unfold offB; exact decide_eq_true (.inr (.inl c2))⟩
      clear c1 c2
      go_enter Try.func23, Try.ntmps23
      go_wp2
      go_ret
      exact ⟨by rw [hans.out]; rfl, (Below.refl _ _).alloc (Nat.le_refl _) _⟩
    · have k2 : decide (week < x.f3) = false := decide_eq_false c2
      by_cases c3 : x.f4 < week
      · have k3 : decide (x.f4 < week) = true := decide_eq_true c3
        have hans : Aside0 (offB day week x = true) := ⟨by unfold offB; exact decide_eq_true (.inr (.inr c3))⟩
        clear c1 c2 c3
        go_enter Try.func23, Try.ntmps23
        go_wp2
        go_ret
        exact ⟨by rw [hans.out]; rfl, (Below.refl _ _).alloc (Nat.le_refl _) _⟩
      · have k3 : decide (x.f4 < week) = false := decide_eq_false c3
        have hans : Aside0 (offB day week x = false) := ⟨by unfold offB; exact decide_eq_false (by omega)⟩
        clear c1 c2 c3
        go_enter Try.func23, Try.ntmps23
        go_wp2
        go_ret
        exact ⟨by rw [hans.out]; rfl, (Below.refl _ _).alloc (Nat.le_refl _) _⟩
  · have k1 : (x.f0 != day) = true := bne_iff_ne.2 c1
    have hans : Aside0 (offB day week x = true) := ⟨by unfold offB; exact decide_eq_true (.inl c1)⟩
    clear c1
    go_enter Try.func23, Try.ntmps23
    go_wp2
    go_ret
    exact ⟨by rw [hans.out]; rfl, (Below.refl _ _).alloc (Nat.le_refl _) _⟩

theorem sort_none (c : Nat) (w : World) : Calls Try.prog 24 #[.slice none 0 c, .func (.func 25) #[] #[]] w fun e w' => e = .returned (.tuple #[]) ∧ w' = w := by
  have hcon := AnyF.slices_SortFunc_none Try.sortM none c (.func (.func 25) #[] #[]) w
  change Calls Try.prog 24 _ _ _ at hcon
  exact hcon
theorem sort_calls (v : Value) (xs : List S38) (base : Nat) (w : World) (HO : Kd.R k38 38 w base (fun _ => True) v xs) (hb : base ≤ w.heap.size) (hn : xs.length < 4611686018427387904) :
    Calls Try.prog 24 #[v, .func (.func 25) #[] #[]] w fun e w' => e = .returned (.tuple #[]) ∧ Below base w w' ∧ ∃ A c, v = .slice A xs.length c ∧ Kd.C k38 w' A xs.length (sortM xs) := by
  have HO2 := HO
  obtain ⟨_, inner, hown, _⟩ := HO
  rcases hown.2 with ⟨rfl, h0⟩ | ⟨g, cap, cur, rfl, h1, h2, _⟩
  · have hx : xs = [] := List.eq_nil_of_length_eq_zero h0
    subst hx
    refine (sort_none 0 w).mono ?_
    rintro e w' ⟨rfl, rfl⟩
    exact ⟨rfl, Below.refl _ _, none, 0, rfl, by rw [sortM_length], by simp, fun h => absurd h (by simp)⟩
  · have hgl : g < w.heap.size := (Array.getElem?_eq_some_iff.1 h2).1
    have hH := holds38 HO2
    have hcon := AnyQ.slices_SortFunc_eq Try.sortM 5 (fun w => by kernel_rfl) (fun w => by kernel_rfl) enc38 (fun _ => rfl) (fun x v hv => by simp [enc38] at hv; rcases hv with rfl | rfl | rfl | rfl | rfl <;> rfl) (fun x y => Lib.compareInt x.f1 y.f1) swoFrom 25 #[] g 0 cap xs.toArray w
      (enters_of Try.func25 (by kernel_rfl) rfl) (fun _ _ _ _ x y => closure25 x y _) hH hgl (by simpa using hn)
    change Calls Try.prog 24 _ _ _ at hcon
    refine hcon.mono ?_
    rintro e w' ⟨rfl, n, os, rfl⟩
    have hl : (sortM xs).length = xs.length := sortM_length xs
    refine ⟨rfl, below_sorted w g n _ os base h1 hb, _, _, rfl, ?_⟩
    have hs : (Go.Sort.pdq (ltOf fun x y : S38 => Lib.compareInt x.f1 y.f1) xs.toArray 0 xs.toArray.size (Lib.bitLen xs.toArray.size) true true) = (sortM xs).toArray := by simp [sortM]
    rw [hs]
    have := Go.Proofs.holdsK_sortWorldK enc38 5 w g 0 n xs.toArray (sortM xs).toArray os hgl hH (by simp [hl])
    have h3 := reads_of_holds this (by omega)
    rwa [hl] at h3

theorem bind_bad {l : List S38} {day week : Int} (h0 : checkM l = 0) (h : ¬ (0 ≤ day ∧ day < 7 ∧ 0 ≤ week ∧ week < 60)) : freeM l day week = ([], 1) := by unfold freeM; rw [if_pos h0, if_neg h]

section
variable {ops : Array Oper} {rest : List Oper} {o : Oper} {a : Act} {Q : Exit → Act → World → Prop}
/-- 'append(x, Span{..})' to a row of one's own, behind 'at_builtin'. -/
theorem append42 {w0 W : World} {base H : Nat} {v : Value} {xs : List S42} {x y : Int} (s q : Tmp) (ho : o.op = .call { callee := .builtin .append, args := #[.tmp s, .tmp q], argTypes := #[28, 28] }) (hgd : o.guard = none)
    (hs : a.eval (.tmp s) = v) (hx : a.eval (.tmp q) = .slice (some ⟨H, 0, none⟩) 1 1) (hH : W.heap.size = H) (HO : Kd.R k42 42 W base (fun _ => True) v xs) (HB : Below base w0 W) (hbase : base ≤ W.heap.size) (hl : xs.length ≤ 1000)
    (h : ∀ v1 w1, Kd.R k42 42 w1 base (fun _ => True) v1 (xs ++ [⟨x, y⟩]) → Below base w0 w1 → W.grownBy w1 v.ownBlock → wpList Try.prog ops Q rest (a.put o.dst v1) w1) :
    wpList Try.prog ops Q (o :: rest) a (W.alloc (.cells #[.int .i64 x, .int .i64 y] 42)) := by
  subst hH
  exact Kd.R_append k42 (w0 := w0) base hgd (.tmp s) (.tmp q) 28 42 (.agg #[.int .i64 0, .int .i64 0]) 16 ho Try.underlying28 info42 rfl (by decide) (by omega) v xs (⟨x, y⟩ : S42) [.int .i64 x, .int .i64 y] (fun _ => True) (fun _ => False) hs hx (k42_mkM _ _ _ (⟨x, y⟩ : S42)) (fun _ h => h.elim) (fun _ _ => trivial) HO HB hbase (by omega) (fun v1 w1 h1 h2 h3 _ => h v1 w1 h1 h2 h3)
end

set_option maxRecDepth 100000 in
set_option maxHeartbeats 4000000 in
theorem meeting_Free.calls (A0 : Option Addr) (c0 : Nat) (l0 : List (S38)) (a1 : Int) (a2 : Int) (r1 : List S42) (r2 : Int) (w : World) (hr0 : Kd.C k38 w A0 l0.length l0) (hc0 : l0.length ≤ c0) (h : meeting_Free.f l0 a1 a2 = some (r1, r2)) :
    Calls Try.prog 13 #[.slice A0 l0.length c0, .int .i64 a1, .int .i64 a2] w fun e w' => ∃ v0_ : Value, e = .returned (.tuple #[v0_, .int .i64 r2]) ∧ Kd.R k42 42 w' w.heap.size (fun _ => True) v0_ r1 ∧ Below w.heap.size w w' := by
  have hR : Aside0 ((r1, r2) = freeM l0 a1 a2) := ⟨(Option.some.inj h).symm⟩
  clear h
  have hu38 := Try.underlying38
  have hBox : Below w.heap.size w ((w.alloc (.cells #[.int .i64 a1] 3)).alloc (.cells #[.int .i64 a2] 3)) := ((Below.refl _ w).alloc (Nat.le_refl _) _).alloc (by simp) _
  have hck := Aside0.mk (meeting_Check.calls A0 c0 l0 _ _ (Kd.C_below hr0 hBox) hc0 rfl)
  by_cases ha : checkM l0 = 0
  · have hA : Aside0 (checkM l0 = 0) := ⟨ha⟩
    clear ha
    by_cases d1 : a1 < 0
    · have hans : Aside0 (r1 = [] ∧ r2 = 1) := ⟨by have := hR.out; rw [bind_bad hA.out (by omega)] at this; simpa using this⟩
      have k1 : decide (a1 < 0) = true := decide_eq_true d1
      clear d1
      go_enter Try.func13, Try.ntmps13
      go_wp2_with (go_at_call 17; refine hck.out.mono ?_; rintro e w1 ⟨rfl, hb1⟩; rw [hA.out]; have hB1 := hBox.trans (hb1.mono (by simp; omega)); have q1 : w1.cell? ⟨w.heap.size, 0, none⟩ = some (.int .i64 a1) := (hb1.cell (p := ⟨w.heap.size, 0, none⟩) (by simp; omega)).trans (by simp); have q2 : w1.cell? ⟨w.heap.size + 1, 0, none⟩ = some (.int .i64 a2) := (hb1.cell (p := ⟨w.heap.size + 1, 0, none⟩) (by simp)).trans (by simp); clear hb1)
      go_ret2
      exact ⟨_, by rw [hans.out.2]; rfl, by rw [hans.out.1]; exact Kd.R_nil _ _ _ _ _, hB1⟩
    · have k1 : decide (a1 < 0) = false := decide_eq_false d1
      by_cases d2 : 7 ≤ a1
      · have hans : Aside0 (r1 = [] ∧ r2 = 1) := ⟨by have := hR.out; rw [bind_bad hA.out (by omega)] at this; simpa using this⟩
        have k2 : decide (7 ≤ a1) = true := decide_eq_true d2
        clear d2
        go_enter Try.func13, Try.ntmps13
        go_wp2_with (go_at_call 17; refine hck.out.mono ?_; rintro e w1 ⟨rfl, hb1⟩; rw [hA.out]; have hB1 := hBox.trans (hb1.mono (by simp; omega)); have q1 : w1.cell? ⟨w.heap.size, 0, none⟩ = some (.int .i64 a1) := (hb1.cell (p := ⟨w.heap.size, 0, none⟩) (by simp; omega)).trans (by simp); have q2 : w1.cell? ⟨w.heap.size + 1, 0, none⟩ = some (.int .i64 a2) := (hb1.cell (p := ⟨w.heap.size + 1, 0, none⟩) (by simp)).trans (by simp); clear hb1)
        go_ret2
        exact ⟨_, by rw [hans.out.2]; rfl, by rw [hans.out.1]; exact Kd.R_nil _ _ _ _ _, hB1⟩
      · have k2 : decide (7 ≤ a1) = false := decide_eq_false d2
        by_cases d3 : a2 < 0
        · have hans : Aside0 (r1 = [] ∧ r2 = 1) := ⟨by have := hR.out; rw [bind_bad hA.out (by omega)] at this; simpa using this⟩
          have k3 : decide (a2 < 0) = true := decide_eq_true d3
          clear d3
          go_enter Try.func13, Try.ntmps13
          go_wp2_with (go_at_call 17; refine hck.out.mono ?_; rintro e w1 ⟨rfl, hb1⟩; rw [hA.out]; have hB1 := hBox.trans (hb1.mono (by simp; omega)); have q1 : w1.cell? ⟨w.heap.size, 0, none⟩ = some (.int .i64 a1) := (hb1.cell (p := ⟨w.heap.size, 0, none⟩) (by simp; omega)).trans (by simp); have q2 : w1.cell? ⟨w.heap.size + 1, 0, none⟩ = some (.int .i64 a2) := (hb1.cell (p := ⟨w.heap.size + 1, 0, none⟩) (by simp)).trans (by simp); clear hb1)
          go_ret2
          exact ⟨_, by rw [hans.out.2]; rfl, by rw [hans.out.1]; exact Kd.R_nil _ _ _ _ _, hB1⟩
        · have k3 : decide (a2 < 0) = false := decide_eq_false d3
          by_cases d4 : 60 ≤ a2
          · have hans : Aside0 (r1 = [] ∧ r2 = 1) := ⟨by have := hR.out; rw [bind_bad hA.out (by omega)] at this; simpa using this⟩
            have k4 : decide (60 ≤ a2) = true := decide_eq_true d4
            clear d4
            go_enter Try.func13, Try.ntmps13
            go_wp2_with (go_at_call 17; refine hck.out.mono ?_; rintro e w1 ⟨rfl, hb1⟩; rw [hA.out]; have hB1 := hBox.trans (hb1.mono (by simp; omega)); have q1 : w1.cell? ⟨w.heap.size, 0, none⟩ = some (.int .i64 a1) := (hb1.cell (p := ⟨w.heap.size, 0, none⟩) (by simp; omega)).trans (by simp); have q2 : w1.cell? ⟨w.heap.size + 1, 0, none⟩ = some (.int .i64 a2) := (hb1.cell (p := ⟨w.heap.size + 1, 0, none⟩) (by simp)).trans (by simp); clear hb1)
            go_ret2
            exact ⟨_, by rw [hans.out.2]; rfl, by rw [hans.out.1]; exact Kd.R_nil _ _ _ _ _, hB1⟩
          · have k4 : decide (60 ≤ a2) = false := decide_eq_false d4
            have HD := Aside0.mk (And.intro d1 (And.intro d2 (And.intro d3 d4)))
            clear d1 d2 d3 d4
            have hans : Aside0 (r1 = spansM (todayM l0 a1 a2) ∧ r2 = 0) := ⟨by have := hR.out; unfold freeM at this; rw [if_pos hA.out, if_pos (by have := HD.out; omega)] at this; simpa using this⟩
            have h16 : l0.length ≤ 16 := by
              have := hA.out
              unfold checkM at this
              by_cases h : 16 < l0.length
              · rw [if_pos h] at this; omega
              · omega
            go_enter Try.func13, Try.ntmps13
            go_wp2_with fail
            refine hck.out.mono ?_
            rintro e w1 ⟨rfl, hb1⟩
            rw [hA.out]
            have hB1 := hBox.trans (hb1.mono (by simp; omega))
            have q1 : w1.cell? ⟨w.heap.size, 0, none⟩ = some (.int .i64 a1) := (hb1.cell (p := ⟨w.heap.size, 0, none⟩) (by simp; omega)).trans (by simp)
            have q2 : w1.cell? ⟨w.heap.size + 1, 0, none⟩ = some (.int .i64 a2) := (hb1.cell (p := ⟨w.heap.size + 1, 0, none⟩) (by simp)).trans (by simp)
            go_wp2_with fail
            refine (clone_calls A0 c0 l0 _ (Kd.C_below hr0 hB1) (by omega)).mono ?_
            rintro e w2 ⟨v2, rfl, ho2, hb2⟩
            have hsz1 : w.heap.size + 2 ≤ w1.heap.size := by have := hb1.size; simpa using this
            have q1' : w2.cell? ⟨w.heap.size, 0, none⟩ = some (.int .i64 a1) := (hb2.cell (p := ⟨w.heap.size, 0, none⟩) (by simp; omega)).trans q1
            have q2' : w2.cell? ⟨w.heap.size + 1, 0, none⟩ = some (.int .i64 a2) := (hb2.cell (p := ⟨w.heap.size + 1, 0, none⟩) (by simp; omega)).trans q2
            go_wp2_with fail
            refine (delete_calls _ _ (offB a1 a2) v2 l0 w1.heap.size w2 ho2 hb2.size (fun W x hW => by
              simp only [ev38]
              exact off_calls a1 a2 _ _ x W ((hW.cell (p := ⟨w.heap.size, 0, none⟩) (by simp; omega)).trans q1') ((hW.cell (p := ⟨w.heap.size + 1, 0, none⟩) (by simp; omega)).trans q2') (by have := hW.size; have := hb2.size; omega) (by have := hW.size; have := hb2.size; omega))).mono ?_
            rintro e w3 ⟨v3, rfl, ho3, hb3⟩
            have hfl : (l0.filter fun x => !offB a1 a2 x).length ≤ l0.length := List.length_filter_le _ _
            go_wp2_with fail
            refine (sort_calls v3 _ w1.heap.size w3 ho3 (Nat.le_trans hb2.size hb3.size) (by omega)).mono ?_
            rintro e w4 ⟨rfl, hb4, A, c, rfl, hC4⟩
            have hB4 := hB1.trans ((hb2.trans (hb3.trans hb4)).mono hB1.size)
            have HT := Aside0.mk (show sortM (l0.filter fun x => !offB a1 a2 x) = todayM l0 a1 a2 from rfl)
            rw [HT.out] at hC4
            have hlen : (l0.filter fun x => !offB a1 a2 x).length = (todayM l0 a1 a2).length := by rw [todayM, sortM_length]
            rw [hlen] at hC4 ⊢
            rw [hlen] at hfl
            clear hlen HT ho3 hb3 hb2 ho2 q1' q2' q1 q2 hb1 hb4 hck hBox hB1 hsz1
            generalize todayM l0 a1 a2 = T at hC4 hfl hans ⊢
            go_wp2_with fail
            go_loopw [6, 10, 40] (fun v6 v10 v40 wr => ∃ (k : Nat) (frm : Int) (acc : List S42), k ≤ T.length ∧ v40 = .int .i64 k ∧ v10 = .int .i64 frm ∧ Aside0 (spansGo 0 [] T = spansGo frm acc (T.drop k)) ∧ acc.length ≤ k ∧ Aside0 (Kd.R k42 42 wr w4.heap.size (fun _ => True) v6 acc) ∧ Below w4.heap.size w4 wr)
              (fun _ _ v40 _ => T.length - (intOf v40).toNat)
            case atStart => exact ⟨0, 0, [], by omega, rfl, rfl, ⟨by simp⟩, by simp, ⟨Kd.R_nil _ _ _ _ _⟩, Below.refl _ _⟩
            case round =>
              obtain ⟨k, frm, acc, hk, rfl, rfl, hS, hal, hO, hB⟩ := hrel
              by_cases hlt : k < T.length
              · obtain ⟨ad, rfl, g0, g1, g2, g3, g4⟩ := at38 (Kd.C_below hC4 hB) hlt
                have hx : T.getD k z38 = T[k] := by simp [hlt]
                rw [hx] at g0 g1 g2 g3 g4
                have hd : Aside0 (T.drop k = T[k] :: T.drop (k + 1)) := ⟨List.drop_eq_getElem_cons hlt⟩
                have hBx := hB.alloc hB.size (.cells #[.int .i64 T[k].f0, .int .i64 T[k].f1, .int .i64 T[k].f2, .int .i64 T[k].f3, .int .i64 T[k].f4] 38)
                have hOx := Aside0.mk (Kd.R_alloc hO.out (.cells #[.int .i64 T[k].f0, .int .i64 T[k].f1, .int .i64 T[k].f2, .int .i64 T[k].f3, .int .i64 T[k].f4] 38))
                by_cases hf : frm < T[k].f1
                · have kf : decide (frm < T[k].f1) = true := decide_eq_true hf
                  have hS2 : Aside0 (spansGo 0 [] T = spansGo T[k].f2 (acc ++ [⟨frm, T[k].f1⟩]) (T.drop (k + 1))) := ⟨by rw [hS.out, hd.out, spansGo, if_pos hf]⟩
                  clear hf hS
                  have hltb : some wr.heap.size ≠ u6.ownBlock := fun e => Nat.lt_irrefl _ (Kd.R_lt hO.out _ e.symm)
                  have hbk : (wr.alloc (.cells #[.int .i64 T[k].f0, .int .i64 T[k].f1, .int .i64 T[k].f2, .int .i64 T[k].f3, .int .i64 T[k].f4] 38)).heap[wr.heap.size]? = some (.cells #[.int .i64 T[k].f0, .int .i64 T[k].f1, .int .i64 T[k].f2, .int .i64 T[k].f3, .int .i64 T[k].f4] 38) := World.alloc_heap_new wr _
                  have HBK := Aside0.mk (And.intro hltb (show ∀ W7 : World, W7.heap[wr.heap.size]? = (wr.alloc (.cells #[.int .i64 T[k].f0, .int .i64 T[k].f1, .int .i64 T[k].f2, .int .i64 T[k].f3, .int .i64 T[k].f4] 38)).heap[wr.heap.size]? → W7.cell? ⟨wr.heap.size, 2, none⟩ = some (.int .i64 T[k].f2) from fun W7 e => by have hb := e.trans hbk; simp [World.cell?, hb]))
                  have HBX := Aside0.mk hBx
                  clear hltb hbk hBx
                  go_wp2_with ((with_reducible refine gate_builtin (b := .append) (xs := #[.tmp 48, .tmp 53]) rfl ?_); at_builtin; refine append42 (w0 := w4) 48 53 (by rfl) (by rfl) (by rfl) (by rfl) (by simp) hOx.out HBX.out (HBX.out).size (by omega) ?_; intro v7 w7 ho7 hb7 hg7; have y2 := HBK.out.2 _ (hg7.block wr.heap.size (by simp) HBK.out.1); clear hg7; have HO7 := Aside0.mk ho7; clear ho7)
                  go_roundw
                  case rel => exact ⟨k + 1, T[k].f2, acc ++ [⟨frm, T[k].f1⟩], by omega, by simp, rfl, hS2, by simp; omega, HO7, hb7⟩
                  case measure => simp [intOf]; omega
                · have kf : decide (frm < T[k].f1) = false := decide_eq_false hf
                  have hS2 : Aside0 (spansGo 0 [] T = spansGo T[k].f2 acc (T.drop (k + 1))) := ⟨by rw [hS.out, hd.out, spansGo, if_neg hf]⟩
                  clear hf hS
                  go_wp2_with fail
                  go_roundw
                  case rel => exact ⟨k + 1, T[k].f2, acc, by omega, by simp, rfl, hS2, by omega, hOx, hBx⟩
                  case measure => simp [intOf]; omega
              · have hS2 : Aside0 (spansGo 0 [] T = (acc, frm)) := ⟨by rw [hS.out, List.drop_of_length_le (by omega), spansGo]⟩
                clear hS
                have hfin : ∀ (W : World) (v : Value) (out : List S42), Below w4.heap.size w4 W → Kd.R k42 42 W w4.heap.size (fun _ => True) v out → Kd.R k42 42 W w.heap.size (fun _ => True) v out ∧ Below w.heap.size w W := fun W v out h1 h2 => ⟨Kd.R_lower h2 hB4.size, hB4.trans (h1.mono hB4.size)⟩
                have HFin := Aside0.mk hfin
                clear hfin
                by_cases hf : frm < 1440
                · have kf : decide (frm < 1440) = true := decide_eq_true hf
                  have hans2 : Aside0 (r1 = acc ++ [⟨frm, 1440⟩] ∧ r2 = 0) := ⟨by rw [hans.out.1, hans.out.2]; unfold spansM; rw [hS2.out, if_pos hf]; exact ⟨rfl, rfl⟩⟩
                  clear hf
                  go_wp2_with ((with_reducible refine gate_builtin (b := .append) (xs := #[.tmp 60, .tmp 63]) rfl ?_); at_builtin; refine append42 (w0 := w4) 60 63 (by rfl) (by rfl) (by rfl) (by rfl) rfl hO.out hB (hB).size (by omega) ?_; intro v7 w7 ho7 hb7 hg7; clear hg7; have HO7 := Aside0.mk ho7; clear ho7)
                  go_ret2
                  exact ⟨_, by rw [hans2.out.2]; rfl, by rw [hans2.out.1]; exact (HFin.out _ _ _ hb7 HO7.out).1, (HFin.out _ _ _ hb7 HO7.out).2⟩
                · have kf : decide (frm < 1440) = false := decide_eq_false hf
                  have hans2 : Aside0 (r1 = acc ∧ r2 = 0) := ⟨by rw [hans.out.1, hans.out.2]; unfold spansM; rw [hS2.out, if_neg hf]; exact ⟨rfl, rfl⟩⟩
                  clear hf
                  go_wp2_with fail
                  go_ret2
                  exact ⟨_, by rw [hans2.out.2]; rfl, by rw [hans2.out.1]; exact (HFin.out _ _ _ hB hO.out).1, (HFin.out _ _ _ hB hO.out).2⟩
  · have hA : Aside0 (¬ checkM l0 = 0) := ⟨ha⟩
    have hn : (checkM l0 != 0) = true := bne_iff_ne.2 ha
    clear ha
    have hans : Aside0 (r1 = [] ∧ r2 = checkM l0) := ⟨by have := hR.out; unfold freeM at this; rw [if_neg hA.out] at this; simpa using this⟩
    go_enter Try.func13, Try.ntmps13
    go_wp2_with (go_at_call 17; refine hck.out.mono ?_; rintro e w1 ⟨rfl, hb1⟩)
    go_ret2
    exact ⟨_, by rw [hans.out.2]; rfl, by rw [hans.out.1]; exact Kd.R_nil _ _ _ _ _, hBox.trans (hb1.mono (by simp; omega))⟩
end Go.Proofs.Ytlcckkimbkfjpaa.G
