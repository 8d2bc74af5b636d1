/- Part 5 of the proof of the claim; the conditions are the statement's own. Own texts and printed texts, merged by pack.py (ours). -/
import Derived.Test.YtamajnhdibcpiaaRows
import Derived.Deep.Slices
import Derived.Deep.Fields
import Derived.ChangeSame
import Derived.WalkKit
import Derived.ProofKit
import Derived.OpenShut
import Derived.ChangeOld
import Derived.Below
import Derived.SizedLaws
import Derived.ShutString
import Derived.Test.YtamajnhdibcpiaaKA3
namespace Go.Proofs.Ytamajnhdibcpiaa.G
open Go.RowKit Go.Proofs.YtamajnhdibcpiaaW.PrintWords Go.Proofs.YtamajnhdibcpiaaW.PrintLast Go.Proofs.YtamajnhdibcpiaaW.PrintMore
set_option linter.unusedVariables false
set_option linter.unusedSimpArgs false
theorem ptsTo_prefix (f : Nat → Int) (frm upt : Int) (c : Nat) : ∀ d, ptsTo f frm upt c <+: ptsTo f frm upt (c + d)
  | 0 => List.prefix_rfl
  | d + 1 => by
    refine (ptsTo_prefix f frm upt c d).trans ?_
    rw [show c + (d + 1) = (c + d) + 1 by omega, ptsTo_succ]
    split
    · exact List.prefix_append _ _
    · exact List.prefix_rfl
theorem ptsTo_here (f : Nat → Int) (frm upt : Int) (c : Nat) (hc : c < 1024) (h : frm ≤ (c : Int) ∧ (c : Int) < upt ∧ 0 ≤ f c) : (ptsTo f frm upt c).length < (ptsTo f frm upt 1024).length ∧ (ptsTo f frm upt 1024).getD (ptsTo f frm upt c).length z60 = ⟨(c : Int), f c⟩ := by
  have h1 := ptsTo_prefix f frm upt (c + 1) (1024 - (c + 1))
  rw [show c + 1 + (1024 - (c + 1)) = 1024 by omega, ptsTo_succ, if_pos h] at h1
  obtain ⟨r, hr⟩ := h1
  rw [← hr]
  refine ⟨by simp, ?_⟩
  simp
theorem points_from (x0 : List S28) (key : S24) (frm upt known : Int) : ∀ (d c : Nat), 1024 - c = d → c ≤ 1024 → Evt (fun k => sizarlaw07_FactsPoints.l0 k x0 frm upt known (pointsM x0 key frm upt known) ((ptsTo (fun t : Nat => valM x0 key known (t : Int)) frm upt c).length : Int) (c : Int) key.f0 key.f1 key.f2) true := by
  intro d
  induction d with
  | zero =>
    intro c hd hc
    obtain rfl : c = 1024 := by omega
    exact ⟨1, fun k hk => by
      obtain ⟨m, rfl⟩ : ∃ m, k = m + 1 := ⟨k - 1, by omega⟩
      simp only [sizarlaw07_FactsPoints.l0]; rw [if_neg (by omega)]
      simp [pointsM]⟩
  | succ d ih =>
    intro c hd hc
    have hnext := ih (c + 1) (by omega) (by omega)
    rw [ptsTo_succ] at hnext
    have hlen := ptsTo_length (fun t : Nat => valM x0 key known (t : Int)) frm upt c
    by_cases hv : 0 ≤ valM x0 key known (c : Int)
    · by_cases h : frm ≤ (c : Int) ∧ (c : Int) < upt
      · have hh := ptsTo_here (fun t : Nat => valM x0 key known (t : Int)) frm upt c (by omega) ⟨h.1, h.2, hv⟩
        rw [if_pos ⟨h.1, h.2, hv⟩] at hnext
        have h2 : Evt (fun k => sizarlaw07_FactsPoints.j2 k x0 frm upt known (pointsM x0 key frm upt known) ((ptsTo (fun t : Nat => valM x0 key known (t : Int)) frm upt c).length : Int) (c : Int) (valM x0 key known (c : Int)) false key.f0 key.f1 key.f2) true := hnext.succ fun k => by
          have hrd : rd_T60 (pointsM x0 key frm upt known) ((ptsTo (fun t : Nat => valM x0 key known (t : Int)) frm upt c).length : Int) = ⟨(c : Int), valM x0 key known (c : Int)⟩ := by
            unfold rd_T60 pointsM; rw [Int.toNat_natCast]; exact hh.2
          have hl2 : ((ptsTo (fun t : Nat => valM x0 key known (t : Int)) frm upt c).length : Int) < ((pointsM x0 key frm upt known).length : Int) := by unfold pointsM; exact Int.ofNat_lt.2 hh.1
          simp only [sizarlaw07_FactsPoints.j2]
          rw [if_neg (by simp), if_neg (by omega), if_pos (by omega), if_pos hl2, hrd, if_pos rfl, if_pos rfl, w64 (by omega) (by omega), w64 (by omega) (by omega)]
          simp
        refine h2.succ fun k => ?_
        simp only [sizarlaw07_FactsPoints.l0, facts_At.f, Option.bind_some, at_val]
        rw [if_pos (by omega), if_pos (by simpa using hv), if_neg (by omega), if_pos hv]
        rw [show decide ((c : Int) ≥ upt) = false by simp; omega]
      · rw [if_neg (fun h3 => h ⟨h3.1, h3.2.1⟩)] at hnext
        have h2 : Evt (fun k => sizarlaw07_FactsPoints.j2 k x0 frm upt known (pointsM x0 key frm upt known) ((ptsTo (fun t : Nat => valM x0 key known (t : Int)) frm upt c).length : Int) (c : Int) (valM x0 key known (c : Int)) true key.f0 key.f1 key.f2) true := hnext.succ fun k => by
          simp only [sizarlaw07_FactsPoints.j2]
          rw [if_pos trivial, w64 (by omega) (by omega)]; simp
        refine h2.succ fun k => ?_
        simp only [sizarlaw07_FactsPoints.l0, facts_At.f, Option.bind_some, at_val]
        rw [if_pos (by omega), if_pos (by simpa using hv), if_pos hv]
        split
        · rfl
        · rw [show decide ((c : Int) ≥ upt) = true by simp; omega]
    · rw [if_neg (fun h3 => hv h3.2.2)] at hnext
      have h2 : Evt (fun k => sizarlaw07_FactsPoints.j2 k x0 frm upt known (pointsM x0 key frm upt known) ((ptsTo (fun t : Nat => valM x0 key known (t : Int)) frm upt c).length : Int) (c : Int) 0 true key.f0 key.f1 key.f2) true := hnext.succ fun k => by
        simp only [sizarlaw07_FactsPoints.j2]
        rw [if_pos trivial, w64 (by omega) (by omega)]; simp
      refine h2.succ fun k => ?_
      simp only [sizarlaw07_FactsPoints.l0, facts_At.f, Option.bind_some, at_val]
      rw [if_pos (by omega), if_neg (by simpa using hv), if_neg hv]
theorem points_j (x0 : List S28) (key : S24) (frm upt known : Int) : Evt (fun k => sizarlaw07_FactsPoints.j0 k x0 frm upt known key.f0 key.f1 key.f2) true :=
  (points_from x0 key frm upt known 1024 0 rfl (by omega)).succ fun k => by
    simp only [sizarlaw07_FactsPoints.j0, facts_Points.f, Option.bind_some]
    rfl
theorem points_law (l0 : List S28) (a b c frm upt known : Int) : ∃ k, sizarlaw07_FactsPoints.f k l0 a b c frm upt known = some true := by
  refine Evt.ex (r := true) ?_
  unfold sizarlaw07_FactsPoints.f
  refine sane_all.bind ?_
  simp only [if_true, sizarref07_Few.f, Option.bind_some]
  by_cases hf : decide ((l0.length : Int) ≤ 30) = true
  · simp only [if_pos hf]
    by_cases h0 : (l0.length : Int) > 0
    · have hn := and31_nonneg b
      have h1 : 0 ≤ Int.tmod (Go.bits .and .i64 b 31) (l0.length : Int) := Int.tmod_nonneg _ hn
      have h2 : Int.tmod (Go.bits .and .i64 b 31) (l0.length : Int) < (l0.length : Int) := Int.tmod_lt_of_pos _ h0
      simp only [if_pos h0, if_neg (show ¬ (l0.length : Int) = 0 by omega), if_pos h1, if_pos h2]
      exact points_j l0 ⟨_, _, _⟩ frm upt known
    · simp only [if_neg h0]
      exact points_j l0 ⟨_, _, _⟩ frm upt known
  · simp only [if_neg hf]
    exact Evt.of fun k => rfl
end Go.Proofs.Ytamajnhdibcpiaa.G
namespace Go.Proofs.Ytamajnhdibcpiaa.G
open Go.ChangeShapes Go.WideShapes Go.Deep Go.ChangeAt Go.RowKit Go.Proofs.YtamajnhdibcpiaaW.PrintWords Go.Proofs.YtamajnhdibcpiaaW.PrintLast
set_option linter.unusedVariables false
set_option maxRecDepth 100000
theorem own : ownKnob Try.prog.godebug = none := by kernel_rfl
def wfi (n : Int) : Bool := (Lit.int .i64 n).wf
def wf28 (x : S28) : Bool := wfK x.f0 && (wfi x.f1 && (wfi x.f2.f0 && (wfi x.f2.f1 && (wfi x.f3 && wfi x.f4))))
theorem cells26 : Try.prog.cellsOf 26 = 2 := by kernel_rfl
theorem cells28n : Try.prog.cellsOf 28 = 8 := by kernel_rfl
section
variable {H : Type} {enc : TypeId × Value → H} {w : World} {base : Nat} {spare : Nat → Bool} {held : Bool} {fuel : Nat} {cs : List Value} {x : DataW H × List MemPlace}
theorem t24 (hl : cs.length = 3) (h : DataW.trod enc Try.prog w base spare held fuel 24 cs = some x) : ∃ k : S24, cs = [.int .i64 k.f0, .int .i64 k.f1, .int .i64 k.f2] ∧ wfK k = true := by
  match cs, hl with
  | [c0, c1, c2], _ =>
    obtain ⟨xs, n, _, hx, _, hlen, hg⟩ := DataW.trod_struct Try.underlying24 h
    match xs, hlen with
    | [y0, y1, y2], _ =>
      have t0 : DataW.trod enc Try.prog w base spare held n 3 [c0] = some y0 := hg 0 _ rfl
      have t1 : DataW.trod enc Try.prog w base spare held n 3 [c1] = some y1 := hg 1 _ rfl
      have t2 : DataW.trod enc Try.prog w base spare held n 3 [c2] = some y2 := hg 2 _ rfl
      obtain ⟨n0, e0, _, w0⟩ := DataW.trod_int Try.underlying3 t0
      obtain ⟨n1, e1, _, w1⟩ := DataW.trod_int Try.underlying3 t1
      obtain ⟨n2, e2, _, w2⟩ := DataW.trod_int Try.underlying3 t2
      cases e0; cases e1; cases e2
      exact ⟨⟨n0, n1, n2⟩, rfl, by simp [wfK, w0, w1, w2]⟩
theorem t26 (hl : cs.length = 2) (h : DataW.trod enc Try.prog w base spare held fuel 26 cs = some x) : ∃ k : S26, cs = [.int .i64 k.f0, .int .i64 k.f1] ∧ (wfi k.f0 && wfi k.f1) = true := by
  match cs, hl with
  | [c0, c1], _ =>
    obtain ⟨xs, n, _, hx, _, hlen, hg⟩ := DataW.trod_struct Try.underlying26 h
    match xs, hlen with
    | [y0, y1], _ =>
      have t0 : DataW.trod enc Try.prog w base spare held n 3 [c0] = some y0 := hg 0 _ rfl
      have t1 : DataW.trod enc Try.prog w base spare held n 3 [c1] = some y1 := hg 1 _ rfl
      obtain ⟨n0, e0, _, w0⟩ := DataW.trod_int Try.underlying3 t0
      obtain ⟨n1, e1, _, w1⟩ := DataW.trod_int Try.underlying3 t1
      cases e0; cases e1
      exact ⟨⟨n0, n1⟩, rfl, by simp [wfi, w0, w1]⟩
theorem t28 (hl : cs.length = 8) (h : DataW.trod enc Try.prog w base spare held fuel 28 cs = some x) :
    ∃ k : S28, cs = [.int .i64 k.f0.f0, .int .i64 k.f0.f1, .int .i64 k.f0.f2, .int .i64 k.f1, .int .i64 k.f2.f0, .int .i64 k.f2.f1, .int .i64 k.f3, .int .i64 k.f4] ∧ wf28 k = true := by
  match cs, hl with
  | [c0, c1, c2, c3, c4, c5, c6, c7], _ =>
    obtain ⟨xs, n, _, hx, _, hlen, hg⟩ := DataW.trod_struct Try.underlying28 h
    match xs, hlen with
    | [y0, y1, y2, y3, y4], _ =>
      have t0 : DataW.trod enc Try.prog w base spare held n 24 (([c0, c1, c2, c3, c4, c5, c6, c7].drop 0).take (Try.prog.cellsOf 24)) = some y0 := hg 0 _ rfl
      have t1 : DataW.trod enc Try.prog w base spare held n 3 [c3] = some y1 := hg 1 _ rfl
      have t2 : DataW.trod enc Try.prog w base spare held n 26 (([c0, c1, c2, c3, c4, c5, c6, c7].drop 4).take (Try.prog.cellsOf 26)) = some y2 := hg 2 _ rfl
      have t3 : DataW.trod enc Try.prog w base spare held n 3 [c6] = some y3 := hg 3 _ rfl
      have t4 : DataW.trod enc Try.prog w base spare held n 3 [c7] = some y4 := hg 4 _ rfl
      rw [cells24] at t0
      rw [cells26] at t2
      obtain ⟨k0, e0, w0⟩ := t24 rfl t0
      obtain ⟨n1, e1, _, w1⟩ := DataW.trod_int Try.underlying3 t1
      obtain ⟨k2, e2, w2⟩ := t26 rfl t2
      obtain ⟨n3, e3, _, w3⟩ := DataW.trod_int Try.underlying3 t3
      obtain ⟨n4, e4, _, w4⟩ := DataW.trod_int Try.underlying3 t4
      cases e0; cases e1; cases e2; cases e3; cases e4
      refine ⟨⟨k0, n1, k2, n3, n4⟩, rfl, ?_⟩
      simp only [Bool.and_eq_true] at w2
      simp only [wf28, Bool.and_eq_true]
      exact ⟨w0, w1, w2.1, w2.2, w3, w4⟩
end
section
variable {H : Type} {enc : TypeId × Value → H} {W : World} {base b0 : Nat} {r : Reach} {spare : Nat → Bool} {held : Bool} {a : Option Addr} {len cap : Nat} {d : DataW H} {p : List MemPlace} {v : Value}
theorem open28 (h : DataW.Trod enc Try.prog W base spare held 22 (.slice a len cap) d p) : ∃ l : List S28, len = l.length ∧ Kd.C k28 W a l.length l ∧ l.length ≤ cap ∧ ∀ x ∈ l, wf28 x = true := by
  obtain ⟨fuel, hf⟩ := h
  rcases open_slice Try.underlying22 hf with ⟨hcs, _⟩ | ⟨x, l, c, m, n, D, Pl, hcs, _, hl, hm, hmm, _, hi⟩
  · simp [Value.cells] at hcs
    obtain ⟨rfl, rfl, rfl⟩ := hcs
    exact ⟨[], rfl, ⟨rfl, by simp, fun h => absurd h (by simp)⟩, by simp, by simp⟩
  · simp [Value.cells] at hcs
    obtain ⟨rfl, rfl, rfl⟩ := hcs
    have hlm : len ≤ m := by rw [hmm]; split <;> omega
    have hel : ∀ i, i < len → ∃ y : S28, (∀ q u, [Value.int .i64 y.f0.f0, .int .i64 y.f0.f1, .int .i64 y.f0.f2, .int .i64 y.f1, .int .i64 y.f2.f0, .int .i64 y.f2.f1, .int .i64 y.f3, .int .i64 y.f4][q]? = some u → W.cell? (x.add (i * 8 + q)) = some u) ∧ wf28 y = true := by
      intro i hi2
      obtain ⟨cs', hc, ht'⟩ := hi i (by omega)
      rw [cells28n] at hc
      obtain ⟨_, hcl, hat⟩ := World.cells?_some hc
      obtain ⟨k, rfl, hk⟩ := t28 hcl ht'
      refine ⟨k, fun q u hq => ?_, hk⟩
      have hq8 : q < 8 := (List.getElem?_eq_some_iff.1 hq).1
      rw [← Go.Deep.add_add, hat q hq8]
      exact hq
    refine ⟨(List.range len).map fun i => if h : i < len then (hel i h).choose else z28, by simp, ⟨rfl, by simp; unfold maxLen at hm; omega, fun _ => ⟨x, rfl, fun j y hj => ?_⟩⟩, by simp; exact hl, ?_⟩
    · obtain ⟨hj1, hj2⟩ := List.getElem?_eq_some_iff.1 hj
      simp only [List.length_map, List.length_range] at hj1
      simp only [List.getElem_map, List.getElem_range, hj1, dif_pos] at hj2
      subst hj2
      exact ⟨_, rfl, k28_mk W _, (hel j hj1).choose_spec.1⟩
    · intro y hy
      obtain ⟨j, hj, rfl⟩ := List.mem_map.1 hy
      have hj1 : j < len := by simpa using hj
      rw [dif_pos hj1]
      exact (hel j hj1).choose_spec.2
theorem open24 (hv : Value.okWide Try.prog W r b0 24 v) (h : DataW.Trod enc Try.prog W base spare held 24 v d p) :
    ∃ n0 n1 n2 : Int, v = .agg #[.int .i64 n0, .int .i64 n1, .int .i64 n2] ∧ wfK ⟨n0, n1, n2⟩ = true := by
  obtain ⟨cs, rfl, hsz⟩ := okWide_struct Try.underlying24 hv
  obtain ⟨l⟩ := cs
  obtain ⟨fuel, hf⟩ := h
  obtain ⟨k, e, hk⟩ := t24 (cs := l) (hsz.trans cells24) hf
  exact ⟨k.f0, k.f1, k.f2, by rw [e], hk⟩
end
end Go.Proofs.Ytamajnhdibcpiaa.G
namespace Go.Proofs.Ytamajnhdibcpiaa.factsPoints
open Go.ChangeShapes Go.WideShapes Go.ChangeAt Go.RowKit Go.Proofs.Ytamajnhdibcpiaa.G
set_option linter.unusedVariables false
set_option maxRecDepth 100000 in
theorem lifted (os : Os) (started : os.Started) (H : Type) (enc : TypeId × Value → H) :
    ReturnsInHanded {} Try.checked os 10 .any (Rows.factsPointsSpec.pre6 enc Try.prog Try.f10 Rows.factsPointsRow.domain false) (Rows.factsPointsSpec.post enc Try.prog Try.f10 false true false false) := by
  refine returnsInHanded_of_change_sized (C := Try.checked) own started (by kernel_rfl) Try.func10
    (ChangeSpec.witness6 (enc := enc) (C := Try.checked) false ⟨#[], #[.slice none 0 0, .agg #[.int .i64 0, .int .i64 0, .int .i64 0], .int .i64 0, .int .i64 0, .int .i64 0], []⟩ 8 (by kernel_rfl) (by kernel_rfl) (by kernel_rfl) (by kernel_rfl)) ?_
  intro W base args ds gs before hval0 hW hcnd hsz0 _
  have hval : ∀ (j : Nat) t v, Try.f10.params[j]? = some t → args[j]? = some v → Value.okWide Try.prog W .any base t v := hval0
  have hW' := hW
  obtain ⟨p, q, hA0, hV, rfl, hfz, hnd⟩ := hW
  have hA : DataW.TrodAll enc Try.prog W 0 (fun _ => true) true Try.f10.params.toList args.toList ds p := hA0
  rw [Try.params10] at hA hval
  obtain ⟨v0, vs0, d0, ds0, p0, q0, hargs, rfl, rfl, h0, r0⟩ := trodAll_cons hA
  obtain ⟨v1, vs1, d1, ds1, p1, q1, rfl, rfl, rfl, h1, r1⟩ := trodAll_cons r0
  obtain ⟨v2, vs2, d2, ds2, p2, q2, rfl, rfl, rfl, h2, r2⟩ := trodAll_cons r1
  obtain ⟨v3, vs3, d3, ds3, p3, q3, rfl, rfl, rfl, h3, r3⟩ := trodAll_cons r2
  obtain ⟨v4, vs4, d4, ds4, p4, q4, rfl, rfl, rfl, h4, r4⟩ := trodAll_cons r3
  obtain ⟨rfl, rfl, rfl⟩ := trodAll_nil r4
  obtain rfl : args = #[v0, v1, v2, v3, v4] := by cases args; simp_all
  obtain ⟨rfl, rfl⟩ := trodVars_none hV
  obtain ⟨a0, len0, cap0, rfl⟩ := okWide_slice Try.underlying22 (hval 0 22 v0 rfl rfl)
  have k0 := h0
  have lt0 : ∀ x ∈ p0, x.block < W.heap.size := by obtain ⟨m, hm⟩ := k0; exact DataW.trod_lt m _ _ _ hm
  obtain ⟨z0, rfl, w0, y0, f0⟩ := open28 h0
  have k1 := h1
  have lt1 : ∀ x ∈ p1, x.block < W.heap.size := by obtain ⟨m, hm⟩ := k1; exact DataW.trod_lt m _ _ _ hm
  obtain ⟨a1_0, a1_1, a1_2, rfl, f1⟩ := open24 (hval 1 24 v1 rfl rfl) h1
  obtain ⟨a2, rfl, rfl, rfl, w2⟩ := open_int Try.underlying3 (hval 2 3 v2 rfl rfl) h2
  obtain ⟨a3, rfl, rfl, rfl, w3⟩ := open_int Try.underlying3 (hval 3 3 v3 rfl rfl) h3
  obtain ⟨a4, rfl, rfl, rfl, w4⟩ := open_int Try.underlying3 (hval 4 3 v4 rfl rfl) h4
  clear hA0 hval0
  obtain ⟨k, hk⟩ := points_law z0 a1_0 a1_1 a1_2 a2 a3 a4
  refine (G.sizarlaw07_FactsPoints.calls k a0 cap0 z0 a1_0 a1_1 a1_2 a2 a3 a4 true W w0 y0 hk).mono fun e W' ⟨he, bel⟩ => ?_
  subst he
  exact ⟨_, rfl, _, _, _, [], _, [], hW', trodAll_mk1 (shut_bool Try.underlying4 _), (trodAll_cons_mk (Below.trod laidOut (by kernel_rfl) (of_decide_eq_true (by kernel_rfl)) k0 bel lt0) (trodAll_cons_mk (Below.trod laidOut (by kernel_rfl) (of_decide_eq_true (by kernel_rfl)) k1 bel lt1) (trodAll_cons_mk (shut_int Try.underlying3 w2) (trodAll_cons_mk (shut_int Try.underlying3 w3) (trodAll_cons_mk (shut_int Try.underlying3 w4) trodAll_mk0))))), rfl, bel.frame _, fun h => by cases h⟩
theorem over : Rows.factsPointsRow.holds Try.pinned (OpenSpec.ofChange Rows.factsPointsSpec) :=
  OpenClaim.holds_of_wide 10 Try.f10 rfl rfl rfl rfl rfl rfl rfl ⟨rfl, rfl, rfl, rfl, rfl⟩ rfl rfl rfl rfl rfl (by kernel_rfl) Try.func10 (by kernel_rfl)
    (of_decide_eq_true (by kernel_rfl)) (by unfold Func.isWrapper; first | (rw [if_pos (by decide +kernel)]; kernel_rfl) | (rw [if_neg (by decide +kernel)]; exact ⟨rfl, rfl⟩))
    (fun os started H enc _ => lifted os started H enc)
theorem proved : Rows.FactsPointsSaid := over
end Go.Proofs.Ytamajnhdibcpiaa.factsPoints
namespace Go.Proofs.Ytamajnhdibcpiaa
/-- The row, under a short name, for the claim. -/
theorem factsPoints_holds : Rows.FactsPointsSaid := factsPoints.proved
end Go.Proofs.Ytamajnhdibcpiaa
