import Derived.Test.YtlcckkimbkfjpaaGdel0
namespace Go.Proofs.Ytlcckkimbkfjpaa.G
open Go.RowKit Go.Shelf Go.Proofs.YtlcckkimbkfjpaaW.PrintWords Go.Proofs.YtlcckkimbkfjpaaW.PrintLast Go.Proofs.YtlcckkimbkfjpaaW.PrintMore
set_option linter.unusedVariables false
set_option maxRecDepth 100000 in
set_option maxHeartbeats 4000000 in
theorem delete_calls (b1 b2 : Nat) (p : S38 → Bool) (v : Value) (xs : List S38) (base : Nat) (w : World) (ho : Kd.R k38 38 w base (fun _ => True) v xs) (hbw : base ≤ w.heap.size)
    (hp : ∀ (W : World) (x : S38), Below base w W → Calls Try.prog 23 #[ev38 x, .pointer (some ⟨b1, 0, none⟩), .pointer (some ⟨b2, 0, none⟩)] W fun e w' => e = .returned (.bool (p x)) ∧ Below W.heap.size W w') :
    Calls Try.prog 21 #[v, .func (.func 23) #[] #[.pointer (some ⟨b1, 0, none⟩), .pointer (some ⟨b2, 0, none⟩)]] w fun e w' => ∃ v', e = .returned v' ∧ Kd.R k38 38 w' base (fun _ => True) v' (xs.filter fun x => !p x) ∧ Below base w w' := by
  obtain ⟨A, cap, rfl, hcap, hC⟩ := Kd.R_reads ho
  have HI := Aside0.mk (index_clo b1 b2 p A cap xs w hC (fun W x hb => hp W x (hb.mono hbw)))
  have HP := Aside0.mk hp
  clear hp
  have hlen : xs.length ≤ 9223372036854775807 := hC.2.1
  have hu38 := Try.underlying38
  cases ha : xs.any p with
  | false =>
    have hm : Aside0 (idxM p xs 0 = -1) := ⟨(idxM_from p xs 0 (by omega)).2 ha⟩
    have hf : Aside0 (xs.filter (fun x => !p x) = xs) := ⟨filter_none p xs ha⟩
    clear ha
    go_enter Try.func21, Try.ntmps21
    go_wp2_with (go_at_call 34; refine HI.out.mono ?_; rintro e w1 ⟨rfl, hb1⟩; rw [hm.out])
    go_ret
    exact ⟨_, rfl, by rw [hf.out]; exact Kd.R_below ho hb1, hb1.mono hbw⟩
  | true =>
    obtain ⟨i0, hi0, hi1, hi2⟩ := idxM_spec p xs 0 ha
    have hm : Aside0 (idxM p xs 0 = (i0 : Int)) := ⟨by rw [show (0 : Int) = ((0 : Nat) : Int) from rfl, hi0]; simp⟩
    clear ha hi0
    obtain ⟨ad, rfl, _⟩ := hC.2.2 (by omega)
    obtain ⟨g, hg⟩ : ∃ g, ad = ⟨g, 0, none⟩ := by
      obtain ⟨_, inner, hown, _⟩ := ho
      rcases hown.2 with ⟨e, _⟩ | ⟨g, _, _, e, _⟩
      · cases e
      · cases e; exact ⟨g, rfl⟩
    subst hg
    clear hC
    have hne : ((i0 : Int) == -1) = false := by rw [beq_eq_false_iff_ne]; omega
    have hgb : base ≤ g := Kd.R_base ho g (by simp [Value.ownBlock])
    go_enter Try.func21, Try.ntmps21
    go_wp2_with (go_at_call 34; refine HI.out.mono ?_; rintro e w1 ⟨rfl, hb1⟩; rw [hm.out])
    have hB1 := hb1.mono hbw
    have ho1 := Kd.R_below ho hb1
    clear HI hm hb1 ho hne
    go_loopw [5, 6] (fun vi vj wr => ∃ (i j : Nat) (zs : List S38), vi = .int .i64 i ∧ vj = .int .i64 j ∧ i + 1 ≤ j ∧ j ≤ xs.length ∧ Aside0 (zs.length = xs.length ∧ zs.take i = (xs.take j).filter (fun x => !p x) ∧ zs.drop j = xs.drop j) ∧
        Aside0 (Kd.R k38 38 wr base (fun _ => True) (.slice (some ⟨g, 0, none⟩) xs.length cap) zs) ∧ Below base w wr)
      (fun _ vj _ => xs.length - (intOf vj).toNat)
    case atStart => exact ⟨i0, i0 + 1, xs, rfl, by simp, by omega, by omega, ⟨rfl, hi2.symm, rfl⟩, ⟨ho1⟩, hB1⟩
    case round =>
      obtain ⟨i, j, zs, rfl, rfl, hij, hj, hz, hO, hB⟩ := hrel
      by_cases hlt : j < xs.length
      · have hzj : zs.getD j z38 = xs[j] := getD_of_drop hz.out.2.2 hlt hz.out.1
        have hzl := hz.out.1
        obtain ⟨ad, had, g0, g1, g2, g3, g4⟩ := at38 (Kd.R_reads' hO.out).2.2 (k := j) (by omega)
        rw [hzj] at g0 g1 g2 g3 g4
        cases had
        simp only [add_plain] at g0 g1 g2 g3 g4
        have hbs := Nat.le_trans hbw hB.size
        have hO2 : Kd.R k38 38 wr base (fun _ => True) (.slice (some ⟨g, 0, none⟩) xs.length cap) zs := hO.out
        have hB2 := hB.alloc hbs (.cells #[.int .i64 xs[j].f0, .int .i64 xs[j].f1, .int .i64 xs[j].f2, .int .i64 xs[j].f3, .int .i64 xs[j].f4] 38)
        have hcl := Aside0.mk (HP.out (wr.alloc (.cells #[.int .i64 xs[j].f0, .int .i64 xs[j].f1, .int .i64 xs[j].f2, .int .i64 xs[j].f3, .int .i64 xs[j].f4] 38)) xs[j] hB2)
        have hHold : Aside0 (Kd.R k38 38 wr base (fun _ => True) (.slice (some ⟨g, 0, none⟩) xs.length cap) zs) := ⟨hO2⟩
        have hZ := hz
        clear hO2 hO hz hzj
        have htk : Aside0 (xs.take (j + 1) = xs.take j ++ [xs[j]]) := ⟨List.take_succ_eq_append_getElem hlt⟩
        cases hv : p xs[j] with
        | true =>
          have hv2 : Aside0 (p xs[j] = true) := ⟨hv⟩
          clear hv
          go_wp2_with fail
          refine hcl.out.mono ?_
          rintro e w2 ⟨rfl, hb2⟩
          rw [hv2.out]
          go_wp2_with fail
          go_roundw
          case rel =>
            refine ⟨i, j + 1, zs, rfl, by simp, by omega, by omega, ⟨hZ.out.1, ?_, ?_⟩, ⟨Kd.R_below (Kd.R_alloc hHold.out _) hb2⟩, hB2.trans (hb2.mono (by simp; omega))⟩
            · rw [hZ.out.2.1, htk.out, List.filter_append]; simp [hv2.out]
            · rw [← List.drop_drop, hZ.out.2.2, List.drop_drop]
          case measure => simp [intOf]; omega
        | false =>
          have hv2 : Aside0 (p xs[j] = false) := ⟨hv⟩
          clear hv
          obtain ⟨ad2, had2, e0, e1, e2, e3, e4⟩ := at38 (Kd.R_reads' hHold.out).2.2 (k := i) (by omega)
          cases had2
          simp only [add_plain] at e0 e1 e2 e3 e4
          have E := Aside0.mk (And.intro e0 (And.intro e1 (And.intro e2 (And.intro e3 e4))))
          clear e0 e1 e2 e3 e4
          go_wp2_with fail
          refine hcl.out.mono ?_
          rintro e w2 ⟨rfl, hb2⟩
          rw [hv2.out]
          have hbx := (hb2.block _ (by simp)).trans (World.alloc_heap_new wr (.cells #[.int .i64 xs[j].f0, .int .i64 xs[j].f1, .int .i64 xs[j].f2, .int .i64 xs[j].f3, .int .i64 xs[j].f4] 38))
          have y0 : w2.cell? ⟨wr.heap.size, 0, none⟩ = some (.int .i64 xs[j].f0) := by simp [World.cell?, hbx]
          have y1 : w2.cell? ⟨wr.heap.size, 1, none⟩ = some (.int .i64 xs[j].f1) := by simp [World.cell?, hbx]
          have y2 : w2.cell? ⟨wr.heap.size, 2, none⟩ = some (.int .i64 xs[j].f2) := by simp [World.cell?, hbx]
          have y3 : w2.cell? ⟨wr.heap.size, 3, none⟩ = some (.int .i64 xs[j].f3) := by simp [World.cell?, hbx]
          have y4 : w2.cell? ⟨wr.heap.size, 4, none⟩ = some (.int .i64 xs[j].f4) := by simp [World.cell?, hbx]
          have hB4 := hB2.trans (hb2.mono (by simp; omega))
          have hO4 := Aside0.mk (Kd.R_below (Kd.R_alloc hHold.out (.cells #[.int .i64 xs[j].f0, .int .i64 xs[j].f1, .int .i64 xs[j].f2, .int .i64 xs[j].f3, .int .i64 xs[j].f4] 38)) hb2)
          clear hb2 hbx hHold
          go_wp2_with ((with_reducible refine gate_store (t := 38) (p := 33) (v := .tmp 32) rfl ?_); refine store38 (w0 := w) (x := xs[j]) 33 32 (by rfl) (by rfl) (by rfl) (by rfl) (by rfl) hO4.out (by omega) hB4 ?_; intro w3 ho3 hb3; have HO3 := Aside0.mk ho3; clear ho3)
          go_roundw
          case rel =>
            refine ⟨i + 1, j + 1, zs.set i xs[j], by simp, by simp, by omega, by omega, ⟨by rw [List.length_set]; exact hZ.out.1, ?_, ?_⟩, HO3, hb3⟩
            · rw [htk.out, List.filter_append, ← hZ.out.2.1, List.take_succ_eq_append_getElem (by rw [List.length_set]; omega), List.take_set_of_le (by omega)]
              simp [hv2.out]
            · rw [List.drop_set_of_lt (by omega), ← List.drop_drop, hZ.out.2.2, List.drop_drop]
          case measure => simp [intOf]; omega
      · have hje : Aside0 (j = xs.length) := ⟨by omega⟩
        have hilt : i < xs.length := by omega
        have hsl := cut_from (P := Try.prog) 22 38 .i64 Try.underlying22 (i := (Try.prog.info? 38).get!) (by kernel_rfl) 5 (by kernel_rfl) (some ⟨g, 0, none⟩) xs.length cap (i : Int) (by omega) (by omega)
        rw [Int.toNat_natCast, if_neg (by omega)] at hsl
        simp only [Option.map_some, add_plain] at hsl
        have hto := cut_to (P := Try.prog) 22 38 .i64 Try.underlying22 (i := (Try.prog.info? 38).get!) (by kernel_rfl) (some ⟨g, 0, none⟩) xs.length cap (i : Int) (by omega) (by omega) hcap
        rw [Int.toNat_natCast] at hto
        obtain ⟨cur, hh, hcs⟩ : ∃ cur, wr.heap[g]? = some (.cells cur 38 (0, 0)) ∧ cur.size = cap * 5 := by
          obtain ⟨_, inner, hown, _⟩ := hO.out
          rcases hown.2 with ⟨e, _⟩ | ⟨g', cap', cur, e, h1, h2, h3, h4, h5, h6⟩
          · cases e
          · injection e with ea _ ec
            injection ea with ea
            injection ea with eb
            subst eb; subst ec
            exact ⟨cur, h2, h5⟩
        have hclr := run_clear38 wr g i (xs.length - i - 1) cap (cap - i) cur hh hcs (by omega)
        rw [show xs.length - i - 1 + 1 = xs.length - i by omega] at hclr
        have hfin := own_beyond hO.out (Builtin.zeroCells #[.int .i64 0, .int .i64 0, .int .i64 0, .int .i64 0, .int .i64 0] (xs.length - i)).toList (m := i) (by omega) (by simp [Builtin.zeroCells]; omega)
        have hbe := below_setCells hB g hgb (i * 5) (Builtin.zeroCells #[.int .i64 0, .int .i64 0, .int .i64 0, .int .i64 0, .int .i64 0] (xs.length - i)).toList
        rw [hz.out.2.1, hje.out, List.take_length] at hfin
        generalize (Builtin.zeroCells #[.int .i64 0, .int .i64 0, .int .i64 0, .int .i64 0, .int .i64 0] (xs.length - i)).toList = Z at hclr hfin hbe
        have HF := Aside0.mk (And.intro hfin hbe)
        clear hfin hbe hO hz hh hcs
        go_wp2
        go_ret
        exact ⟨_, rfl, HF.out.1, HF.out.2⟩
end Go.Proofs.Ytlcckkimbkfjpaa.G
