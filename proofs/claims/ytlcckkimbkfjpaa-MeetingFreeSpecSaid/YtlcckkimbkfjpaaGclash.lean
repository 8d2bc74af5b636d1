/- What Clash of two lists of meetings computes, and its contract. -/
import Derived.Test.YtlcckkimbkfjpaaGindex
namespace Go.Proofs.Ytlcckkimbkfjpaa.G
open Go.RowKit Go.Shelf Go.Proofs.YtlcckkimbkfjpaaW.PrintWords Go.Proofs.YtlcckkimbkfjpaaW.PrintLast Go.Proofs.YtlcckkimbkfjpaaW.PrintMore
set_option linter.unusedVariables false
def clashM (a b : List S38) : Bool × Int := if checkM a = 0 then if checkM b = 0 then (a.any (fun m => b.any (ovlB m)), 0) else (false, checkM b) else (false, checkM a)
def meeting_Clash.f (l0 l1 : List S38) : Option (Bool × Int) := some (clashM l0 l1)

set_option maxRecDepth 100000 in
set_option maxHeartbeats 4000000 in
theorem meeting_Clash.calls (A0 : Option Addr) (c0 : Nat) (l0 : List (S38)) (A1 : Option Addr) (c1 : Nat) (l1 : List (S38)) (r1 : Bool) (r2 : Int) (w : World) (hr0 : Kd.C k38 w A0 l0.length l0) (hc0 : l0.length ≤ c0) (hr1 : Kd.C k38 w A1 l1.length l1) (hc1 : l1.length ≤ c1) (h : meeting_Clash.f l0 l1 = some (r1, r2)) :
    Calls Try.prog 16 #[.slice A0 l0.length c0, .slice A1 l1.length c1] w fun e w' => e = .returned (.tuple #[.bool r1, .int .i64 r2]) ∧ Below w.heap.size w w' := by
  have hR : Aside0 ((r1, r2) = clashM l0 l1) := ⟨(Option.some.inj h).symm⟩
  clear h
  have hlen : l0.length ≤ 9223372036854775807 := hr0.2.1
  have hu38 := Try.underlying38
  by_cases ha : checkM l0 = 0
  · have hA : Aside0 (checkM l0 = 0) := ⟨ha⟩
    clear ha
    by_cases hb : checkM l1 = 0
    · have hB' : Aside0 (checkM l1 = 0) := ⟨hb⟩
      clear hb
      have hans : Aside0 (r1 = l0.any (fun m => l1.any (ovlB m)) ∧ r2 = 0) := ⟨by have := hR.out; unfold clashM at this; rw [if_pos hA.out, if_pos hB'.out] at this; simpa using this⟩
      go_enter Try.func16, Try.ntmps16
      go_wp2_with fail
      refine (meeting_Check.calls _ _ l0 _ _ hr0 hc0 rfl).mono ?_
      rintro e w1 ⟨rfl, hb1⟩
      rw [hA.out]
      go_wp2_with fail
      refine (meeting_Check.calls _ _ l1 _ _ (Kd.C_below hr1 hb1) hc1 rfl).mono ?_
      rintro e w2 ⟨rfl, hb2⟩
      rw [hB'.out]
      have hb3 := hb1.trans (hb2.mono hb1.size)
      clear hb1 hb2
      go_wp2_with fail
      go_loopw [22] (fun i wr => ∃ k : Nat, k ≤ l0.length ∧ i = .int .i64 k ∧ Below w.heap.size w wr ∧ Aside0 ((l0.take k).any (fun m => l1.any (ovlB m)) = false))
        (fun i _ => l0.length - (intOf i).toNat)
      case atStart => exact ⟨0, by omega, rfl, hb3, ⟨by simp⟩⟩
      case round =>
        obtain ⟨k, hk, rfl, hB, hI⟩ := hrel
        by_cases hlt : k < l0.length
        · obtain ⟨ad, rfl, g0, g1, g2, g3, g4⟩ := at38 (Kd.C_below hr0 hB) hlt
          have hx : l0.getD k z38 = l0[k] := by simp [hlt]
          rw [hx] at g0 g1 g2 g3 g4
          have hd : Aside0 (l0.take (k + 1) = l0.take k ++ [l0[k]]) := ⟨List.take_succ_eq_append_getElem hlt⟩
          have hCt := fun (W : World) (h : Below w.heap.size w W) => contains_bound l0[k] (ovlB l0[k]) A1 c1 l1 W (Kd.C_below hr1 h) (fun W' x _ => by simp only [ev38]; exact overlaps_calls l0[k] x W')
          simp only [ev38] at hCt
          have HC := Aside0.mk hCt
          clear hCt
          cases hv : l1.any (ovlB l0[k]) with
          | true =>
            have hv2 : Aside0 (l1.any (ovlB l0[k]) = true) := ⟨hv⟩
            clear hv
            have hans2 : Aside0 (r1 = true ∧ r2 = 0) := ⟨by rw [hans.out.1, hans.out.2]; exact ⟨List.any_eq_true.2 ⟨l0[k], List.getElem_mem hlt, hv2.out⟩, rfl⟩⟩
            go_wp2_with (go_at_call 28; refine (HC.out _ (hB.alloc hB.size _)).mono ?_; rintro e w3 ⟨rfl, hb4⟩; rw [hv2.out])
            go_ret2
            exact ⟨by rw [hans2.out.1, hans2.out.2]; rfl, (hB.alloc hB.size _).trans (hb4.mono (by have := hB.size; simp; omega))⟩
          | false =>
            have hv2 : Aside0 (l1.any (ovlB l0[k]) = false) := ⟨hv⟩
            clear hv
            go_wp2_with (go_at_call 28; refine (HC.out _ (hB.alloc hB.size _)).mono ?_; rintro e w3 ⟨rfl, hb4⟩; rw [hv2.out])
            go_roundw
            case rel => exact ⟨k + 1, by omega, by simp, (hB.alloc hB.size _).trans (hb4.mono (by have := hB.size; simp; omega)), ⟨by rw [hd.out, List.any_append, hI.out]; simp [hv2.out]⟩⟩
            case measure => simp [intOf]; omega
        · have hans2 : Aside0 (r1 = false ∧ r2 = 0) := ⟨by rw [hans.out.1, hans.out.2]; have := hI.out; rw [List.take_of_length_le (by omega)] at this; exact ⟨this, rfl⟩⟩
          go_wp2_with fail
          go_ret2
          exact ⟨by rw [hans2.out.1, hans2.out.2]; rfl, hB⟩
    · have hB' : Aside0 (¬ checkM l1 = 0) := ⟨hb⟩
      have hn : (checkM l1 != 0) = true := bne_iff_ne.2 hb
      clear hb
      have hans : Aside0 (r1 = false ∧ r2 = checkM l1) := ⟨by have := hR.out; unfold clashM at this; rw [if_pos hA.out, if_neg hB'.out] at this; simpa using this⟩
      go_enter Try.func16, Try.ntmps16
      go_wp2_with fail
      refine (meeting_Check.calls _ _ l0 _ _ hr0 hc0 rfl).mono ?_
      rintro e w1 ⟨rfl, hb1⟩
      rw [hA.out]
      go_wp2_with fail
      refine (meeting_Check.calls _ _ l1 _ _ (Kd.C_below hr1 hb1) hc1 rfl).mono ?_
      rintro e w2 ⟨rfl, hb2⟩
      go_wp2_with fail
      go_ret2
      exact ⟨by rw [hans.out.1, hans.out.2]; rfl, hb1.trans (hb2.mono hb1.size)⟩
  · have hA : Aside0 (¬ checkM l0 = 0) := ⟨ha⟩
    have hn : (checkM l0 != 0) = true := bne_iff_ne.2 ha
    clear ha
    have hans : Aside0 (r1 = false ∧ r2 = checkM l0) := ⟨by have := hR.out; unfold clashM at this; rw [if_neg hA.out] at this; simpa using this⟩
    go_enter Try.func16, Try.ntmps16
    go_wp2_with fail
    refine (meeting_Check.calls _ _ l0 _ _ hr0 hc0 rfl).mono ?_
    rintro e w1 ⟨rfl, hb1⟩
    go_wp2_with fail
    go_ret2
    exact ⟨by rw [hans.out.1, hans.out.2]; rfl, hb1⟩
end Go.Proofs.Ytlcckkimbkfjpaa.G
