/- The iterator over all pairs of an element and an element after it: its contract, for every loop body that keeps what it must. -/
import Derived.Test.YtlcckkimbkfjpaaGx0
import Derived.RangeFuncNested
import Derived.RangeFuncBound
import Derived.RangeFuncCalls
import Derived.RangeFuncLeaves
import Derived.RangeFuncBox
import Derived.Shelf.Abstract
import Derived.Shelf.RegionOpen
import Derived.WalkKit
import Derived.OwnWalkIn
import Derived.TacticsInMore
import Derived.LoopNIn
import Derived.LoopIn
namespace Go.Proofs.Ytlcckkimbkfjpaa.G
open Go.RowKit Go.Shelf Go.Proofs.YtlcckkimbkfjpaaW.PrintWords Go.Proofs.YtlcckkimbkfjpaaW.PrintLast Go.Proofs.YtlcckkimbkfjpaaW.PrintMore
attribute [local go_sem] Oper.semAt_some
set_option linter.unusedVariables false

/-- A meeting as one value. -/
def ev38 (x : S38) : Value := .agg #[.int .i64 x.f0, .int .i64 x.f1, .int .i64 x.f2, .int .i64 x.f3, .int .i64 x.f4]

/-- What a round of a loop over an iterator keeps: all that lay below n0, and the cells that lie from n1 on. -/
structure Kpt (n0 n1 : Nat) (W W' : World) : Prop where
  below : Below n0 W W'
  cells : ∀ (i : Nat) (o : Obj), n1 ≤ i → W.heap[i]? = some o → o.isCells = true → W'.heap[i]? = some o

theorem Kpt.refl (n0 n1 : Nat) (W : World) : Kpt n0 n1 W W := ⟨Below.refl _ _, fun _ _ _ h _ => h⟩
theorem Kpt.trans {n0 n1 : Nat} {A B C : World} (h : Kpt n0 n1 A B) (k : Kpt n0 n1 B C) : Kpt n0 n1 A C :=
  ⟨h.below.trans k.below, fun i o hi ho hc => k.cells i o hi (h.cells i o hi ho hc) hc⟩
theorem Kpt.putObj {n0 n1 : Nat} {w : World} (hn : n0 ≤ w.heap.size) (W : World) (l : Nat) (o o' : Obj) (hl : w.heap.size ≤ l) (h : W.heap[l]? = some o) (hc : o.isCells = false) (hw : o.isWalk = false) : Kpt n0 n1 W (W.putObj l o') :=
  ⟨belowK_b hn W l o o' hl h hc hw, fun i o2 _ ho hc2 => by
    by_cases e : i = l
    · subst e; rw [h] at ho; cases ho; rw [hc] at hc2; cases hc2
    · exact (World.putObj_heap_other e).trans ho⟩
theorem Kpt.alloc {n0 n1 : Nat} (W : World) (hn : n0 ≤ W.heap.size) (o : Obj) : Kpt n0 n1 W (W.alloc o) :=
  ⟨(Below.refl _ W).alloc hn o, fun i o2 _ ho _ => (Below.heap_alloc W o i (Array.getElem?_eq_some_iff.1 ho).1).trans ho⟩
theorem Kpt.of_below {n0 n1 : Nat} {W W' : World} (hn : n0 ≤ W.heap.size) (h : Below W.heap.size W W') : Kpt n0 n1 W W' :=
  ⟨h.mono hn, fun i o _ ho _ => (h.block i (Array.getElem?_eq_some_iff.1 ho).1).trans ho⟩
theorem Kpt.block {n0 n1 : Nat} {W W' : World} (h : Kpt n0 n1 W W') {i : Nat} (hi : n1 ≤ i) {cs : Array Value} {t : TypeId} {fr : Nat × Nat} (hb : W.heap[i]? = some (.cells cs t fr)) : W'.heap[i]? = some (.cells cs t fr) :=
  h.cells i _ hi hb rfl

/-- All pairs of an element and a later one, in order; the first k elements' pairs. -/
def pairsTo (l : List S38) : Nat → List (S38 × S38)
  | 0 => []
  | k + 1 => pairsTo l k ++ (l.drop (k + 1)).map fun y => (l.getD k z38, y)
def pairsOf (l : List S38) : List (S38 × S38) := pairsTo l l.length
theorem pairsTo_prefix (l : List S38) (k j : Nat) : pairsTo l k <+: pairsTo l (k + j) := by
  induction j with
  | zero => exact List.prefix_refl _
  | succ j ih => exact ih.trans (List.prefix_append _ _)
theorem pairsTo_part (l : List S38) (k j : Nat) (hk : k < l.length) : pairsTo l k ++ ((l.drop (k + 1)).take j).map (fun y => (l.getD k z38, y)) <+: pairsOf l := by
  refine List.IsPrefix.trans ?_ (by have := pairsTo_prefix l (k + 1) (l.length - (k + 1)); rwa [show k + 1 + (l.length - (k + 1)) = l.length by omega] at this)
  exact List.prefix_append_right_inj _ |>.2 (List.IsPrefix.map _ (List.take_prefix _ _))
theorem part_snoc (l : List S38) (k j : Nat) (hj : k + 1 + j < l.length) : ((l.drop (k + 1)).take (j + 1)).map (fun y => (l.getD k z38, y)) = ((l.drop (k + 1)).take j).map (fun y => (l.getD k z38, y)) ++ [(l.getD k z38, l.getD (k + 1 + j) z38)] := by
  rw [List.take_succ_eq_append_getElem (by simp; omega), List.map_append]
  simp [List.getElem?_eq_getElem hj]
theorem pairsTo_len (l : List S38) (k : Nat) (hk : k ≤ l.length) : (pairsTo l k).length ≤ k * l.length := by
  induction k with
  | zero => simp [pairsTo]
  | succ k ih => have := ih (by omega); simp only [pairsTo, List.length_append, List.length_map, List.length_drop]; rw [Nat.succ_mul]; omega
theorem part_lt (l : List S38) (k j : Nat) (hj : k + 1 + j < l.length) : (pairsTo l k ++ ((l.drop (k + 1)).take j).map (fun y => (l.getD k z38, y))).length < (pairsOf l).length := by
  have h := (pairsTo_part l k (j + 1) (by omega)).length_le
  rw [part_snoc l k j hj] at h
  simp at h ⊢
  omega

theorem at38 {w : World} {A : Option Addr} {xs : List S38} (h : Kd.C k38 w A xs.length xs) {k : Nat} (hk : k < xs.length) :
    ∃ ad, A = some ad ∧ w.cell? (ad.add (k * 5)) = some (.int .i64 (xs.getD k z38).f0) ∧ w.cell? ⟨(ad.add (k * 5)).block, (ad.add (k * 5)).off + 1, none⟩ = some (.int .i64 (xs.getD k z38).f1) ∧
      w.cell? ⟨(ad.add (k * 5)).block, (ad.add (k * 5)).off + 2, none⟩ = some (.int .i64 (xs.getD k z38).f2) ∧ w.cell? ⟨(ad.add (k * 5)).block, (ad.add (k * 5)).off + 3, none⟩ = some (.int .i64 (xs.getD k z38).f3) ∧
      w.cell? ⟨(ad.add (k * 5)).block, (ad.add (k * 5)).off + 4, none⟩ = some (.int .i64 (xs.getD k z38).f4) := by
  have := at_T38 h (k : Int) (by omega) (by omega)
  simpa [rd_T38] using this

theorem cut38 (A : Option Addr) (c : Nat) (xs : List S38) (m : Nat) (hm : m ≤ xs.length) (hc : xs.length ≤ c) :
    ∃ A' : Option Addr, (∀ W : World, (Instr.slice 22 (.slice A xs.length c) (some (.int .i64 (m : Int))) none none).run Try.prog W = .ok (.slice A' (xs.length - m) (c - m)) W) ∧
      ∀ w : World, Kd.C k38 w A xs.length xs → Kd.C k38 w A' (xs.drop m).length (xs.drop m) := by
  have h := cut_from (P := Try.prog) 22 38 .i64 Try.underlying22 (i := (Try.prog.info? 38).get!) (by kernel_rfl) 5 (by kernel_rfl) A xs.length c (m : Int) (by omega) (by omega)
  simp only [Int.toNat_natCast] at h
  exact ⟨_, h, fun w hC => Kd.C_drop hC hm hc⟩

set_option maxRecDepth 100000 in
set_option maxHeartbeats 2000000 in
theorem pairs1_in (F : Fence) (n : Nat) (h38 : F.fn 38) (hro : F.round = none) (hn : 1 ≤ n) (l Bs : Nat) (w0 : World) (A : Option Addr) (c : Nat) (xs : List S38) (hC : Kd.C k38 w0 A xs.length xs) (hc : xs.length ≤ c) (J Jx : List (S38 × S38) → World → Prop)
    (hY : ∀ pre x W, J pre W → pre.length < (pairsOf xs).length → YieldAt F (n - 1) Try.prog l #[ev38 x.1, ev38 x.2] W fun e W' =>
      (e = .returned (.bool true) ∧ J (pre ++ [x]) W' ∧ Kpt w0.heap.size Bs W W') ∨ (e = .returned (.bool false) ∧ Jx (pre ++ [x]) W'))
    (W : World) (hJ : AbidesFrom W.heap.size J) (hw : Below w0.heap.size w0 W) (hBs : W.heap[Bs]? = some (.cells #[.slice A xs.length c] 22 (0, 0))) (h0 : J [] W) :
    CallsIn F n Try.prog 38 #[.func (.yield l) #[] #[], .pointer (some ⟨Bs, 0, none⟩)] W fun e W' => (∃ v, e = .returned v) ∧
      ((∃ ys, ys = pairsOf xs ∧ J ys W') ∨ (∃ pre, pre <+: pairsOf xs ∧ Jx pre W')) := by
  have hlen : xs.length ≤ 9223372036854775807 := hC.2.1
  have hJa : ∀ s (X : World) o, J s X → J s (X.alloc o) := fun s X o h => hJ s X _ none h (World.grownBy_alloc X o none) (fun r e => by cases e)
  have cB : W.cell? ⟨Bs, 0, none⟩ = some (.slice A xs.length c) := by simp [World.cell?, hBs]
  have hu38 := Try.underlying38
  refine callsIn_of_wp Try.func38 rfl h38 ?_ hro
  simp only [Try.ntmps38, List.size_toArray, List.length_cons, List.length_nil, Nat.reduceAdd, Nat.reduceSub, Array.replicate_succ, Array.replicate_zero, List.push_toArray, List.append_toArray, List.nil_append, List.cons_append]
  gi_wp2
  gi_loopw [9] (fun i wr => ∃ k : Nat, k ≤ xs.length ∧ i = .int .i64 k ∧ J (pairsTo xs k) wr ∧ Kpt w0.heap.size Bs W wr)
    (fun i _ => xs.length - (intOf i).toNat)
  case atStart => exact ⟨0, Nat.zero_le _, rfl, h0, Kpt.refl _ _ _⟩
  case round =>
    obtain ⟨k, hk, rfl, hJs, hK⟩ := hrel
    by_cases hlt : k < xs.length
    · have hC1 := Kd.C_below hC (hw.trans hK.below)
      obtain ⟨ad, rfl, g0, g1, g2, g3, g4⟩ := at38 hC1 hlt
      have hb1 := hK.block (Nat.le_refl _) hBs
      have cB1 : wr.cell? ⟨Bs, 0, none⟩ = some (.slice (some ad) xs.length c) := by simp [World.cell?, hb1]
      have hBlt : Bs < wr.heap.size := (Array.getElem?_eq_some_iff.1 hb1).1
      obtain ⟨A', hsl, hCd⟩ := cut38 (some ad) c xs (k + 1) (by omega) hc
      rw [Int.natCast_add, Int.natCast_one] at hsl
      have hx : xs.getD k z38 = xs[k] := by simp [hlt]
      have hJ1 := hJa _ _ (.cells #[.int .i64 xs[k].f0, .int .i64 xs[k].f1, .int .i64 xs[k].f2, .int .i64 xs[k].f3, .int .i64 xs[k].f4] 38) hJs
      have hwr : w0.heap.size ≤ wr.heap.size := Nat.le_trans hw.size hK.below.size
      have hK1 := hK.trans (Kpt.alloc (n1 := Bs) wr hwr (.cells #[.int .i64 xs[k].f0, .int .i64 xs[k].f1, .int .i64 xs[k].f2, .int .i64 xs[k].f3, .int .i64 xs[k].f4] 38))
      have hg1 := World.alloc_heap_new wr (.cells #[.int .i64 xs[k].f0, .int .i64 xs[k].f1, .int .i64 xs[k].f2, .int .i64 xs[k].f3, .int .i64 xs[k].f4] 38)
      gi_wp2
      clear hsl g0 g1 g2 g3 g4 cB1 hb1 hJs
      generalize wr.alloc (.cells #[.int .i64 xs[k].f0, .int .i64 xs[k].f1, .int .i64 xs[k].f2, .int .i64 xs[k].f3, .int .i64 xs[k].f4] 38) = wo at hJ1 hK1 hg1 ⊢
      obtain ⟨g, hg⟩ : ∃ g, g = wr.heap.size := ⟨_, rfl⟩
      rw [← hg] at hg1 hBlt hwr ⊢
      clear hg hK hC1
      gi_loopw [19] (fun i wi => ∃ j : Nat, j ≤ xs.length - (k + 1) ∧ i = .int .i64 j ∧ J (pairsTo xs k ++ ((xs.drop (k + 1)).take j).map (fun y => (xs.getD k z38, y))) wi ∧ Kpt w0.heap.size Bs W wi ∧
          wi.heap[g]? = some (.cells #[.int .i64 xs[k].f0, .int .i64 xs[k].f1, .int .i64 xs[k].f2, .int .i64 xs[k].f3, .int .i64 xs[k].f4] 38))
        (fun i _ => xs.length - (k + 1) - (intOf i).toNat)
      case atStart => exact ⟨0, Nat.zero_le _, rfl, by simpa using hJ1, hK1, hg1⟩
      case round =>
        obtain ⟨j, hj, rfl, hJ2, hK2, hg2⟩ := hrel
        by_cases hjl : k + 1 + j < xs.length
        · have hC2 := hCd wr (Kd.C_below hC (hw.trans hK2.below))
          obtain ⟨ad2, rfl, e0, e1, e2, e3, e4⟩ := at38 hC2 (k := j) (by simp; omega)
          have hy0 : (xs.drop (k + 1)).getD j z38 = xs[k + 1 + j] := by simp [hjl]
          rw [hy0] at e0 e1 e2 e3 e4
          have hglt : g < wr.heap.size := (Array.getElem?_eq_some_iff.1 hg2).1
          have d0 : wr.cell? ⟨g, 0, none⟩ = some (.int .i64 xs[k].f0) := by simp [World.cell?, hg2]
          have d1 : wr.cell? ⟨g, 1, none⟩ = some (.int .i64 xs[k].f1) := by simp [World.cell?, hg2]
          have d2 : wr.cell? ⟨g, 2, none⟩ = some (.int .i64 xs[k].f2) := by simp [World.cell?, hg2]
          have d3 : wr.cell? ⟨g, 3, none⟩ = some (.int .i64 xs[k].f3) := by simp [World.cell?, hg2]
          have d4 : wr.cell? ⟨g, 4, none⟩ = some (.int .i64 xs[k].f4) := by simp [World.cell?, hg2]
          have hwr2 : w0.heap.size ≤ wr.heap.size := Nat.le_trans hw.size hK2.below.size
          obtain ⟨fn, tmps, assign, body, hy, hR⟩ := hY _ (xs[k], xs[k + 1 + j]) _ (hJa _ _ (.cells #[.int .i64 xs[k + 1 + j].f0, .int .i64 xs[k + 1 + j].f1, .int .i64 xs[k + 1 + j].f2, .int .i64 xs[k + 1 + j].f3, .int .i64 xs[k + 1 + j].f4] 38) hJ2) (part_lt xs k j hjl)
          simp only [ev38] at hy
          gi_wp2
          refine hR.mono ?_
          have hK3 := hK2.trans (Kpt.alloc (n1 := Bs) wr hwr2 (.cells #[.int .i64 xs[k + 1 + j].f0, .int .i64 xs[k + 1 + j].f1, .int .i64 xs[k + 1 + j].f2, .int .i64 xs[k + 1 + j].f3, .int .i64 xs[k + 1 + j].f4] 38))
          have hg3 := (Below.heap_alloc wr (.cells #[.int .i64 xs[k + 1 + j].f0, .int .i64 xs[k + 1 + j].f1, .int .i64 xs[k + 1 + j].f2, .int .i64 xs[k + 1 + j].f3, .int .i64 xs[k + 1 + j].f4] 38) g hglt).trans hg2
          have hpart : pairsTo xs k ++ ((xs.drop (k + 1)).take j).map (fun y => (xs.getD k z38, y)) ++ [(xs[k], xs[k + 1 + j])] = pairsTo xs k ++ ((xs.drop (k + 1)).take (j + 1)).map (fun y => (xs.getD k z38, y)) := by
            rw [part_snoc xs k j hjl, List.append_assoc]; simp [hlt, hjl]
          rintro e W3 (⟨rfl, hJ3, hk3⟩ | ⟨rfl, hJx3⟩)
          · have hK4 := hK3.trans hk3
            have hg4 := hk3.block (by omega) hg3
            rw [hpart] at hJ3
            clear hy hR hpart
            gi_wp2
            go_roundw
            case rel => exact ⟨j + 1, by omega, by simp, hJ3, hK4, hg4⟩
            case measure => simp [intOf]; omega
          · rw [hpart] at hJx3
            clear hy hR hpart
            gi_wp2
            refine bodyPost_ret (results_none rfl _ _ _) rfl ?_
            exact ⟨⟨_, rfl⟩, .inr ⟨_, pairsTo_part xs k (j + 1) hlt, hJx3⟩⟩
        · obtain rfl : j = xs.length - (k + 1) := by omega
          have hJ3 : J (pairsTo xs (k + 1)) wr := by
            simp only [pairsTo]; rwa [List.take_of_length_le (by simp)] at hJ2
          gi_wp2
          go_roundw
          case rel => exact ⟨k + 1, by omega, by simp, hJ3, hK2⟩
          case measure => simp [intOf]; omega
    · obtain rfl : k = xs.length := by omega
      gi_wp2
      go_end0
      exact ⟨⟨_, rfl⟩, .inl ⟨_, rfl, hJs⟩⟩
end Go.Proofs.Ytlcckkimbkfjpaa.G
