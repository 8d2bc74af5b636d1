/- Part of the claim's proof. -/
import Derived.Test.YtamajnhdibcpiaaProg
import Derived.Below
import Derived.Deep.Draws
import Derived.Deep.AppendLies
import Derived.Maps.AppendAt
import Derived.OwnWalk
import Derived.Laws.BytesArg
import Derived.Laws.MakeOwn
import Derived.Laws.OwnMore
import Derived.Deep.OwnRows
import Derived.Tactics
import Derived.Lib.ConvBytes
import Derived.Laws.Slices
import Derived.WalkKit
import Derived.KernelRfl
import Derived.RowKit3
import Derived.Deep.LoopGhost
import Derived.Deep.QuietTactic
import Derived.BigQuiet
import Derived.WideLaws
import Derived.Deep.DeepCutAuto
import Derived.Deep.CutBlock
import Derived.Deep.RegionHeld3
import Derived.Laws.Rows
import Derived.Lib.AppendStr
import Derived.ArgAppend
import Derived.Laws.IdiomCopy
import Derived.OrdersHeld
import Derived.Laws.BitsLemmas
import Derived.RowKit
import Derived.Deep.RegionWith
import Derived.Test.YtamajnhdibcpiaaKIWWords
import Derived.Test.YtamajnhdibcpiaaKIWLast
import Derived.Test.YtamajnhdibcpiaaKIWTab
import Derived.Test.YtamajnhdibcpiaaKIWFour
import Derived.Test.YtamajnhdibcpiaaKIWQPut
import Derived.Test.YtamajnhdibcpiaaKIWApart
import Derived.Test.YtamajnhdibcpiaaKIWArr
import Derived.Test.YtamajnhdibcpiaaKIWZeros
import Derived.Test.YtamajnhdibcpiaaKIWFoot
import Derived.Test.YtamajnhdibcpiaaKIWKept
import Derived.Test.YtamajnhdibcpiaaKIWShare
import Derived.Test.YtamajnhdibcpiaaKIWN
import Derived.Test.YtamajnhdibcpiaaKIWFootNe
import Derived.Test.YtamajnhdibcpiaaKIWAt
import Derived.Test.YtamajnhdibcpiaaKIWEqStruct
import Derived.Test.YtamajnhdibcpiaaKIWRepsOne
import Derived.Test.YtamajnhdibcpiaaKIWInv
import Derived.Test.YtamajnhdibcpiaaKIWInvWords
import Derived.Test.YtamajnhdibcpiaaKIWGuard
import Derived.Test.YtamajnhdibcpiaaKIWNEv
import Derived.Test.YtamajnhdibcpiaaKIWMore
import Derived.RangeFuncNested
import Derived.RangeFuncBound
import Derived.RangeFuncCalls
import Derived.RangeFuncLeaves
import Derived.RangeFuncBox
import Derived.Shelf.Abstract
import Derived.Shelf.RegionOpen
import Derived.OwnWalkIn
import Derived.TacticsInMore
import Derived.LoopNIn
import Derived.LoopIn
import Derived.Lib.SliceRun
import Derived.Deep.DrawnRows
import Derived.Deep.WholeRow
set_option linter.unusedVariables false
set_option linter.unusedSimpArgs false
namespace Go.Proofs.Ytamajnhdibcpiaa.G
open Go.RowKit Go.Proofs.YtamajnhdibcpiaaW.PrintWords Go.Proofs.YtamajnhdibcpiaaW.PrintLast Go.Proofs.YtamajnhdibcpiaaW.PrintMore
attribute [local go_sem] max2_int min2_int max_two min_two max_three min_three max_four min_four
def errW : Option Int → Value
  | none => .nilIface
  | some c => .iface 0 (.int .i64 c)
theorem errW_none : errW none = .nilIface := rfl
theorem errW_some (c : Int) : errW (some c) = .iface 0 (.int .i64 c) := rfl
theorem info28 : (Try.prog.info? 28).map (fun i => (i.zero, i.size, i.bytes)) = some (some (.agg #[(.int .i64 0), (.int .i64 0), (.int .i64 0), (.int .i64 0), (.int .i64 0), (.int .i64 0), (.int .i64 0), (.int .i64 0)]), 8, 64) := by kernel_rfl
structure S24 where
  f0 : Int
  f1 : Int
  f2 : Int
def z24 : S24 := ⟨(0 : Int), (0 : Int), (0 : Int)⟩
def k24 : Kd S24 := Kd.iso (Kd.pair (Kd.int .i64) (Kd.pair (Kd.int .i64) (Kd.int .i64))) (fun x : S24 => (x.f0, x.f1, x.f2))
theorem k24_open {w : World} {x : S24} {cs : List Value} (h : k24.K w x cs) : cs = [.int .i64 x.f0, .int .i64 x.f1, .int .i64 x.f2] := by
 obtain ⟨_, _, rfl, rfl, ⟨_, _, rfl, rfl, rfl⟩⟩ := h; exact rfl
theorem k24_openM {w : World} {base : Nat} {ok : Nat → Prop} {x : S24} {cs : List Value} (h : k24.M w base ok x cs) : cs = [.int .i64 x.f0, .int .i64 x.f1, .int .i64 x.f2] := by
 obtain ⟨_, _, rfl, rfl, ⟨_, _, rfl, rfl, rfl⟩⟩ := h; exact rfl
theorem k24_mk (w : World) (x : S24)  : k24.K w x [.int .i64 x.f0, .int .i64 x.f1, .int .i64 x.f2] := ⟨[.int .i64 x.f0], [.int .i64 x.f1, .int .i64 x.f2], rfl, rfl, ⟨[.int .i64 x.f1], [.int .i64 x.f2], rfl, rfl, rfl⟩⟩
theorem k24_mkM (w : World) (base : Nat) (ok : Nat → Prop) (x : S24)  : k24.M w base ok x [.int .i64 x.f0, .int .i64 x.f1, .int .i64 x.f2] := ⟨[.int .i64 x.f0], [.int .i64 x.f1, .int .i64 x.f2], rfl, rfl, ⟨[.int .i64 x.f1], [.int .i64 x.f2], rfl, rfl, rfl⟩⟩
def rd_T24 (xs : List S24) (i : Int) : S24 := xs.getD i.toNat z24
theorem at_T24 {w : World} {A : Option Addr} {n : Nat} {xs : List S24} (h : Kd.C k24 w A n xs) (i : Int) (h0 : 0 ≤ i) (h1 : i < n) : ∃ ad , A = some ad ∧ w.cell? (ad.add (i.toNat * 3)) = some (.int .i64 (rd_T24 xs i).f0) ∧ w.cell? ⟨(ad.add (i.toNat * 3)).block, (ad.add (i.toNat * 3)).off + 1, none⟩ = some (.int .i64 (rd_T24 xs i).f1) ∧ w.cell? ⟨(ad.add (i.toNat * 3)).block, (ad.add (i.toNat * 3)).off + 2, none⟩ = some (.int .i64 (rd_T24 xs i).f2) := by
 obtain ⟨ad, c, e, _, hK, hc0⟩ := Kd.C_get h z24 i h0 h1; have hc : ∀ j u, c[j]? = some u → w.cell? (ad.add (i.toNat * 3 + j)) = some u := hc0; obtain rfl := k24_open hK; (exact ⟨ad, e, hc 0 _ rfl, by rw [← add_field _ _ 1 (by omega)]; exact hc 1 _ rfl, by rw [← add_field _ _ 2 (by omega)]; exact hc 2 _ rfl⟩)
structure S26 where
  f0 : Int
  f1 : Int
def z26 : S26 := ⟨(0 : Int), (0 : Int)⟩
def k26 : Kd S26 := Kd.iso (Kd.pair (Kd.int .i64) (Kd.int .i64)) (fun x : S26 => (x.f0, x.f1))
theorem k26_open {w : World} {x : S26} {cs : List Value} (h : k26.K w x cs) : cs = [.int .i64 x.f0, .int .i64 x.f1] := by
 obtain ⟨_, _, rfl, rfl, rfl⟩ := h; exact rfl
theorem k26_openM {w : World} {base : Nat} {ok : Nat → Prop} {x : S26} {cs : List Value} (h : k26.M w base ok x cs) : cs = [.int .i64 x.f0, .int .i64 x.f1] := by
 obtain ⟨_, _, rfl, rfl, rfl⟩ := h; exact rfl
theorem k26_mk (w : World) (x : S26)  : k26.K w x [.int .i64 x.f0, .int .i64 x.f1] := ⟨[.int .i64 x.f0], [.int .i64 x.f1], rfl, rfl, rfl⟩
theorem k26_mkM (w : World) (base : Nat) (ok : Nat → Prop) (x : S26)  : k26.M w base ok x [.int .i64 x.f0, .int .i64 x.f1] := ⟨[.int .i64 x.f0], [.int .i64 x.f1], rfl, rfl, rfl⟩
def rd_T26 (xs : List S26) (i : Int) : S26 := xs.getD i.toNat z26
theorem at_T26 {w : World} {A : Option Addr} {n : Nat} {xs : List S26} (h : Kd.C k26 w A n xs) (i : Int) (h0 : 0 ≤ i) (h1 : i < n) : ∃ ad , A = some ad ∧ w.cell? (ad.add (i.toNat * 2)) = some (.int .i64 (rd_T26 xs i).f0) ∧ w.cell? ⟨(ad.add (i.toNat * 2)).block, (ad.add (i.toNat * 2)).off + 1, none⟩ = some (.int .i64 (rd_T26 xs i).f1) := by
 obtain ⟨ad, c, e, _, hK, hc0⟩ := Kd.C_get h z26 i h0 h1; have hc : ∀ j u, c[j]? = some u → w.cell? (ad.add (i.toNat * 2 + j)) = some u := hc0; obtain rfl := k26_open hK; (exact ⟨ad, e, hc 0 _ rfl, by rw [← add_field _ _ 1 (by omega)]; exact hc 1 _ rfl⟩)
structure S28 where
  f0 : S24
  f1 : Int
  f2 : S26
  f3 : Int
  f4 : Int
def z28 : S28 := ⟨z24, (0 : Int), z26, (0 : Int), (0 : Int)⟩
def k28 : Kd S28 := Kd.iso (Kd.pair k24 (Kd.pair (Kd.int .i64) (Kd.pair k26 (Kd.pair (Kd.int .i64) (Kd.int .i64))))) (fun x : S28 => (x.f0, x.f1, x.f2, x.f3, x.f4))
theorem k28_open {w : World} {x : S28} {cs : List Value} (h : k28.K w x cs) : cs = [.int .i64 x.f0.f0, .int .i64 x.f0.f1, .int .i64 x.f0.f2, .int .i64 x.f1, .int .i64 x.f2.f0, .int .i64 x.f2.f1, .int .i64 x.f3, .int .i64 x.f4] := by
 obtain ⟨_, _, rfl, s0, ⟨_, _, rfl, rfl, ⟨_, _, rfl, s4, ⟨_, _, rfl, rfl, rfl⟩⟩⟩⟩ := h; obtain rfl := k24_open s0; obtain rfl := k26_open s4; exact rfl
theorem k28_openM {w : World} {base : Nat} {ok : Nat → Prop} {x : S28} {cs : List Value} (h : k28.M w base ok x cs) : cs = [.int .i64 x.f0.f0, .int .i64 x.f0.f1, .int .i64 x.f0.f2, .int .i64 x.f1, .int .i64 x.f2.f0, .int .i64 x.f2.f1, .int .i64 x.f3, .int .i64 x.f4] := by
 obtain ⟨_, _, rfl, s0, ⟨_, _, rfl, rfl, ⟨_, _, rfl, s4, ⟨_, _, rfl, rfl, rfl⟩⟩⟩⟩ := h; obtain rfl := k24_openM s0; obtain rfl := k26_openM s4; exact rfl
theorem k28_mk (w : World) (x : S28)  : k28.K w x [.int .i64 x.f0.f0, .int .i64 x.f0.f1, .int .i64 x.f0.f2, .int .i64 x.f1, .int .i64 x.f2.f0, .int .i64 x.f2.f1, .int .i64 x.f3, .int .i64 x.f4] := ⟨[.int .i64 x.f0.f0, .int .i64 x.f0.f1, .int .i64 x.f0.f2], [.int .i64 x.f1, .int .i64 x.f2.f0, .int .i64 x.f2.f1, .int .i64 x.f3, .int .i64 x.f4], rfl, (k24_mk w x.f0 ), ⟨[.int .i64 x.f1], [.int .i64 x.f2.f0, .int .i64 x.f2.f1, .int .i64 x.f3, .int .i64 x.f4], rfl, rfl, ⟨[.int .i64 x.f2.f0, .int .i64 x.f2.f1], [.int .i64 x.f3, .int .i64 x.f4], rfl, (k26_mk w x.f2 ), ⟨[.int .i64 x.f3], [.int .i64 x.f4], rfl, rfl, rfl⟩⟩⟩⟩
theorem k28_mkM (w : World) (base : Nat) (ok : Nat → Prop) (x : S28)  : k28.M w base ok x [.int .i64 x.f0.f0, .int .i64 x.f0.f1, .int .i64 x.f0.f2, .int .i64 x.f1, .int .i64 x.f2.f0, .int .i64 x.f2.f1, .int .i64 x.f3, .int .i64 x.f4] := ⟨[.int .i64 x.f0.f0, .int .i64 x.f0.f1, .int .i64 x.f0.f2], [.int .i64 x.f1, .int .i64 x.f2.f0, .int .i64 x.f2.f1, .int .i64 x.f3, .int .i64 x.f4], rfl, (k24_mkM w base ok x.f0 ), ⟨[.int .i64 x.f1], [.int .i64 x.f2.f0, .int .i64 x.f2.f1, .int .i64 x.f3, .int .i64 x.f4], rfl, rfl, ⟨[.int .i64 x.f2.f0, .int .i64 x.f2.f1], [.int .i64 x.f3, .int .i64 x.f4], rfl, (k26_mkM w base ok x.f2 ), ⟨[.int .i64 x.f3], [.int .i64 x.f4], rfl, rfl, rfl⟩⟩⟩⟩
def rd_T28 (xs : List S28) (i : Int) : S28 := xs.getD i.toNat z28
theorem at_T28 {w : World} {A : Option Addr} {n : Nat} {xs : List S28} (h : Kd.C k28 w A n xs) (i : Int) (h0 : 0 ≤ i) (h1 : i < n) : ∃ ad , A = some ad ∧ w.cell? (ad.add (i.toNat * 8)) = some (.int .i64 (rd_T28 xs i).f0.f0) ∧ w.cell? ⟨(ad.add (i.toNat * 8)).block, (ad.add (i.toNat * 8)).off + 1, none⟩ = some (.int .i64 (rd_T28 xs i).f0.f1) ∧ w.cell? ⟨(ad.add (i.toNat * 8)).block, (ad.add (i.toNat * 8)).off + 2, none⟩ = some (.int .i64 (rd_T28 xs i).f0.f2) ∧ w.cell? ⟨(ad.add (i.toNat * 8)).block, (ad.add (i.toNat * 8)).off + 3, none⟩ = some (.int .i64 (rd_T28 xs i).f1) ∧ w.cell? ⟨(ad.add (i.toNat * 8)).block, (ad.add (i.toNat * 8)).off + 4, none⟩ = some (.int .i64 (rd_T28 xs i).f2.f0) ∧ w.cell? ⟨(ad.add (i.toNat * 8)).block, (ad.add (i.toNat * 8)).off + 5, none⟩ = some (.int .i64 (rd_T28 xs i).f2.f1) ∧ w.cell? ⟨(ad.add (i.toNat * 8)).block, (ad.add (i.toNat * 8)).off + 6, none⟩ = some (.int .i64 (rd_T28 xs i).f3) ∧ w.cell? ⟨(ad.add (i.toNat * 8)).block, (ad.add (i.toNat * 8)).off + 7, none⟩ = some (.int .i64 (rd_T28 xs i).f4) := by
 obtain ⟨ad, c, e, _, hK, hc0⟩ := Kd.C_get h z28 i h0 h1; have hc : ∀ j u, c[j]? = some u → w.cell? (ad.add (i.toNat * 8 + j)) = some u := hc0; obtain rfl := k28_open hK; (exact ⟨ad, e, hc 0 _ rfl, by rw [← add_field _ _ 1 (by omega)]; exact hc 1 _ rfl, by rw [← add_field _ _ 2 (by omega)]; exact hc 2 _ rfl, by rw [← add_field _ _ 3 (by omega)]; exact hc 3 _ rfl, by rw [← add_field _ _ 4 (by omega)]; exact hc 4 _ rfl, by rw [← add_field _ _ 5 (by omega)]; exact hc 5 _ rfl, by rw [← add_field _ _ 6 (by omega)]; exact hc 6 _ rfl, by rw [← add_field _ _ 7 (by omega)]; exact hc 7 _ rfl⟩)
structure S60 where
  f0 : Int
  f1 : Int
def z60 : S60 := ⟨(0 : Int), (0 : Int)⟩
def k60 : Kd S60 := Kd.iso (Kd.pair (Kd.int .i64) (Kd.int .i64)) (fun x : S60 => (x.f0, x.f1))
theorem k60_open {w : World} {x : S60} {cs : List Value} (h : k60.K w x cs) : cs = [.int .i64 x.f0, .int .i64 x.f1] := by
 obtain ⟨_, _, rfl, rfl, rfl⟩ := h; exact rfl
theorem k60_mkM (w : World) (base : Nat) (ok : Nat → Prop) (x : S60)  : k60.M w base ok x [.int .i64 x.f0, .int .i64 x.f1] := ⟨[.int .i64 x.f0], [.int .i64 x.f1], rfl, rfl, rfl⟩
def rd_T60 (xs : List S60) (i : Int) : S60 := xs.getD i.toNat z60
theorem at_T60 {w : World} {A : Option Addr} {n : Nat} {xs : List S60} (h : Kd.C k60 w A n xs) (i : Int) (h0 : 0 ≤ i) (h1 : i < n) : ∃ ad , A = some ad ∧ w.cell? (ad.add (i.toNat * 2)) = some (.int .i64 (rd_T60 xs i).f0) ∧ w.cell? ⟨(ad.add (i.toNat * 2)).block, (ad.add (i.toNat * 2)).off + 1, none⟩ = some (.int .i64 (rd_T60 xs i).f1) := by
 obtain ⟨ad, c, e, _, hK, hc0⟩ := Kd.C_get h z60 i h0 h1; have hc : ∀ j u, c[j]? = some u → w.cell? (ad.add (i.toNat * 2 + j)) = some u := hc0; obtain rfl := k60_open hK; (exact ⟨ad, e, hc 0 _ rfl, by rw [← add_field _ _ 1 (by omega)]; exact hc 1 _ rfl⟩)
structure S54 where
  f0 : S24
  f1 : Int
  f2 : Int
def z54 : S54 := ⟨z24, (0 : Int), (0 : Int)⟩
def k54 : Kd S54 := Kd.iso (Kd.pair k24 (Kd.pair (Kd.int .i64) (Kd.int .i64))) (fun x : S54 => (x.f0, x.f1, x.f2))
theorem k54_open {w : World} {x : S54} {cs : List Value} (h : k54.K w x cs) : cs = [.int .i64 x.f0.f0, .int .i64 x.f0.f1, .int .i64 x.f0.f2, .int .i64 x.f1, .int .i64 x.f2] := by
 obtain ⟨_, _, rfl, s0, ⟨_, _, rfl, rfl, rfl⟩⟩ := h; obtain rfl := k24_open s0; exact rfl
theorem k54_mkM (w : World) (base : Nat) (ok : Nat → Prop) (x : S54)  : k54.M w base ok x [.int .i64 x.f0.f0, .int .i64 x.f0.f1, .int .i64 x.f0.f2, .int .i64 x.f1, .int .i64 x.f2] := ⟨[.int .i64 x.f0.f0, .int .i64 x.f0.f1, .int .i64 x.f0.f2], [.int .i64 x.f1, .int .i64 x.f2], rfl, (k24_mkM w base ok x.f0 ), ⟨[.int .i64 x.f1], [.int .i64 x.f2], rfl, rfl, rfl⟩⟩
def rd_T54 (xs : List S54) (i : Int) : S54 := xs.getD i.toNat z54
theorem at_T54 {w : World} {A : Option Addr} {n : Nat} {xs : List S54} (h : Kd.C k54 w A n xs) (i : Int) (h0 : 0 ≤ i) (h1 : i < n) : ∃ ad , A = some ad ∧ w.cell? (ad.add (i.toNat * 5)) = some (.int .i64 (rd_T54 xs i).f0.f0) ∧ w.cell? ⟨(ad.add (i.toNat * 5)).block, (ad.add (i.toNat * 5)).off + 1, none⟩ = some (.int .i64 (rd_T54 xs i).f0.f1) ∧ w.cell? ⟨(ad.add (i.toNat * 5)).block, (ad.add (i.toNat * 5)).off + 2, none⟩ = some (.int .i64 (rd_T54 xs i).f0.f2) ∧ w.cell? ⟨(ad.add (i.toNat * 5)).block, (ad.add (i.toNat * 5)).off + 3, none⟩ = some (.int .i64 (rd_T54 xs i).f1) ∧ w.cell? ⟨(ad.add (i.toNat * 5)).block, (ad.add (i.toNat * 5)).off + 4, none⟩ = some (.int .i64 (rd_T54 xs i).f2) := by
 obtain ⟨ad, c, e, _, hK, hc0⟩ := Kd.C_get h z54 i h0 h1; have hc : ∀ j u, c[j]? = some u → w.cell? (ad.add (i.toNat * 5 + j)) = some u := hc0; obtain rfl := k54_open hK; (exact ⟨ad, e, hc 0 _ rfl, by rw [← add_field _ _ 1 (by omega)]; exact hc 1 _ rfl, by rw [← add_field _ _ 2 (by omega)]; exact hc 2 _ rfl, by rw [← add_field _ _ 3 (by omega)]; exact hc 3 _ rfl, by rw [← add_field _ _ 4 (by omega)]; exact hc 4 _ rfl⟩)
structure S57 where
  f0 : S24
  f1 : (List S26)
def z57 : S57 := ⟨z24, ([] : List S26)⟩
def k57 : Kd S57 := Kd.iso (Kd.pair k24 (Kd.slice 26 k26)) (fun x : S57 => (x.f0, x.f1))
theorem k57_open {w : World} {x : S57} {cs : List Value} (h : k57.K w x cs) : ∃ A3 c3, cs = [.int .i64 x.f0.f0, .int .i64 x.f0.f1, .int .i64 x.f0.f2, .slice A3 x.f1.length c3] ∧ x.f1.length ≤ c3 ∧ k26.C w A3 x.f1.length x.f1 := by
 obtain ⟨_, _, rfl, s0, ⟨A3, c3, rfl, l3, g3⟩⟩ := h; obtain rfl := k24_open s0; exact ⟨A3, c3, rfl, l3, g3⟩
theorem k57_mk (w : World) (x : S57) {A3 : Option Addr} {c3 : Nat} (l3 : x.f1.length ≤ c3) (g3 : k26.C w A3 x.f1.length x.f1) : k57.K w x [.int .i64 x.f0.f0, .int .i64 x.f0.f1, .int .i64 x.f0.f2, .slice A3 x.f1.length c3] := ⟨[.int .i64 x.f0.f0, .int .i64 x.f0.f1, .int .i64 x.f0.f2], [.slice A3 x.f1.length c3], rfl, (k24_mk w x.f0 ), ⟨A3, c3, rfl, l3, g3⟩⟩
theorem k57_mkM (w : World) (base : Nat) (ok : Nat → Prop) (x : S57) {v3 : Value} (g3 : k26.R 26 w base ok v3 x.f1) : k57.M w base ok x [.int .i64 x.f0.f0, .int .i64 x.f0.f1, .int .i64 x.f0.f2, v3] := ⟨[.int .i64 x.f0.f0, .int .i64 x.f0.f1, .int .i64 x.f0.f2], [v3], rfl, (k24_mkM w base ok x.f0 ), ⟨v3, rfl, g3⟩⟩
theorem k57_mkF (W : World) (ok : Nat → Prop) (x : S57) {A3 : Option Addr} {c3 : Nat} (l3 : x.f1.length ≤ c3) (g3 : Kd.F k26 W ok A3 x.f1.length x.f1) : Kd.FK k57 W ok x [.int .i64 x.f0.f0, .int .i64 x.f0.f1, .int .i64 x.f0.f2, .slice A3 x.f1.length c3] := fun W2 hW => k57_mk W2 x l3 (g3 W2 hW)
def rd_T57 (xs : List S57) (i : Int) : S57 := xs.getD i.toNat z57
theorem at_T57 {w : World} {A : Option Addr} {n : Nat} {xs : List S57} (h : Kd.C k57 w A n xs) (i : Int) (h0 : 0 ≤ i) (h1 : i < n) : ∃ ad A3 c3, A = some ad ∧ w.cell? (ad.add (i.toNat * 4)) = some (.int .i64 (rd_T57 xs i).f0.f0) ∧ w.cell? ⟨(ad.add (i.toNat * 4)).block, (ad.add (i.toNat * 4)).off + 1, none⟩ = some (.int .i64 (rd_T57 xs i).f0.f1) ∧ w.cell? ⟨(ad.add (i.toNat * 4)).block, (ad.add (i.toNat * 4)).off + 2, none⟩ = some (.int .i64 (rd_T57 xs i).f0.f2) ∧ w.cell? ⟨(ad.add (i.toNat * 4)).block, (ad.add (i.toNat * 4)).off + 3, none⟩ = some (.slice A3 (rd_T57 xs i).f1.length c3) ∧ (rd_T57 xs i).f1.length ≤ c3 ∧ k26.C w A3 (rd_T57 xs i).f1.length (rd_T57 xs i).f1 := by
 obtain ⟨ad, c, e, _, hK, hc0⟩ := Kd.C_get h z57 i h0 h1; have hc : ∀ j u, c[j]? = some u → w.cell? (ad.add (i.toNat * 4 + j)) = some u := hc0; obtain ⟨A3, c3, rfl, l3, g3⟩ := k57_open hK; (exact ⟨ad, A3, c3, e, hc 0 _ rfl, by rw [← add_field _ _ 1 (by omega)]; exact hc 1 _ rfl, by rw [← add_field _ _ 2 (by omega)]; exact hc 2 _ rfl, by rw [← add_field _ _ 3 (by omega)]; exact hc 3 _ rfl, l3, g3⟩)
end Go.Proofs.Ytamajnhdibcpiaa.G
namespace Go.Proofs.Ytamajnhdibcpiaa.G
open Go.RowKit Go.Proofs.YtamajnhdibcpiaaW.PrintWords Go.Proofs.YtamajnhdibcpiaaW.PrintLast Go.Proofs.YtamajnhdibcpiaaW.PrintMore
attribute [local go_sem] max2_int min2_int max_two min_two max_three min_three max_four min_four
theorem eqA60 (d : Nat) (w : World) (x0 y0 : Int) (x1 y1 : Int) :
    (Op.equalIn (d + 2) 60 (.agg #[.int .i64 x0, .int .i64 x1]) (.agg #[.int .i64 y0, .int .i64 y1])).run Try.prog w = .ok (x0 == y0 && (x1 == y1)) w := by
 (refine eqA_of Try.underlying60 (by kernel_rfl) ?_); (refine eqf_cons (by rfl) (by go_simp; rfl) (by go_simp; rfl) (by go_simp) ?_); (exact eqf_last (by rfl) (by go_simp; rfl) (by go_simp; rfl) (by go_simp))
end Go.Proofs.Ytamajnhdibcpiaa.G
namespace Go.Proofs.Ytamajnhdibcpiaa.G
open Go.RowKit Go.Proofs.YtamajnhdibcpiaaW.PrintWords Go.Proofs.YtamajnhdibcpiaaW.PrintLast Go.Proofs.YtamajnhdibcpiaaW.PrintMore
attribute [local go_sem] max2_int min2_int max_two min_two max_three min_three max_four min_four
attribute [local go_sem high] eqA60
def api_Point.l0 : Nat → List (S60) → List (S60) → Int → Int → Option (Bool)
  | 0, _, _, _, _ => none
  | k + 1, x0, x1, x12, x13 => if x13 < x12 then (if 0 ≤ x13 then (if x13 < (x0.length : Int) then (if x13 < (x1.length : Int) then (if (!(((rd_T60 x0 x13).f0) == ((rd_T60 x1 x13).f0)) || (!(((rd_T60 x0 x13).f1) == ((rd_T60 x1 x13).f1)))) = true then (some false) else (api_Point.l0 k x0 x1 x12 (wrap64 (x13 + 1)))) else (none)) else (none)) else (none)) else (some true)
def api_Point.f (k : Nat) (l0 : List (S60)) (l1 : List (S60)) : Option (Bool) := if (l0.length : Int) = (l1.length : Int) then (api_Point.l0 k l0 l1 (l0.length : Int) 0) else (some false)
theorem api_Point.mono_l : ∀ k, (∀ y0 y1 y2 y3, LeO (api_Point.l0 k y0 y1 y2 y3) (api_Point.l0 (k + 1) y0 y1 y2 y3))
  | 0 => fun _ _ _ _ r h => by simp [api_Point.l0] at h
  | k + 1 => by
    have ih0 := api_Point.mono_l k
    · intro y0 y1 y2 y3
      unfold api_Point.l0
      repeat' first
      | (with_reducible exact ih0 _ _ _ _)
      | (with_reducible exact LeO.refl _)
      | (with_reducible exact LeO.none _)
      | (with_reducible refine LeO.ite ?_ ?_)
      | (with_reducible refine LeO.bind ?_ (fun _ => ?_))
      | exact ih0 _ _ _ _
      | exact LeO.none _
      | refine LeO.ite ?_ ?_
      | refine LeO.bind ?_ (fun _ => ?_)
theorem api_Point.mono : ∀ a0 a1 k, LeO (api_Point.f k a0 a1) (api_Point.f (k + 1) a0 a1) := by
 intro a0 a1 k; have ih0 := api_Point.mono_l k; unfold api_Point.f
 repeat' first
  | (with_reducible exact ih0 _ _ _ _)
  | (with_reducible exact LeO.refl _)
  | (with_reducible exact LeO.none _)
  | (with_reducible refine LeO.ite ?_ ?_)
  | (with_reducible refine LeO.bind ?_ (fun _ => ?_))
  | exact ih0 _ _ _ _
  | exact LeO.none _
  | refine LeO.ite ?_ ?_
  | refine LeO.bind ?_ (fun _ => ?_)
set_option maxHeartbeats 8000000 in
set_option maxRecDepth 100000 in
theorem api_Point.calls (k : Nat) (A0 : Option Addr) (c0 : Nat) (l0 : List (S60)) (A1 : Option Addr) (c1 : Nat) (l1 : List (S60)) (r : Bool) (w : World) (hr0 : Kd.C k60 w A0 l0.length l0) (hc0 : l0.length ≤ c0) (hr1 : Kd.C k60 w A1 l1.length l1) (hc1 : l1.length ≤ c1) (h : api_Point.f k l0 l1 = some r) :
    Calls Try.prog 45 #[.slice A0 l0.length c0, .slice A1 l1.length c1] w fun e w' => e = .returned (.bool r) ∧ Drawn0 w w' := by
 have hu60 := Try.underlying60; have HR0 := Aside0.mk hr0; have HC0 := Aside0.mk hc0; clear hr0 hc0; have HR1 := Aside0.mk hr1; have HC1 := Aside0.mk hc1; clear hr1 hc1; have H : (if (l0.length : Int) = (l1.length : Int) then (api_Point.l0 k l0 l1 (l0.length : Int) 0) else (some false)) = some r := h; clear h; (by_cases c3 : (l0.length : Int) = (l1.length : Int))
 ·rw [if_pos c3] at H; have c3b0 : ((l0.length : Int) == (l1.length : Int)) = true := beq_iff_eq.mpr c3; have c3b1 : ((l0.length : Int) != (l1.length : Int)) = false := bne_eq_false_iff_eq.mpr c3; (have c3b2 : (l0.length == l1.length) = true := by first | simpa using c3 | (simp at c3 ⊢; omega)); clear c3; have H' := Aside0.mk H; clear H; (go_enter Try.func45, Try.ntmps45); (go_wp2); (repeat (go_quiet (fail); try go_wp2)); (go_loopg [13] k (fun kq v13 w' => ∃ (x13_1 : Int), v13 = .int .i64 x13_1 ∧ Aside0 (api_Point.l0 kq l0 l1 (l0.length : Int) x13_1 = some r) ∧ Aside0 (kq ≤ k) ∧ Drawn0 w w'))
  case atStart => exact ⟨(0), (by first | rfl | (simp; done) | (simp [*]; done)), H', ⟨Nat.le_refl _⟩, by repeat (first | exact Drawn0.refl _ | apply Drawn0.step)⟩
  case round =>
   clear H'; (try clear c1); (try clear p2); (try clear c3); (try clear c3b0); (try clear c3b1); (try clear c3b2); obtain ⟨x13_1, rfl, HA, HK1, ⟨m1, rfl⟩⟩ := hrel
   cases gk with
   | zero => exact absurd HA.out (by simp [api_Point.l0])
   | succ k1 =>
    have H := HA.out; clear HA; simp only [api_Point.l0] at H; (by_cases c4 : x13_1 < (l0.length : Int))
    ·rw [if_pos c4] at H; have c4b0 : decide (x13_1 < (l0.length : Int)) = true := decide_eq_true c4; clear c4; (by_cases c5 : 0 ≤ x13_1)
     ·rw [if_pos c5] at H; have c5b0 : decide (0 ≤ x13_1) = true := decide_eq_true c5; clear c5; (by_cases c6 : x13_1 < (l0.length : Int))
      ·rw [if_pos c6] at H; have c6b0 : decide (x13_1 < (l0.length : Int)) = true := decide_eq_true c6; clear c6; (by_cases c7 : x13_1 < (l1.length : Int))
       ·rw [if_pos c7] at H; have c7b0 : decide (x13_1 < (l1.length : Int)) = true := decide_eq_true c7; clear c7; (by_cases c8 : (!(((rd_T60 l0 x13_1).f0) == ((rd_T60 l1 x13_1).f0)) || (!(((rd_T60 l0 x13_1).f1) == ((rd_T60 l1 x13_1).f1)))) = true)
        ·rw [if_pos c8] at H; (have c8b0 : (!(((rd_T60 l0 x13_1).f0) == ((rd_T60 l1 x13_1).f0)) || (!(((rd_T60 l0 x13_1).f1) == ((rd_T60 l1 x13_1).f1)))) = true := c8); clear c8; obtain rfl := Option.some.inj H; (have p128 : 0 ≤ (x13_1 : Int) := of_decide_eq_true (by assumption)); (have q128 : x13_1 < (l0.length : Int) := of_decide_eq_true (by assumption)); obtain ⟨ad128, e128, hx128_0, hx128_1⟩ := at_T60 HR0.out x13_1 p128 q128; cases e128; replace p128 := eq_true p128; replace q128 := eq_true q128; (have p129 : 0 ≤ (x13_1 : Int) := of_decide_eq_true (by assumption)); (have q129 : x13_1 < (l1.length : Int) := of_decide_eq_true (by assumption)); obtain ⟨ad129, e129, hx129_0, hx129_1⟩ := at_T60 HR1.out x13_1 p129 q129; cases e129; replace p129 := eq_true p129; replace q129 := eq_true q129; (go_wp2); (repeat (go_quiet (fail); try go_wp2)); (go_ret); (exact ⟨by first | rfl | (simp; done) | (simp [*]; done), by repeat (first | exact Drawn0.refl _ | apply Drawn0.step)⟩)
        ·rw [if_neg c8] at H; (have c8b0 : (!(((rd_T60 l0 x13_1).f0) == ((rd_T60 l1 x13_1).f0)) || (!(((rd_T60 l0 x13_1).f1) == ((rd_T60 l1 x13_1).f1)))) = false := by simpa using c8); clear c8; have H' := Aside0.mk H; clear H; (have p128 : 0 ≤ (x13_1 : Int) := of_decide_eq_true (by assumption)); (have q128 : x13_1 < (l0.length : Int) := of_decide_eq_true (by assumption)); obtain ⟨ad128, e128, hx128_0, hx128_1⟩ := at_T60 HR0.out x13_1 p128 q128; cases e128; replace p128 := eq_true p128; replace q128 := eq_true q128; (have p129 : 0 ≤ (x13_1 : Int) := of_decide_eq_true (by assumption)); (have q129 : x13_1 < (l1.length : Int) := of_decide_eq_true (by assumption)); obtain ⟨ad129, e129, hx129_0, hx129_1⟩ := at_T60 HR1.out x13_1 p129 q129; cases e129; replace p129 := eq_true p129; replace q129 := eq_true q129; (go_wp2); (repeat (go_quiet (fail); try go_wp2)); (go_roundg k1)
         case measure => have := HK1.out; omega
         case rel => exact ⟨(wrap64 (x13_1 + 1)), (by first | rfl | (simp; done) | (simp [*]; done)), H', ⟨by have := HK1.out; omega⟩, by repeat (first | exact Drawn0.refl _ | apply Drawn0.step)⟩
       ·rw [if_neg c7] at H; (exact absurd H (by simp))
      ·rw [if_neg c6] at H; (exact absurd H (by simp))
     ·rw [if_neg c5] at H; (exact absurd H (by simp))
    ·rw [if_neg c4] at H; have c4b0 : decide (x13_1 < (l0.length : Int)) = false := decide_eq_false c4; clear c4; obtain rfl := Option.some.inj H; (go_wp2); (repeat (go_quiet (fail); try go_wp2)); (go_ret); (exact ⟨by first | rfl | (simp; done) | (simp [*]; done), by repeat (first | exact Drawn0.refl _ | apply Drawn0.step)⟩)
 ·rw [if_neg c3] at H; have c3b0 : ((l0.length : Int) == (l1.length : Int)) = false := beq_eq_false_iff_ne.mpr c3; have c3b1 : ((l0.length : Int) != (l1.length : Int)) = true := bne_iff_ne.mpr c3; (have c3b2 : (l0.length == l1.length) = false := by first | simpa using c3 | (simp at c3 ⊢; omega)); obtain rfl := Option.some.inj H; (go_enter Try.func45, Try.ntmps45); (go_wp2); (repeat (go_quiet (fail); try go_wp2)); (go_ret); (exact ⟨by first | rfl | (simp; done) | (simp [*]; done), by repeat (first | exact Drawn0.refl _ | apply Drawn0.step)⟩)
end Go.Proofs.Ytamajnhdibcpiaa.G
namespace Go.Proofs.Ytamajnhdibcpiaa.G
open Go.RowKit Go.Shelf Go.Proofs.YtamajnhdibcpiaaW.PrintWords Go.Proofs.YtamajnhdibcpiaaW.PrintLast Go.Proofs.YtamajnhdibcpiaaW.PrintMore
attribute [local go_sem] Oper.semAt_some
def ev28 (x : S28) : Value := .agg #[.int .i64 x.f0.f0, .int .i64 x.f0.f1, .int .i64 x.f0.f2, .int .i64 x.f1, .int .i64 x.f2.f0, .int .i64 x.f2.f1, .int .i64 x.f3, .int .i64 x.f4]
structure Kpt (n0 n1 : Nat) (W W' : World) : Prop where
  below : Below n0 W W'
  cells : ∀ (i : Nat) (o : Obj), n1 ≤ i → W.heap[i]? = some o → o.isCells = true → W'.heap[i]? = some o
theorem Kpt.refl (n0 n1 : Nat) (W : World) : Kpt n0 n1 W W := ⟨Below.refl _ _, fun _ _ _ h _ => h⟩
theorem Kpt.trans {n0 n1 : Nat} {A B C : World} (h : Kpt n0 n1 A B) (k : Kpt n0 n1 B C) : Kpt n0 n1 A C :=
  ⟨h.below.trans k.below, fun i o hi ho hc => k.cells i o hi (h.cells i o hi ho hc) hc⟩
theorem Kpt.putObj {n0 n1 : Nat} {w : World} (hn : n0 ≤ w.heap.size) (W : World) (l : Nat) (o o' : Obj) (hl : w.heap.size ≤ l) (h : W.heap[l]? = some o) (hc : o.isCells = false) (hw : o.isWalk = false) : Kpt n0 n1 W (W.putObj l o') :=
  ⟨belowK_b hn W l o o' hl h hc hw, fun i o2 _ ho hc2 => by
    by_cases e : i = l
    · subst e; rw [h] at ho; cases ho; rw [hc] at hc2; cases hc2
    · exact (World.putObj_heap_other e).trans ho⟩
theorem Kpt.alloc {n0 n1 : Nat} (W : World) (hn : n0 ≤ W.heap.size) (o : Obj) : Kpt n0 n1 W (W.alloc o) :=
  ⟨(Below.refl _ W).alloc hn o, fun i o2 _ ho _ => (Below.heap_alloc W o i (Array.getElem?_eq_some_iff.1 ho).1).trans ho⟩
theorem Kpt.of_below {n0 n1 : Nat} {W W' : World} (hn : n0 ≤ W.heap.size) (h : Below W.heap.size W W') : Kpt n0 n1 W W' :=
  ⟨h.mono hn, fun i o _ ho _ => (h.block i (Array.getElem?_eq_some_iff.1 ho).1).trans ho⟩
theorem Kpt.block {n0 n1 : Nat} {W W' : World} (h : Kpt n0 n1 W W') {i : Nat} (hi : n1 ≤ i) {cs : Array Value} {t : TypeId} {fr : Nat × Nat} (hb : W.heap[i]? = some (.cells cs t fr)) : W'.heap[i]? = some (.cells cs t fr) :=
  h.cells i _ hi hb rfl
theorem KeepsFrom.of_below {B : Nat} {W W' : World} (h : Below W.heap.size W W') : KeepsFrom B W W' := ⟨h.size, fun k o _ hk _ => (h.block k (Array.getElem?_eq_some_iff.1 hk).1).trans hk⟩
theorem info28g : (Try.prog.info? 28).map (fun i => (i.zero, i.size, i.bytes)) = some (some (.agg #[(.int .i64 0), (.int .i64 0), (.int .i64 0), (.int .i64 0), (.int .i64 0), (.int .i64 0), (.int .i64 0), (.int .i64 0)]), 8, 64) := by kernel_rfl
theorem at28 {w : World} {A : Option Addr} {xs : List S28} (h : Kd.C k28 w A xs.length xs) {k : Nat} (hk : k < xs.length) :
    ∃ ad, A = some ad ∧ w.cell? (ad.add (k * 8)) = some (.int .i64 (xs.getD k z28).f0.f0) ∧ w.cell? ⟨(ad.add (k * 8)).block, (ad.add (k * 8)).off + 1, none⟩ = some (.int .i64 (xs.getD k z28).f0.f1) ∧ w.cell? ⟨(ad.add (k * 8)).block, (ad.add (k * 8)).off + 2, none⟩ = some (.int .i64 (xs.getD k z28).f0.f2) ∧ w.cell? ⟨(ad.add (k * 8)).block, (ad.add (k * 8)).off + 3, none⟩ = some (.int .i64 (xs.getD k z28).f1) ∧ w.cell? ⟨(ad.add (k * 8)).block, (ad.add (k * 8)).off + 4, none⟩ = some (.int .i64 (xs.getD k z28).f2.f0) ∧ w.cell? ⟨(ad.add (k * 8)).block, (ad.add (k * 8)).off + 5, none⟩ = some (.int .i64 (xs.getD k z28).f2.f1) ∧ w.cell? ⟨(ad.add (k * 8)).block, (ad.add (k * 8)).off + 6, none⟩ = some (.int .i64 (xs.getD k z28).f3) ∧ w.cell? ⟨(ad.add (k * 8)).block, (ad.add (k * 8)).off + 7, none⟩ = some (.int .i64 (xs.getD k z28).f4) := by
 (have := at_T28 h (k : Int) (by omega) (by omega)); (simpa [rd_T28] using this)
theorem cut28 (A : Option Addr) (c : Nat) (xs : List S28) (m : Nat) (hm : m ≤ xs.length) (hc : xs.length ≤ c) :
    ∃ A' : Option Addr, (∀ W : World, (Instr.slice 22 (.slice A xs.length c) (some (.int .i64 (m : Int))) none none).run Try.prog W = .ok (.slice A' (xs.length - m) (c - m)) W) ∧
      ∀ w : World, Kd.C k28 w A xs.length xs → Kd.C k28 w A' (xs.drop m).length (xs.drop m) := by
 (have h := cut_from (P := Try.prog) 22 28 .i64 Try.underlying22 (i := (Try.prog.info? 28).get!) (by kernel_rfl) 8 (by kernel_rfl) A xs.length c (m : Int) (by omega) (by omega)); simp only [Int.toNat_natCast] at h; (exact ⟨_, h, fun w hC => Kd.C_drop hC hm hc⟩)
end Go.Proofs.Ytamajnhdibcpiaa.G
namespace Go.Proofs.Ytamajnhdibcpiaa.G
open Go.RowKit Go.Shelf Go.Proofs.YtamajnhdibcpiaaW.PrintWords Go.Proofs.YtamajnhdibcpiaaW.PrintLast Go.Proofs.YtamajnhdibcpiaaW.PrintMore
attribute [local go_sem] Oper.semAt_some
def selB (key : S24) (known : Int) (x : S28) : Bool := decide (x.f0.f0 = key.f0 ∧ x.f0.f1 = key.f1 ∧ x.f0.f2 = key.f2 ∧ x.f3 ≤ known)
def ofM (l : List S28) (key : S24) (known : Int) : List S28 := l.filter (selB key known)
set_option maxRecDepth 100000 in
set_option maxHeartbeats 2000000 in
theorem of1_in (F : Fence) (n : Nat) (h53 : F.fn 53) (hro : F.round = none) (hn : 1 ≤ n) (l Bs : Nat) (w0 : World) (A : Option Addr) (c : Nat) (xs : List S28) (key : S24) (known : Int) (hC : Kd.C k28 w0 A xs.length xs) (hc : xs.length ≤ c) (J Jx : List S28 → World → Prop)
    (hY : ∀ pre x W, J pre W → pre.length < (ofM xs key known).length → YieldAt F (n - 1) Try.prog l #[ev28 x] W fun e W' =>
      (e = .returned (.bool true) ∧ J (pre ++ [x]) W' ∧ Kpt w0.heap.size Bs W W') ∨ (e = .returned (.bool false) ∧ Jx (pre ++ [x]) W'))
    (W : World) (hJ : AbidesFrom W.heap.size J) (hw : Below w0.heap.size w0 W) (hBs : W.heap[Bs]? = some (.cells #[.slice A xs.length c] 22 (0, 0))) (hB1 : W.heap[Bs + 1]? = some (.cells #[.int .i64 key.f0, .int .i64 key.f1, .int .i64 key.f2] 24 (0, 0))) (hB2 : W.heap[Bs + 2]? = some (.cells #[.int .i64 known] 3 (0, 0))) (h0 : J [] W) :
    CallsIn F n Try.prog 53 #[.func (.yield l) #[] #[], .pointer (some ⟨Bs, 0, none⟩), .pointer (some ⟨Bs + 1, 0, none⟩), .pointer (some ⟨Bs + 2, 0, none⟩)] W fun e W' => (∃ v, e = .returned v) ∧
      ((∃ ys, ys = ofM xs key known ∧ J ys W') ∨ (∃ pre, pre <+: ofM xs key known ∧ Jx pre W')) := by
 have hlen : xs.length ≤ 9223372036854775807 := hC.2.1; (have hJa : ∀ s (X : World) o, J s X → J s (X.alloc o) := fun s X o h => hJ s X _ none h (World.grownBy_alloc X o none) (fun r e => by cases e)); (have cB : W.cell? ⟨Bs, 0, none⟩ = some (.slice A xs.length c) := by simp [World.cell?, hBs]); have hu28 := Try.underlying28; refine callsIn_of_wp Try.func53 rfl h53 ?_ hro; simp only [Try.ntmps53, List.size_toArray, List.length_cons, List.length_nil, Nat.reduceAdd, Nat.reduceSub, Array.replicate_succ, Array.replicate_zero, List.push_toArray, List.append_toArray, List.nil_append, List.cons_append]; (gi_wp2)
 gi_loopw [9] (fun i wr => ∃ k : Nat, k ≤ xs.length ∧ i = .int .i64 k ∧ J (ofM (xs.take k) key known) wr ∧ Kpt w0.heap.size Bs W wr)
  (fun i _ => xs.length - (intOf i).toNat)
 case atStart => exact ⟨0, Nat.zero_le _, rfl, h0, Kpt.refl _ _ _⟩
 case round =>
  obtain ⟨k, hk, rfl, hJs, hK⟩ := hrel; (by_cases hlt : k < xs.length)
  ·have hC1 := Kd.C_below hC (hw.trans hK.below); obtain ⟨ad, rfl, g0, g1, g2, g3, g4, g5, g6, g7⟩ := at28 hC1 hlt; (have hx : xs.getD k z28 = xs[k] := by simp [hlt]); rw [hx] at g0 g1 g2 g3 g4 g5 g6 g7; (have q1 := hK.block (by omega) hB1); (have q2 := hK.block (by omega) hB2); have l1 : Bs + 1 < wr.heap.size := (Array.getElem?_eq_some_iff.1 q1).1; have l2 : Bs + 2 < wr.heap.size := (Array.getElem?_eq_some_iff.1 q2).1; (have c10 : wr.cell? ⟨Bs + 1, 0, none⟩ = some (.int .i64 key.f0) := by simp [World.cell?, q1]); (have c11 : wr.cell? ⟨Bs + 1, 1, none⟩ = some (.int .i64 key.f1) := by simp [World.cell?, q1]); (have c12 : wr.cell? ⟨Bs + 1, 2, none⟩ = some (.int .i64 key.f2) := by simp [World.cell?, q1]); (have c20 : wr.cell? ⟨Bs + 2, 0, none⟩ = some (.int .i64 known) := by simp [World.cell?, q2]); have hwr : w0.heap.size ≤ wr.heap.size := Nat.le_trans hw.size hK.below.size; have htk : xs.take (k + 1) = xs.take k ++ [xs[k]] := List.take_succ_eq_append_getElem hlt; (by_cases hs : selB key known xs[k] = true)
   ·(have hs2 : xs[k].f0.f0 = key.f0 ∧ xs[k].f0.f1 = key.f1 ∧ xs[k].f0.f2 = key.f2 ∧ xs[k].f3 ≤ known := by simpa [selB] using hs); obtain ⟨s0, s1, s2, s3⟩ := hs2; (have hpart : ofM (xs.take (k + 1)) key known = ofM (xs.take k) key known ++ [xs[k]] := by unfold ofM; rw [htk, List.filter_append]; simp [hs]); have hpre : ofM (xs.take (k + 1)) key known <+: ofM xs key known := List.IsPrefix.filter _ (List.take_prefix _ _); have hJ1 := hJa _ _ (.cells #[.int .i64 key.f0, .int .i64 key.f1, .int .i64 key.f2, .int .i64 xs[k].f1, .int .i64 xs[k].f2.f0, .int .i64 xs[k].f2.f1, .int .i64 xs[k].f3, .int .i64 xs[k].f4] 28) hJs; have hK1 := hK.trans (Kpt.alloc (n1 := Bs) wr hwr (.cells #[.int .i64 key.f0, .int .i64 key.f1, .int .i64 key.f2, .int .i64 xs[k].f1, .int .i64 xs[k].f2.f0, .int .i64 xs[k].f2.f1, .int .i64 xs[k].f3, .int .i64 xs[k].f4] 28)); (obtain ⟨fn, tmps, assign, body, hy, hR⟩ := hY _ xs[k] _ hJ1 (by have := hpre.length_le; rw [hpart, List.length_append] at this; simp at this; omega)); simp only [ev28, s0, s1, s2] at hy; clear hs; (gi_wp2); refine hR.mono ?_; (rintro e W3 (⟨rfl, hJ3, hk3⟩ | ⟨rfl, hJx3⟩))
    ·rw [← hpart] at hJ3; have hK4 := hK1.trans hk3; clear hy hR hpart; (gi_wp2); (go_roundw)
     case rel => exact ⟨k + 1, by omega, by simp, hJ3, hK4⟩
     case measure => simp [intOf]; omega
    ·rw [← hpart] at hJx3; clear hy hR hpart; (gi_wp2); refine bodyPost_ret (results_none rfl _ _ _) rfl ?_; exact ⟨⟨_, rfl⟩, .inr ⟨_, hpre, hJx3⟩⟩
   ·(have hpart : ofM (xs.take (k + 1)) key known = ofM (xs.take k) key known := by unfold ofM; rw [htk, List.filter_append]; simp [hs]); (have hJ1 : ∀ o, J (ofM (xs.take (k + 1)) key known) (wr.alloc o) := fun o => by rw [hpart]; exact hJa _ _ o hJs); (have hK1 : ∀ o, Kpt w0.heap.size Bs W (wr.alloc o) := fun o => hK.trans (Kpt.alloc (n1 := Bs) wr hwr o)); have hJ2 := Aside0.mk hJ1; have hK2 := Aside0.mk hK1; clear hJ1 hK1; (by_cases a0 : xs[k].f0.f0 = key.f0)
    ·by_cases a1 : xs[k].f0.f1 = key.f1
     ·by_cases a2 : xs[k].f0.f2 = key.f2
      ·(have a3 : decide (xs[k].f3 ≤ known) = false := by rw [decide_eq_false_iff_not]; intro h; exact hs (by simp [selB, a0, a1, a2, h])); clear hs; (gi_wp2); (refine ⟨fun f hf => (by cases hf), ?_⟩); (gi_wp2); (go_roundw)
       case rel => exact ⟨k + 1, by omega, by simp, hJ2.out _, hK2.out _⟩
       case measure => simp [intOf]; omega
      ·have n2 : (xs[k].f0.f2 == key.f2) = false := beq_eq_false_iff_ne.2 a2; clear hs; (gi_wp2); (refine ⟨fun f hf => (by cases hf), ?_⟩); (gi_wp2); (go_roundw)
       case rel => exact ⟨k + 1, by omega, by simp, hJ2.out _, hK2.out _⟩
       case measure => simp [intOf]; omega
     ·have n1 : (xs[k].f0.f1 == key.f1) = false := beq_eq_false_iff_ne.2 a1; clear hs; (gi_wp2); (refine ⟨fun f hf => (by cases hf), ?_⟩); (gi_wp2); (go_roundw)
      case rel => exact ⟨k + 1, by omega, by simp, hJ2.out _, hK2.out _⟩
      case measure => simp [intOf]; omega
    ·have n0 : (xs[k].f0.f0 == key.f0) = false := beq_eq_false_iff_ne.2 a0; clear hs; (gi_wp2); (refine ⟨fun f hf => (by cases hf), ?_⟩); (gi_wp2); (go_roundw)
     case rel => exact ⟨k + 1, by omega, by simp, hJ2.out _, hK2.out _⟩
     case measure => simp [intOf]; omega
  ·(obtain rfl : k = xs.length := by omega); rw [List.take_length] at hJs; (gi_wp2); (go_end0); exact ⟨⟨_, rfl⟩, .inl ⟨_, rfl, hJs⟩⟩
set_option maxHeartbeats 1000000 in
theorem of_in (F : Fence) (n : Nat) (h38 : F.fn 38) (hro : F.round = none) (a : Option Addr) (len cap : Nat) (key : S24) (known : Int) (w : World) :
    CallsIn F n Try.prog 38 #[.slice a len cap, .agg #[.int .i64 key.f0, .int .i64 key.f1, .int .i64 key.f2], .int .i64 known] w fun e w' => e = .returned (.func (.func 53) #[] #[.pointer (some ⟨w.heap.size, 0, none⟩), .pointer (some ⟨w.heap.size + 1, 0, none⟩), .pointer (some ⟨w.heap.size + 2, 0, none⟩)]) ∧ w' = ((w.alloc (.cells #[.slice a len cap] 22)).alloc (.cells #[.int .i64 key.f0, .int .i64 key.f1, .int .i64 key.f2] 24)).alloc (.cells #[.int .i64 known] 3) := by
 refine callsIn_of_wp Try.func38 rfl h38 ?_ hro; simp only [Try.ntmps38, List.size_toArray, List.length_cons, List.length_nil, Nat.reduceAdd, Nat.reduceSub, Array.replicate_succ, Array.replicate_zero, List.push_toArray, List.append_toArray, List.nil_append, List.cons_append]; (gi_wp2); (go_ret); exact ⟨rfl, rfl⟩
theorem of_stops (F : Fence) (n : Nat) (h53 : F.fn 53) (hro : F.round = none) (hn : 1 ≤ n) (Bs : Nat) (w0 : World) (A : Option Addr) (c : Nat) (xs : List S28) (key : S24) (known : Int) (hC : Kd.C k28 w0 A xs.length xs) (hc : xs.length ≤ c) (w : World) (hw : Below w0.heap.size w0 w)
    (hBs : w.heap[Bs]? = some (.cells #[.slice A xs.length c] 22 (0, 0))) (hB1 : w.heap[Bs + 1]? = some (.cells #[.int .i64 key.f0, .int .i64 key.f1, .int .i64 key.f2] 24 (0, 0))) (hB2 : w.heap[Bs + 2]? = some (.cells #[.int .i64 known] 3 (0, 0))) :
    SeqStopsK F n Try.prog 53 #[.pointer (some ⟨Bs, 0, none⟩), .pointer (some ⟨Bs + 1, 0, none⟩), .pointer (some ⟨Bs + 2, 0, none⟩)] (fun x : S28 => #[ev28 x]) (Kpt w0.heap.size Bs) (fun ys => ys = ofM xs key known) (fun pre => pre <+: ofM xs key known) (ofM xs key known).length w := fun l J Jx W hW hJ _ hY h0 =>
  of1_in F n h53 hro hn l Bs w0 A c xs key known hC hc J Jx hY W hJ (hw.trans (hW.mono hw.size)) ((hW.block Bs (Array.getElem?_eq_some_iff.1 hBs).1).trans hBs) ((hW.block (Bs + 1) (Array.getElem?_eq_some_iff.1 hB1).1).trans hB1) ((hW.block (Bs + 2) (Array.getElem?_eq_some_iff.1 hB2).1).trans hB2) h0
end Go.Proofs.Ytamajnhdibcpiaa.G
namespace Go.Proofs.Ytamajnhdibcpiaa.G
open Go.RowKit Go.Shelf Go.Proofs.YtamajnhdibcpiaaW.PrintWords Go.Proofs.YtamajnhdibcpiaaW.PrintLast Go.Proofs.YtamajnhdibcpiaaW.PrintMore
def idxM (p : S28 → Bool) : List S28 → Int → Int
  | [], _ => -1
  | x :: r, i => if p x then i else idxM p r (i + 1)
theorem idxM_from (p : S28 → Bool) (l : List S28) : ∀ i : Int, 0 ≤ i → (l.any p = true → i ≤ idxM p l i) ∧ (l.any p = false → idxM p l i = -1) := by
 induction l with
 | nil => intro i _; simp [idxM]
 | cons x r ih =>
  intro i hi; (have := ih (i + 1) (by omega)); (by_cases h : p x = true)
  ·simp [idxM, h]
  ·simp only [Bool.not_eq_true] at h; simp only [List.any_cons, h, Bool.false_or, idxM]; (exact ⟨fun h2 => by have := this.1 h2; simp; omega, fun h2 => by simpa using this.2 h2⟩)
theorem idxM_nonneg (p : S28 → Bool) (l : List S28) : decide (0 ≤ idxM p l 0) = l.any p := by
 have h := idxM_from p l 0 (by omega)
 cases ha : l.any p with
 | true => have := h.1 ha; simp; omega
 | false => rw [h.2 ha]; rfl
set_option maxRecDepth 100000 in
set_option maxHeartbeats 2000000 in
theorem index_fit  (p : S28 → Bool) (A0 : Option Addr) (c0 : Nat) (l0 : List S28) (w : World) (hr0 : Kd.C k28 w A0 l0.length l0)
    (hp : ∀ (W : World) (x : S28), Below w.heap.size w W → Calls Try.prog 37 #[ev28 x] W fun e w' => e = .returned (.bool (p x)) ∧ Below W.heap.size W w') :
    Calls Try.prog 52 #[.slice A0 l0.length c0, .func (.func 37) #[] #[]] w fun e w' => e = .returned (.int .i64 (idxM p l0 0)) ∧ Below w.heap.size w w' := by
 have hlen : l0.length ≤ 9223372036854775807 := hr0.2.1; have hu28 := Try.underlying28; have HP := Aside0.mk hp; clear hp; (go_enter Try.func52, Try.ntmps52); (go_wp2)
 go_loopw [8] (fun i wr => ∃ k : Nat, k ≤ l0.length ∧ i = .int .i64 k ∧ Below w.heap.size w wr ∧ Aside0 (idxM p l0 0 = idxM p (l0.drop k) k))
  (fun i _ => l0.length - (intOf i).toNat)
 case atStart => exact ⟨0, by omega, rfl, Below.refl _ w, ⟨by simp⟩⟩
 case round =>
  obtain ⟨k, hk, rfl, hB, hI⟩ := hrel; (by_cases hlt : k < l0.length)
  ·obtain ⟨ad, rfl, g0, g1, g2, g3, g4, g5, g6, g7⟩ := at28 (Kd.C_below hr0 hB) hlt; (have hx : l0.getD k z28 = l0[k] := by simp [hlt]); rw [hx] at g0 g1 g2 g3 g4 g5 g6 g7; have hd : Aside0 (l0.drop k = l0[k] :: l0.drop (k + 1)) := ⟨List.drop_eq_getElem_cons hlt⟩
   cases hv : p l0[k] with
   | true =>
    have hv2 : Aside0 (p l0[k] = true) := ⟨hv⟩; clear hv; (have hans : Aside0 (idxM p l0 0 = k) := ⟨by rw [hI.out, hd.out, idxM, if_pos hv2.out]⟩); clear hI; (go_wp2_with (go_at_call 37; refine (HP.out _ l0[k] hB).mono ?_; rintro e w1 ⟨rfl, hb1⟩; rw [hv2.out])); (go_ret); (exact ⟨by rw [hans.out]; rfl, hB.trans (hb1.mono hB.size)⟩)
   | false =>
    have hv2 : Aside0 (p l0[k] = false) := ⟨hv⟩; clear hv; (have hans : Aside0 (idxM p l0 0 = idxM p (l0.drop (k + 1)) ((k + 1 : Nat) : Int)) := ⟨by rw [hI.out, hd.out, idxM, if_neg (by rw [hv2.out]; simp)]; rfl⟩); clear hI; (go_wp2_with (go_at_call 37; refine (HP.out _ l0[k] hB).mono ?_; rintro e w1 ⟨rfl, hb1⟩; rw [hv2.out])); (go_roundw)
    case rel => exact ⟨k + 1, by omega, by simp, hB.trans (hb1.mono hB.size), hans⟩
    case measure => simp [intOf]; omega
  ·(have hans : Aside0 (idxM p l0 0 = -1) := ⟨by rw [hI.out, List.drop_of_length_le (by omega), idxM]⟩); clear hI; (go_wp2); (go_ret); (exact ⟨by rw [hans.out]; rfl, hB⟩)
set_option maxHeartbeats 1000000 in
theorem contains_fit  (p : S28 → Bool) (A0 : Option Addr) (c0 : Nat) (l0 : List S28) (w : World) (hr0 : Kd.C k28 w A0 l0.length l0)
    (hp : ∀ (W : World) (x : S28), Below w.heap.size w W → Calls Try.prog 37 #[ev28 x] W fun e w' => e = .returned (.bool (p x)) ∧ Below W.heap.size W w') :
    Calls Try.prog 36 #[.slice A0 l0.length c0, .func (.func 37) #[] #[]] w fun e w' => e = .returned (.bool (l0.any p)) ∧ Below w.heap.size w w' := by
 have HI := Aside0.mk (index_fit  p A0 c0 l0 w hr0 hp); have hans := Aside0.mk (idxM_nonneg p l0); clear hp; (go_enter Try.func36, Try.ntmps36); (go_wp2_with (go_at_call 52; refine HI.out.mono ?_; rintro e w1 ⟨rfl, hb1⟩)); (go_ret); (exact ⟨by rw [hans.out]; rfl, hb1⟩)
set_option maxRecDepth 100000 in
set_option maxHeartbeats 2000000 in
theorem index_late (b0 : Nat) (p : S28 → Bool) (A0 : Option Addr) (c0 : Nat) (l0 : List S28) (w : World) (hr0 : Kd.C k28 w A0 l0.length l0)
    (hp : ∀ (W : World) (x : S28), Below w.heap.size w W → Calls Try.prog 48 #[ev28 x, .pointer (some ⟨b0, 0, none⟩)] W fun e w' => e = .returned (.bool (p x)) ∧ Below W.heap.size W w') :
    Calls Try.prog 52 #[.slice A0 l0.length c0, .func (.func 48) #[] #[.pointer (some ⟨b0, 0, none⟩)]] w fun e w' => e = .returned (.int .i64 (idxM p l0 0)) ∧ Below w.heap.size w w' := by
 have hlen : l0.length ≤ 9223372036854775807 := hr0.2.1; have hu28 := Try.underlying28; have HP := Aside0.mk hp; clear hp; (go_enter Try.func52, Try.ntmps52); (go_wp2)
 go_loopw [8] (fun i wr => ∃ k : Nat, k ≤ l0.length ∧ i = .int .i64 k ∧ Below w.heap.size w wr ∧ Aside0 (idxM p l0 0 = idxM p (l0.drop k) k))
  (fun i _ => l0.length - (intOf i).toNat)
 case atStart => exact ⟨0, by omega, rfl, Below.refl _ w, ⟨by simp⟩⟩
 case round =>
  obtain ⟨k, hk, rfl, hB, hI⟩ := hrel; (by_cases hlt : k < l0.length)
  ·obtain ⟨ad, rfl, g0, g1, g2, g3, g4, g5, g6, g7⟩ := at28 (Kd.C_below hr0 hB) hlt; (have hx : l0.getD k z28 = l0[k] := by simp [hlt]); rw [hx] at g0 g1 g2 g3 g4 g5 g6 g7; have hd : Aside0 (l0.drop k = l0[k] :: l0.drop (k + 1)) := ⟨List.drop_eq_getElem_cons hlt⟩
   cases hv : p l0[k] with
   | true =>
    have hv2 : Aside0 (p l0[k] = true) := ⟨hv⟩; clear hv; (have hans : Aside0 (idxM p l0 0 = k) := ⟨by rw [hI.out, hd.out, idxM, if_pos hv2.out]⟩); clear hI; (go_wp2_with (go_at_call 48; refine (HP.out _ l0[k] hB).mono ?_; rintro e w1 ⟨rfl, hb1⟩; rw [hv2.out])); (go_ret); (exact ⟨by rw [hans.out]; rfl, hB.trans (hb1.mono hB.size)⟩)
   | false =>
    have hv2 : Aside0 (p l0[k] = false) := ⟨hv⟩; clear hv; (have hans : Aside0 (idxM p l0 0 = idxM p (l0.drop (k + 1)) ((k + 1 : Nat) : Int)) := ⟨by rw [hI.out, hd.out, idxM, if_neg (by rw [hv2.out]; simp)]; rfl⟩); clear hI; (go_wp2_with (go_at_call 48; refine (HP.out _ l0[k] hB).mono ?_; rintro e w1 ⟨rfl, hb1⟩; rw [hv2.out])); (go_roundw)
    case rel => exact ⟨k + 1, by omega, by simp, hB.trans (hb1.mono hB.size), hans⟩
    case measure => simp [intOf]; omega
  ·(have hans : Aside0 (idxM p l0 0 = -1) := ⟨by rw [hI.out, List.drop_of_length_le (by omega), idxM]⟩); clear hI; (go_wp2); (go_ret); (exact ⟨by rw [hans.out]; rfl, hB⟩)
set_option maxRecDepth 100000 in
set_option maxHeartbeats 2000000 in
theorem clone_calls (A0 : Option Addr) (c0 : Nat) (l0 : List S28) (w : World) (hr0 : Kd.C k28 w A0 l0.length l0) (hsz : l0.length * 64 ≤ 140737488355328) :
    Calls Try.prog 47 #[.slice A0 l0.length c0] w fun e w' => ∃ v, e = .returned v ∧ Kd.R k28 28 w' w.heap.size (fun _ => True) v l0 ∧ Below w.heap.size w w' := by
 cases A0 with
 | none =>
  have h0 : l0 = [] := by
   rcases Nat.eq_zero_or_pos l0.length with h | h
   ·exact List.eq_nil_of_length_eq_zero h
   ·obtain ⟨_, e, _⟩ := hr0.2.2 h; cases e
  subst h0; (have hq := fun (W : World) => Lib.run_eql_slice_nil (P := Try.prog) W 22 28 none 0 c0 0 0 Try.underlying22); simp only [List.length_nil]; (go_enter Try.func47, Try.ntmps47); (go_wp2); (go_ret); exact ⟨_, rfl, Kd.R_nil _ _ _ _ _, Below.refl _ _⟩
 | some ad =>
  (have hq := fun (W : World) => Lib.run_eql_slice_nil (P := Try.prog) W 22 28 (some ad) l0.length c0 0 0 Try.underlying22); have HR := Aside0.mk hr0; clear hr0; (go_enter Try.func47, Try.ntmps47); (go_wp2_with (first | ((with_reducible refine gate_dst (N := 5) rfl ?_); refine Kd.R_lit k28 w.heap.size 28 ?hg (N := 5) ?hd (xs := ([] : List S28)) (inner := []) (ok := fun _ => True) (okp := fun _ => True) ?hr ?hp (fun _ hk => hk) trivial (Below.refl _ _) (Nat.le_refl _) (by simp) ?_; (case hd => rfl); (case hg => rfl); (case hr => first | (go_simp; done) | (go_simp; rfl)); (case hp => exact Reps.none _ _); intro v1 w1 ho1 hb1 hg1 hnew1; clear hg1 hnew1; have HO1 := Aside0.mk ho1; have HB1 := Aside0.mk hb1; clear ho1 hb1) | ((with_reducible refine gate_builtin (b := .append) (xs := #[.tmp 5, .tmp 6]) rfl ?_); at_builtin; refine Kd.R_append_rows k28 (w0 := w) w.heap.size rfl (.tmp 5) (.tmp 6) 22 28 (.agg #[(.int .i64 0), (.int .i64 0), (.int .i64 0), (.int .i64 0), (.int .i64 0), (.int .i64 0), (.int .i64 0), (.int .i64 0)]) 64 rfl Try.underlying22 info28g rfl (by decide) (by omega) v1 [] l0 _ _ _ (fun _ => True) (fun _ => False) rfl rfl ?aO ?aR (fun _ _ h => h) (fun _ h => h.elim) (fun _ _ => trivial) ?aB ?aS ?aL ?_; (case aR => exact Kd.C_below HR.out HB1.out); (case aB => exact HB1.out); (case aO => exact HO1.out); (case aS => exact HB1.out.size); (case aL => simp; omega); intro v2 w2 ho2 hb2 hg2 hat2; clear hg2 hat2; simp only [List.nil_append] at ho2; have HO2 := Aside0.mk ho2; have HB2 := Aside0.mk hb2; clear ho2 hb2))); (go_ret); exact ⟨_, rfl, HO2.out, HB2.out⟩
end Go.Proofs.Ytamajnhdibcpiaa.G
namespace Go.Proofs.Ytamajnhdibcpiaa.G
open Go.RowKit Go.Proofs.YtamajnhdibcpiaaW.PrintWords Go.Proofs.YtamajnhdibcpiaaW.PrintLast Go.Proofs.YtamajnhdibcpiaaW.PrintMore
attribute [local go_sem] max2_int min2_int max_two min_two max_three min_three max_four min_four
def facts_within.f (a0 : Int) (a1 : Int) (a2 : Int) : Option (Bool) := if a1 ≤ a0 then (some (decide (a0 ≤ a2))) else (some false)
set_option maxHeartbeats 8000000 in
set_option maxRecDepth 100000 in
theorem facts_within.calls (a0 : Int) (a1 : Int) (a2 : Int) (r : Bool) (w : World) (h : facts_within.f a0 a1 a2 = some r) :
    Calls Try.prog 49 #[.int .i64 a0, .int .i64 a1, .int .i64 a2] w fun e w' => e = .returned (.bool r) ∧ Drawn0 w w' := by
 have H : (if a1 ≤ a0 then (some (decide (a0 ≤ a2))) else (some false)) = some r := h; clear h; (by_cases c4 : a1 ≤ a0)
 ·rw [if_pos c4] at H; have c4b0 : decide (a1 ≤ a0) = true := decide_eq_true c4; clear c4; obtain rfl := Option.some.inj H; (go_enter Try.func49, Try.ntmps49); (go_wp2); (go_ret); (exact ⟨by first | rfl | (simp; done) | (simp [*]; done), by repeat (first | exact Drawn0.refl _ | apply Drawn0.step)⟩)
 ·rw [if_neg c4] at H; have c4b0 : decide (a1 ≤ a0) = false := decide_eq_false c4; clear c4; obtain rfl := Option.some.inj H; (go_enter Try.func49, Try.ntmps49); (go_wp2); (go_ret); (exact ⟨by first | rfl | (simp; done) | (simp [*]; done), by repeat (first | exact Drawn0.refl _ | apply Drawn0.step)⟩)
def facts_fits.f (a0_0 : Int) (a0_1 : Int) (a0_2 : Int) (a0_3 : Int) (a0_4 : Int) (a0_5 : Int) (a0_6 : Int) (a0_7 : Int) : Option (Bool) := (facts_within.f a0_0 1 12).bind fun t102 => (if t102 = true then ((facts_within.f a0_1 0 20000).bind fun t103 => (if t103 = true then ((facts_within.f a0_2 0 20000).bind fun t104 => (if t104 = true then ((facts_within.f a0_3 (-1) 1099511627776).bind fun t105 => (if t105 = true then (if 0 ≤ a0_4 then (if a0_4 < a0_5 then (if a0_5 ≤ 1024 then ((facts_within.f a0_6 1 16777216).bind fun t106 => (if t106 = true then ((facts_within.f a0_7 0 65535).bind fun t107 => (some t107)) else (some false))) else (some false)) else (some false)) else (some false)) else (some false))) else (some false))) else (some false))) else (some false))
set_option maxHeartbeats 8000000 in
set_option maxRecDepth 100000 in
theorem facts_fits.calls (a0_0 : Int) (a0_1 : Int) (a0_2 : Int) (a0_3 : Int) (a0_4 : Int) (a0_5 : Int) (a0_6 : Int) (a0_7 : Int) (r : Bool) (w : World) (h : facts_fits.f a0_0 a0_1 a0_2 a0_3 a0_4 a0_5 a0_6 a0_7 = some r) :
    Calls Try.prog 32 #[.agg #[.int .i64 a0_0, .int .i64 a0_1, .int .i64 a0_2, .int .i64 a0_3, .int .i64 a0_4, .int .i64 a0_5, .int .i64 a0_6, .int .i64 a0_7]] w fun e w' => e = .returned (.bool r) ∧ Below w.heap.size w w' := by
 have hu28 := Try.underlying28; have HB := Aside0.mk (Below.refl w.heap.size w); (have H : ((facts_within.f a0_0 1 12).bind fun t102 => (if t102 = true then ((facts_within.f a0_1 0 20000).bind fun t103 => (if t103 = true then ((facts_within.f a0_2 0 20000).bind fun t104 => (if t104 = true then ((facts_within.f a0_3 (-1) 1099511627776).bind fun t105 => (if t105 = true then (if 0 ≤ a0_4 then (if a0_4 < a0_5 then (if a0_5 ≤ 1024 then ((facts_within.f a0_6 1 16777216).bind fun t106 => (if t106 = true then ((facts_within.f a0_7 0 65535).bind fun t107 => (some t107)) else (some false))) else (some false)) else (some false)) else (some false)) else (some false))) else (some false))) else (some false))) else (some false))) = some r := h); clear h; replace H := Option.bind_eq_some_iff.mp H; obtain ⟨t102, A20, H⟩ := H; (replace H : (if t102 = true then ((facts_within.f a0_1 0 20000).bind fun t103 => (if t103 = true then ((facts_within.f a0_2 0 20000).bind fun t104 => (if t104 = true then ((facts_within.f a0_3 (-1) 1099511627776).bind fun t105 => (if t105 = true then (if 0 ≤ a0_4 then (if a0_4 < a0_5 then (if a0_5 ≤ 1024 then ((facts_within.f a0_6 1 16777216).bind fun t106 => (if t106 = true then ((facts_within.f a0_7 0 65535).bind fun t107 => (some t107)) else (some false))) else (some false)) else (some false)) else (some false)) else (some false))) else (some false))) else (some false))) else (some false)) = some r := H); have A2 := Aside0.mk A20; clear A20; (by_cases c3 : t102 = true)
 ·subst c3; (have H1 : ((facts_within.f a0_1 0 20000).bind fun t103 => (if t103 = true then ((facts_within.f a0_2 0 20000).bind fun t104 => (if t104 = true then ((facts_within.f a0_3 (-1) 1099511627776).bind fun t105 => (if t105 = true then (if 0 ≤ a0_4 then (if a0_4 < a0_5 then (if a0_5 ≤ 1024 then ((facts_within.f a0_6 1 16777216).bind fun t106 => (if t106 = true then ((facts_within.f a0_7 0 65535).bind fun t107 => (some t107)) else (some false))) else (some false)) else (some false)) else (some false)) else (some false))) else (some false))) else (some false))) = some r := by rw [if_pos rfl] at H; exact H); clear H; have H := H1; clear H1; replace H := Option.bind_eq_some_iff.mp H; obtain ⟨t103, A40, H⟩ := H; (replace H : (if t103 = true then ((facts_within.f a0_2 0 20000).bind fun t104 => (if t104 = true then ((facts_within.f a0_3 (-1) 1099511627776).bind fun t105 => (if t105 = true then (if 0 ≤ a0_4 then (if a0_4 < a0_5 then (if a0_5 ≤ 1024 then ((facts_within.f a0_6 1 16777216).bind fun t106 => (if t106 = true then ((facts_within.f a0_7 0 65535).bind fun t107 => (some t107)) else (some false))) else (some false)) else (some false)) else (some false)) else (some false))) else (some false))) else (some false)) = some r := H); have A4 := Aside0.mk A40; clear A40; (by_cases c5 : t103 = true)
  ·subst c5; (have H1 : ((facts_within.f a0_2 0 20000).bind fun t104 => (if t104 = true then ((facts_within.f a0_3 (-1) 1099511627776).bind fun t105 => (if t105 = true then (if 0 ≤ a0_4 then (if a0_4 < a0_5 then (if a0_5 ≤ 1024 then ((facts_within.f a0_6 1 16777216).bind fun t106 => (if t106 = true then ((facts_within.f a0_7 0 65535).bind fun t107 => (some t107)) else (some false))) else (some false)) else (some false)) else (some false)) else (some false))) else (some false))) = some r := by rw [if_pos rfl] at H; exact H); clear H; have H := H1; clear H1; replace H := Option.bind_eq_some_iff.mp H; obtain ⟨t104, A60, H⟩ := H; (replace H : (if t104 = true then ((facts_within.f a0_3 (-1) 1099511627776).bind fun t105 => (if t105 = true then (if 0 ≤ a0_4 then (if a0_4 < a0_5 then (if a0_5 ≤ 1024 then ((facts_within.f a0_6 1 16777216).bind fun t106 => (if t106 = true then ((facts_within.f a0_7 0 65535).bind fun t107 => (some t107)) else (some false))) else (some false)) else (some false)) else (some false)) else (some false))) else (some false)) = some r := H); have A6 := Aside0.mk A60; clear A60; (by_cases c7 : t104 = true)
   ·subst c7; (have H1 : ((facts_within.f a0_3 (-1) 1099511627776).bind fun t105 => (if t105 = true then (if 0 ≤ a0_4 then (if a0_4 < a0_5 then (if a0_5 ≤ 1024 then ((facts_within.f a0_6 1 16777216).bind fun t106 => (if t106 = true then ((facts_within.f a0_7 0 65535).bind fun t107 => (some t107)) else (some false))) else (some false)) else (some false)) else (some false)) else (some false))) = some r := by rw [if_pos rfl] at H; exact H); clear H; have H := H1; clear H1; replace H := Option.bind_eq_some_iff.mp H; obtain ⟨t105, A80, H⟩ := H; (replace H : (if t105 = true then (if 0 ≤ a0_4 then (if a0_4 < a0_5 then (if a0_5 ≤ 1024 then ((facts_within.f a0_6 1 16777216).bind fun t106 => (if t106 = true then ((facts_within.f a0_7 0 65535).bind fun t107 => (some t107)) else (some false))) else (some false)) else (some false)) else (some false)) else (some false)) = some r := H); have A8 := Aside0.mk A80; clear A80; (by_cases c9 : t105 = true)
    ·subst c9; (have H1 : (if 0 ≤ a0_4 then (if a0_4 < a0_5 then (if a0_5 ≤ 1024 then ((facts_within.f a0_6 1 16777216).bind fun t106 => (if t106 = true then ((facts_within.f a0_7 0 65535).bind fun t107 => (some t107)) else (some false))) else (some false)) else (some false)) else (some false)) = some r := by rw [if_pos rfl] at H; exact H); clear H; have H := H1; clear H1; (by_cases c10 : 0 ≤ a0_4)
     ·rw [if_pos c10] at H; have c10b0 : decide (0 ≤ a0_4) = true := decide_eq_true c10; clear c10; (by_cases c11 : a0_4 < a0_5)
      ·rw [if_pos c11] at H; have c11b0 : decide (a0_4 < a0_5) = true := decide_eq_true c11; clear c11; (by_cases c12 : a0_5 ≤ 1024)
       ·rw [if_pos c12] at H; have c12b0 : decide (a0_5 ≤ 1024) = true := decide_eq_true c12; clear c12; replace H := Option.bind_eq_some_iff.mp H; obtain ⟨t106, A130, H⟩ := H; (replace H : (if t106 = true then ((facts_within.f a0_7 0 65535).bind fun t107 => (some t107)) else (some false)) = some r := H); have A13 := Aside0.mk A130; clear A130; (by_cases c14 : t106 = true)
        ·subst c14; (have H1 : ((facts_within.f a0_7 0 65535).bind fun t107 => (some t107)) = some r := by rw [if_pos rfl] at H; exact H); clear H; have H := H1; clear H1; replace H := Option.bind_eq_some_iff.mp H; obtain ⟨t107, A150, H⟩ := H; replace H : (some t107) = some r := H; have A15 := Aside0.mk A150; clear A150; obtain rfl := Option.some.inj H; (go_enter Try.func32, Try.ntmps32); (go_wp2_with (first | ((with_reducible refine gate_dst (N := 1) rfl ?_); refine box_event ?hg (N := 1) ?hd (cs := #[.int .i64 a0_0, .int .i64 a0_1, .int .i64 a0_2, .int .i64 a0_3, .int .i64 a0_4, .int .i64 a0_5, .int .i64 a0_6, .int .i64 a0_7]) (t := 28) ?hr ?_; (case hd => rfl); (case hg => rfl); (case hr => first | (go_simp; done) | (go_simp; rfl)); intro gb101 hg w16 hbox hb; have n0_ := Aside0.mk (below_step (by repeat (first | (with_reducible first | exact HB.out | apply below_alloc | apply pw_below_drewN | apply below_drew1) | exact HB.out)) hb); have n1_ := Aside0.mk (hbox); have n2_ := Aside0.mk ((by rw [hg]; exact (below_size (by repeat (first | (with_reducible first | exact HB.out | apply below_alloc | apply pw_below_drewN | apply below_drew1) | exact HB.out))) : w.heap.size ≤ gb101)); have n3_ := Aside0.mk ((by rw [hg]; exact (below_size (by repeat (first | (with_reducible first | exact HB.out | apply below_alloc | apply pw_below_drewN | apply below_drew1) | exact HB.out))) : w.heap.size ≤ gb101)); clear HB; have HB := n0_; have BK101 := n1_; have GW101 := n2_; have GE101 := n3_; clear n0_ n1_ n2_ n3_; clear hb hbox hg; have hcz17_0 : w16.cell? ⟨gb101, 0, none⟩ = some (.int .i64 a0_0) := (blk_cell BK101.out 0).trans rfl; have hcz17_1 : w16.cell? ⟨gb101, 1, none⟩ = some (.int .i64 a0_1) := (blk_cell BK101.out 1).trans rfl; have hcz17_2 : w16.cell? ⟨gb101, 2, none⟩ = some (.int .i64 a0_2) := (blk_cell BK101.out 2).trans rfl; have hcz17_3 : w16.cell? ⟨gb101, 3, none⟩ = some (.int .i64 a0_3) := (blk_cell BK101.out 3).trans rfl; have hcz17_4 : w16.cell? ⟨gb101, 4, none⟩ = some (.int .i64 a0_4) := (blk_cell BK101.out 4).trans rfl; have hcz17_5 : w16.cell? ⟨gb101, 5, none⟩ = some (.int .i64 a0_5) := (blk_cell BK101.out 5).trans rfl; have hcz17_6 : w16.cell? ⟨gb101, 6, none⟩ = some (.int .i64 a0_6) := (blk_cell BK101.out 6).trans rfl; have hcz17_7 : w16.cell? ⟨gb101, 7, none⟩ = some (.int .i64 a0_7) := (blk_cell BK101.out 7).trans rfl; have hfz17_0 := blk_frozen BK101.out 0; have hfz17_1 := blk_frozen BK101.out 1; have hfz17_2 := blk_frozen BK101.out 2; have hfz17_3 := blk_frozen BK101.out 3; have hfz17_4 := blk_frozen BK101.out 4; have hfz17_5 := blk_frozen BK101.out 5; have hfz17_6 := blk_frozen BK101.out 6; have hfz17_7 := blk_frozen BK101.out 7) | ((with_reducible refine gate_callee (f := 49) rfl ?_); refine goesL_ (some 6) rfl rfl Try.func49 (by kernel_rfl) rfl #[.int .i64 a0_0, .int .i64 1, .int .i64 12] rfl (by (try simp only [List.map_toArray, List.map_cons, List.map_nil]); first | done | rfl | (simp only [List.length_drop, List.length_take]; rfl)) ?_; (with_reducible refine (facts_within.calls a0_0 1 12 true _ A2.out).mono ?_); rintro e w' ⟨rfl, ⟨nd, rfl⟩⟩; refine ⟨_, rfl, ?_⟩) | (go_at_call 49; (with_reducible refine (facts_within.calls a0_1 0 20000 true _ A4.out).mono ?_); rintro e w' ⟨rfl, ⟨nd, rfl⟩⟩) | (go_at_call 49; (with_reducible refine (facts_within.calls a0_2 0 20000 true _ A6.out).mono ?_); rintro e w' ⟨rfl, ⟨nd, rfl⟩⟩) | (go_at_call 49; (with_reducible refine (facts_within.calls a0_3 (-1) 1099511627776 true _ A8.out).mono ?_); rintro e w' ⟨rfl, ⟨nd, rfl⟩⟩) | (go_at_call 49; (with_reducible refine (facts_within.calls a0_6 1 16777216 true _ A13.out).mono ?_); rintro e w' ⟨rfl, ⟨nd, rfl⟩⟩) | (go_at_call 49; (with_reducible refine (facts_within.calls a0_7 0 65535 t107 _ A15.out).mono ?_); rintro e w' ⟨rfl, ⟨nd, rfl⟩⟩))); (go_ret); (exact ⟨by first | rfl | (simp [errW_none, errW_some] <;> rfl) | (simp [*, errW_none, errW_some] <;> rfl), by repeat (first | (with_reducible first | exact HB.out | apply below_alloc | apply pw_below_drewN | apply below_drew1 | refine below_set ?_ GE101.out) | exact HB.out)⟩)
        ·replace c14 := Bool.eq_false_iff.mpr c14; subst c14; (have H1 : (some false) = some r := by rw [if_neg (show ¬ (false = true) by decide)] at H; exact H); clear H; have H := H1; clear H1; obtain rfl := Option.some.inj H; (go_enter Try.func32, Try.ntmps32); (go_wp2_with (first | ((with_reducible refine gate_dst (N := 1) rfl ?_); refine box_event ?hg (N := 1) ?hd (cs := #[.int .i64 a0_0, .int .i64 a0_1, .int .i64 a0_2, .int .i64 a0_3, .int .i64 a0_4, .int .i64 a0_5, .int .i64 a0_6, .int .i64 a0_7]) (t := 28) ?hr ?_; (case hd => rfl); (case hg => rfl); (case hr => first | (go_simp; done) | (go_simp; rfl)); intro gb101 hg w18 hbox hb; have n0_ := Aside0.mk (below_step (by repeat (first | (with_reducible first | exact HB.out | apply below_alloc | apply pw_below_drewN | apply below_drew1) | exact HB.out)) hb); have n1_ := Aside0.mk (hbox); have n2_ := Aside0.mk ((by rw [hg]; exact (below_size (by repeat (first | (with_reducible first | exact HB.out | apply below_alloc | apply pw_below_drewN | apply below_drew1) | exact HB.out))) : w.heap.size ≤ gb101)); have n3_ := Aside0.mk ((by rw [hg]; exact (below_size (by repeat (first | (with_reducible first | exact HB.out | apply below_alloc | apply pw_below_drewN | apply below_drew1) | exact HB.out))) : w.heap.size ≤ gb101)); clear HB; have HB := n0_; have BK101 := n1_; have GW101 := n2_; have GE101 := n3_; clear n0_ n1_ n2_ n3_; clear hb hbox hg; have hcz19_0 : w18.cell? ⟨gb101, 0, none⟩ = some (.int .i64 a0_0) := (blk_cell BK101.out 0).trans rfl; have hcz19_1 : w18.cell? ⟨gb101, 1, none⟩ = some (.int .i64 a0_1) := (blk_cell BK101.out 1).trans rfl; have hcz19_2 : w18.cell? ⟨gb101, 2, none⟩ = some (.int .i64 a0_2) := (blk_cell BK101.out 2).trans rfl; have hcz19_3 : w18.cell? ⟨gb101, 3, none⟩ = some (.int .i64 a0_3) := (blk_cell BK101.out 3).trans rfl; have hcz19_4 : w18.cell? ⟨gb101, 4, none⟩ = some (.int .i64 a0_4) := (blk_cell BK101.out 4).trans rfl; have hcz19_5 : w18.cell? ⟨gb101, 5, none⟩ = some (.int .i64 a0_5) := (blk_cell BK101.out 5).trans rfl; have hcz19_6 : w18.cell? ⟨gb101, 6, none⟩ = some (.int .i64 a0_6) := (blk_cell BK101.out 6).trans rfl; have hcz19_7 : w18.cell? ⟨gb101, 7, none⟩ = some (.int .i64 a0_7) := (blk_cell BK101.out 7).trans rfl; have hfz19_0 := blk_frozen BK101.out 0; have hfz19_1 := blk_frozen BK101.out 1; have hfz19_2 := blk_frozen BK101.out 2; have hfz19_3 := blk_frozen BK101.out 3; have hfz19_4 := blk_frozen BK101.out 4; have hfz19_5 := blk_frozen BK101.out 5; have hfz19_6 := blk_frozen BK101.out 6; have hfz19_7 := blk_frozen BK101.out 7) | ((with_reducible refine gate_callee (f := 49) rfl ?_); refine goesL_ (some 6) rfl rfl Try.func49 (by kernel_rfl) rfl #[.int .i64 a0_0, .int .i64 1, .int .i64 12] rfl (by (try simp only [List.map_toArray, List.map_cons, List.map_nil]); first | done | rfl | (simp only [List.length_drop, List.length_take]; rfl)) ?_; (with_reducible refine (facts_within.calls a0_0 1 12 true _ A2.out).mono ?_); rintro e w' ⟨rfl, ⟨nd, rfl⟩⟩; refine ⟨_, rfl, ?_⟩) | (go_at_call 49; (with_reducible refine (facts_within.calls a0_1 0 20000 true _ A4.out).mono ?_); rintro e w' ⟨rfl, ⟨nd, rfl⟩⟩) | (go_at_call 49; (with_reducible refine (facts_within.calls a0_2 0 20000 true _ A6.out).mono ?_); rintro e w' ⟨rfl, ⟨nd, rfl⟩⟩) | (go_at_call 49; (with_reducible refine (facts_within.calls a0_3 (-1) 1099511627776 true _ A8.out).mono ?_); rintro e w' ⟨rfl, ⟨nd, rfl⟩⟩) | (go_at_call 49; (with_reducible refine (facts_within.calls a0_6 1 16777216 false _ A13.out).mono ?_); rintro e w' ⟨rfl, ⟨nd, rfl⟩⟩))); (go_ret); (exact ⟨by first | rfl | (simp [errW_none, errW_some] <;> rfl) | (simp [*, errW_none, errW_some] <;> rfl), by repeat (first | (with_reducible first | exact HB.out | apply below_alloc | apply pw_below_drewN | apply below_drew1 | refine below_set ?_ GE101.out) | exact HB.out)⟩)
       ·rw [if_neg c12] at H; have c12b0 : decide (a0_5 ≤ 1024) = false := decide_eq_false c12; clear c12; obtain rfl := Option.some.inj H; (go_enter Try.func32, Try.ntmps32); (go_wp2_with (first | ((with_reducible refine gate_dst (N := 1) rfl ?_); refine box_event ?hg (N := 1) ?hd (cs := #[.int .i64 a0_0, .int .i64 a0_1, .int .i64 a0_2, .int .i64 a0_3, .int .i64 a0_4, .int .i64 a0_5, .int .i64 a0_6, .int .i64 a0_7]) (t := 28) ?hr ?_; (case hd => rfl); (case hg => rfl); (case hr => first | (go_simp; done) | (go_simp; rfl)); intro gb101 hg w20 hbox hb; have n0_ := Aside0.mk (below_step (by repeat (first | (with_reducible first | exact HB.out | apply below_alloc | apply pw_below_drewN | apply below_drew1) | exact HB.out)) hb); have n1_ := Aside0.mk (hbox); have n2_ := Aside0.mk ((by rw [hg]; exact (below_size (by repeat (first | (with_reducible first | exact HB.out | apply below_alloc | apply pw_below_drewN | apply below_drew1) | exact HB.out))) : w.heap.size ≤ gb101)); have n3_ := Aside0.mk ((by rw [hg]; exact (below_size (by repeat (first | (with_reducible first | exact HB.out | apply below_alloc | apply pw_below_drewN | apply below_drew1) | exact HB.out))) : w.heap.size ≤ gb101)); clear HB; have HB := n0_; have BK101 := n1_; have GW101 := n2_; have GE101 := n3_; clear n0_ n1_ n2_ n3_; clear hb hbox hg; have hcz21_0 : w20.cell? ⟨gb101, 0, none⟩ = some (.int .i64 a0_0) := (blk_cell BK101.out 0).trans rfl; have hcz21_1 : w20.cell? ⟨gb101, 1, none⟩ = some (.int .i64 a0_1) := (blk_cell BK101.out 1).trans rfl; have hcz21_2 : w20.cell? ⟨gb101, 2, none⟩ = some (.int .i64 a0_2) := (blk_cell BK101.out 2).trans rfl; have hcz21_3 : w20.cell? ⟨gb101, 3, none⟩ = some (.int .i64 a0_3) := (blk_cell BK101.out 3).trans rfl; have hcz21_4 : w20.cell? ⟨gb101, 4, none⟩ = some (.int .i64 a0_4) := (blk_cell BK101.out 4).trans rfl; have hcz21_5 : w20.cell? ⟨gb101, 5, none⟩ = some (.int .i64 a0_5) := (blk_cell BK101.out 5).trans rfl; have hcz21_6 : w20.cell? ⟨gb101, 6, none⟩ = some (.int .i64 a0_6) := (blk_cell BK101.out 6).trans rfl; have hcz21_7 : w20.cell? ⟨gb101, 7, none⟩ = some (.int .i64 a0_7) := (blk_cell BK101.out 7).trans rfl; have hfz21_0 := blk_frozen BK101.out 0; have hfz21_1 := blk_frozen BK101.out 1; have hfz21_2 := blk_frozen BK101.out 2; have hfz21_3 := blk_frozen BK101.out 3; have hfz21_4 := blk_frozen BK101.out 4; have hfz21_5 := blk_frozen BK101.out 5; have hfz21_6 := blk_frozen BK101.out 6; have hfz21_7 := blk_frozen BK101.out 7) | ((with_reducible refine gate_callee (f := 49) rfl ?_); refine goesL_ (some 6) rfl rfl Try.func49 (by kernel_rfl) rfl #[.int .i64 a0_0, .int .i64 1, .int .i64 12] rfl (by (try simp only [List.map_toArray, List.map_cons, List.map_nil]); first | done | rfl | (simp only [List.length_drop, List.length_take]; rfl)) ?_; (with_reducible refine (facts_within.calls a0_0 1 12 true _ A2.out).mono ?_); rintro e w' ⟨rfl, ⟨nd, rfl⟩⟩; refine ⟨_, rfl, ?_⟩) | (go_at_call 49; (with_reducible refine (facts_within.calls a0_1 0 20000 true _ A4.out).mono ?_); rintro e w' ⟨rfl, ⟨nd, rfl⟩⟩) | (go_at_call 49; (with_reducible refine (facts_within.calls a0_2 0 20000 true _ A6.out).mono ?_); rintro e w' ⟨rfl, ⟨nd, rfl⟩⟩) | (go_at_call 49; (with_reducible refine (facts_within.calls a0_3 (-1) 1099511627776 true _ A8.out).mono ?_); rintro e w' ⟨rfl, ⟨nd, rfl⟩⟩))); (go_ret); (exact ⟨by first | rfl | (simp [errW_none, errW_some] <;> rfl) | (simp [*, errW_none, errW_some] <;> rfl), by repeat (first | (with_reducible first | exact HB.out | apply below_alloc | apply pw_below_drewN | apply below_drew1 | refine below_set ?_ GE101.out) | exact HB.out)⟩)
      ·rw [if_neg c11] at H; have c11b0 : decide (a0_4 < a0_5) = false := decide_eq_false c11; clear c11; obtain rfl := Option.some.inj H; (go_enter Try.func32, Try.ntmps32); (go_wp2_with (first | ((with_reducible refine gate_dst (N := 1) rfl ?_); refine box_event ?hg (N := 1) ?hd (cs := #[.int .i64 a0_0, .int .i64 a0_1, .int .i64 a0_2, .int .i64 a0_3, .int .i64 a0_4, .int .i64 a0_5, .int .i64 a0_6, .int .i64 a0_7]) (t := 28) ?hr ?_; (case hd => rfl); (case hg => rfl); (case hr => first | (go_simp; done) | (go_simp; rfl)); intro gb101 hg w22 hbox hb; have n0_ := Aside0.mk (below_step (by repeat (first | (with_reducible first | exact HB.out | apply below_alloc | apply pw_below_drewN | apply below_drew1) | exact HB.out)) hb); have n1_ := Aside0.mk (hbox); have n2_ := Aside0.mk ((by rw [hg]; exact (below_size (by repeat (first | (with_reducible first | exact HB.out | apply below_alloc | apply pw_below_drewN | apply below_drew1) | exact HB.out))) : w.heap.size ≤ gb101)); have n3_ := Aside0.mk ((by rw [hg]; exact (below_size (by repeat (first | (with_reducible first | exact HB.out | apply below_alloc | apply pw_below_drewN | apply below_drew1) | exact HB.out))) : w.heap.size ≤ gb101)); clear HB; have HB := n0_; have BK101 := n1_; have GW101 := n2_; have GE101 := n3_; clear n0_ n1_ n2_ n3_; clear hb hbox hg; have hcz23_0 : w22.cell? ⟨gb101, 0, none⟩ = some (.int .i64 a0_0) := (blk_cell BK101.out 0).trans rfl; have hcz23_1 : w22.cell? ⟨gb101, 1, none⟩ = some (.int .i64 a0_1) := (blk_cell BK101.out 1).trans rfl; have hcz23_2 : w22.cell? ⟨gb101, 2, none⟩ = some (.int .i64 a0_2) := (blk_cell BK101.out 2).trans rfl; have hcz23_3 : w22.cell? ⟨gb101, 3, none⟩ = some (.int .i64 a0_3) := (blk_cell BK101.out 3).trans rfl; have hcz23_4 : w22.cell? ⟨gb101, 4, none⟩ = some (.int .i64 a0_4) := (blk_cell BK101.out 4).trans rfl; have hcz23_5 : w22.cell? ⟨gb101, 5, none⟩ = some (.int .i64 a0_5) := (blk_cell BK101.out 5).trans rfl; have hcz23_6 : w22.cell? ⟨gb101, 6, none⟩ = some (.int .i64 a0_6) := (blk_cell BK101.out 6).trans rfl; have hcz23_7 : w22.cell? ⟨gb101, 7, none⟩ = some (.int .i64 a0_7) := (blk_cell BK101.out 7).trans rfl; have hfz23_0 := blk_frozen BK101.out 0; have hfz23_1 := blk_frozen BK101.out 1; have hfz23_2 := blk_frozen BK101.out 2; have hfz23_3 := blk_frozen BK101.out 3; have hfz23_4 := blk_frozen BK101.out 4; have hfz23_5 := blk_frozen BK101.out 5; have hfz23_6 := blk_frozen BK101.out 6; have hfz23_7 := blk_frozen BK101.out 7) | ((with_reducible refine gate_callee (f := 49) rfl ?_); refine goesL_ (some 6) rfl rfl Try.func49 (by kernel_rfl) rfl #[.int .i64 a0_0, .int .i64 1, .int .i64 12] rfl (by (try simp only [List.map_toArray, List.map_cons, List.map_nil]); first | done | rfl | (simp only [List.length_drop, List.length_take]; rfl)) ?_; (with_reducible refine (facts_within.calls a0_0 1 12 true _ A2.out).mono ?_); rintro e w' ⟨rfl, ⟨nd, rfl⟩⟩; refine ⟨_, rfl, ?_⟩) | (go_at_call 49; (with_reducible refine (facts_within.calls a0_1 0 20000 true _ A4.out).mono ?_); rintro e w' ⟨rfl, ⟨nd, rfl⟩⟩) | (go_at_call 49; (with_reducible refine (facts_within.calls a0_2 0 20000 true _ A6.out).mono ?_); rintro e w' ⟨rfl, ⟨nd, rfl⟩⟩) | (go_at_call 49; (with_reducible refine (facts_within.calls a0_3 (-1) 1099511627776 true _ A8.out).mono ?_); rintro e w' ⟨rfl, ⟨nd, rfl⟩⟩))); (go_ret); (exact ⟨by first | rfl | (simp [errW_none, errW_some] <;> rfl) | (simp [*, errW_none, errW_some] <;> rfl), by repeat (first | (with_reducible first | exact HB.out | apply below_alloc | apply pw_below_drewN | apply below_drew1 | refine below_set ?_ GE101.out) | exact HB.out)⟩)
     ·rw [if_neg c10] at H; have c10b0 : decide (0 ≤ a0_4) = false := decide_eq_false c10; clear c10; obtain rfl := Option.some.inj H; (go_enter Try.func32, Try.ntmps32); (go_wp2_with (first | ((with_reducible refine gate_dst (N := 1) rfl ?_); refine box_event ?hg (N := 1) ?hd (cs := #[.int .i64 a0_0, .int .i64 a0_1, .int .i64 a0_2, .int .i64 a0_3, .int .i64 a0_4, .int .i64 a0_5, .int .i64 a0_6, .int .i64 a0_7]) (t := 28) ?hr ?_; (case hd => rfl); (case hg => rfl); (case hr => first | (go_simp; done) | (go_simp; rfl)); intro gb101 hg w24 hbox hb; have n0_ := Aside0.mk (below_step (by repeat (first | (with_reducible first | exact HB.out | apply below_alloc | apply pw_below_drewN | apply below_drew1) | exact HB.out)) hb); have n1_ := Aside0.mk (hbox); have n2_ := Aside0.mk ((by rw [hg]; exact (below_size (by repeat (first | (with_reducible first | exact HB.out | apply below_alloc | apply pw_below_drewN | apply below_drew1) | exact HB.out))) : w.heap.size ≤ gb101)); have n3_ := Aside0.mk ((by rw [hg]; exact (below_size (by repeat (first | (with_reducible first | exact HB.out | apply below_alloc | apply pw_below_drewN | apply below_drew1) | exact HB.out))) : w.heap.size ≤ gb101)); clear HB; have HB := n0_; have BK101 := n1_; have GW101 := n2_; have GE101 := n3_; clear n0_ n1_ n2_ n3_; clear hb hbox hg; have hcz25_0 : w24.cell? ⟨gb101, 0, none⟩ = some (.int .i64 a0_0) := (blk_cell BK101.out 0).trans rfl; have hcz25_1 : w24.cell? ⟨gb101, 1, none⟩ = some (.int .i64 a0_1) := (blk_cell BK101.out 1).trans rfl; have hcz25_2 : w24.cell? ⟨gb101, 2, none⟩ = some (.int .i64 a0_2) := (blk_cell BK101.out 2).trans rfl; have hcz25_3 : w24.cell? ⟨gb101, 3, none⟩ = some (.int .i64 a0_3) := (blk_cell BK101.out 3).trans rfl; have hcz25_4 : w24.cell? ⟨gb101, 4, none⟩ = some (.int .i64 a0_4) := (blk_cell BK101.out 4).trans rfl; have hcz25_5 : w24.cell? ⟨gb101, 5, none⟩ = some (.int .i64 a0_5) := (blk_cell BK101.out 5).trans rfl; have hcz25_6 : w24.cell? ⟨gb101, 6, none⟩ = some (.int .i64 a0_6) := (blk_cell BK101.out 6).trans rfl; have hcz25_7 : w24.cell? ⟨gb101, 7, none⟩ = some (.int .i64 a0_7) := (blk_cell BK101.out 7).trans rfl; have hfz25_0 := blk_frozen BK101.out 0; have hfz25_1 := blk_frozen BK101.out 1; have hfz25_2 := blk_frozen BK101.out 2; have hfz25_3 := blk_frozen BK101.out 3; have hfz25_4 := blk_frozen BK101.out 4; have hfz25_5 := blk_frozen BK101.out 5; have hfz25_6 := blk_frozen BK101.out 6; have hfz25_7 := blk_frozen BK101.out 7) | ((with_reducible refine gate_callee (f := 49) rfl ?_); refine goesL_ (some 6) rfl rfl Try.func49 (by kernel_rfl) rfl #[.int .i64 a0_0, .int .i64 1, .int .i64 12] rfl (by (try simp only [List.map_toArray, List.map_cons, List.map_nil]); first | done | rfl | (simp only [List.length_drop, List.length_take]; rfl)) ?_; (with_reducible refine (facts_within.calls a0_0 1 12 true _ A2.out).mono ?_); rintro e w' ⟨rfl, ⟨nd, rfl⟩⟩; refine ⟨_, rfl, ?_⟩) | (go_at_call 49; (with_reducible refine (facts_within.calls a0_1 0 20000 true _ A4.out).mono ?_); rintro e w' ⟨rfl, ⟨nd, rfl⟩⟩) | (go_at_call 49; (with_reducible refine (facts_within.calls a0_2 0 20000 true _ A6.out).mono ?_); rintro e w' ⟨rfl, ⟨nd, rfl⟩⟩) | (go_at_call 49; (with_reducible refine (facts_within.calls a0_3 (-1) 1099511627776 true _ A8.out).mono ?_); rintro e w' ⟨rfl, ⟨nd, rfl⟩⟩))); (go_ret); (exact ⟨by first | rfl | (simp [errW_none, errW_some] <;> rfl) | (simp [*, errW_none, errW_some] <;> rfl), by repeat (first | (with_reducible first | exact HB.out | apply below_alloc | apply pw_below_drewN | apply below_drew1 | refine below_set ?_ GE101.out) | exact HB.out)⟩)
    ·replace c9 := Bool.eq_false_iff.mpr c9; subst c9; (have H1 : (some false) = some r := by rw [if_neg (show ¬ (false = true) by decide)] at H; exact H); clear H; have H := H1; clear H1; obtain rfl := Option.some.inj H; (go_enter Try.func32, Try.ntmps32); (go_wp2_with (first | ((with_reducible refine gate_dst (N := 1) rfl ?_); refine box_event ?hg (N := 1) ?hd (cs := #[.int .i64 a0_0, .int .i64 a0_1, .int .i64 a0_2, .int .i64 a0_3, .int .i64 a0_4, .int .i64 a0_5, .int .i64 a0_6, .int .i64 a0_7]) (t := 28) ?hr ?_; (case hd => rfl); (case hg => rfl); (case hr => first | (go_simp; done) | (go_simp; rfl)); intro gb101 hg w26 hbox hb; have n0_ := Aside0.mk (below_step (by repeat (first | (with_reducible first | exact HB.out | apply below_alloc | apply pw_below_drewN | apply below_drew1) | exact HB.out)) hb); have n1_ := Aside0.mk (hbox); have n2_ := Aside0.mk ((by rw [hg]; exact (below_size (by repeat (first | (with_reducible first | exact HB.out | apply below_alloc | apply pw_below_drewN | apply below_drew1) | exact HB.out))) : w.heap.size ≤ gb101)); have n3_ := Aside0.mk ((by rw [hg]; exact (below_size (by repeat (first | (with_reducible first | exact HB.out | apply below_alloc | apply pw_below_drewN | apply below_drew1) | exact HB.out))) : w.heap.size ≤ gb101)); clear HB; have HB := n0_; have BK101 := n1_; have GW101 := n2_; have GE101 := n3_; clear n0_ n1_ n2_ n3_; clear hb hbox hg; have hcz27_0 : w26.cell? ⟨gb101, 0, none⟩ = some (.int .i64 a0_0) := (blk_cell BK101.out 0).trans rfl; have hcz27_1 : w26.cell? ⟨gb101, 1, none⟩ = some (.int .i64 a0_1) := (blk_cell BK101.out 1).trans rfl; have hcz27_2 : w26.cell? ⟨gb101, 2, none⟩ = some (.int .i64 a0_2) := (blk_cell BK101.out 2).trans rfl; have hcz27_3 : w26.cell? ⟨gb101, 3, none⟩ = some (.int .i64 a0_3) := (blk_cell BK101.out 3).trans rfl; have hcz27_4 : w26.cell? ⟨gb101, 4, none⟩ = some (.int .i64 a0_4) := (blk_cell BK101.out 4).trans rfl; have hcz27_5 : w26.cell? ⟨gb101, 5, none⟩ = some (.int .i64 a0_5) := (blk_cell BK101.out 5).trans rfl; have hcz27_6 : w26.cell? ⟨gb101, 6, none⟩ = some (.int .i64 a0_6) := (blk_cell BK101.out 6).trans rfl; have hcz27_7 : w26.cell? ⟨gb101, 7, none⟩ = some (.int .i64 a0_7) := (blk_cell BK101.out 7).trans rfl; have hfz27_0 := blk_frozen BK101.out 0; have hfz27_1 := blk_frozen BK101.out 1; have hfz27_2 := blk_frozen BK101.out 2; have hfz27_3 := blk_frozen BK101.out 3; have hfz27_4 := blk_frozen BK101.out 4; have hfz27_5 := blk_frozen BK101.out 5; have hfz27_6 := blk_frozen BK101.out 6; have hfz27_7 := blk_frozen BK101.out 7) | ((with_reducible refine gate_callee (f := 49) rfl ?_); refine goesL_ (some 6) rfl rfl Try.func49 (by kernel_rfl) rfl #[.int .i64 a0_0, .int .i64 1, .int .i64 12] rfl (by (try simp only [List.map_toArray, List.map_cons, List.map_nil]); first | done | rfl | (simp only [List.length_drop, List.length_take]; rfl)) ?_; (with_reducible refine (facts_within.calls a0_0 1 12 true _ A2.out).mono ?_); rintro e w' ⟨rfl, ⟨nd, rfl⟩⟩; refine ⟨_, rfl, ?_⟩) | (go_at_call 49; (with_reducible refine (facts_within.calls a0_1 0 20000 true _ A4.out).mono ?_); rintro e w' ⟨rfl, ⟨nd, rfl⟩⟩) | (go_at_call 49; (with_reducible refine (facts_within.calls a0_2 0 20000 true _ A6.out).mono ?_); rintro e w' ⟨rfl, ⟨nd, rfl⟩⟩) | (go_at_call 49; (with_reducible refine (facts_within.calls a0_3 (-1) 1099511627776 false _ A8.out).mono ?_); rintro e w' ⟨rfl, ⟨nd, rfl⟩⟩))); (go_ret); (exact ⟨by first | rfl | (simp [errW_none, errW_some] <;> rfl) | (simp [*, errW_none, errW_some] <;> rfl), by repeat (first | (with_reducible first | exact HB.out | apply below_alloc | apply pw_below_drewN | apply below_drew1 | refine below_set ?_ GE101.out) | exact HB.out)⟩)
   ·replace c7 := Bool.eq_false_iff.mpr c7; subst c7; (have H1 : (some false) = some r := by rw [if_neg (show ¬ (false = true) by decide)] at H; exact H); clear H; have H := H1; clear H1; obtain rfl := Option.some.inj H; (go_enter Try.func32, Try.ntmps32); (go_wp2_with (first | ((with_reducible refine gate_dst (N := 1) rfl ?_); refine box_event ?hg (N := 1) ?hd (cs := #[.int .i64 a0_0, .int .i64 a0_1, .int .i64 a0_2, .int .i64 a0_3, .int .i64 a0_4, .int .i64 a0_5, .int .i64 a0_6, .int .i64 a0_7]) (t := 28) ?hr ?_; (case hd => rfl); (case hg => rfl); (case hr => first | (go_simp; done) | (go_simp; rfl)); intro gb101 hg w28 hbox hb; have n0_ := Aside0.mk (below_step (by repeat (first | (with_reducible first | exact HB.out | apply below_alloc | apply pw_below_drewN | apply below_drew1) | exact HB.out)) hb); have n1_ := Aside0.mk (hbox); have n2_ := Aside0.mk ((by rw [hg]; exact (below_size (by repeat (first | (with_reducible first | exact HB.out | apply below_alloc | apply pw_below_drewN | apply below_drew1) | exact HB.out))) : w.heap.size ≤ gb101)); have n3_ := Aside0.mk ((by rw [hg]; exact (below_size (by repeat (first | (with_reducible first | exact HB.out | apply below_alloc | apply pw_below_drewN | apply below_drew1) | exact HB.out))) : w.heap.size ≤ gb101)); clear HB; have HB := n0_; have BK101 := n1_; have GW101 := n2_; have GE101 := n3_; clear n0_ n1_ n2_ n3_; clear hb hbox hg; have hcz29_0 : w28.cell? ⟨gb101, 0, none⟩ = some (.int .i64 a0_0) := (blk_cell BK101.out 0).trans rfl; have hcz29_1 : w28.cell? ⟨gb101, 1, none⟩ = some (.int .i64 a0_1) := (blk_cell BK101.out 1).trans rfl; have hcz29_2 : w28.cell? ⟨gb101, 2, none⟩ = some (.int .i64 a0_2) := (blk_cell BK101.out 2).trans rfl; have hcz29_3 : w28.cell? ⟨gb101, 3, none⟩ = some (.int .i64 a0_3) := (blk_cell BK101.out 3).trans rfl; have hcz29_4 : w28.cell? ⟨gb101, 4, none⟩ = some (.int .i64 a0_4) := (blk_cell BK101.out 4).trans rfl; have hcz29_5 : w28.cell? ⟨gb101, 5, none⟩ = some (.int .i64 a0_5) := (blk_cell BK101.out 5).trans rfl; have hcz29_6 : w28.cell? ⟨gb101, 6, none⟩ = some (.int .i64 a0_6) := (blk_cell BK101.out 6).trans rfl; have hcz29_7 : w28.cell? ⟨gb101, 7, none⟩ = some (.int .i64 a0_7) := (blk_cell BK101.out 7).trans rfl; have hfz29_0 := blk_frozen BK101.out 0; have hfz29_1 := blk_frozen BK101.out 1; have hfz29_2 := blk_frozen BK101.out 2; have hfz29_3 := blk_frozen BK101.out 3; have hfz29_4 := blk_frozen BK101.out 4; have hfz29_5 := blk_frozen BK101.out 5; have hfz29_6 := blk_frozen BK101.out 6; have hfz29_7 := blk_frozen BK101.out 7) | ((with_reducible refine gate_callee (f := 49) rfl ?_); refine goesL_ (some 6) rfl rfl Try.func49 (by kernel_rfl) rfl #[.int .i64 a0_0, .int .i64 1, .int .i64 12] rfl (by (try simp only [List.map_toArray, List.map_cons, List.map_nil]); first | done | rfl | (simp only [List.length_drop, List.length_take]; rfl)) ?_; (with_reducible refine (facts_within.calls a0_0 1 12 true _ A2.out).mono ?_); rintro e w' ⟨rfl, ⟨nd, rfl⟩⟩; refine ⟨_, rfl, ?_⟩) | (go_at_call 49; (with_reducible refine (facts_within.calls a0_1 0 20000 true _ A4.out).mono ?_); rintro e w' ⟨rfl, ⟨nd, rfl⟩⟩) | (go_at_call 49; (with_reducible refine (facts_within.calls a0_2 0 20000 false _ A6.out).mono ?_); rintro e w' ⟨rfl, ⟨nd, rfl⟩⟩))); (go_ret); (exact ⟨by first | rfl | (simp [errW_none, errW_some] <;> rfl) | (simp [*, errW_none, errW_some] <;> rfl), by repeat (first | (with_reducible first | exact HB.out | apply below_alloc | apply pw_below_drewN | apply below_drew1 | refine below_set ?_ GE101.out) | exact HB.out)⟩)
  ·replace c5 := Bool.eq_false_iff.mpr c5; subst c5; (have H1 : (some false) = some r := by rw [if_neg (show ¬ (false = true) by decide)] at H; exact H); clear H; have H := H1; clear H1; obtain rfl := Option.some.inj H; (go_enter Try.func32, Try.ntmps32); (go_wp2_with (first | ((with_reducible refine gate_dst (N := 1) rfl ?_); refine box_event ?hg (N := 1) ?hd (cs := #[.int .i64 a0_0, .int .i64 a0_1, .int .i64 a0_2, .int .i64 a0_3, .int .i64 a0_4, .int .i64 a0_5, .int .i64 a0_6, .int .i64 a0_7]) (t := 28) ?hr ?_; (case hd => rfl); (case hg => rfl); (case hr => first | (go_simp; done) | (go_simp; rfl)); intro gb101 hg w30 hbox hb; have n0_ := Aside0.mk (below_step (by repeat (first | (with_reducible first | exact HB.out | apply below_alloc | apply pw_below_drewN | apply below_drew1) | exact HB.out)) hb); have n1_ := Aside0.mk (hbox); have n2_ := Aside0.mk ((by rw [hg]; exact (below_size (by repeat (first | (with_reducible first | exact HB.out | apply below_alloc | apply pw_below_drewN | apply below_drew1) | exact HB.out))) : w.heap.size ≤ gb101)); have n3_ := Aside0.mk ((by rw [hg]; exact (below_size (by repeat (first | (with_reducible first | exact HB.out | apply below_alloc | apply pw_below_drewN | apply below_drew1) | exact HB.out))) : w.heap.size ≤ gb101)); clear HB; have HB := n0_; have BK101 := n1_; have GW101 := n2_; have GE101 := n3_; clear n0_ n1_ n2_ n3_; clear hb hbox hg; have hcz31_0 : w30.cell? ⟨gb101, 0, none⟩ = some (.int .i64 a0_0) := (blk_cell BK101.out 0).trans rfl; have hcz31_1 : w30.cell? ⟨gb101, 1, none⟩ = some (.int .i64 a0_1) := (blk_cell BK101.out 1).trans rfl; have hcz31_2 : w30.cell? ⟨gb101, 2, none⟩ = some (.int .i64 a0_2) := (blk_cell BK101.out 2).trans rfl; have hcz31_3 : w30.cell? ⟨gb101, 3, none⟩ = some (.int .i64 a0_3) := (blk_cell BK101.out 3).trans rfl; have hcz31_4 : w30.cell? ⟨gb101, 4, none⟩ = some (.int .i64 a0_4) := (blk_cell BK101.out 4).trans rfl; have hcz31_5 : w30.cell? ⟨gb101, 5, none⟩ = some (.int .i64 a0_5) := (blk_cell BK101.out 5).trans rfl; have hcz31_6 : w30.cell? ⟨gb101, 6, none⟩ = some (.int .i64 a0_6) := (blk_cell BK101.out 6).trans rfl; have hcz31_7 : w30.cell? ⟨gb101, 7, none⟩ = some (.int .i64 a0_7) := (blk_cell BK101.out 7).trans rfl; have hfz31_0 := blk_frozen BK101.out 0; have hfz31_1 := blk_frozen BK101.out 1; have hfz31_2 := blk_frozen BK101.out 2; have hfz31_3 := blk_frozen BK101.out 3; have hfz31_4 := blk_frozen BK101.out 4; have hfz31_5 := blk_frozen BK101.out 5; have hfz31_6 := blk_frozen BK101.out 6; have hfz31_7 := blk_frozen BK101.out 7) | ((with_reducible refine gate_callee (f := 49) rfl ?_); refine goesL_ (some 6) rfl rfl Try.func49 (by kernel_rfl) rfl #[.int .i64 a0_0, .int .i64 1, .int .i64 12] rfl (by (try simp only [List.map_toArray, List.map_cons, List.map_nil]); first | done | rfl | (simp only [List.length_drop, List.length_take]; rfl)) ?_; (with_reducible refine (facts_within.calls a0_0 1 12 true _ A2.out).mono ?_); rintro e w' ⟨rfl, ⟨nd, rfl⟩⟩; refine ⟨_, rfl, ?_⟩) | (go_at_call 49; (with_reducible refine (facts_within.calls a0_1 0 20000 false _ A4.out).mono ?_); rintro e w' ⟨rfl, ⟨nd, rfl⟩⟩))); (go_ret); (exact ⟨by first | rfl | (simp [errW_none, errW_some] <;> rfl) | (simp [*, errW_none, errW_some] <;> rfl), by repeat (first | (with_reducible first | exact HB.out | apply below_alloc | apply pw_below_drewN | apply below_drew1 | refine below_set ?_ GE101.out) | exact HB.out)⟩)
 ·replace c3 := Bool.eq_false_iff.mpr c3; subst c3; (have H1 : (some false) = some r := by rw [if_neg (show ¬ (false = true) by decide)] at H; exact H); clear H; have H := H1; clear H1; obtain rfl := Option.some.inj H; (go_enter Try.func32, Try.ntmps32); (go_wp2_with (first | ((with_reducible refine gate_dst (N := 1) rfl ?_); refine box_event ?hg (N := 1) ?hd (cs := #[.int .i64 a0_0, .int .i64 a0_1, .int .i64 a0_2, .int .i64 a0_3, .int .i64 a0_4, .int .i64 a0_5, .int .i64 a0_6, .int .i64 a0_7]) (t := 28) ?hr ?_; (case hd => rfl); (case hg => rfl); (case hr => first | (go_simp; done) | (go_simp; rfl)); intro gb101 hg w32 hbox hb; have n0_ := Aside0.mk (below_step (by repeat (first | (with_reducible first | exact HB.out | apply below_alloc | apply pw_below_drewN | apply below_drew1) | exact HB.out)) hb); have n1_ := Aside0.mk (hbox); have n2_ := Aside0.mk ((by rw [hg]; exact (below_size (by repeat (first | (with_reducible first | exact HB.out | apply below_alloc | apply pw_below_drewN | apply below_drew1) | exact HB.out))) : w.heap.size ≤ gb101)); have n3_ := Aside0.mk ((by rw [hg]; exact (below_size (by repeat (first | (with_reducible first | exact HB.out | apply below_alloc | apply pw_below_drewN | apply below_drew1) | exact HB.out))) : w.heap.size ≤ gb101)); clear HB; have HB := n0_; have BK101 := n1_; have GW101 := n2_; have GE101 := n3_; clear n0_ n1_ n2_ n3_; clear hb hbox hg; have hcz33_0 : w32.cell? ⟨gb101, 0, none⟩ = some (.int .i64 a0_0) := (blk_cell BK101.out 0).trans rfl; have hcz33_1 : w32.cell? ⟨gb101, 1, none⟩ = some (.int .i64 a0_1) := (blk_cell BK101.out 1).trans rfl; have hcz33_2 : w32.cell? ⟨gb101, 2, none⟩ = some (.int .i64 a0_2) := (blk_cell BK101.out 2).trans rfl; have hcz33_3 : w32.cell? ⟨gb101, 3, none⟩ = some (.int .i64 a0_3) := (blk_cell BK101.out 3).trans rfl; have hcz33_4 : w32.cell? ⟨gb101, 4, none⟩ = some (.int .i64 a0_4) := (blk_cell BK101.out 4).trans rfl; have hcz33_5 : w32.cell? ⟨gb101, 5, none⟩ = some (.int .i64 a0_5) := (blk_cell BK101.out 5).trans rfl; have hcz33_6 : w32.cell? ⟨gb101, 6, none⟩ = some (.int .i64 a0_6) := (blk_cell BK101.out 6).trans rfl; have hcz33_7 : w32.cell? ⟨gb101, 7, none⟩ = some (.int .i64 a0_7) := (blk_cell BK101.out 7).trans rfl; have hfz33_0 := blk_frozen BK101.out 0; have hfz33_1 := blk_frozen BK101.out 1; have hfz33_2 := blk_frozen BK101.out 2; have hfz33_3 := blk_frozen BK101.out 3; have hfz33_4 := blk_frozen BK101.out 4; have hfz33_5 := blk_frozen BK101.out 5; have hfz33_6 := blk_frozen BK101.out 6; have hfz33_7 := blk_frozen BK101.out 7) | ((with_reducible refine gate_callee (f := 49) rfl ?_); refine goesL_ (some 6) rfl rfl Try.func49 (by kernel_rfl) rfl #[.int .i64 a0_0, .int .i64 1, .int .i64 12] rfl (by (try simp only [List.map_toArray, List.map_cons, List.map_nil]); first | done | rfl | (simp only [List.length_drop, List.length_take]; rfl)) ?_; (with_reducible refine (facts_within.calls a0_0 1 12 false _ A2.out).mono ?_); rintro e w' ⟨rfl, ⟨nd, rfl⟩⟩; refine ⟨_, rfl, ?_⟩))); (go_ret); (exact ⟨by first | rfl | (simp [errW_none, errW_some] <;> rfl) | (simp [*, errW_none, errW_some] <;> rfl), by repeat (first | (with_reducible first | exact HB.out | apply below_alloc | apply pw_below_drewN | apply below_drew1 | refine below_set ?_ GE101.out) | exact HB.out)⟩)
end Go.Proofs.Ytamajnhdibcpiaa.G
namespace Go.Proofs.Ytamajnhdibcpiaa.G
open Go.RowKit Go.Proofs.YtamajnhdibcpiaaW.PrintWords Go.Proofs.YtamajnhdibcpiaaW.PrintLast Go.Proofs.YtamajnhdibcpiaaW.PrintMore
attribute [local go_sem] max2_int min2_int max_two min_two max_three min_three max_four min_four
def cmp_Or_int.l0 : Nat → Int → List Int → Int → Int → Option (Int)
  | 0, _, _, _, _ => none
  | k + 1, x3, x6, x7, x8 => if x8 < x7 then (if 0 ≤ x8 then (if x8 < (x6.length : Int) then (if (rd x6 x8) = x3 then (cmp_Or_int.l0 k x3 x6 x7 (wrap64 (x8 + 1))) else (some (rd x6 x8))) else (none)) else (none)) else (some x3)
def cmp_Or_int.f (k : Nat) (l0 : List Int) : Option (Int) := cmp_Or_int.l0 k 0 l0 (l0.length : Int) 0
theorem cmp_Or_int.mono_l : ∀ k, (∀ y0 y1 y2 y3, LeO (cmp_Or_int.l0 k y0 y1 y2 y3) (cmp_Or_int.l0 (k + 1) y0 y1 y2 y3))
  | 0 => fun _ _ _ _ r h => by simp [cmp_Or_int.l0] at h
  | k + 1 => by
    have ih0 := cmp_Or_int.mono_l k
    · intro y0 y1 y2 y3
      unfold cmp_Or_int.l0
      repeat' first
      | (with_reducible exact ih0 _ _ _ _)
      | (with_reducible exact LeO.refl _)
      | (with_reducible exact LeO.none _)
      | (with_reducible refine LeO.ite ?_ ?_)
      | (with_reducible refine LeO.bind ?_ (fun _ => ?_))
      | exact ih0 _ _ _ _
      | exact LeO.none _
      | refine LeO.ite ?_ ?_
      | refine LeO.bind ?_ (fun _ => ?_)
theorem cmp_Or_int.mono : ∀ a0 k, LeO (cmp_Or_int.f k a0) (cmp_Or_int.f (k + 1) a0) := by
 intro a0 k; have ih0 := cmp_Or_int.mono_l k; unfold cmp_Or_int.f
 repeat' first
  | (with_reducible exact ih0 _ _ _ _)
  | (with_reducible exact LeO.refl _)
  | (with_reducible exact LeO.none _)
  | (with_reducible refine LeO.ite ?_ ?_)
  | (with_reducible refine LeO.bind ?_ (fun _ => ?_))
  | exact ih0 _ _ _ _
  | exact LeO.none _
  | refine LeO.ite ?_ ?_
  | refine LeO.bind ?_ (fun _ => ?_)
set_option maxHeartbeats 8000000 in
set_option maxRecDepth 100000 in
theorem cmp_Or_int.calls (k : Nat) (A0 : Option Addr) (c0 : Nat) (l0 : List Int) (r : Int) (w : World) (hr0 : Kd.C (Kd.int .i64) w A0 l0.length l0) (hc0 : l0.length ≤ c0) (h : cmp_Or_int.f k l0 = some r) :
    Calls Try.prog 50 #[.slice A0 l0.length c0] w fun e w' => e = .returned (.int .i64 r) ∧ Drawn0 w w' := by
 have HR0 := Aside0.mk hr0; have HC0 := Aside0.mk hc0; clear hr0 hc0; have H : (cmp_Or_int.l0 k 0 l0 (l0.length : Int) 0) = some r := h; clear h; have H' := Aside0.mk H; clear H; (go_enter Try.func50, Try.ntmps50); (go_wp2); (go_loopg [8] k (fun kq v8 w' => ∃ (x8_1 : Int), v8 = .int .i64 x8_1 ∧ Aside0 (cmp_Or_int.l0 kq 0 l0 (l0.length : Int) x8_1 = some r) ∧ Aside0 (kq ≤ k) ∧ Drawn0 w w'))
 case atStart => exact ⟨(0), (by first | rfl | (simp; done) | (simp [*]; done)), H', ⟨Nat.le_refl _⟩, by repeat (first | exact Drawn0.refl _ | apply Drawn0.step)⟩
 case round =>
  clear H'; obtain ⟨x8_1, rfl, HA, HK1, ⟨m1, rfl⟩⟩ := hrel
  cases gk with
  | zero => exact absurd HA.out (by simp [cmp_Or_int.l0])
  | succ k1 =>
   have H := HA.out; clear HA; simp only [cmp_Or_int.l0] at H; (by_cases c2 : x8_1 < (l0.length : Int))
   ·rw [if_pos c2] at H; have c2b0 : decide (x8_1 < (l0.length : Int)) = true := decide_eq_true c2; clear c2; (by_cases c3 : 0 ≤ x8_1)
    ·rw [if_pos c3] at H; have c3b0 : decide (0 ≤ x8_1) = true := decide_eq_true c3; clear c3; (by_cases c4 : x8_1 < (l0.length : Int))
     ·rw [if_pos c4] at H; have c4b0 : decide (x8_1 < (l0.length : Int)) = true := decide_eq_true c4; clear c4; (by_cases c5 : (rd l0 x8_1) = 0)
      ·rw [if_pos c5] at H; have c5b0 : ((rd l0 x8_1) == 0) = true := beq_iff_eq.mpr c5; have c5b1 : ((rd l0 x8_1) != 0) = false := bne_eq_false_iff_eq.mpr c5; clear c5; have H' := Aside0.mk H; clear H; (have p108 : 0 ≤ (x8_1 : Int) := of_decide_eq_true (by assumption)); (have q108 : x8_1 < (l0.length : Int) := of_decide_eq_true (by assumption)); obtain ⟨ad108, e108, hx108_0⟩ := Kd.at_int HR0.out x8_1 p108 q108; cases e108; replace p108 := eq_true p108; replace q108 := eq_true q108; (go_wp2); (go_roundg k1)
       case measure => have := HK1.out; omega
       case rel => exact ⟨(wrap64 (x8_1 + 1)), (by first | rfl | (simp; done) | (simp [*]; done)), H', ⟨by have := HK1.out; omega⟩, by repeat (first | exact Drawn0.refl _ | apply Drawn0.step)⟩
      ·rw [if_neg c5] at H; have c5b0 : ((rd l0 x8_1) == 0) = false := beq_eq_false_iff_ne.mpr c5; have c5b1 : ((rd l0 x8_1) != 0) = true := bne_iff_ne.mpr c5; obtain rfl := Option.some.inj H; (have p108 : 0 ≤ (x8_1 : Int) := of_decide_eq_true (by assumption)); (have q108 : x8_1 < (l0.length : Int) := of_decide_eq_true (by assumption)); obtain ⟨ad108, e108, hx108_0⟩ := Kd.at_int HR0.out x8_1 p108 q108; cases e108; replace p108 := eq_true p108; replace q108 := eq_true q108; (go_wp2); (go_ret); (exact ⟨by first | rfl | (simp; done) | (simp [*]; done), by repeat (first | exact Drawn0.refl _ | apply Drawn0.step)⟩)
     ·rw [if_neg c4] at H; (exact absurd H (by simp))
    ·rw [if_neg c3] at H; (exact absurd H (by simp))
   ·rw [if_neg c2] at H; have c2b0 : decide (x8_1 < (l0.length : Int)) = false := decide_eq_false c2; clear c2; obtain rfl := Option.some.inj H; (go_wp2); (go_ret); (exact ⟨by first | rfl | (simp; done) | (simp [*]; done), by repeat (first | exact Drawn0.refl _ | apply Drawn0.step)⟩)
def cmp_isNaN_int.f (a0 : Int) : Option (Bool) := some (a0 != a0)
set_option maxHeartbeats 8000000 in
set_option maxRecDepth 100000 in
theorem cmp_isNaN_int.calls (a0 : Int) (r : Bool) (w : World) (h : cmp_isNaN_int.f a0 = some r) :
    Calls Try.prog 58 #[.int .i64 a0] w fun e w' => e = .returned (.bool r) ∧ Drawn0 w w' := by
 have H : (some (a0 != a0)) = some r := h; clear h; obtain rfl := Option.some.inj H; (go_enter Try.func58, Try.ntmps58); (go_wp2); (go_ret); (exact ⟨by first | rfl | (simp; done) | (simp [*]; done), by repeat (first | exact Drawn0.refl _ | apply Drawn0.step)⟩)
def cmp_Compare_int.f (a0 : Int) (a1 : Int) : Option (Int) := (cmp_isNaN_int.f a0).bind fun t109 => ((cmp_isNaN_int.f a1).bind fun t110 => (if t109 = true then (if t110 = true then (some 0) else (some (-1))) else (if t110 = true then (some 1) else (if a0 < a1 then (some (-1)) else (if a0 > a1 then (some 1) else (some 0))))))
set_option maxHeartbeats 8000000 in
set_option maxRecDepth 100000 in
theorem cmp_Compare_int.calls (a0 : Int) (a1 : Int) (r : Int) (w : World) (h : cmp_Compare_int.f a0 a1 = some r) :
    Calls Try.prog 51 #[.int .i64 a0, .int .i64 a1] w fun e w' => e = .returned (.int .i64 r) ∧ Drawn0 w w' := by
 (have H : ((cmp_isNaN_int.f a0).bind fun t109 => ((cmp_isNaN_int.f a1).bind fun t110 => (if t109 = true then (if t110 = true then (some 0) else (some (-1))) else (if t110 = true then (some 1) else (if a0 < a1 then (some (-1)) else (if a0 > a1 then (some 1) else (some 0))))))) = some r := h); clear h; replace H := Option.bind_eq_some_iff.mp H; obtain ⟨t109, A30, H⟩ := H; (replace H : ((cmp_isNaN_int.f a1).bind fun t110 => (if t109 = true then (if t110 = true then (some 0) else (some (-1))) else (if t110 = true then (some 1) else (if a0 < a1 then (some (-1)) else (if a0 > a1 then (some 1) else (some 0)))))) = some r := H); have A3 := Aside0.mk A30; clear A30; replace H := Option.bind_eq_some_iff.mp H; obtain ⟨t110, A40, H⟩ := H; replace H : (if t109 = true then (if t110 = true then (some 0) else (some (-1))) else (if t110 = true then (some 1) else (if a0 < a1 then (some (-1)) else (if a0 > a1 then (some 1) else (some 0))))) = some r := H; have A4 := Aside0.mk A40; clear A40; (by_cases c5 : t109 = true)
 ·subst c5; (have H1 : (if t110 = true then (some 0) else (some (-1))) = some r := by rw [if_pos rfl] at H; exact H); clear H; have H := H1; clear H1; (by_cases c6 : t110 = true)
  ·subst c6; (have H1 : (some 0) = some r := by rw [if_pos rfl] at H; exact H); clear H; have H := H1; clear H1; obtain rfl := Option.some.inj H; (go_enter Try.func51, Try.ntmps51); (go_wp2_with (first | ((with_reducible refine gate_callee (f := 58) rfl ?_); refine goesL_ (some 8) rfl rfl Try.func58 (by kernel_rfl) rfl #[.int .i64 a0] rfl (by (try simp only [List.map_toArray, List.map_cons, List.map_nil]); first | done | rfl | (simp only [List.length_drop, List.length_take]; rfl)) ?_; (with_reducible refine (cmp_isNaN_int.calls a0 true _ A3.out).mono ?_); rintro e w' ⟨rfl, ⟨nd, rfl⟩⟩; refine ⟨_, rfl, ?_⟩) | ((with_reducible refine gate_callee (f := 58) rfl ?_); refine goesL_ (some 10) rfl rfl Try.func58 (by kernel_rfl) rfl #[.int .i64 a1] rfl (by (try simp only [List.map_toArray, List.map_cons, List.map_nil]); first | done | rfl | (simp only [List.length_drop, List.length_take]; rfl)) ?_; (with_reducible refine (cmp_isNaN_int.calls a1 true _ A4.out).mono ?_); rintro e w' ⟨rfl, ⟨nd, rfl⟩⟩; refine ⟨_, rfl, ?_⟩))); (go_ret); (exact ⟨by first | rfl | (simp; done) | (simp [*]; done), by repeat (first | exact Drawn0.refl _ | apply Drawn0.step)⟩)
  ·replace c6 := Bool.eq_false_iff.mpr c6; subst c6; (have H1 : (some (-1)) = some r := by rw [if_neg (show ¬ (false = true) by decide)] at H; exact H); clear H; have H := H1; clear H1; obtain rfl := Option.some.inj H; (go_enter Try.func51, Try.ntmps51); (go_wp2_with (first | ((with_reducible refine gate_callee (f := 58) rfl ?_); refine goesL_ (some 8) rfl rfl Try.func58 (by kernel_rfl) rfl #[.int .i64 a0] rfl (by (try simp only [List.map_toArray, List.map_cons, List.map_nil]); first | done | rfl | (simp only [List.length_drop, List.length_take]; rfl)) ?_; (with_reducible refine (cmp_isNaN_int.calls a0 true _ A3.out).mono ?_); rintro e w' ⟨rfl, ⟨nd, rfl⟩⟩; refine ⟨_, rfl, ?_⟩) | ((with_reducible refine gate_callee (f := 58) rfl ?_); refine goesL_ (some 10) rfl rfl Try.func58 (by kernel_rfl) rfl #[.int .i64 a1] rfl (by (try simp only [List.map_toArray, List.map_cons, List.map_nil]); first | done | rfl | (simp only [List.length_drop, List.length_take]; rfl)) ?_; (with_reducible refine (cmp_isNaN_int.calls a1 false _ A4.out).mono ?_); rintro e w' ⟨rfl, ⟨nd, rfl⟩⟩; refine ⟨_, rfl, ?_⟩))); (go_ret); (exact ⟨by first | rfl | (simp; done) | (simp [*]; done), by repeat (first | exact Drawn0.refl _ | apply Drawn0.step)⟩)
 ·replace c5 := Bool.eq_false_iff.mpr c5; subst c5; (have H1 : (if t110 = true then (some 1) else (if a0 < a1 then (some (-1)) else (if a0 > a1 then (some 1) else (some 0)))) = some r := by rw [if_neg (show ¬ (false = true) by decide)] at H; exact H); clear H; have H := H1; clear H1; (by_cases c7 : t110 = true)
  ·subst c7; (have H1 : (some 1) = some r := by rw [if_pos rfl] at H; exact H); clear H; have H := H1; clear H1; obtain rfl := Option.some.inj H; (go_enter Try.func51, Try.ntmps51); (go_wp2_with (first | ((with_reducible refine gate_callee (f := 58) rfl ?_); refine goesL_ (some 8) rfl rfl Try.func58 (by kernel_rfl) rfl #[.int .i64 a0] rfl (by (try simp only [List.map_toArray, List.map_cons, List.map_nil]); first | done | rfl | (simp only [List.length_drop, List.length_take]; rfl)) ?_; (with_reducible refine (cmp_isNaN_int.calls a0 false _ A3.out).mono ?_); rintro e w' ⟨rfl, ⟨nd, rfl⟩⟩; refine ⟨_, rfl, ?_⟩) | ((with_reducible refine gate_callee (f := 58) rfl ?_); refine goesL_ (some 10) rfl rfl Try.func58 (by kernel_rfl) rfl #[.int .i64 a1] rfl (by (try simp only [List.map_toArray, List.map_cons, List.map_nil]); first | done | rfl | (simp only [List.length_drop, List.length_take]; rfl)) ?_; (with_reducible refine (cmp_isNaN_int.calls a1 true _ A4.out).mono ?_); rintro e w' ⟨rfl, ⟨nd, rfl⟩⟩; refine ⟨_, rfl, ?_⟩))); (go_ret); (exact ⟨by first | rfl | (simp; done) | (simp [*]; done), by repeat (first | exact Drawn0.refl _ | apply Drawn0.step)⟩)
  ·replace c7 := Bool.eq_false_iff.mpr c7; subst c7; (have H1 : (if a0 < a1 then (some (-1)) else (if a0 > a1 then (some 1) else (some 0))) = some r := by rw [if_neg (show ¬ (false = true) by decide)] at H; exact H); clear H; have H := H1; clear H1; (by_cases c8 : a0 < a1)
   ·rw [if_pos c8] at H; have c8b0 : decide (a0 < a1) = true := decide_eq_true c8; clear c8; obtain rfl := Option.some.inj H; (go_enter Try.func51, Try.ntmps51); (go_wp2_with (first | ((with_reducible refine gate_callee (f := 58) rfl ?_); refine goesL_ (some 8) rfl rfl Try.func58 (by kernel_rfl) rfl #[.int .i64 a0] rfl (by (try simp only [List.map_toArray, List.map_cons, List.map_nil]); first | done | rfl | (simp only [List.length_drop, List.length_take]; rfl)) ?_; (with_reducible refine (cmp_isNaN_int.calls a0 false _ A3.out).mono ?_); rintro e w' ⟨rfl, ⟨nd, rfl⟩⟩; refine ⟨_, rfl, ?_⟩) | ((with_reducible refine gate_callee (f := 58) rfl ?_); refine goesL_ (some 10) rfl rfl Try.func58 (by kernel_rfl) rfl #[.int .i64 a1] rfl (by (try simp only [List.map_toArray, List.map_cons, List.map_nil]); first | done | rfl | (simp only [List.length_drop, List.length_take]; rfl)) ?_; (with_reducible refine (cmp_isNaN_int.calls a1 false _ A4.out).mono ?_); rintro e w' ⟨rfl, ⟨nd, rfl⟩⟩; refine ⟨_, rfl, ?_⟩))); (go_ret); (exact ⟨by first | rfl | (simp; done) | (simp [*]; done), by repeat (first | exact Drawn0.refl _ | apply Drawn0.step)⟩)
   ·rw [if_neg c8] at H; have c8b0 : decide (a0 < a1) = false := decide_eq_false c8; clear c8; (by_cases c9 : a0 > a1)
    ·rw [if_pos c9] at H; have c9b0 : decide (a1 < a0) = true := decide_eq_true c9; clear c9; obtain rfl := Option.some.inj H; (go_enter Try.func51, Try.ntmps51); (go_wp2_with (first | ((with_reducible refine gate_callee (f := 58) rfl ?_); refine goesL_ (some 8) rfl rfl Try.func58 (by kernel_rfl) rfl #[.int .i64 a0] rfl (by (try simp only [List.map_toArray, List.map_cons, List.map_nil]); first | done | rfl | (simp only [List.length_drop, List.length_take]; rfl)) ?_; (with_reducible refine (cmp_isNaN_int.calls a0 false _ A3.out).mono ?_); rintro e w' ⟨rfl, ⟨nd, rfl⟩⟩; refine ⟨_, rfl, ?_⟩) | ((with_reducible refine gate_callee (f := 58) rfl ?_); refine goesL_ (some 10) rfl rfl Try.func58 (by kernel_rfl) rfl #[.int .i64 a1] rfl (by (try simp only [List.map_toArray, List.map_cons, List.map_nil]); first | done | rfl | (simp only [List.length_drop, List.length_take]; rfl)) ?_; (with_reducible refine (cmp_isNaN_int.calls a1 false _ A4.out).mono ?_); rintro e w' ⟨rfl, ⟨nd, rfl⟩⟩; refine ⟨_, rfl, ?_⟩))); (go_ret); (exact ⟨by first | rfl | (simp; done) | (simp [*]; done), by repeat (first | exact Drawn0.refl _ | apply Drawn0.step)⟩)
    ·rw [if_neg c9] at H; have c9b0 : decide (a1 < a0) = false := decide_eq_false c9; clear c9; obtain rfl := Option.some.inj H; (go_enter Try.func51, Try.ntmps51); (go_wp2_with (first | ((with_reducible refine gate_callee (f := 58) rfl ?_); refine goesL_ (some 8) rfl rfl Try.func58 (by kernel_rfl) rfl #[.int .i64 a0] rfl (by (try simp only [List.map_toArray, List.map_cons, List.map_nil]); first | done | rfl | (simp only [List.length_drop, List.length_take]; rfl)) ?_; (with_reducible refine (cmp_isNaN_int.calls a0 false _ A3.out).mono ?_); rintro e w' ⟨rfl, ⟨nd, rfl⟩⟩; refine ⟨_, rfl, ?_⟩) | ((with_reducible refine gate_callee (f := 58) rfl ?_); refine goesL_ (some 10) rfl rfl Try.func58 (by kernel_rfl) rfl #[.int .i64 a1] rfl (by (try simp only [List.map_toArray, List.map_cons, List.map_nil]); first | done | rfl | (simp only [List.length_drop, List.length_take]; rfl)) ?_; (with_reducible refine (cmp_isNaN_int.calls a1 false _ A4.out).mono ?_); rintro e w' ⟨rfl, ⟨nd, rfl⟩⟩; refine ⟨_, rfl, ?_⟩))); (go_ret); (exact ⟨by first | rfl | (simp; done) | (simp [*]; done), by repeat (first | exact Drawn0.refl _ | apply Drawn0.step)⟩)
end Go.Proofs.Ytamajnhdibcpiaa.G
namespace Go.Proofs.Ytamajnhdibcpiaa.G
open Go.RowKit Go.Proofs.YtamajnhdibcpiaaW.PrintWords Go.Proofs.YtamajnhdibcpiaaW.PrintLast Go.Proofs.YtamajnhdibcpiaaW.PrintMore
attribute [local go_sem] max2_int min2_int max_two min_two max_three min_three max_four min_four
def facts_compare.f (k : Nat) (a0_0 : Int) (a0_1 : Int) (a0_2 : Int) (a0_3 : Int) (a0_4 : Int) (a0_5 : Int) (a0_6 : Int) (a0_7 : Int) (a1_0 : Int) (a1_1 : Int) (a1_2 : Int) (a1_3 : Int) (a1_4 : Int) (a1_5 : Int) (a1_6 : Int) (a1_7 : Int) : Option (Int) := (cmp_Compare_int.f a0_6 a1_6).bind fun t113 => ((cmp_Compare_int.f a0_7 a1_7).bind fun t114 => ((cmp_Or_int.f k (([t113, t114] : List Int))).bind fun t118 => (some t118)))
theorem facts_compare.mono : ∀ a0 a1 a2 a3 a4 a5 a6 a7 a8 a9 a10 a11 a12 a13 a14 a15 k, LeO (facts_compare.f k a0 a1 a2 a3 a4 a5 a6 a7 a8 a9 a10 a11 a12 a13 a14 a15) (facts_compare.f (k + 1) a0 a1 a2 a3 a4 a5 a6 a7 a8 a9 a10 a11 a12 a13 a14 a15) := by
 intro a0 a1 a2 a3 a4 a5 a6 a7 a8 a9 a10 a11 a12 a13 a14 a15 k; unfold facts_compare.f
 repeat' first
  | (with_reducible exact cmp_Or_int.mono _ _)
  | (with_reducible exact LeO.refl _)
  | (with_reducible exact LeO.none _)
  | (with_reducible refine LeO.ite ?_ ?_)
  | (with_reducible refine LeO.bind ?_ (fun _ => ?_))
  | exact cmp_Or_int.mono _ _
  | exact LeO.none _
  | refine LeO.ite ?_ ?_
  | refine LeO.bind ?_ (fun _ => ?_)
def facts_compare.T1 : Bool × List (List Nat × List Nat) := (true, [([], []), ([0], [0]), ([], []), ([2], [2]), ([1, 3], [1, 3]), ([], []), ([5], [5]), ([], []), ([7], [7]), ([6, 8, 4], [6, 8]), ([4, 9], [4, 9]), ([10, 9], [10]), ([11, 11, 0, 1, 2, 3, 4, 5, 6, 7, 8, 9, 10, 11], [11])])
def facts_compare.B1 : List Nat := [0, 1, 0, 4, 15, 0, 32, 0, 128, 511, 1023, 2047, 4095]
theorem facts_compare.tab1 : rtab .any (opsOf Try.f33 1) = facts_compare.T1 := by kernel_rfl
theorem facts_compare.bits1 : waitsOk facts_compare.T1.2 facts_compare.B1 = true := by kernel_rfl
set_option maxHeartbeats 8000000 in
set_option maxRecDepth 100000 in
theorem facts_compare.calls (k : Nat) (a0_0 : Int) (a0_1 : Int) (a0_2 : Int) (a0_3 : Int) (a0_4 : Int) (a0_5 : Int) (a0_6 : Int) (a0_7 : Int) (a1_0 : Int) (a1_1 : Int) (a1_2 : Int) (a1_3 : Int) (a1_4 : Int) (a1_5 : Int) (a1_6 : Int) (a1_7 : Int) (r : Int) (w : World) (h : facts_compare.f k a0_0 a0_1 a0_2 a0_3 a0_4 a0_5 a0_6 a0_7 a1_0 a1_1 a1_2 a1_3 a1_4 a1_5 a1_6 a1_7 = some r) :
    Calls Try.prog 33 #[.agg #[.int .i64 a0_0, .int .i64 a0_1, .int .i64 a0_2, .int .i64 a0_3, .int .i64 a0_4, .int .i64 a0_5, .int .i64 a0_6, .int .i64 a0_7], .agg #[.int .i64 a1_0, .int .i64 a1_1, .int .i64 a1_2, .int .i64 a1_3, .int .i64 a1_4, .int .i64 a1_5, .int .i64 a1_6, .int .i64 a1_7]] w fun e w' => e = .returned (.int .i64 r) ∧ Below w.heap.size w w' := by
 have hu28 := Try.underlying28; have HB := Aside0.mk (Below.refl w.heap.size w); (have H : ((cmp_Compare_int.f a0_6 a1_6).bind fun t113 => ((cmp_Compare_int.f a0_7 a1_7).bind fun t114 => ((cmp_Or_int.f k (([t113, t114] : List Int))).bind fun t118 => (some t118)))) = some r := h); clear h; replace H := Option.bind_eq_some_iff.mp H; obtain ⟨t113, A30, H⟩ := H; (replace H : ((cmp_Compare_int.f a0_7 a1_7).bind fun t114 => ((cmp_Or_int.f k (([t113, t114] : List Int))).bind fun t118 => (some t118))) = some r := H); have A3 := Aside0.mk A30; clear A30; replace H := Option.bind_eq_some_iff.mp H; obtain ⟨t114, A40, H⟩ := H; (replace H : ((cmp_Or_int.f k (([t113, t114] : List Int))).bind fun t118 => (some t118)) = some r := H); have A4 := Aside0.mk A40; clear A40; obtain ⟨y115, hy115⟩ : ∃ y_ : List Int, y_ = (([t113, t114] : List Int)) := ⟨_, rfl⟩; (replace H : ((cmp_Or_int.f k y115).bind fun t118 => (some t118)) = some r := by first | (rw [hy115]; with_reducible exact H) | (have H2_ := (Option.bind_some _ _).symm.trans H; rw [hy115]; with_reducible exact H2_) | (have H2_ := (Option.bind_some _ _).symm.trans H; with_reducible exact H2_) | with_reducible exact H | (rw [hy115]; exact H) | exact H); have Ny115 := Aside0.mk hy115; clear hy115; replace H := Option.bind_eq_some_iff.mp H; obtain ⟨t118, A50, H⟩ := H; replace H : (some t118) = some r := H; have A5 := Aside0.mk A50; clear A50; obtain rfl := Option.some.inj H; (go_enter Try.func33, Try.ntmps33); (try go_wp2_with (first | ((with_reducible refine gate_dst (N := 2) rfl ?_); refine box_event ?hg (N := 2) ?hd (cs := #[.int .i64 a0_0, .int .i64 a0_1, .int .i64 a0_2, .int .i64 a0_3, .int .i64 a0_4, .int .i64 a0_5, .int .i64 a0_6, .int .i64 a0_7]) (t := 28) ?hr ?_; (case hd => rfl); (case hg => rfl); (case hr => first | (go_simp; done) | (go_simp; rfl)); intro gb111 hg w6 hbox hb; have n0_ := Aside0.mk (below_step (by repeat (first | (with_reducible first | exact HB.out | apply below_alloc | apply pw_below_drewN | apply below_drew1) | exact HB.out)) hb); have n1_ := Aside0.mk (hbox); have n2_ := Aside0.mk ((by rw [hg]; exact (below_size (by repeat (first | (with_reducible first | exact HB.out | apply below_alloc | apply pw_below_drewN | apply below_drew1) | exact HB.out))) : w.heap.size ≤ gb111)); have n3_ := Aside0.mk ((by rw [hg]; exact (below_size (by repeat (first | (with_reducible first | exact HB.out | apply below_alloc | apply pw_below_drewN | apply below_drew1) | exact HB.out))) : w.heap.size ≤ gb111)); clear HB; have HB := n0_; have BK111 := n1_; have GW111 := n2_; have GE111 := n3_; clear n0_ n1_ n2_ n3_; clear hb hbox hg) | ((with_reducible refine gate_dst (N := 3) rfl ?_); refine box_event ?hg (N := 3) ?hd (cs := #[.int .i64 a1_0, .int .i64 a1_1, .int .i64 a1_2, .int .i64 a1_3, .int .i64 a1_4, .int .i64 a1_5, .int .i64 a1_6, .int .i64 a1_7]) (t := 28) ?hr ?_; (case hd => rfl); (case hg => rfl); (case hr => first | (go_simp; done) | (go_simp; rfl)); intro gb112 hg w7 hbox hb; have n0_ := Aside0.mk (blk_below (g := gb111) (o := .cells #[.int .i64 a0_0, .int .i64 a0_1, .int .i64 a0_2, .int .i64 a0_3, .int .i64 a0_4, .int .i64 a0_5, .int .i64 a0_6, .int .i64 a0_7] 28 (0, 0)) (by (with_reducible repeat (first | refine blk_drewN ?_ _ | refine blk_drew ?_ | refine blk_alloc ?_ _)); exact BK111.out) hb); have n1_ := Aside0.mk (below_step (by repeat (first | (with_reducible first | exact HB.out | apply below_alloc | apply pw_below_drewN | apply below_drew1 | refine below_set ?_ GE111.out) | exact HB.out)) hb); have n2_ := Aside0.mk (hbox); have n3_ := Aside0.mk ((by rw [hg]; exact (below_size (by repeat (first | (with_reducible first | exact HB.out | apply below_alloc | apply pw_below_drewN | apply below_drew1 | refine below_set ?_ GE111.out) | exact HB.out))) : w.heap.size ≤ gb112)); have n4_ := Aside0.mk ((by rw [hg]; exact (below_size (by repeat (first | (with_reducible first | exact HB.out | apply below_alloc | apply pw_below_drewN | apply below_drew1 | refine below_set ?_ GE111.out) | exact HB.out))) : w.heap.size ≤ gb112)); have n5_ := Aside0.mk ((by rw [hg]; exact Nat.ne_of_lt (blk_lt (g := gb111) (o := .cells #[.int .i64 a0_0, .int .i64 a0_1, .int .i64 a0_2, .int .i64 a0_3, .int .i64 a0_4, .int .i64 a0_5, .int .i64 a0_6, .int .i64 a0_7] 28 (0, 0)) (by (with_reducible repeat (first | refine blk_drewN ?_ _ | refine blk_drew ?_ | refine blk_alloc ?_ _)); exact BK111.out)) : gb111 ≠ gb112)); have n6_ := Aside0.mk ((by rw [hg]; exact Nat.ne_of_gt (blk_lt (g := gb111) (o := .cells #[.int .i64 a0_0, .int .i64 a0_1, .int .i64 a0_2, .int .i64 a0_3, .int .i64 a0_4, .int .i64 a0_5, .int .i64 a0_6, .int .i64 a0_7] 28 (0, 0)) (by (with_reducible repeat (first | refine blk_drewN ?_ _ | refine blk_drew ?_ | refine blk_alloc ?_ _)); exact BK111.out)) : gb112 ≠ gb111)); clear BK111; clear HB; have BK111 := n0_; have HB := n1_; have BK112 := n2_; have GW112 := n3_; have GE112 := n4_; have NB111_112 := n5_; have NB112_111 := n6_; clear n0_ n1_ n2_ n3_ n4_ n5_ n6_; clear hb hbox hg))); have n0_ := Aside0.mk (blk_drew BK111.out); have n1_ := Aside0.mk (blk_drew BK112.out); have n2_ := Aside0.mk (below_drew1 HB.out); clear BK111; clear BK112; clear HB; have BK111 := n0_; have BK112 := n1_; have HB := n2_; clear n0_ n1_ n2_
 (refine start_ (n := 13) (S := fun w' => w'.cell? ⟨gb111, 0, none⟩ = some (.int .i64 a0_0) ∧ w'.cell? ⟨gb111, 1, none⟩ = some (.int .i64 a0_1) ∧ w'.cell? ⟨gb111, 2, none⟩ = some (.int .i64 a0_2) ∧ w'.cell? ⟨gb111, 3, none⟩ = some (.int .i64 a0_3) ∧ w'.cell? ⟨gb111, 4, none⟩ = some (.int .i64 a0_4) ∧ w'.cell? ⟨gb111, 5, none⟩ = some (.int .i64 a0_5) ∧ w'.cell? ⟨gb111, 6, none⟩ = some (.int .i64 a0_6) ∧ w'.cell? ⟨gb111, 7, none⟩ = some (.int .i64 a0_7) ∧ w'.cell? ⟨gb112, 0, none⟩ = some (.int .i64 a1_0) ∧ w'.cell? ⟨gb112, 1, none⟩ = some (.int .i64 a1_1) ∧ w'.cell? ⟨gb112, 2, none⟩ = some (.int .i64 a1_2) ∧ w'.cell? ⟨gb112, 3, none⟩ = some (.int .i64 a1_3) ∧ w'.cell? ⟨gb112, 4, none⟩ = some (.int .i64 a1_4) ∧ w'.cell? ⟨gb112, 5, none⟩ = some (.int .i64 a1_5) ∧ w'.cell? ⟨gb112, 6, none⟩ = some (.int .i64 a1_6) ∧ w'.cell? ⟨gb112, 7, none⟩ = some (.int .i64 a1_7)) (ds := []) #[false, false, false, false, false, false, false, false, false, false, false, false, false] (by kernel_rfl) rfl rfl ⟨(blk_cell BK111.out 0).trans rfl, (blk_cell BK111.out 1).trans rfl, (blk_cell BK111.out 2).trans rfl, (blk_cell BK111.out 3).trans rfl, (blk_cell BK111.out 4).trans rfl, (blk_cell BK111.out 5).trans rfl, (blk_cell BK111.out 6).trans rfl, (blk_cell BK111.out 7).trans rfl, (blk_cell BK112.out 0).trans rfl, (blk_cell BK112.out 1).trans rfl, (blk_cell BK112.out 2).trans rfl, (blk_cell BK112.out 3).trans rfl, (blk_cell BK112.out 4).trans rfl, (blk_cell BK112.out 5).trans rfl, (blk_cell BK112.out 6).trans rfl, (blk_cell BK112.out 7).trans rfl⟩ (fun hHeld => ?_); refine with_tabW facts_compare.tab1 facts_compare.bits1 (fun HT_ HW_ => ?_)); generalize w7.drew = w8 at BK111 BK112 HB hHeld ⊢; (refine pure_ (i := 0) (N := some 5) (v := ?_) (a' := ?_) #[true, false, false, false, false, false, false, false, false, false, false, false, false] rfl rfl (any_of HT_.out (by kernel_rfl)) (fun _ _ _ h => h) (Or.inl ⟨by rfl, ?_⟩) ?_ ?_); rotate_left
 ·intro w'; go_simp; (with_reducible rfl)
 rotate_left
 ·go_simp; rfl
 (refine pure_ (i := 2) (N := some 7) (v := ?_) (a' := ?_) #[true, false, true, false, false, false, false, false, false, false, false, false, false] rfl rfl (any_of HT_.out (by kernel_rfl)) (fun _ _ _ h => h) (Or.inl ⟨by rfl, ?_⟩) ?_ ?_); rotate_left
 ·intro w'; go_simp; (with_reducible rfl)
 rotate_left
 ·go_simp; rfl
 (refine pure_ (i := 5) (N := some 10) (v := ?_) (a' := ?_) #[true, false, true, false, false, true, false, false, false, false, false, false, false] rfl rfl (any_of HT_.out (by kernel_rfl)) (fun _ _ _ h => h) (Or.inl ⟨by rfl, ?_⟩) ?_ ?_); rotate_left
 ·intro w'; go_simp; (with_reducible rfl)
 rotate_left
 ·go_simp; rfl
 (refine pure_ (i := 7) (N := some 12) (v := ?_) (a' := ?_) #[true, false, true, false, false, true, false, true, false, false, false, false, false] rfl rfl (any_of HT_.out (by kernel_rfl)) (fun _ _ _ h => h) (Or.inl ⟨by rfl, ?_⟩) ?_ ?_); rotate_left
 ·intro w'; go_simp; (with_reducible rfl)
 rotate_left
 ·go_simp; rfl
 (refine take_ (i := 1) (N := some 6) (v := ?_) (a' := ?_) #[true, true, true, false, false, true, false, true, false, false, false, false, false] rfl rfl (take_ofW HT_.out HW_.out (by kernel_rfl)) (fun _ _ _ h => h) (Or.inl ⟨by rfl, ?_⟩) hHeld ?_ ?_); rotate_left
 ·rintro w' ⟨s0, s1, s2, s3, s4, s5, s6, s7, s8, s9, s10, s11, s12, s13, s14, s15⟩; go_simp; (with_reducible rfl)
 rotate_left
 ·go_simp; rfl
 (refine take_ (i := 3) (N := some 8) (v := ?_) (a' := ?_) #[true, true, true, true, false, true, false, true, false, false, false, false, false] rfl rfl (take_ofW HT_.out HW_.out (by kernel_rfl)) (fun _ _ _ h => h) (Or.inl ⟨by rfl, ?_⟩) hHeld ?_ ?_); rotate_left
 ·rintro w' ⟨s0, s1, s2, s3, s4, s5, s6, s7, s8, s9, s10, s11, s12, s13, s14, s15⟩; go_simp; (with_reducible rfl)
 rotate_left
 ·go_simp; rfl
 (refine take_ (i := 6) (N := some 11) (v := ?_) (a' := ?_) #[true, true, true, true, false, true, true, true, false, false, false, false, false] rfl rfl (take_ofW HT_.out HW_.out (by kernel_rfl)) (fun _ _ _ h => h) (Or.inl ⟨by rfl, ?_⟩) hHeld ?_ ?_); rotate_left
 ·rintro w' ⟨s0, s1, s2, s3, s4, s5, s6, s7, s8, s9, s10, s11, s12, s13, s14, s15⟩; go_simp; (with_reducible rfl)
 rotate_left
 ·go_simp; rfl
 (refine take_ (i := 8) (N := some 13) (v := ?_) (a' := ?_) #[true, true, true, true, false, true, true, true, true, false, false, false, false] rfl rfl (take_ofW HT_.out HW_.out (by kernel_rfl)) (fun _ _ _ h => h) (Or.inl ⟨by rfl, ?_⟩) hHeld ?_ ?_); rotate_left
 ·rintro w' ⟨s0, s1, s2, s3, s4, s5, s6, s7, s8, s9, s10, s11, s12, s13, s14, s15⟩; go_simp; (with_reducible rfl)
 rotate_left
 ·go_simp; rfl
 (refine one_ (i := 4) (N := some 9) #[true, true, true, true, true, true, true, true, true, false, false, false, false] rfl rfl (one_of HT_.out (by kernel_rfl)) (by decide) (fun K hK => ?_)); (refine goes_ Try.func51 (by kernel_rfl) rfl #[.int .i64 a0_6, .int .i64 a1_6] (by rfl) rfl rfl (by (try simp only [List.map_toArray, List.map_cons, List.map_nil]); first | done | rfl | (simp only [List.length_drop, List.length_take]; rfl)) ?_); (with_reducible refine (cmp_Compare_int.calls a0_6 a1_6 t113 _ A3.out).mono ?_); rintro e w' ⟨rfl, ⟨nd, rfl⟩⟩; refine ⟨_, rfl, ?_⟩; (refine hK.out _ _ ⟨(blk_cell BK111.out 0).trans rfl, (blk_cell BK111.out 1).trans rfl, (blk_cell BK111.out 2).trans rfl, (blk_cell BK111.out 3).trans rfl, (blk_cell BK111.out 4).trans rfl, (blk_cell BK111.out 5).trans rfl, (blk_cell BK111.out 6).trans rfl, (blk_cell BK111.out 7).trans rfl, (blk_cell BK112.out 0).trans rfl, (blk_cell BK112.out 1).trans rfl, (blk_cell BK112.out 2).trans rfl, (blk_cell BK112.out 3).trans rfl, (blk_cell BK112.out 4).trans rfl, (blk_cell BK112.out 5).trans rfl, (blk_cell BK112.out 6).trans rfl, (blk_cell BK112.out 7).trans rfl⟩ (fun hHeld => ?_)); clear hK K; refine norm_ (a' := ?_) ?_ ?_; rotate_left
 ·(show Act.put _ (some 9) _ = _); go_simp; rfl
 (refine one_ (i := 9) (N := some 14) #[true, true, true, true, true, true, true, true, true, true, false, false, false] rfl rfl (one_of HT_.out (by kernel_rfl)) (by decide) (fun K hK => ?_)); (refine goes_ Try.func51 (by kernel_rfl) rfl #[.int .i64 a0_7, .int .i64 a1_7] (by rfl) rfl rfl (by (try simp only [List.map_toArray, List.map_cons, List.map_nil]); first | done | rfl | (simp only [List.length_drop, List.length_take]; rfl)) ?_); (with_reducible refine (cmp_Compare_int.calls a0_7 a1_7 t114 _ A4.out).mono ?_); rintro e w' ⟨rfl, ⟨nd, rfl⟩⟩; refine ⟨_, rfl, ?_⟩; (refine hK.out _ _ ⟨(blk_cell BK111.out 0).trans rfl, (blk_cell BK111.out 1).trans rfl, (blk_cell BK111.out 2).trans rfl, (blk_cell BK111.out 3).trans rfl, (blk_cell BK111.out 4).trans rfl, (blk_cell BK111.out 5).trans rfl, (blk_cell BK111.out 6).trans rfl, (blk_cell BK111.out 7).trans rfl, (blk_cell BK112.out 0).trans rfl, (blk_cell BK112.out 1).trans rfl, (blk_cell BK112.out 2).trans rfl, (blk_cell BK112.out 3).trans rfl, (blk_cell BK112.out 4).trans rfl, (blk_cell BK112.out 5).trans rfl, (blk_cell BK112.out 6).trans rfl, (blk_cell BK112.out 7).trans rfl⟩ (fun hHeld => ?_)); clear hK K; refine norm_ (a' := ?_) ?_ ?_; rotate_left
 ·(show Act.put _ (some 14) _ = _); go_simp; rfl
 (refine one_ (i := 10) (N := some 15) #[true, true, true, true, true, true, true, true, true, true, true, false, false] rfl rfl (one_of HT_.out (by kernel_rfl)) (by decide) (fun K hK => ?_)); (refine Kd.R_lit_step (Kd.int .i64) _ 3 ?hg (N := 15) ?hd (xs := ([t113, t114] : List Int)) (inner := [.int .i64 t113, .int .i64 t114]) (ok := fun _ => True) (okp := fun _ => True) ?hr ?hp (fun _ hk => hk) trivial (Below.refl _ _) (Nat.le_refl _) (by simp) ?_; (case hd => rfl); (case hg => rfl); (case hr => first | (go_simp; done) | (go_simp; rfl)); (case hp => exact (Reps.one (show Kd.M (Kd.int .i64) _ _ _ t113 [.int .i64 t113] from rfl) (Reps.one (show Kd.M (Kd.int .i64) _ _ _ t114 [.int .i64 t114] from rfl) (Reps.none _ _))))); intro v116 w9 ho10 hb hg_ hnew_; clear hg_ hnew_; ((first | rw [← Ny115.out] at ho10 | (simp only [Int.reduceToNat] at ho10; rw [← Ny115.out] at ho10))); (have n0_ := Aside0.mk (Kd.R_lower ho10 (below_size (by repeat (first | (with_reducible first | exact HB.out | apply below_alloc | apply pw_below_drewN | apply below_drew1 | refine below_set ?_ GE111.out | refine below_set ?_ GE112.out) | exact HB.out))))); (have n1_ := Aside0.mk (blk_below (g := gb111) (o := .cells #[.int .i64 a0_0, .int .i64 a0_1, .int .i64 a0_2, .int .i64 a0_3, .int .i64 a0_4, .int .i64 a0_5, .int .i64 a0_6, .int .i64 a0_7] 28 (0, 0)) (by (with_reducible repeat (first | refine blk_drewN ?_ _ | refine blk_drew ?_ | refine blk_alloc ?_ _)); exact BK111.out) hb)); (have n2_ := Aside0.mk (blk_below (g := gb112) (o := .cells #[.int .i64 a1_0, .int .i64 a1_1, .int .i64 a1_2, .int .i64 a1_3, .int .i64 a1_4, .int .i64 a1_5, .int .i64 a1_6, .int .i64 a1_7] 28 (0, 0)) (by (with_reducible repeat (first | refine blk_drewN ?_ _ | refine blk_drew ?_ | refine blk_alloc ?_ _)); exact BK112.out) hb)); (have n3_ := Aside0.mk (below_step (by repeat (first | (with_reducible first | exact HB.out | apply below_alloc | apply pw_below_drewN | apply below_drew1 | refine below_set ?_ GE111.out | refine below_set ?_ GE112.out) | exact HB.out)) hb)); clear BK111; clear BK112; clear HB; have HO117 := n0_; have BK111 := n1_; have BK112 := n2_; have HB := n3_; clear n0_ n1_ n2_ n3_; clear hb ho10; obtain ⟨Ao11, co11, eo11⟩ := Kd.R_slice HO117.out; ((first | subst eo11 | (injection eo11 with f1_ f2_ f3_; have f4_ := f1_.symm; have f5_ := f3_.symm; clear f1_ f2_ f3_; subst f4_; subst f5_))); (refine hK.out _ _ ⟨(blk_cell BK111.out 0).trans rfl, (blk_cell BK111.out 1).trans rfl, (blk_cell BK111.out 2).trans rfl, (blk_cell BK111.out 3).trans rfl, (blk_cell BK111.out 4).trans rfl, (blk_cell BK111.out 5).trans rfl, (blk_cell BK111.out 6).trans rfl, (blk_cell BK111.out 7).trans rfl, (blk_cell BK112.out 0).trans rfl, (blk_cell BK112.out 1).trans rfl, (blk_cell BK112.out 2).trans rfl, (blk_cell BK112.out 3).trans rfl, (blk_cell BK112.out 4).trans rfl, (blk_cell BK112.out 5).trans rfl, (blk_cell BK112.out 6).trans rfl, (blk_cell BK112.out 7).trans rfl⟩ (fun hHeld => ?_)); clear hK K; refine norm_ (a' := ?_) ?_ ?_; rotate_left
 ·(show Act.put _ (some 15) _ = _); go_simp; rfl
 (refine one_ (i := 11) (N := some 16) #[true, true, true, true, true, true, true, true, true, true, true, true, false] rfl rfl (one_of HT_.out (by kernel_rfl)) (by decide) (fun K hK => ?_)); (refine goes_ Try.func50 (by kernel_rfl) rfl #[.slice Ao11 y115.length co11] (by rfl) rfl rfl (by (try simp only [List.map_toArray, List.map_cons, List.map_nil]); first | done | rfl | (simp only [List.length_drop, List.length_take]; rfl)) ?_); (with_reducible refine (cmp_Or_int.calls k _ _ y115 t118 _ ?side1 ?side2 A5.out).mono ?_); ((case side1 => repeat (first | exact (Kd.R_reads' HO117.out).2.2 | (with_reducible refine Kd.C_alloc ?_ _) | (with_reducible refine Kd.C_drewN ?_ _) | (with_reducible refine Kd.C_drew ?_)))); ((case side2 => exact (Kd.R_reads' HO117.out).2.1)); rintro e w' ⟨rfl, ⟨nd, rfl⟩⟩; refine ⟨_, rfl, ?_⟩; (refine hK.out _ _ ⟨(blk_cell BK111.out 0).trans rfl, (blk_cell BK111.out 1).trans rfl, (blk_cell BK111.out 2).trans rfl, (blk_cell BK111.out 3).trans rfl, (blk_cell BK111.out 4).trans rfl, (blk_cell BK111.out 5).trans rfl, (blk_cell BK111.out 6).trans rfl, (blk_cell BK111.out 7).trans rfl, (blk_cell BK112.out 0).trans rfl, (blk_cell BK112.out 1).trans rfl, (blk_cell BK112.out 2).trans rfl, (blk_cell BK112.out 3).trans rfl, (blk_cell BK112.out 4).trans rfl, (blk_cell BK112.out 5).trans rfl, (blk_cell BK112.out 6).trans rfl, (blk_cell BK112.out 7).trans rfl⟩ (fun hHeld => ?_)); clear hK K; refine norm_ (a' := ?_) ?_ ?_; rotate_left
 ·(show Act.put _ (some 16) _ = _); go_simp; rfl
 (refine pure_ (i := 12) (N := some 4) (v := ?_) (a' := ?_) #[true, true, true, true, true, true, true, true, true, true, true, true, true] rfl rfl (any_of HT_.out (by kernel_rfl)) (fun _ _ _ h => h) (Or.inl ⟨by rfl, ?_⟩) ?_ ?_); rotate_left
 ·intro w'; go_simp; (with_reducible rfl)
 rotate_left
 ·go_simp; rfl
 (refine done_ (done_of HT_.out (by kernel_rfl)) ?_); (try go_wp2); (go_ret); (exact ⟨by first | rfl | (simp [errW_none, errW_some] <;> rfl) | (simp [*, errW_none, errW_some] <;> rfl), by repeat (first | (with_reducible first | exact HB.out | apply below_alloc | apply pw_below_drewN | apply below_drew1 | refine below_set ?_ GE111.out | refine below_set ?_ GE112.out) | exact HB.out)⟩)
def sizarref07_Before.f (a0_0 : Int) (a0_1 : Int) (a0_2 : Int) (a0_3 : Int) (a0_4 : Int) (a0_5 : Int) (a0_6 : Int) (a0_7 : Int) (a1_0 : Int) (a1_1 : Int) (a1_2 : Int) (a1_3 : Int) (a1_4 : Int) (a1_5 : Int) (a1_6 : Int) (a1_7 : Int) : Option (Bool) := if a0_6 < a1_6 then (some true) else (if a0_6 = a1_6 then (some (decide (a0_7 < a1_7))) else (some false))
set_option maxHeartbeats 8000000 in
set_option maxRecDepth 100000 in
theorem sizarref07_Before.calls (a0_0 : Int) (a0_1 : Int) (a0_2 : Int) (a0_3 : Int) (a0_4 : Int) (a0_5 : Int) (a0_6 : Int) (a0_7 : Int) (a1_0 : Int) (a1_1 : Int) (a1_2 : Int) (a1_3 : Int) (a1_4 : Int) (a1_5 : Int) (a1_6 : Int) (a1_7 : Int) (r : Bool) (w : World) (h : sizarref07_Before.f a0_0 a0_1 a0_2 a0_3 a0_4 a0_5 a0_6 a0_7 a1_0 a1_1 a1_2 a1_3 a1_4 a1_5 a1_6 a1_7 = some r) :
    Calls Try.prog 30 #[.agg #[.int .i64 a0_0, .int .i64 a0_1, .int .i64 a0_2, .int .i64 a0_3, .int .i64 a0_4, .int .i64 a0_5, .int .i64 a0_6, .int .i64 a0_7], .agg #[.int .i64 a1_0, .int .i64 a1_1, .int .i64 a1_2, .int .i64 a1_3, .int .i64 a1_4, .int .i64 a1_5, .int .i64 a1_6, .int .i64 a1_7]] w fun e w' => e = .returned (.bool r) ∧ Below w.heap.size w w' := by
 have hu28 := Try.underlying28; have HB := Aside0.mk (Below.refl w.heap.size w); have H : (if a0_6 < a1_6 then (some true) else (if a0_6 = a1_6 then (some (decide (a0_7 < a1_7))) else (some false))) = some r := h; clear h; (by_cases c3 : a0_6 < a1_6)
 ·rw [if_pos c3] at H; have c3b0 : decide (a0_6 < a1_6) = true := decide_eq_true c3; clear c3; obtain rfl := Option.some.inj H; (go_enter Try.func30, Try.ntmps30); (go_wp2_with (first | ((with_reducible refine gate_dst (N := 2) rfl ?_); refine box_event ?hg (N := 2) ?hd (cs := #[.int .i64 a0_0, .int .i64 a0_1, .int .i64 a0_2, .int .i64 a0_3, .int .i64 a0_4, .int .i64 a0_5, .int .i64 a0_6, .int .i64 a0_7]) (t := 28) ?hr ?_; (case hd => rfl); (case hg => rfl); (case hr => first | (go_simp; done) | (go_simp; rfl)); intro gb119 hg w4 hbox hb; have n0_ := Aside0.mk (below_step (by repeat (first | (with_reducible first | exact HB.out | apply below_alloc | apply pw_below_drewN | apply below_drew1) | exact HB.out)) hb); have n1_ := Aside0.mk (hbox); have n2_ := Aside0.mk ((by rw [hg]; exact (below_size (by repeat (first | (with_reducible first | exact HB.out | apply below_alloc | apply pw_below_drewN | apply below_drew1) | exact HB.out))) : w.heap.size ≤ gb119)); have n3_ := Aside0.mk ((by rw [hg]; exact (below_size (by repeat (first | (with_reducible first | exact HB.out | apply below_alloc | apply pw_below_drewN | apply below_drew1) | exact HB.out))) : w.heap.size ≤ gb119)); clear HB; have HB := n0_; have BK119 := n1_; have GW119 := n2_; have GE119 := n3_; clear n0_ n1_ n2_ n3_; clear hb hbox hg) | ((with_reducible refine gate_dst (N := 3) rfl ?_); refine box_event ?hg (N := 3) ?hd (cs := #[.int .i64 a1_0, .int .i64 a1_1, .int .i64 a1_2, .int .i64 a1_3, .int .i64 a1_4, .int .i64 a1_5, .int .i64 a1_6, .int .i64 a1_7]) (t := 28) ?hr ?_; (case hd => rfl); (case hg => rfl); (case hr => first | (go_simp; done) | (go_simp; rfl)); intro gb120 hg w5 hbox hb; have n0_ := Aside0.mk (blk_below (g := gb119) (o := .cells #[.int .i64 a0_0, .int .i64 a0_1, .int .i64 a0_2, .int .i64 a0_3, .int .i64 a0_4, .int .i64 a0_5, .int .i64 a0_6, .int .i64 a0_7] 28 (0, 0)) (by (with_reducible repeat (first | refine blk_drewN ?_ _ | refine blk_drew ?_ | refine blk_alloc ?_ _)); exact BK119.out) hb); have n1_ := Aside0.mk (below_step (by repeat (first | (with_reducible first | exact HB.out | apply below_alloc | apply pw_below_drewN | apply below_drew1 | refine below_set ?_ GE119.out) | exact HB.out)) hb); have n2_ := Aside0.mk (hbox); have n3_ := Aside0.mk ((by rw [hg]; exact (below_size (by repeat (first | (with_reducible first | exact HB.out | apply below_alloc | apply pw_below_drewN | apply below_drew1 | refine below_set ?_ GE119.out) | exact HB.out))) : w.heap.size ≤ gb120)); have n4_ := Aside0.mk ((by rw [hg]; exact (below_size (by repeat (first | (with_reducible first | exact HB.out | apply below_alloc | apply pw_below_drewN | apply below_drew1 | refine below_set ?_ GE119.out) | exact HB.out))) : w.heap.size ≤ gb120)); have n5_ := Aside0.mk ((by rw [hg]; exact Nat.ne_of_lt (blk_lt (g := gb119) (o := .cells #[.int .i64 a0_0, .int .i64 a0_1, .int .i64 a0_2, .int .i64 a0_3, .int .i64 a0_4, .int .i64 a0_5, .int .i64 a0_6, .int .i64 a0_7] 28 (0, 0)) (by (with_reducible repeat (first | refine blk_drewN ?_ _ | refine blk_drew ?_ | refine blk_alloc ?_ _)); exact BK119.out)) : gb119 ≠ gb120)); have n6_ := Aside0.mk ((by rw [hg]; exact Nat.ne_of_gt (blk_lt (g := gb119) (o := .cells #[.int .i64 a0_0, .int .i64 a0_1, .int .i64 a0_2, .int .i64 a0_3, .int .i64 a0_4, .int .i64 a0_5, .int .i64 a0_6, .int .i64 a0_7] 28 (0, 0)) (by (with_reducible repeat (first | refine blk_drewN ?_ _ | refine blk_drew ?_ | refine blk_alloc ?_ _)); exact BK119.out)) : gb120 ≠ gb119)); clear BK119; clear HB; have BK119 := n0_; have HB := n1_; have BK120 := n2_; have GW120 := n3_; have GE120 := n4_; have NB119_120 := n5_; have NB120_119 := n6_; clear n0_ n1_ n2_ n3_ n4_ n5_ n6_; clear hb hbox hg; have hnb6 := NB119_120.out; have hnc6 := NB120_119.out; have hcz7_0 : w5.cell? ⟨gb119, 0, none⟩ = some (.int .i64 a0_0) := (blk_cell BK119.out 0).trans rfl; have hcz7_1 : w5.cell? ⟨gb119, 1, none⟩ = some (.int .i64 a0_1) := (blk_cell BK119.out 1).trans rfl; have hcz7_2 : w5.cell? ⟨gb119, 2, none⟩ = some (.int .i64 a0_2) := (blk_cell BK119.out 2).trans rfl; have hcz7_3 : w5.cell? ⟨gb119, 3, none⟩ = some (.int .i64 a0_3) := (blk_cell BK119.out 3).trans rfl; have hcz7_4 : w5.cell? ⟨gb119, 4, none⟩ = some (.int .i64 a0_4) := (blk_cell BK119.out 4).trans rfl; have hcz7_5 : w5.cell? ⟨gb119, 5, none⟩ = some (.int .i64 a0_5) := (blk_cell BK119.out 5).trans rfl; have hcz7_6 : w5.cell? ⟨gb119, 6, none⟩ = some (.int .i64 a0_6) := (blk_cell BK119.out 6).trans rfl; have hcz7_7 : w5.cell? ⟨gb119, 7, none⟩ = some (.int .i64 a0_7) := (blk_cell BK119.out 7).trans rfl; have hfz7_0 := blk_frozen BK119.out 0; have hfz7_1 := blk_frozen BK119.out 1; have hfz7_2 := blk_frozen BK119.out 2; have hfz7_3 := blk_frozen BK119.out 3; have hfz7_4 := blk_frozen BK119.out 4; have hfz7_5 := blk_frozen BK119.out 5; have hfz7_6 := blk_frozen BK119.out 6; have hfz7_7 := blk_frozen BK119.out 7; have hcz8_0 : w5.cell? ⟨gb120, 0, none⟩ = some (.int .i64 a1_0) := (blk_cell BK120.out 0).trans rfl; have hcz8_1 : w5.cell? ⟨gb120, 1, none⟩ = some (.int .i64 a1_1) := (blk_cell BK120.out 1).trans rfl; have hcz8_2 : w5.cell? ⟨gb120, 2, none⟩ = some (.int .i64 a1_2) := (blk_cell BK120.out 2).trans rfl; have hcz8_3 : w5.cell? ⟨gb120, 3, none⟩ = some (.int .i64 a1_3) := (blk_cell BK120.out 3).trans rfl; have hcz8_4 : w5.cell? ⟨gb120, 4, none⟩ = some (.int .i64 a1_4) := (blk_cell BK120.out 4).trans rfl; have hcz8_5 : w5.cell? ⟨gb120, 5, none⟩ = some (.int .i64 a1_5) := (blk_cell BK120.out 5).trans rfl; have hcz8_6 : w5.cell? ⟨gb120, 6, none⟩ = some (.int .i64 a1_6) := (blk_cell BK120.out 6).trans rfl; have hcz8_7 : w5.cell? ⟨gb120, 7, none⟩ = some (.int .i64 a1_7) := (blk_cell BK120.out 7).trans rfl; have hfz8_0 := blk_frozen BK120.out 0; have hfz8_1 := blk_frozen BK120.out 1; have hfz8_2 := blk_frozen BK120.out 2; have hfz8_3 := blk_frozen BK120.out 3; have hfz8_4 := blk_frozen BK120.out 4; have hfz8_5 := blk_frozen BK120.out 5; have hfz8_6 := blk_frozen BK120.out 6; have hfz8_7 := blk_frozen BK120.out 7)))
  (go_ret); (exact ⟨by first | rfl | (simp [errW_none, errW_some] <;> rfl) | (simp [*, errW_none, errW_some] <;> rfl), by repeat (first | (with_reducible first | exact HB.out | apply below_alloc | apply pw_below_drewN | apply below_drew1 | refine below_set ?_ GE119.out | refine below_set ?_ GE120.out) | exact HB.out)⟩)
 ·rw [if_neg c3] at H; have c3b0 : decide (a0_6 < a1_6) = false := decide_eq_false c3; clear c3; (by_cases c9 : a0_6 = a1_6)
  ·rw [if_pos c9] at H; have c9b0 : (a0_6 == a1_6) = true := beq_iff_eq.mpr c9; have c9b1 : (a0_6 != a1_6) = false := bne_eq_false_iff_eq.mpr c9; clear c9; obtain rfl := Option.some.inj H; (go_enter Try.func30, Try.ntmps30)
   (go_wp2_with (first | ((with_reducible refine gate_dst (N := 2) rfl ?_); refine box_event ?hg (N := 2) ?hd (cs := #[.int .i64 a0_0, .int .i64 a0_1, .int .i64 a0_2, .int .i64 a0_3, .int .i64 a0_4, .int .i64 a0_5, .int .i64 a0_6, .int .i64 a0_7]) (t := 28) ?hr ?_; (case hd => rfl); (case hg => rfl); (case hr => first | (go_simp; done) | (go_simp; rfl)); intro gb119 hg w10 hbox hb; have n0_ := Aside0.mk (below_step (by repeat (first | (with_reducible first | exact HB.out | apply below_alloc | apply pw_below_drewN | apply below_drew1) | exact HB.out)) hb); have n1_ := Aside0.mk (hbox); have n2_ := Aside0.mk ((by rw [hg]; exact (below_size (by repeat (first | (with_reducible first | exact HB.out | apply below_alloc | apply pw_below_drewN | apply below_drew1) | exact HB.out))) : w.heap.size ≤ gb119)); have n3_ := Aside0.mk ((by rw [hg]; exact (below_size (by repeat (first | (with_reducible first | exact HB.out | apply below_alloc | apply pw_below_drewN | apply below_drew1) | exact HB.out))) : w.heap.size ≤ gb119)); clear HB; have HB := n0_; have BK119 := n1_; have GW119 := n2_; have GE119 := n3_; clear n0_ n1_ n2_ n3_; clear hb hbox hg) | ((with_reducible refine gate_dst (N := 3) rfl ?_); refine box_event ?hg (N := 3) ?hd (cs := #[.int .i64 a1_0, .int .i64 a1_1, .int .i64 a1_2, .int .i64 a1_3, .int .i64 a1_4, .int .i64 a1_5, .int .i64 a1_6, .int .i64 a1_7]) (t := 28) ?hr ?_; (case hd => rfl); (case hg => rfl); (case hr => first | (go_simp; done) | (go_simp; rfl)); intro gb120 hg w11 hbox hb; have n0_ := Aside0.mk (blk_below (g := gb119) (o := .cells #[.int .i64 a0_0, .int .i64 a0_1, .int .i64 a0_2, .int .i64 a0_3, .int .i64 a0_4, .int .i64 a0_5, .int .i64 a0_6, .int .i64 a0_7] 28 (0, 0)) (by (with_reducible repeat (first | refine blk_drewN ?_ _ | refine blk_drew ?_ | refine blk_alloc ?_ _)); exact BK119.out) hb); have n1_ := Aside0.mk (below_step (by repeat (first | (with_reducible first | exact HB.out | apply below_alloc | apply pw_below_drewN | apply below_drew1 | refine below_set ?_ GE119.out) | exact HB.out)) hb); have n2_ := Aside0.mk (hbox); have n3_ := Aside0.mk ((by rw [hg]; exact (below_size (by repeat (first | (with_reducible first | exact HB.out | apply below_alloc | apply pw_below_drewN | apply below_drew1 | refine below_set ?_ GE119.out) | exact HB.out))) : w.heap.size ≤ gb120)); have n4_ := Aside0.mk ((by rw [hg]; exact (below_size (by repeat (first | (with_reducible first | exact HB.out | apply below_alloc | apply pw_below_drewN | apply below_drew1 | refine below_set ?_ GE119.out) | exact HB.out))) : w.heap.size ≤ gb120)); have n5_ := Aside0.mk ((by rw [hg]; exact Nat.ne_of_lt (blk_lt (g := gb119) (o := .cells #[.int .i64 a0_0, .int .i64 a0_1, .int .i64 a0_2, .int .i64 a0_3, .int .i64 a0_4, .int .i64 a0_5, .int .i64 a0_6, .int .i64 a0_7] 28 (0, 0)) (by (with_reducible repeat (first | refine blk_drewN ?_ _ | refine blk_drew ?_ | refine blk_alloc ?_ _)); exact BK119.out)) : gb119 ≠ gb120)); have n6_ := Aside0.mk ((by rw [hg]; exact Nat.ne_of_gt (blk_lt (g := gb119) (o := .cells #[.int .i64 a0_0, .int .i64 a0_1, .int .i64 a0_2, .int .i64 a0_3, .int .i64 a0_4, .int .i64 a0_5, .int .i64 a0_6, .int .i64 a0_7] 28 (0, 0)) (by (with_reducible repeat (first | refine blk_drewN ?_ _ | refine blk_drew ?_ | refine blk_alloc ?_ _)); exact BK119.out)) : gb120 ≠ gb119)); clear BK119; clear HB; have BK119 := n0_; have HB := n1_; have BK120 := n2_; have GW120 := n3_; have GE120 := n4_; have NB119_120 := n5_; have NB120_119 := n6_; clear n0_ n1_ n2_ n3_ n4_ n5_ n6_; clear hb hbox hg; have hnb12 := NB119_120.out; have hnc12 := NB120_119.out; have hcz13_0 : w11.cell? ⟨gb119, 0, none⟩ = some (.int .i64 a0_0) := (blk_cell BK119.out 0).trans rfl; have hcz13_1 : w11.cell? ⟨gb119, 1, none⟩ = some (.int .i64 a0_1) := (blk_cell BK119.out 1).trans rfl; have hcz13_2 : w11.cell? ⟨gb119, 2, none⟩ = some (.int .i64 a0_2) := (blk_cell BK119.out 2).trans rfl; have hcz13_3 : w11.cell? ⟨gb119, 3, none⟩ = some (.int .i64 a0_3) := (blk_cell BK119.out 3).trans rfl; have hcz13_4 : w11.cell? ⟨gb119, 4, none⟩ = some (.int .i64 a0_4) := (blk_cell BK119.out 4).trans rfl; have hcz13_5 : w11.cell? ⟨gb119, 5, none⟩ = some (.int .i64 a0_5) := (blk_cell BK119.out 5).trans rfl; have hcz13_6 : w11.cell? ⟨gb119, 6, none⟩ = some (.int .i64 a0_6) := (blk_cell BK119.out 6).trans rfl; have hcz13_7 : w11.cell? ⟨gb119, 7, none⟩ = some (.int .i64 a0_7) := (blk_cell BK119.out 7).trans rfl; have hfz13_0 := blk_frozen BK119.out 0; have hfz13_1 := blk_frozen BK119.out 1; have hfz13_2 := blk_frozen BK119.out 2; have hfz13_3 := blk_frozen BK119.out 3; have hfz13_4 := blk_frozen BK119.out 4; have hfz13_5 := blk_frozen BK119.out 5; have hfz13_6 := blk_frozen BK119.out 6; have hfz13_7 := blk_frozen BK119.out 7; have hcz14_0 : w11.cell? ⟨gb120, 0, none⟩ = some (.int .i64 a1_0) := (blk_cell BK120.out 0).trans rfl; have hcz14_1 : w11.cell? ⟨gb120, 1, none⟩ = some (.int .i64 a1_1) := (blk_cell BK120.out 1).trans rfl; have hcz14_2 : w11.cell? ⟨gb120, 2, none⟩ = some (.int .i64 a1_2) := (blk_cell BK120.out 2).trans rfl; have hcz14_3 : w11.cell? ⟨gb120, 3, none⟩ = some (.int .i64 a1_3) := (blk_cell BK120.out 3).trans rfl; have hcz14_4 : w11.cell? ⟨gb120, 4, none⟩ = some (.int .i64 a1_4) := (blk_cell BK120.out 4).trans rfl; have hcz14_5 : w11.cell? ⟨gb120, 5, none⟩ = some (.int .i64 a1_5) := (blk_cell BK120.out 5).trans rfl; have hcz14_6 : w11.cell? ⟨gb120, 6, none⟩ = some (.int .i64 a1_6) := (blk_cell BK120.out 6).trans rfl; have hcz14_7 : w11.cell? ⟨gb120, 7, none⟩ = some (.int .i64 a1_7) := (blk_cell BK120.out 7).trans rfl; have hfz14_0 := blk_frozen BK120.out 0; have hfz14_1 := blk_frozen BK120.out 1; have hfz14_2 := blk_frozen BK120.out 2; have hfz14_3 := blk_frozen BK120.out 3; have hfz14_4 := blk_frozen BK120.out 4; have hfz14_5 := blk_frozen BK120.out 5; have hfz14_6 := blk_frozen BK120.out 6; have hfz14_7 := blk_frozen BK120.out 7))); (go_ret)
   (exact ⟨by first | rfl | (simp [errW_none, errW_some] <;> rfl) | (simp [*, errW_none, errW_some] <;> rfl), by repeat (first | (with_reducible first | exact HB.out | apply below_alloc | apply pw_below_drewN | apply below_drew1 | refine below_set ?_ GE119.out | refine below_set ?_ GE120.out) | exact HB.out)⟩)
  ·rw [if_neg c9] at H; have c9b0 : (a0_6 == a1_6) = false := beq_eq_false_iff_ne.mpr c9; have c9b1 : (a0_6 != a1_6) = true := bne_iff_ne.mpr c9; obtain rfl := Option.some.inj H; (go_enter Try.func30, Try.ntmps30)
   (go_wp2_with (first | ((with_reducible refine gate_dst (N := 2) rfl ?_); refine box_event ?hg (N := 2) ?hd (cs := #[.int .i64 a0_0, .int .i64 a0_1, .int .i64 a0_2, .int .i64 a0_3, .int .i64 a0_4, .int .i64 a0_5, .int .i64 a0_6, .int .i64 a0_7]) (t := 28) ?hr ?_; (case hd => rfl); (case hg => rfl); (case hr => first | (go_simp; done) | (go_simp; rfl)); intro gb119 hg w15 hbox hb; have n0_ := Aside0.mk (below_step (by repeat (first | (with_reducible first | exact HB.out | apply below_alloc | apply pw_below_drewN | apply below_drew1) | exact HB.out)) hb); have n1_ := Aside0.mk (hbox); have n2_ := Aside0.mk ((by rw [hg]; exact (below_size (by repeat (first | (with_reducible first | exact HB.out | apply below_alloc | apply pw_below_drewN | apply below_drew1) | exact HB.out))) : w.heap.size ≤ gb119)); have n3_ := Aside0.mk ((by rw [hg]; exact (below_size (by repeat (first | (with_reducible first | exact HB.out | apply below_alloc | apply pw_below_drewN | apply below_drew1) | exact HB.out))) : w.heap.size ≤ gb119)); clear HB; have HB := n0_; have BK119 := n1_; have GW119 := n2_; have GE119 := n3_; clear n0_ n1_ n2_ n3_; clear hb hbox hg) | ((with_reducible refine gate_dst (N := 3) rfl ?_); refine box_event ?hg (N := 3) ?hd (cs := #[.int .i64 a1_0, .int .i64 a1_1, .int .i64 a1_2, .int .i64 a1_3, .int .i64 a1_4, .int .i64 a1_5, .int .i64 a1_6, .int .i64 a1_7]) (t := 28) ?hr ?_; (case hd => rfl); (case hg => rfl); (case hr => first | (go_simp; done) | (go_simp; rfl)); intro gb120 hg w16 hbox hb; have n0_ := Aside0.mk (blk_below (g := gb119) (o := .cells #[.int .i64 a0_0, .int .i64 a0_1, .int .i64 a0_2, .int .i64 a0_3, .int .i64 a0_4, .int .i64 a0_5, .int .i64 a0_6, .int .i64 a0_7] 28 (0, 0)) (by (with_reducible repeat (first | refine blk_drewN ?_ _ | refine blk_drew ?_ | refine blk_alloc ?_ _)); exact BK119.out) hb); have n1_ := Aside0.mk (below_step (by repeat (first | (with_reducible first | exact HB.out | apply below_alloc | apply pw_below_drewN | apply below_drew1 | refine below_set ?_ GE119.out) | exact HB.out)) hb); have n2_ := Aside0.mk (hbox); have n3_ := Aside0.mk ((by rw [hg]; exact (below_size (by repeat (first | (with_reducible first | exact HB.out | apply below_alloc | apply pw_below_drewN | apply below_drew1 | refine below_set ?_ GE119.out) | exact HB.out))) : w.heap.size ≤ gb120)); have n4_ := Aside0.mk ((by rw [hg]; exact (below_size (by repeat (first | (with_reducible first | exact HB.out | apply below_alloc | apply pw_below_drewN | apply below_drew1 | refine below_set ?_ GE119.out) | exact HB.out))) : w.heap.size ≤ gb120)); have n5_ := Aside0.mk ((by rw [hg]; exact Nat.ne_of_lt (blk_lt (g := gb119) (o := .cells #[.int .i64 a0_0, .int .i64 a0_1, .int .i64 a0_2, .int .i64 a0_3, .int .i64 a0_4, .int .i64 a0_5, .int .i64 a0_6, .int .i64 a0_7] 28 (0, 0)) (by (with_reducible repeat (first | refine blk_drewN ?_ _ | refine blk_drew ?_ | refine blk_alloc ?_ _)); exact BK119.out)) : gb119 ≠ gb120)); have n6_ := Aside0.mk ((by rw [hg]; exact Nat.ne_of_gt (blk_lt (g := gb119) (o := .cells #[.int .i64 a0_0, .int .i64 a0_1, .int .i64 a0_2, .int .i64 a0_3, .int .i64 a0_4, .int .i64 a0_5, .int .i64 a0_6, .int .i64 a0_7] 28 (0, 0)) (by (with_reducible repeat (first | refine blk_drewN ?_ _ | refine blk_drew ?_ | refine blk_alloc ?_ _)); exact BK119.out)) : gb120 ≠ gb119)); clear BK119; clear HB; have BK119 := n0_; have HB := n1_; have BK120 := n2_; have GW120 := n3_; have GE120 := n4_; have NB119_120 := n5_; have NB120_119 := n6_; clear n0_ n1_ n2_ n3_ n4_ n5_ n6_; clear hb hbox hg; have hnb17 := NB119_120.out; have hnc17 := NB120_119.out; have hcz18_0 : w16.cell? ⟨gb119, 0, none⟩ = some (.int .i64 a0_0) := (blk_cell BK119.out 0).trans rfl; have hcz18_1 : w16.cell? ⟨gb119, 1, none⟩ = some (.int .i64 a0_1) := (blk_cell BK119.out 1).trans rfl; have hcz18_2 : w16.cell? ⟨gb119, 2, none⟩ = some (.int .i64 a0_2) := (blk_cell BK119.out 2).trans rfl; have hcz18_3 : w16.cell? ⟨gb119, 3, none⟩ = some (.int .i64 a0_3) := (blk_cell BK119.out 3).trans rfl; have hcz18_4 : w16.cell? ⟨gb119, 4, none⟩ = some (.int .i64 a0_4) := (blk_cell BK119.out 4).trans rfl; have hcz18_5 : w16.cell? ⟨gb119, 5, none⟩ = some (.int .i64 a0_5) := (blk_cell BK119.out 5).trans rfl; have hcz18_6 : w16.cell? ⟨gb119, 6, none⟩ = some (.int .i64 a0_6) := (blk_cell BK119.out 6).trans rfl; have hcz18_7 : w16.cell? ⟨gb119, 7, none⟩ = some (.int .i64 a0_7) := (blk_cell BK119.out 7).trans rfl; have hfz18_0 := blk_frozen BK119.out 0; have hfz18_1 := blk_frozen BK119.out 1; have hfz18_2 := blk_frozen BK119.out 2; have hfz18_3 := blk_frozen BK119.out 3; have hfz18_4 := blk_frozen BK119.out 4; have hfz18_5 := blk_frozen BK119.out 5; have hfz18_6 := blk_frozen BK119.out 6; have hfz18_7 := blk_frozen BK119.out 7; have hcz19_0 : w16.cell? ⟨gb120, 0, none⟩ = some (.int .i64 a1_0) := (blk_cell BK120.out 0).trans rfl; have hcz19_1 : w16.cell? ⟨gb120, 1, none⟩ = some (.int .i64 a1_1) := (blk_cell BK120.out 1).trans rfl; have hcz19_2 : w16.cell? ⟨gb120, 2, none⟩ = some (.int .i64 a1_2) := (blk_cell BK120.out 2).trans rfl; have hcz19_3 : w16.cell? ⟨gb120, 3, none⟩ = some (.int .i64 a1_3) := (blk_cell BK120.out 3).trans rfl; have hcz19_4 : w16.cell? ⟨gb120, 4, none⟩ = some (.int .i64 a1_4) := (blk_cell BK120.out 4).trans rfl; have hcz19_5 : w16.cell? ⟨gb120, 5, none⟩ = some (.int .i64 a1_5) := (blk_cell BK120.out 5).trans rfl; have hcz19_6 : w16.cell? ⟨gb120, 6, none⟩ = some (.int .i64 a1_6) := (blk_cell BK120.out 6).trans rfl; have hcz19_7 : w16.cell? ⟨gb120, 7, none⟩ = some (.int .i64 a1_7) := (blk_cell BK120.out 7).trans rfl; have hfz19_0 := blk_frozen BK120.out 0; have hfz19_1 := blk_frozen BK120.out 1; have hfz19_2 := blk_frozen BK120.out 2; have hfz19_3 := blk_frozen BK120.out 3; have hfz19_4 := blk_frozen BK120.out 4; have hfz19_5 := blk_frozen BK120.out 5; have hfz19_6 := blk_frozen BK120.out 6; have hfz19_7 := blk_frozen BK120.out 7))); (go_ret)
   (exact ⟨by first | rfl | (simp [errW_none, errW_some] <;> rfl) | (simp [*, errW_none, errW_some] <;> rfl), by repeat (first | (with_reducible first | exact HB.out | apply below_alloc | apply pw_below_drewN | apply below_drew1 | refine below_set ?_ GE119.out | refine below_set ?_ GE120.out) | exact HB.out)⟩)
end Go.Proofs.Ytamajnhdibcpiaa.G
namespace Go.Proofs.Ytamajnhdibcpiaa.G
open Go.RowKit Go.Shelf Go.Proofs.YtamajnhdibcpiaaW.PrintWords Go.Proofs.YtamajnhdibcpiaaW.PrintLast Go.Proofs.YtamajnhdibcpiaaW.PrintMore
attribute [local go_sem ↓] Go.wp_at_zero Go.wp_at_succ
theorem Below.keepc {W W' : World} {p : Addr} {v : Value} (h : Below W.heap.size W W') (hp : W.cell? p = some v) : W'.cell? p = some v := (h.cell (World.block_lt_of_cell? _ _ hp)).trans hp
def fitB (x : S28) : Bool := decide (1 ≤ x.f0.f0 ∧ x.f0.f0 ≤ 12 ∧ 0 ≤ x.f0.f1 ∧ x.f0.f1 ≤ 20000 ∧ 0 ≤ x.f0.f2 ∧ x.f0.f2 ≤ 20000 ∧ -1 ≤ x.f1 ∧ x.f1 ≤ 1099511627776 ∧ 0 ≤ x.f2.f0 ∧ x.f2.f0 < x.f2.f1 ∧ x.f2.f1 ≤ 1024 ∧ 1 ≤ x.f3 ∧ x.f3 ≤ 16777216 ∧ 0 ≤ x.f4 ∧ x.f4 ≤ 65535)
theorem within_f (a b c : Int) : facts_within.f a b c = some (decide (b ≤ a ∧ a ≤ c)) := by
 unfold facts_within.f; (split)
 ·congr 1; rw [Bool.eq_iff_iff]; simp only [decide_eq_true_eq]; omega
 ·congr 1; symm; rw [decide_eq_false_iff_not]; omega
theorem fit_f (x : S28) : facts_fits.f x.f0.f0 x.f0.f1 x.f0.f2 x.f1 x.f2.f0 x.f2.f1 x.f3 x.f4 = some (fitB x) := by
 unfold facts_fits.f fitB; simp only [within_f, Option.bind_some, decide_eq_true_eq]; (repeat' split); (all_goals (refine congrArg some ?_; rw [Bool.eq_iff_iff]; simp only [decide_eq_true_eq, Bool.false_eq_true, false_iff]; omega))
def lessB (x y : S28) : Bool := decide (x.f3 < y.f3 ∨ x.f3 = y.f3 ∧ x.f4 < y.f4)
def cmpI (x y : S28) : Int := if x.f3 < y.f3 then -1 else if y.f3 < x.f3 then 1 else if x.f4 < y.f4 then -1 else if y.f4 < x.f4 then 1 else 0
theorem cmp_int (a b : Int) : cmp_Compare_int.f a b = some (if a < b then -1 else if b < a then 1 else 0) := by
 simp only [cmp_Compare_int.f, cmp_isNaN_int.f, bne_self_eq_false, Option.bind_some, Bool.false_eq_true, if_false]; (repeat' split); (all_goals first | rfl | omega)
theorem compare_f (x y : S28) : facts_compare.f 5 x.f0.f0 x.f0.f1 x.f0.f2 x.f1 x.f2.f0 x.f2.f1 x.f3 x.f4 y.f0.f0 y.f0.f1 y.f0.f2 y.f1 y.f2.f0 y.f2.f1 y.f3 y.f4 = some (cmpI x y) := by
 simp only [facts_compare.f, cmp_int, Option.bind_some, cmp_Or_int.f]; unfold cmpI; (by_cases h1 : x.f3 < y.f3)
 ·simp [h1, cmp_Or_int.l0, rd]
 ·by_cases h2 : y.f3 < x.f3
  ·simp [h1, h2, cmp_Or_int.l0, rd]
  ·by_cases h3 : x.f4 < y.f4
   ·simp [h1, h2, h3, cmp_Or_int.l0, rd, wrap64]
   ·by_cases h4 : y.f4 < x.f4
    ·simp [h1, h2, h3, h4, cmp_Or_int.l0, rd, wrap64]
    ·simp [h1, h2, h3, h4, cmp_Or_int.l0, rd, wrap64]
theorem cmpI_ge (x y : S28) : decide (0 ≤ cmpI x y) = !lessB x y := by
 unfold cmpI lessB; (repeat' split); (all_goals (rw [Bool.eq_iff_iff]; simp only [decide_eq_true_eq, Bool.not_eq_true', decide_eq_false_iff_not]; omega))
theorem fits_calls (x : S28) (w : World) : Calls Try.prog 32 #[ev28 x] w fun e w' => e = .returned (.bool (fitB x)) ∧ Below w.heap.size w w' :=
  facts_fits.calls _ _ _ _ _ _ _ _ _ w (fit_f x)
theorem compare_calls (x y : S28) (w : World) : Calls Try.prog 33 #[ev28 x, ev28 y] w fun e w' => e = .returned (.int .i64 (cmpI x y)) ∧ Below w.heap.size w w' :=
  facts_compare.calls 5 _ _ _ _ _ _ _ _ _ _ _ _ _ _ _ _ _ w (compare_f x y)
set_option maxHeartbeats 1000000 in
theorem nofit_calls (x : S28) (w : World) : Calls Try.prog 37 #[ev28 x] w fun e w' => e = .returned (.bool (!fitB x)) ∧ Below w.heap.size w w' := by
 have hu28 := Try.underlying28; (have HF := Aside0.mk (fun W => fits_calls x W)); simp only [ev28] at HF ⊢; (go_enter Try.func37, Try.ntmps37); (go_wp2_with (go_at_call 32; refine (HF.out _).mono ?_; rintro e w1 ⟨rfl, hb1⟩)); (go_ret); (exact ⟨rfl, ((Below.refl _ w).alloc (Nat.le_refl _) _).trans (hb1.mono (by simp))⟩)
def ordB : List S28 → Bool
  | x :: y :: r => lessB x y && ordB (y :: r)
  | _ => true
def checkM (l : List S28) : Int := if l.any (fun x => !fitB x) = true then 70 else if ordB l = true then 0 else 71
def facts_Check.f (l0 : List S28) : Option Int := some (checkM l0)
set_option maxRecDepth 100000 in
set_option maxHeartbeats 4000000 in
theorem facts_Check.calls (A0 : Option Addr) (c0 : Nat) (l0 : List (S28)) (r : Int) (w : World) (hr0 : Kd.C k28 w A0 l0.length l0) (hc0 : l0.length ≤ c0) (h : facts_Check.f l0 = some r) :
    Calls Try.prog 15 #[.slice A0 l0.length c0] w fun e w' => e = .returned (.int .i64 r) ∧ Below w.heap.size w w' := by
  have hR := Aside0.mk (Option.some.inj h).symm
  clear h
  have hlen : l0.length ≤ 9223372036854775807 := hr0.2.1
  have hu28 := Try.underlying28
  have HC := Aside0.mk (contains_fit (fun x => !fitB x) A0 c0 l0 w hr0 (fun W x _ => nofit_calls x W))
  cases hv : l0.any (fun x => !fitB x) with
  | true =>
    have hans : Aside0 (r = 70) := ⟨by rw [hR.out]; unfold checkM; rw [if_pos hv]⟩
    have hv2 := Aside0.mk hv
    clear hv
    go_enter Try.func15, Try.ntmps15
    go_wp2_with (go_at_call 36; refine HC.out.mono ?_; rintro e w1 ⟨rfl, hb1⟩; rw [hv2.out])
    go_ret
    exact ⟨by rw [hans.out]; rfl, hb1⟩
  | false =>
    have hans : Aside0 (r = if ordB l0 = true then 0 else 71) := ⟨by rw [hR.out]; unfold checkM; rw [hv, if_neg (by simp)]⟩
    have hv2 := Aside0.mk hv
    clear hv
    by_cases h0 : l0.length = 0
    · have hnil : l0 = [] := List.eq_nil_of_length_eq_zero h0
      subst hnil
      obtain ⟨A', hcut, _⟩ := cut28 A0 c0 ([] : List S28) 0 (by simp) (by simp)
      simp only [List.length_nil, Nat.sub_self, Nat.sub_zero, Int.natCast_zero] at hcut
      simp only [List.length_nil] at HC ⊢
      have hans2 : Aside0 (r = 0) := ⟨by rw [hans.out]; rfl⟩
      go_enter Try.func15, Try.ntmps15
      go_wp2_with (go_at_call 36; refine HC.out.mono ?_; rintro e w1 ⟨rfl, hb1⟩; rw [hv2.out])
      go_loopw [12] (fun i wr => i = .int .i64 0 ∧ wr = w1) (fun _ _ => 0)
      case atStart => exact ⟨rfl, rfl⟩
      case round =>
        obtain ⟨rfl, rfl⟩ := hrel
        go_wp2
        go_ret
        exact ⟨by rw [hans2.out]; rfl, hb1⟩
    · obtain ⟨A', hcut, _⟩ := cut28 A0 c0 l0 1 (by omega) hc0
      have hn1 : ¬ ((l0.length : Int) < 1) := by omega
      simp only [Int.natCast_one] at hcut
      go_enter Try.func15, Try.ntmps15
      go_wp2_with (go_at_call 36; refine HC.out.mono ?_; rintro e w1 ⟨rfl, hb1⟩; rw [hv2.out])
      go_loopw [12] (fun i wr => ∃ k : Nat, k ≤ l0.length - 1 ∧ i = .int .i64 k ∧ Below w.heap.size w wr ∧ Aside0 (ordB l0 = ordB (l0.drop k)))
        (fun i _ => l0.length - (intOf i).toNat)
      case atStart => exact ⟨0, by omega, rfl, hb1, ⟨by simp⟩⟩
      case round =>
        obtain ⟨k, hk, rfl, hB, hO⟩ := hrel
        by_cases hlt : k < l0.length - 1
        · obtain ⟨ad, rfl, g0, g1, g2, g3, g4, g5, g6, g7⟩ := at28 (Kd.C_below hr0 hB) (k := k) (by omega)
          obtain ⟨ad2, e2, y0, y1, y2, y3, y4, y5, y6, y7⟩ := at28 (Kd.C_below hr0 hB) (k := k + 1) (by omega)
          cases e2
          have i1 : (0 : Int) ≤ (k : Int) := by omega
          have i2 : (k : Int) < (l0.length : Int) := by omega
          have i3 : (0 : Int) ≤ (k : Int) + 1 := by omega
          have i4 : (k : Int) + 1 < (l0.length : Int) := by omega
          have i5 : IntKind.i64.wrap ((k : Int) + 1) = (k : Int) + 1 := by rw [IntKind.wrap_i64]; omega
          have hx : l0.getD k z28 = l0[k] := by simp [show k < l0.length by omega]
          have hy : l0.getD (k + 1) z28 = l0[k + 1] := by simp [show k + 1 < l0.length by omega]
          rw [hx] at g0 g1 g2 g3 g4 g5 g6 g7
          rw [hy] at y0 y1 y2 y3 y4 y5 y6 y7
          have hcp := Aside0.mk (fun W => compare_calls l0[k] l0[k + 1] W)
          simp only [ev28] at hcp
          have hge := cmpI_ge l0[k] l0[k + 1]
          have hd : Aside0 (ordB l0 = (lessB l0[k] l0[k + 1] && ordB (l0.drop (k + 1)))) := ⟨by rw [hO.out, List.drop_eq_getElem_cons (show k < l0.length by omega), List.drop_eq_getElem_cons (show k + 1 < l0.length by omega), ordB]⟩
          generalize l0[k] = x at *
          generalize l0[k + 1] = y at *
          cases hv3 : lessB x y with
          | true =>
            rw [hv3] at hge
            have hd2 : Aside0 (ordB l0 = ordB (l0.drop (k + 1))) := ⟨by rw [hd.out, hv3, Bool.true_and]⟩
            clear hv3 hd hO
            go_wp2_with fail
            go_region_held3 (fun w' => w'.cell? (ad.add (k * 8)) = some (.int .i64 x.f0.f0) ∧ w'.cell? ⟨(ad.add (k * 8)).block, (ad.add (k * 8)).off + 1, none⟩ = some (.int .i64 x.f0.f1) ∧ w'.cell? ⟨(ad.add (k * 8)).block, (ad.add (k * 8)).off + 2, none⟩ = some (.int .i64 x.f0.f2) ∧ w'.cell? ⟨(ad.add (k * 8)).block, (ad.add (k * 8)).off + 3, none⟩ = some (.int .i64 x.f1) ∧ w'.cell? ⟨(ad.add (k * 8)).block, (ad.add (k * 8)).off + 4, none⟩ = some (.int .i64 x.f2.f0) ∧ w'.cell? ⟨(ad.add (k * 8)).block, (ad.add (k * 8)).off + 5, none⟩ = some (.int .i64 x.f2.f1) ∧ w'.cell? ⟨(ad.add (k * 8)).block, (ad.add (k * 8)).off + 6, none⟩ = some (.int .i64 x.f3) ∧ w'.cell? ⟨(ad.add (k * 8)).block, (ad.add (k * 8)).off + 7, none⟩ = some (.int .i64 x.f4) ∧ w'.cell? (ad.add ((k + 1) * 8)) = some (.int .i64 y.f0.f0) ∧ w'.cell? ⟨(ad.add ((k + 1) * 8)).block, (ad.add ((k + 1) * 8)).off + 1, none⟩ = some (.int .i64 y.f0.f1) ∧ w'.cell? ⟨(ad.add ((k + 1) * 8)).block, (ad.add ((k + 1) * 8)).off + 2, none⟩ = some (.int .i64 y.f0.f2) ∧ w'.cell? ⟨(ad.add ((k + 1) * 8)).block, (ad.add ((k + 1) * 8)).off + 3, none⟩ = some (.int .i64 y.f1) ∧ w'.cell? ⟨(ad.add ((k + 1) * 8)).block, (ad.add ((k + 1) * 8)).off + 4, none⟩ = some (.int .i64 y.f2.f0) ∧ w'.cell? ⟨(ad.add ((k + 1) * 8)).block, (ad.add ((k + 1) * 8)).off + 5, none⟩ = some (.int .i64 y.f2.f1) ∧ w'.cell? ⟨(ad.add ((k + 1) * 8)).block, (ad.add ((k + 1) * 8)).off + 6, none⟩ = some (.int .i64 y.f3) ∧ w'.cell? ⟨(ad.add ((k + 1) * 8)).block, (ad.add ((k + 1) * 8)).off + 7, none⟩ = some (.int .i64 y.f4)) (first | go_keep | (go_split_ands; refine ⟨?_, ?_, ?_, ?_, ?_, ?_, ?_, ?_, ?_, ?_, ?_, ?_, ?_, ?_, ?_, ?_⟩ <;> exact Below.keepc (by assumption) (by assumption))) ((go_at_call 33; refine (hcp.out _).mono ?_; rintro e w2 ⟨rfl, hb2⟩))
            go_wp2
            go_roundw
            case rel => exact ⟨k + 1, by omega, by simp, (below_drew1 hB).trans (hb2.mono hB.size), hd2⟩
            case measure => simp [intOf]; omega
          | false =>
            rw [hv3] at hge
            have hans2 : Aside0 (r = 71) := ⟨by rw [hans.out, hd.out, hv3]; rfl⟩
            clear hv3 hd hO
            go_wp2_with fail
            go_region_held3 (fun w' => w'.cell? (ad.add (k * 8)) = some (.int .i64 x.f0.f0) ∧ w'.cell? ⟨(ad.add (k * 8)).block, (ad.add (k * 8)).off + 1, none⟩ = some (.int .i64 x.f0.f1) ∧ w'.cell? ⟨(ad.add (k * 8)).block, (ad.add (k * 8)).off + 2, none⟩ = some (.int .i64 x.f0.f2) ∧ w'.cell? ⟨(ad.add (k * 8)).block, (ad.add (k * 8)).off + 3, none⟩ = some (.int .i64 x.f1) ∧ w'.cell? ⟨(ad.add (k * 8)).block, (ad.add (k * 8)).off + 4, none⟩ = some (.int .i64 x.f2.f0) ∧ w'.cell? ⟨(ad.add (k * 8)).block, (ad.add (k * 8)).off + 5, none⟩ = some (.int .i64 x.f2.f1) ∧ w'.cell? ⟨(ad.add (k * 8)).block, (ad.add (k * 8)).off + 6, none⟩ = some (.int .i64 x.f3) ∧ w'.cell? ⟨(ad.add (k * 8)).block, (ad.add (k * 8)).off + 7, none⟩ = some (.int .i64 x.f4) ∧ w'.cell? (ad.add ((k + 1) * 8)) = some (.int .i64 y.f0.f0) ∧ w'.cell? ⟨(ad.add ((k + 1) * 8)).block, (ad.add ((k + 1) * 8)).off + 1, none⟩ = some (.int .i64 y.f0.f1) ∧ w'.cell? ⟨(ad.add ((k + 1) * 8)).block, (ad.add ((k + 1) * 8)).off + 2, none⟩ = some (.int .i64 y.f0.f2) ∧ w'.cell? ⟨(ad.add ((k + 1) * 8)).block, (ad.add ((k + 1) * 8)).off + 3, none⟩ = some (.int .i64 y.f1) ∧ w'.cell? ⟨(ad.add ((k + 1) * 8)).block, (ad.add ((k + 1) * 8)).off + 4, none⟩ = some (.int .i64 y.f2.f0) ∧ w'.cell? ⟨(ad.add ((k + 1) * 8)).block, (ad.add ((k + 1) * 8)).off + 5, none⟩ = some (.int .i64 y.f2.f1) ∧ w'.cell? ⟨(ad.add ((k + 1) * 8)).block, (ad.add ((k + 1) * 8)).off + 6, none⟩ = some (.int .i64 y.f3) ∧ w'.cell? ⟨(ad.add ((k + 1) * 8)).block, (ad.add ((k + 1) * 8)).off + 7, none⟩ = some (.int .i64 y.f4)) (first | go_keep | (go_split_ands; refine ⟨?_, ?_, ?_, ?_, ?_, ?_, ?_, ?_, ?_, ?_, ?_, ?_, ?_, ?_, ?_, ?_⟩ <;> exact Below.keepc (by assumption) (by assumption))) ((go_at_call 33; refine (hcp.out _).mono ?_; rintro e w2 ⟨rfl, hb2⟩))
            go_wp2
            go_ret
            exact ⟨by rw [hans2.out]; rfl, (below_drew1 hB).trans (hb2.mono hB.size)⟩
        · have hans2 : Aside0 (r = 0) := ⟨by
            rw [hans.out, hO.out]
            have : k = l0.length - 1 := by omega
            subst this
            rw [List.drop_eq_getElem_cons (show l0.length - 1 < l0.length by omega), List.drop_of_length_le (by omega)]
            rfl⟩
          clear hO
          go_wp2
          go_ret
          exact ⟨by rw [hans2.out]; rfl, hB⟩
end Go.Proofs.Ytamajnhdibcpiaa.G
namespace Go.Proofs.Ytamajnhdibcpiaa.G
open Go.RowKit Go.Shelf Go.Proofs.YtamajnhdibcpiaaW.PrintWords Go.Proofs.YtamajnhdibcpiaaW.PrintLast Go.Proofs.YtamajnhdibcpiaaW.PrintMore
attribute [local go_sem] Oper.semAt_some
def bestStep (term : Int) (st : Option S28) (f : S28) : Option S28 :=
  if f.f2.f0 ≤ term ∧ term < f.f2.f1 then (match st with | none => some f | some b => if lessB f b = true then some b else some f) else st
def bestM (l : List S28) (term : Int) : Option S28 := l.foldl (bestStep term) none
def atM (l : List S28) (key : S24) (term known : Int) : Int × Bool :=
  match bestM (ofM l key known) term with
  | none => (0, false)
  | some b => if b.f1 < 0 then (0, false) else (b.f1, true)
def facts_At.f (l0 : List S28) (a1_0 a1_1 a1_2 a2 a3 : Int) : Option (Int × Bool) := some (atM l0 ⟨a1_0, a1_1, a1_2⟩ a2 a3)
theorem bestM_snoc (l : List S28) (x : S28) (term : Int) : bestM (l ++ [x]) term = bestStep term (bestM l term) x := by simp [bestM]
def cells28 (x : S28) : Array Value := #[.int .i64 x.f0.f0, .int .i64 x.f0.f1, .int .i64 x.f0.f2, .int .i64 x.f1, .int .i64 x.f2.f0, .int .i64 x.f2.f1, .int .i64 x.f3, .int .i64 x.f4]
def HoldsBest (B : Nat) (st : Option S28) (W : World) : Prop := W.heap[B]? = some (.cells (cells28 (st.getD z28)) 28 (0, 0)) ∧ Boxed W (B + 1) 4 (.bool st.isSome)
theorem holdsBest_own {β : Type} (B : Nat) (f : β → Option S28) : Own (fun s W => HoldsBest B (f s) W) := fun s X Y row hs hg hrow => by
  have same : ∀ (i : Nat) (cs : Array Value) (t : TypeId) (fr : Nat × Nat), X.heap[i]? = some (.cells cs t fr) → Y.heap[i]? = some (.cells cs t fr) := fun i cs t fr hi =>
    (hg.block i (Array.getElem?_eq_some_iff.1 hi).1 (fun e => by obtain ⟨o, ho, hc⟩ := hrow i e.symm; rw [hi] at ho; cases ho; cases hc)).trans hi
  exact ⟨same _ _ _ _ hs.1, same _ _ _ _ hs.2⟩
theorem HoldsBest.below {B : Nat} {st : Option S28} {W W' : World} (h : HoldsBest B st W) (hb : Below W.heap.size W W') : HoldsBest B st W' :=
  ⟨(hb.block _ (Array.getElem?_eq_some_iff.1 h.1).1).trans h.1, (hb.block _ h.2.lt).trans h.2⟩
theorem HoldsBest.alloc {B : Nat} {st : Option S28} {W : World} (h : HoldsBest B st W) (o : Obj) : HoldsBest B st (W.alloc o) :=
  h.below ((Below.refl _ _).alloc (Nat.le_refl _) o)
theorem wpListIn_store {F : Fence} {n : Nat} {ops : Array Oper} {rest : List Oper} {o : Oper} {a : Act} {Q : Exit → Act → World → Prop} {W W1 : World}
    (hg : o.guard = none) (hN : o.dst = none) (t : TypeId) (p x : Operand) (hop : o.op = .store t p x) {ad v : Value} (hp : a.eval p = ad) (hx : a.eval x = v)
    (hrun : (Instr.storeAt t ad v).run Try.prog W = .ok () W1) (h : wpListIn F n Try.prog ops Q rest a W1) : wpListIn F n Try.prog ops Q (o :: rest) a W := by
 (refine wpListIn_plain hg fun K hK => ?_); unfold Oper.wpIn; refine ⟨?_, ?_⟩
 ·simp [Oper.about, hop, Sem.run_pure]
 ·(rw [Oper.semAt_plain F _ _ (by rw [hop]; intro c hc'; cases hc')]); simp [execOp, hop, hp, hx, hrun, Result.andThen]; rw [Oper.uponIn_skip, hN]; exact hK _ _ h
theorem store_best {B : Nat} {st : Option S28} {W : World} (x : S28) (h : HoldsBest B st W) :
    (Instr.storeAt 28 (.pointer (some ⟨B, 0, none⟩)) (.agg #[.int .i64 x.f0.f0, .int .i64 x.f0.f1, .int .i64 x.f0.f2, .int .i64 x.f1, .int .i64 x.f2.f0, .int .i64 x.f2.f1, .int .i64 x.f3, .int .i64 x.f4])).run Try.prog W = .ok () (W.setCells B 0 [.int .i64 x.f0.f0, .int .i64 x.f0.f1, .int .i64 x.f0.f2, .int .i64 x.f1, .int .i64 x.f2.f0, .int .i64 x.f2.f1, .int .i64 x.f3, .int .i64 x.f4]) ∧
      (W.setCells B 0 [.int .i64 x.f0.f0, .int .i64 x.f0.f1, .int .i64 x.f0.f2, .int .i64 x.f1, .int .i64 x.f2.f0, .int .i64 x.f2.f1, .int .i64 x.f3, .int .i64 x.f4]).heap[B]? = some (.cells (cells28 x) 28 (0, 0)) ∧ ∀ k, k ≠ B → (W.setCells B 0 [.int .i64 x.f0.f0, .int .i64 x.f0.f1, .int .i64 x.f0.f2, .int .i64 x.f1, .int .i64 x.f2.f0, .int .i64 x.f2.f1, .int .i64 x.f3, .int .i64 x.f4]).heap[k]? = W.heap[k]? := by
 refine ⟨run_store_run 28 _ _ h.1 rfl (by kernel_rfl) (by simp [cells28]) ?_, ?_, fun k hk => ?_⟩
 ·intro q hq; simp at hq; (rcases hq with rfl | rfl | rfl | rfl | rfl | rfl | rfl | rfl <;> rfl)
 ·(obtain ⟨cur', k1, k2, k3⟩ := setCells_row [.int .i64 x.f0.f0, .int .i64 x.f0.f1, .int .i64 x.f0.f2, .int .i64 x.f1, .int .i64 x.f2.f0, .int .i64 x.f2.f1, .int .i64 x.f3, .int .i64 x.f4] 0 W (cells28 (st.getD z28)) h.1 (by simp [cells28])); rw [k1]
  have : cur' = cells28 x := by
   apply Array.toList_inj.1; rw [k3]; simp [cells28]
  rw [this]
 ·exact setCells_far _ _ k (by omega)
theorem take_best {B : Nat} {st : Option S28} {W : World} (x : S28) (h : HoldsBest B st W) :
    ∃ W1 W2, (Instr.storeAt 28 (.pointer (some ⟨B, 0, none⟩)) (.agg #[.int .i64 x.f0.f0, .int .i64 x.f0.f1, .int .i64 x.f0.f2, .int .i64 x.f1, .int .i64 x.f2.f0, .int .i64 x.f2.f1, .int .i64 x.f3, .int .i64 x.f4])).run Try.prog W = .ok () W1 ∧ (Instr.storeAt 4 (.pointer (some ⟨B + 1, 0, none⟩)) (.bool true)).run Try.prog W1 = .ok () W2 ∧
      HoldsBest B (some x) W2 ∧ (∀ k, k ≠ B → k ≠ B + 1 → W2.heap[k]? = W.heap[k]?) ∧ W2.os = W.os ∧ W2.tape = W.tape ∧ W2.output = W.output ∧ W2.heap.size = W.heap.size := by
 obtain ⟨h1, h2, h3⟩ := store_best x h; obtain ⟨a1, a2, a3, a4⟩ := setCells_same B [.int .i64 x.f0.f0, .int .i64 x.f0.f1, .int .i64 x.f0.f2, .int .i64 x.f1, .int .i64 x.f2.f0, .int .i64 x.f2.f1, .int .i64 x.f3, .int .i64 x.f4] 0 W; generalize W.setCells B 0 [.int .i64 x.f0.f0, .int .i64 x.f0.f1, .int .i64 x.f0.f2, .int .i64 x.f1, .int .i64 x.f2.f0, .int .i64 x.f2.f1, .int .i64 x.f3, .int .i64 x.f4] = W1 at *; (have hb1 : W1.heap[B + 1]? = some (.cells #[.bool st.isSome] 4 (0, 0)) := (h3 (B + 1) (by omega)).trans h.2); obtain ⟨b1, b2, b3, b4⟩ := setCells_same (B + 1) [.bool true] 0 W1; (refine ⟨W1, W1.setCells (B + 1) 0 [.bool true], h1, run_store_run 4 _ _ hb1 rfl (by kernel_rfl) (by simp) (by intro q hq; simp at hq; subst hq; rfl), ⟨?_, ?_⟩, fun k hk1 hk2 => (setCells_far _ _ k hk2).trans (h3 k hk1), b1.trans a1, b2.trans a2, b3.trans a3, b4.trans a4⟩)
 ·exact (setCells_far _ _ B (by omega)).trans h2
 ·(obtain ⟨cur', k1, k2, k3⟩ := setCells_row [.bool true] 0 W1 #[.bool st.isSome] hb1 (by simp)); (have : cur' = #[.bool true] := by apply Array.toList_inj.1; rw [k3]; simp); rw [this] at k1; exact k1
def allocs (w : World) (os : List Obj) : World := os.foldl World.alloc w
theorem allocs_old : ∀ (os : List Obj) (w : World) (k : Nat), k < w.heap.size → (allocs w os).heap[k]? = w.heap[k]?
  | [], _, _, _ => rfl
  | o :: r, w, k, h => (allocs_old r (w.alloc o) k (by simp; omega)).trans (Below.heap_alloc w o k h)
theorem allocs_at : ∀ (os : List Obj) (w : World) (i : Nat) (o : Obj), os[i]? = some o → (allocs w os).heap[w.heap.size + i]? = some o
  | [], _, _, _, h => by simp at h
  | a :: r, w, 0, o, h => by cases h; exact (allocs_old r (w.alloc a) w.heap.size (by simp)).trans (World.alloc_heap_new w a)
  | a :: r, w, i + 1, o, h => by
    have := allocs_at r (w.alloc a) i o h
    rw [World.size_alloc] at this
    rw [show w.heap.size + (i + 1) = w.heap.size + 1 + i by omega]
    exact this
theorem allocs_below : ∀ (os : List Obj) (w w0 : World) (n : Nat), Below n w0 w → n ≤ w.heap.size → Below n w0 (allocs w os)
  | [], _, _, _, h, _ => h
  | o :: r, w, w0, n, h, hn => allocs_below r (w.alloc o) w0 n (h.alloc hn o) (by simp; omega)
theorem allocs_size : ∀ (os : List Obj) (w : World), (allocs w os).heap.size = w.heap.size + os.length
  | [], _ => rfl
  | o :: r, w => by rw [show allocs w (o :: r) = allocs (w.alloc o) r from rfl, allocs_size r, World.size_alloc, List.length_cons]; omega
theorem took {B T : Nat} {st st' : Option S28} {w W0 W W2 : World} {term : Int} (h : HoldsBest B st W) (h2 : HoldsBest B st' W2) (hother : ∀ k, k ≠ B → k ≠ B + 1 → W2.heap[k]? = W.heap[k]?) (o1 : W2.os = W.os) (o2 : W2.tape = W.tape) (o3 : W2.output = W.output) (o4 : W2.heap.size = W.heap.size)
    (bT : Boxed W T 3 (.int .i64 term)) (hB : Below w.heap.size w W) (hTB : w.heap.size < T ∧ T < B) (hsz : W0.heap.size = B + 5) :
    KeepsFrom W0.heap.size W W2 ∧ Kpt w.heap.size (B + 2) W W2 ∧ ((HoldsBest B st' W2 ∧ Boxed W2 T 3 (.int .i64 term)) ∧ Below w.heap.size w W2) := by
 (have hb : Below w.heap.size W W2 := ⟨o1, o2, o3, by omega, fun k hk => hother k (by omega) (by omega)⟩); (exact ⟨⟨by omega, fun k o hk ho hc => (hother k (by omega) (by omega)).trans ho⟩, ⟨hb, fun i o hi ho hc => (hother i (by omega) (by omega)).trans ho⟩, ⟨h2, (hother T (by omega) (by omega)).trans bT⟩, hB.trans hb⟩)
set_option maxRecDepth 100000 in
set_option maxHeartbeats 4000000 in
theorem at_calls (A0 : Option Addr) (c0 : Nat) (l0 : List (S28)) (key : S24) (term known : Int) (w : World) (hr0 : Kd.C k28 w A0 l0.length l0) (hc0 : l0.length ≤ c0) :
    Calls Try.prog 18 #[.slice A0 l0.length c0, .agg #[.int .i64 key.f0, .int .i64 key.f1, .int .i64 key.f2], .int .i64 term, .int .i64 known] w fun e w' => e = .returned (.tuple #[.int .i64 (atM l0 key term known).1, .bool (atM l0 key term known).2]) ∧ Below w.heap.size w w' := by
 have hu28 := Try.underlying28; (have h1 : 1 ≤ 9 := by omega); refine (callsIn_wide (n := 9)).1 ?_; refine callsIn_of_wp_marks Try.func18 rfl trivial ?_ rfl; simp only [Try.ntmps18, List.size_toArray, List.length_cons, List.length_nil, Nat.reduceAdd, Nat.reduceSub, Array.replicate_succ, Array.replicate_zero, List.push_toArray, List.append_toArray, List.nil_append, List.cons_append]; (gi_wp2_with (refine ⟨trivial, ?_⟩; gi_at_call 38; refine (of_in _ _ trivial rfl _ _ _ key known _).mono ?_; rintro e w1 ⟨rfl, rfl⟩)); obtain ⟨T, hT⟩ : ∃ T, T = w.heap.size + 1 := ⟨_, rfl⟩; obtain ⟨B, hBe⟩ : ∃ B, B = w.heap.size + 1 + 1 := ⟨_, rfl⟩; (have hq1 : w.heap.size + 1 + 1 + 1 = B + 1 := by omega); (have hq2 : w.heap.size + 1 + 1 + 1 + 1 = B + 2 := by omega); (have hq3 : w.heap.size + 1 + 1 + 1 + 1 + 1 = B + 2 + 1 := by omega); (have hq4 : w.heap.size + 1 + 1 + 1 + 1 + 2 = B + 2 + 2 := by omega); rw [hq4, hq3, hq2, hq1, ← hBe, ← hT]; obtain ⟨os, hos⟩ : ∃ os : List Obj, os = [.cells #[.int .i64 key.f0, .int .i64 key.f1, .int .i64 key.f2] 24, .cells #[.int .i64 term] 3, .cells (cells28 z28) 28, .cells #[.bool false] 4, .cells #[.slice A0 l0.length c0] 22, .cells #[.int .i64 key.f0, .int .i64 key.f1, .int .i64 key.f2] 24, .cells #[.int .i64 known] 3] := ⟨_, rfl⟩; (have hWe : ((((((w.alloc (.cells #[.int .i64 key.f0, .int .i64 key.f1, .int .i64 key.f2] 24)).alloc (.cells #[.int .i64 term] 3)).alloc (.cells (cells28 z28) 28)).alloc (.cells #[.bool false] 4)).alloc (.cells #[.slice A0 l0.length c0] 22)).alloc (.cells #[.int .i64 key.f0, .int .i64 key.f1, .int .i64 key.f2] 24)).alloc (.cells #[.int .i64 known] 3) = allocs w os := by rw [hos]; rfl); simp only [cells28, z28, z24, z26] at hWe; rw [hWe]; have hat := allocs_at os w; (have hsz : (allocs w os).heap.size = B + 5 := by rw [allocs_size, hos, hBe]; simp); have hB0 : Below w.heap.size w (allocs w os) := allocs_below os w w _ (Below.refl _ _) (Nat.le_refl _); generalize allocs w os = W0 at hat hsz hB0 ⊢; (have bT : Boxed W0 T 3 (.int .i64 term) := by rw [hT]; exact hat 1 _ (by rw [hos]; rfl)); (have bB : HoldsBest B none W0 := ⟨by rw [hBe]; exact hat 2 _ (by rw [hos]; rfl), by rw [hBe]; exact hat 3 _ (by rw [hos]; rfl)⟩); (have k0 : W0.heap[B + 2]? = some (.cells #[.slice A0 l0.length c0] 22 (0, 0)) := by rw [hBe]; exact hat 4 _ (by rw [hos]; rfl)); (have k1 : W0.heap[B + 2 + 1]? = some (.cells #[.int .i64 key.f0, .int .i64 key.f1, .int .i64 key.f2] 24 (0, 0)) := by rw [hBe]; exact hat 5 _ (by rw [hos]; rfl)); (have k2 : W0.heap[B + 2 + 2]? = some (.cells #[.int .i64 known] 3 (0, 0)) := by rw [hBe]; exact hat 6 _ (by rw [hos]; rfl)); (have hTB : w.heap.size < T ∧ T < B := by omega); clear hWe hat hos hq1 hq2 hq3 hq4 hT hBe; have hOB : B + 5 = W0.heap.size := hsz.symm
 refine wpIn_rangeFunc_ownH rfl h1 (gf := 53) (lb := #[.pointer (some ⟨B + 2, 0, none⟩), .pointer (some ⟨B + 2 + 1, 0, none⟩), .pointer (some ⟨B + 2 + 2, 0, none⟩)]) rfl trivial (enters_of Try.func53 (by kernel_rfl) rfl)
  (of_stops Fence.wide (9 - 1) trivial rfl (by omega) (B + 2) w A0 c0 l0 key known hr0 hc0 W0 hB0 k0 k1 k2) Kpt.trans (fun W l o o' hl h hc hw => Kpt.putObj (w := W0) (by omega) W l o o' hl h hc hw) (Below.refl _ _) (fun _ => rfl)
  (fun pre W => (HoldsBest B (bestM pre term) W ∧ Boxed W T 3 (.int .i64 term)) ∧ Below w.heap.size w W)
  (fun c pre W => False)
  (OwnFrom.and (OwnFrom.and (Own.from (holdsBest_own _ _) _) (Own.from (boxed_own _ _ _) _)) (ownFrom_below (Nat.le_refl _) (by omega)))
  (fun c s W W' row h => h.elim)
  ⟨⟨bB, bT⟩, hB0⟩
  (fun (x : S28) (a' : Act) (W : World) => ∃ B1 : Nat, W.heap[B1]? = some (Obj.cells (cells28 x) 28) ∧ ∃ v0 v1 v2 v3 v4 v5 v7 v8 v9 v13 v14 v15 v16 v17 v18 v19 v20 v21 v22 v23 v24 v25 v26 v27 v28 v29 v30 v31 v32 v33 v34 v35 v36 v37 v38 v39 v40 v41 v42 v43 v44 v45 v46 v47 v48 v49 : Value, a' = { tmps := #[v0, v1, v2, v3, v4, v5, .pointer (some ⟨T, 0, none⟩), v7, v8, v9, .pointer (some ⟨B, 0, none⟩), .pointer (some ⟨B + 1, 0, none⟩), .pointer (some ⟨B1, 0, none⟩), v13, v14, v15, v16, v17, v18, v19, v20, v21, v22, v23, v24, v25, v26, v27, v28, v29, v30, v31, v32, v33, v34, v35, v36, v37, v38, v39, v40, v41, v42, v43, v44, v45, v46, v47, v48, v49], defers := [] })
  ?own ?assign ?body ?done ?stop
 case own =>
  rintro x a' _ X Y row ⟨B1, e1, e3⟩ hg hr
  have same : ∀ (i : Nat) (cs : Array Value) (t : TypeId), X.heap[i]? = some (.cells cs t) → Y.heap[i]? = some (.cells cs t) := fun i cs t hi =>
   (hg.block i (Array.getElem?_eq_some_iff.1 hi).1 (fun e => by obtain ⟨_, o, ho, hc⟩ := hr i e.symm; rw [hi] at ho; cases ho; cases hc)).trans hi
  exact ⟨B1, same _ _ _ e1, e3⟩
 case assign =>
  rintro l pre x W K ⟨⟨hb, bT1⟩, hB1⟩ hK; simp only [ev28]; (gi_wp2); (refine hK _ _ ((KeepsOthers.alloc _ _).from _) (Kpt.alloc _ hB1.size _) ⟨⟨hb.alloc _, bT1.alloc _⟩, hB1.alloc hB1.size _⟩ ⟨W.heap.size, World.alloc_heap_new W _, _, _, _, _, _, _, _, _, _, _, _, _, _, _, _, _, _, _, _, _, _, _, _, _, _, _, _, _, _, _, _, _, _, _, _, _, _, _, _, _, _, _, _, _, _, _, rfl⟩)
 case body =>
  rintro l pre x a' W hl hrec ⟨⟨hb, bT1⟩, hB1⟩ ⟨B1, e1, v0, v1, v2, v3, v4, v5, v7, v8, v9, v13, v14, v15, v16, v17, v18, v19, v20, v21, v22, v23, v24, v25, v26, v27, v28, v29, v30, v31, v32, v33, v34, v35, v36, v37, v38, v39, v40, v41, v42, v43, v44, v45, v46, v47, v48, v49, rfl⟩ hlt; (have b0 : W.cell? ⟨B1, 0, none⟩ = some (.int .i64 x.f0.f0) := by simp [World.cell?, e1, cells28]); (have b1 : W.cell? ⟨B1, 1, none⟩ = some (.int .i64 x.f0.f1) := by simp [World.cell?, e1, cells28]); (have b2 : W.cell? ⟨B1, 2, none⟩ = some (.int .i64 x.f0.f2) := by simp [World.cell?, e1, cells28]); (have b3 : W.cell? ⟨B1, 3, none⟩ = some (.int .i64 x.f1) := by simp [World.cell?, e1, cells28]); (have b4 : W.cell? ⟨B1, 4, none⟩ = some (.int .i64 x.f2.f0) := by simp [World.cell?, e1, cells28]); (have b5 : W.cell? ⟨B1, 5, none⟩ = some (.int .i64 x.f2.f1) := by simp [World.cell?, e1, cells28]); (have b6 : W.cell? ⟨B1, 6, none⟩ = some (.int .i64 x.f3) := by simp [World.cell?, e1, cells28]); (have b7 : W.cell? ⟨B1, 7, none⟩ = some (.int .i64 x.f4) := by simp [World.cell?, e1, cells28]); have cT := bT1.cell; have cS := hb.2.cell; have fS := hb.2.frozen; (by_cases c1 : x.f2.f0 ≤ term)
  ·by_cases c2 : term < x.f2.f1
   ·have hstep : bestM (pre ++ [x]) term = (match bestM pre term with | none => some x | some b => if lessB x b = true then some b else some x) := by rw [bestM_snoc]; unfold bestStep; rw [if_pos ⟨c1, c2⟩]
    cases hst : bestM pre term with
    | none =>
     rw [hst] at hb cS hstep; simp only [Option.isSome_none] at cS; obtain ⟨Ws, Wt, hrun, hrun2, hbest, hother, o1, o2, o3, o4⟩ := take_best x hb; have hpost := took hb hbest hother o1 o2 o3 o4 bT1 hB1 hTB hsz; have hstep2 : bestM (pre ++ [x]) term = some x := hstep; rw [← hstep2] at hpost; have HP := Aside0.mk hpost; clear hst hstep hstep2 hbest hother hpost o1 o2 o3 o4 hb; (gi_wp2_with (first | (refine wpListIn_store (by rfl) (by rfl) 28 (.tmp 10) (.tmp 40) (by rfl) (by rfl) (by rfl) hrun ?_; refine wpListIn_store (by rfl) (by rfl) 4 (.tmp 11) (.const (.bool true)) (by rfl) (by rfl) (by rfl) hrun2 ?_; refine wpListIn_nil ?_; exact HP.out) | (refine ⟨trivial, ?_⟩)))
    | some b =>
     rw [hst] at hb cS hstep; simp only [Option.isSome_some] at cS; (have d0 : W.cell? ⟨B, 0, none⟩ = some (.int .i64 b.f0.f0) := by simp [World.cell?, hb.1, cells28]); (have d1 : W.cell? ⟨B, 1, none⟩ = some (.int .i64 b.f0.f1) := by simp [World.cell?, hb.1, cells28]); (have d2 : W.cell? ⟨B, 2, none⟩ = some (.int .i64 b.f0.f2) := by simp [World.cell?, hb.1, cells28]); (have d3 : W.cell? ⟨B, 3, none⟩ = some (.int .i64 b.f1) := by simp [World.cell?, hb.1, cells28]); (have d4 : W.cell? ⟨B, 4, none⟩ = some (.int .i64 b.f2.f0) := by simp [World.cell?, hb.1, cells28]); (have d5 : W.cell? ⟨B, 5, none⟩ = some (.int .i64 b.f2.f1) := by simp [World.cell?, hb.1, cells28]); (have d6 : W.cell? ⟨B, 6, none⟩ = some (.int .i64 b.f3) := by simp [World.cell?, hb.1, cells28]); (have d7 : W.cell? ⟨B, 7, none⟩ = some (.int .i64 b.f4) := by simp [World.cell?, hb.1, cells28]); have hge := cmpI_ge x b; (have hcp := Aside0.mk (fun W => compare_calls x b W)); simp only [ev28] at hcp; have HBB := Aside0.mk (And.intro hb (And.intro bT1 (And.intro hB1 fS))); clear hb
     cases hl2 : lessB x b with
     | true =>
      (have hstep2 : Aside0 (bestM (pre ++ [x]) term = some b) := ⟨by rw [hstep]; simp [hl2]⟩); rw [hl2] at hge; clear hst hstep hl2; (gi_wp2_with (first | (refine ⟨trivial, ?_⟩; gi_at_call 33; refine (CallsIn.inRound l (callsIn_wide.2 (hcp.out _))).mono ?_; rintro e w2 ⟨rfl, hb2⟩) | (refine ⟨trivial, ?_⟩))); (exact ⟨KeepsFrom.of_below hb2, Kpt.of_below hB1.size hb2, ⟨by rw [hstep2.out]; exact HBB.out.1.below hb2, (hb2.block _ bT1.lt).trans bT1⟩, hB1.trans (hb2.mono hB1.size)⟩)
     | false =>
      (have hstep2 : Aside0 (bestM (pre ++ [x]) term = some x) := ⟨by rw [hstep]; simp [hl2]⟩); rw [hl2] at hge; clear hst hstep hl2; (gi_wp2_with (first | (refine ⟨trivial, ?_⟩; gi_at_call 33; refine (CallsIn.inRound l (callsIn_wide.2 (hcp.out _))).mono ?_; rintro e w2 ⟨rfl, hb2⟩; have y0 := Below.keepc hb2 b0; have y1 := Below.keepc hb2 b1; have y2 := Below.keepc hb2 b2; have y3 := Below.keepc hb2 b3; have y4 := Below.keepc hb2 b4; have y5 := Below.keepc hb2 b5; have y6 := Below.keepc hb2 b6; have y7 := Below.keepc hb2 b7; obtain ⟨Ws, Wt, hrun, hrun2, hbest, hother, o1, o2, o3, o4⟩ := take_best x (HBB.out.1.below hb2); have hpost := took (HBB.out.1.below hb2) hbest hother o1 o2 o3 o4 ((hb2.block _ bT1.lt).trans bT1) (hB1.trans (hb2.mono hB1.size)) hTB hsz; rw [← hstep2.out] at hpost; have HP := Aside0.mk hpost; clear hbest hother hpost o1 o2 o3 o4) | (refine wpListIn_store (by rfl) (by rfl) 28 (.tmp 10) (.tmp 40) (by rfl) (by rfl) (by rfl) hrun ?_; refine wpListIn_store (by rfl) (by rfl) 4 (.tmp 11) (.const (.bool true)) (by rfl) (by rfl) (by rfl) hrun2 ?_; refine wpListIn_nil ?_; exact ⟨(KeepsFrom.of_below hb2).trans HP.out.1, (Kpt.of_below hB1.size hb2).trans HP.out.2.1, HP.out.2.2⟩) | (refine ⟨trivial, ?_⟩)))
   ·have k2 : decide (term < x.f2.f1) = false := decide_eq_false c2; (have hstep : bestM (pre ++ [x]) term = bestM pre term := by rw [bestM_snoc]; unfold bestStep; rw [if_neg (fun h => c2 h.2)]); clear c2; (gi_wp2_with (refine ⟨trivial, ?_⟩)); (exact ⟨Go.KeepsFrom.refl _ _, Kpt.refl _ _ _, ⟨by rw [hstep]; exact hb, bT1⟩, hB1⟩)
  ·have k1 : decide (x.f2.f0 ≤ term) = false := decide_eq_false c1; (have hstep : bestM (pre ++ [x]) term = bestM pre term := by rw [bestM_snoc]; unfold bestStep; rw [if_neg (fun h => c1 h.1)]); clear c1; (gi_wp2_with (refine ⟨trivial, ?_⟩)); (exact ⟨Go.KeepsFrom.refl _ _, Kpt.refl _ _ _, ⟨by rw [hstep]; exact hb, bT1⟩, hB1⟩)
 case done =>
  rintro D ys W hD rfl ⟨⟨hb, bT1⟩, hB1⟩ hK; have cS := hb.2.cell; (have HBD := Aside0.mk (hB1.trans (belowK_b (w := w) (Nat.le_refl _) W D _ (.deferred none) (by omega) hK rfl rfl)))
  cases hst : bestM (ofM l0 key known) term with
  | none =>
   (have hans : Aside0 (atM l0 key term known = (0, false)) := ⟨by unfold atM; rw [hst]⟩); rw [hst] at hb cS; simp only [Option.isSome_none] at cS; clear hb hst; (gi_wp2); (refine ⟨by simp, .inl ⟨_, _, rfl, run_takeDeferred hK, ?_⟩⟩); (refine ⟨.tuple #[.int .i64 0, .bool false], ?_, by rw [hans.out], HBD.out⟩); simp [results, Try.f18, go_sem]
  | some b =>
   rw [hst] at hb cS; simp only [Option.isSome_some] at cS; (have d1 : W.cell? ⟨B, 3, none⟩ = some (.int .i64 b.f1) := by simp [World.cell?, hb.1, cells28]); (by_cases hn : b.f1 < 0)
   ·(have hans : Aside0 (atM l0 key term known = (0, false)) := ⟨by unfold atM; rw [hst]; simp [hn]⟩); clear hb hst; (gi_wp2); (refine ⟨by simp, .inl ⟨_, _, rfl, run_takeDeferred hK, ?_⟩⟩); (refine ⟨.tuple #[.int .i64 0, .bool false], ?_, by rw [hans.out], HBD.out⟩); simp [results, Try.f18, go_sem]
   ·have hn2 : decide (b.f1 < 0) = false := decide_eq_false hn; (have hans : Aside0 (atM l0 key term known = (b.f1, true)) := ⟨by unfold atM; rw [hst]; simp [hn]⟩); clear hb hst hn; (gi_wp2); (refine ⟨by simp, .inl ⟨_, _, rfl, run_takeDeferred hK, ?_⟩⟩); (refine ⟨.tuple #[.int .i64 b.f1, .bool true], ?_, by rw [hans.out], HBD.out⟩); simp [results, Try.f18, go_sem]
 case stop =>
  rintro D c pre W hD hpre h hK; exact h.elim
theorem facts_At.calls (A0 : Option Addr) (c0 : Nat) (l0 : List (S28)) (a1_0 : Int) (a1_1 : Int) (a1_2 : Int) (a2 : Int) (a3 : Int) (r1 : Int) (r2 : Bool) (w : World) (hr0 : Kd.C k28 w A0 l0.length l0) (hc0 : l0.length ≤ c0) (h : facts_At.f l0 a1_0 a1_1 a1_2 a2 a3 = some (r1, r2)) :
    Calls Try.prog 18 #[.slice A0 l0.length c0, .agg #[.int .i64 a1_0, .int .i64 a1_1, .int .i64 a1_2], .int .i64 a2, .int .i64 a3] w fun e w' => e = .returned (.tuple #[.int .i64 r1, .bool r2]) ∧ Below w.heap.size w w' := by
 have h2 : atM l0 ⟨a1_0, a1_1, a1_2⟩ a2 a3 = (r1, r2) := Option.some.inj h; have := at_calls A0 c0 l0 ⟨a1_0, a1_1, a1_2⟩ a2 a3 w hr0 hc0; rw [h2] at this; exact this
end Go.Proofs.Ytamajnhdibcpiaa.G
namespace Go.Proofs.Ytamajnhdibcpiaa.G
open Go.RowKit Go.Shelf Go.Proofs.YtamajnhdibcpiaaW.PrintWords Go.Proofs.YtamajnhdibcpiaaW.PrintLast Go.Proofs.YtamajnhdibcpiaaW.PrintMore
theorem seg_store {W : World} {g o : Nat} {e : TypeId} {cur : Array Value} (t : TypeId) (u : Value) (seg : List Value) (hh : W.heap[g]? = some (.cells cur e (0, 0))) (hu : u.cells.toList = seg) (ht : (Try.prog.info? t).map (·.size) = some seg.length)
    (hfit : o + seg.length ≤ cur.size) (h1 : ∀ q ∈ seg, q.oneCell' = true) :
    ∃ (W1 : World) (cur' : Array Value), (Instr.storeAt t (.pointer (some ⟨g, o, none⟩)) u).run Try.prog W = .ok () W1 ∧ W1.heap[g]? = some (.cells cur' e (0, 0)) ∧ cur'.size = cur.size ∧
      (∀ i, i < seg.length → cur'[o + i]? = seg[i]?) ∧ (∀ j, j < o ∨ o + seg.length ≤ j → cur'[j]? = cur[j]?) ∧ (∀ k, k ≠ g → W1.heap[k]? = W.heap[k]?) ∧ W1.os = W.os ∧ W1.tape = W.tape ∧ W1.output = W.output ∧ W1.heap.size = W.heap.size := by
 obtain ⟨cur', k1, k2, k3⟩ := setCells_row seg o W cur hh hfit; obtain ⟨a1, a2, a3, a4⟩ := setCells_same g seg o W; (have hl : (cur.toList.take o).length = o := by simp; omega); (refine ⟨_, cur', run_store_run t u seg hh hu ht hfit h1, k1, k2, fun i hi => ?_, fun j hj => ?_, fun k hk => setCells_far seg o k hk, a1, a2, a3, a4⟩)
 ·rw [← Array.getElem?_toList, k3, List.append_assoc, List.getElem?_append_right (by rw [hl]; omega), hl, List.getElem?_append_left (by omega), Nat.add_sub_cancel_left]
 ·rw [← Array.getElem?_toList, k3, ← Array.getElem?_toList]; (rcases hj with hj | hj)
  ·(rw [List.append_assoc, List.getElem?_append_left (by rw [hl]; exact hj), List.getElem?_take]); rw [if_pos hj]
  ·rw [List.getElem?_append_right (by rw [List.length_append, hl]; omega), List.length_append, hl, List.getElem?_drop, show o + seg.length + (j - (o + seg.length)) = j by omega]
structure Holds2 (B : Nat) (st : Nat → Option S28) (W : World) : Prop where
  best : ∃ cb : Array Value, W.heap[B]? = some (.cells cb 84 (0, 0)) ∧ cb.size = 8192 ∧ ∀ t, t < 1024 → ∀ b, st t = some b → ∀ j, j < 8 → cb[t * 8 + j]? = (cells28 b)[j]?
  some_ : ∃ cs : Array Value, W.heap[B + 1]? = some (.cells cs 85 (0, 0)) ∧ cs.size = 1024 ∧ ∀ t, t < 1024 → cs[t]? = some (.bool (st t).isSome)
def updS (st : Nat → Option S28) (k : Nat) (x : S28) : Nat → Option S28 := fun t => if t = k then some x else st t
theorem Holds2.frame {B : Nat} {st : Nat → Option S28} {W W' : World} (h : Holds2 B st W) (h0 : W'.heap[B]? = W.heap[B]?) (h1 : W'.heap[B + 1]? = W.heap[B + 1]?) : Holds2 B st W' := by
 obtain ⟨⟨cb, a1, a2, a3⟩, ⟨cs, b1, b2, b3⟩⟩ := h; exact ⟨⟨cb, h0.trans a1, a2, a3⟩, ⟨cs, h1.trans b1, b2, b3⟩⟩
theorem Holds2.lt0 {B : Nat} {st : Nat → Option S28} {W : World} (h : Holds2 B st W) : B < W.heap.size := by
 obtain ⟨⟨cb, a1, _⟩, _⟩ := h; exact (Array.getElem?_eq_some_iff.1 a1).1
theorem Holds2.lt1 {B : Nat} {st : Nat → Option S28} {W : World} (h : Holds2 B st W) : B + 1 < W.heap.size := by
 obtain ⟨_, ⟨cs, b1, _⟩⟩ := h; exact (Array.getElem?_eq_some_iff.1 b1).1
theorem Holds2.below {B : Nat} {st : Nat → Option S28} {W W' : World} (h : Holds2 B st W) (hb : Below W.heap.size W W') : Holds2 B st W' := h.frame (hb.block _ h.lt0) (hb.block _ h.lt1)
theorem Holds2.alloc {B : Nat} {st : Nat → Option S28} {W : World} (h : Holds2 B st W) (o : Obj) : Holds2 B st (W.alloc o) := h.below ((Below.refl _ _).alloc (Nat.le_refl _) o)
theorem Holds2.congr {B : Nat} {st st' : Nat → Option S28} {W : World} (h : Holds2 B st W) (he : ∀ t, t < 1024 → st' t = st t) : Holds2 B st' W := by
 obtain ⟨⟨cb, a1, a2, a3⟩, ⟨cs, b1, b2, b3⟩⟩ := h; (exact ⟨⟨cb, a1, a2, fun t ht b hb => a3 t ht b (by rw [← he t ht]; exact hb)⟩, ⟨cs, b1, b2, fun t ht => by rw [he t ht]; exact b3 t ht⟩⟩)
theorem holds2_own {β : Type} (B : Nat) (f : β → Nat → Option S28) : Own (fun s W => Holds2 B (f s) W) := fun s X Y row hs hg hrow => by
  have same : ∀ (i : Nat) (cs : Array Value) (t : TypeId) (fr : Nat × Nat), X.heap[i]? = some (.cells cs t fr) → Y.heap[i]? = X.heap[i]? := fun i cs t fr hi =>
    hg.block i (Array.getElem?_eq_some_iff.1 hi).1 (fun e => by obtain ⟨o, ho, hc⟩ := hrow i e.symm; rw [hi] at ho; cases ho; cases hc)
  have hs2 := hs
  obtain ⟨⟨cb, a1, _⟩, ⟨cs, b1, _⟩⟩ := hs2
  exact Holds2.frame hs (same _ _ _ _ a1) (same _ _ _ _ b1)
theorem Holds2.someCell {B : Nat} {st : Nat → Option S28} {W : World} (h : Holds2 B st W) {k : Nat} (hk : k < 1024) : W.cell? ⟨B + 1, k, none⟩ = some (.bool (st k).isSome) := by
 obtain ⟨_, ⟨cs, b1, b2, b3⟩⟩ := h; rw [cell_of_row W (B + 1) k cs 85 (0, 0) b1]; exact b3 k hk
theorem Holds2.bestCell {B : Nat} {st : Nat → Option S28} {W : World} (h : Holds2 B st W) {k : Nat} (hk : k < 1024) {b : S28} (hb : st k = some b) {j : Nat} (hj : j < 8) : W.cell? ⟨B, k * 8 + j, none⟩ = (cells28 b)[j]? := by
 obtain ⟨⟨cb, a1, a2, a3⟩, _⟩ := h; rw [cell_of_row W B (k * 8 + j) cb 84 (0, 0) a1]; exact a3 k hk b hb j hj
theorem Holds2.take {B k : Nat} {st : Nat → Option S28} {W : World} (x : S28) (h : Holds2 B st W) (hk : k < 1024) :
    ∃ W1 W2, (Instr.storeAt 28 (.pointer (some ⟨B, k * 8, none⟩)) (ev28 x)).run Try.prog W = .ok () W1 ∧ (Instr.storeAt 4 (.pointer (some ⟨B + 1, k, none⟩)) (.bool true)).run Try.prog W1 = .ok () W2 ∧
      Holds2 B (updS st k x) W2 ∧ (∀ i, i ≠ B → i ≠ B + 1 → W2.heap[i]? = W.heap[i]?) ∧ W2.os = W.os ∧ W2.tape = W.tape ∧ W2.output = W.output ∧ W2.heap.size = W.heap.size := by
 obtain ⟨⟨cb, a1, a2, a3⟩, ⟨cs, b1, b2, b3⟩⟩ := h; (obtain ⟨W1, cb', r1, r2, r3, r4, r5, r6, r7, r8, r9, r10⟩ := seg_store (W := W) (g := B) (o := k * 8) 28 (ev28 x) (cells28 x).toList a1 (by simp [ev28, cells28, Value.cells]) (by kernel_rfl) (by simp [cells28, a2]; omega) (by intro q hq; simp [cells28] at hq; rcases hq with rfl | rfl | rfl | rfl | rfl | rfl | rfl | rfl <;> rfl)); (have b1' : W1.heap[B + 1]? = some (.cells cs 85 (0, 0)) := (r6 (B + 1) (by omega)).trans b1); (obtain ⟨W2, cs', s1, s2, s3, s4, s5, s6, s7, s8, s9, s10⟩ := seg_store (W := W1) (g := B + 1) (o := k) 4 (.bool true) [.bool true] b1' (by simp [Value.cells]) (by kernel_rfl) (by simp [b2]; omega) (by intro q hq; simp at hq; subst hq; rfl)); (refine ⟨W1, W2, r1, s1, ⟨⟨cb', (s6 B (by omega)).trans r2, by omega, fun t ht b hb j hj => ?_⟩, ⟨cs', s2, by omega, fun t ht => ?_⟩⟩, fun i h0 h1 => (s6 i h1).trans (r6 i h0), s7.trans r7, s8.trans r8, s9.trans r9, s10.trans r10⟩)
 ·unfold updS at hb; (have hl : (cells28 x).toList.length = 8 := by simp [cells28]); (by_cases e : t = k)
  ·subst e; rw [if_pos rfl] at hb; cases hb; (rw [r4 j (by omega), Array.getElem?_toList])
  ·rw [if_neg e] at hb; (rw [r5 (t * 8 + j) (by rw [hl]; omega)]); exact a3 t ht b hb j hj
 ·unfold updS; (by_cases e : t = k)
  ·subst e; (have := s4 0 (by simp)); simp at this; simp [this]
  ·(rw [if_neg e, s5 t (by simp; omega)]); exact b3 t ht
end Go.Proofs.Ytamajnhdibcpiaa.G
namespace Go.Proofs.Ytamajnhdibcpiaa.G
open Go.RowKit Go.Shelf
theorem run_max3 (u v : Int) (args : Array TypeId) (t : TypeId) (W : World) : (Builtin.max_ args t #[.int .i64 u, .int .i64 v]).run Try.prog W = .ok (.int .i64 (max u v)) W := by
 (have : max u v = if v > u then v else u := by omega); rw [this]; simp [Builtin.max_, Builtin.max2]
theorem run_min3 (u v : Int) (args : Array TypeId) (t : TypeId) (W : World) : (Builtin.min_ args t #[.int .i64 u, .int .i64 v]).run Try.prog W = .ok (.int .i64 (min u v)) W := by
 (have : min u v = if v < u then v else u := by omega); rw [this]; simp [Builtin.min_, Builtin.min2]
section
variable {F : Fence} {n : Nat} {ops : Array Oper} {rest : List Oper} {o : Oper} {a : Act} {Q : Exit → Act → World → Prop} {W : World}
theorem wpListIn_max (x y : Operand) (ty : Array TypeId) (ho : o.op = .call { callee := .builtin .max, args := #[x, y], argTypes := ty }) (hg : o.guard = none) {u v : Int} (hx : a.eval x = .int .i64 u) (hy : a.eval y = .int .i64 v)
    (h : wpListIn F n Try.prog ops Q rest (a.put o.dst (.int .i64 (max u v))) W) : wpListIn F n Try.prog ops Q (o :: rest) a W := by
 (refine wpListIn_plain hg fun K hK => ?_); unfold Oper.wpIn; refine ⟨?_, ?_⟩
 ·simp [Oper.about, ho, resolve, Target.leads]
 ·(rw [Oper.semAt_eq _ _ _ (by rw [ho]; intro c hc'; cases hc')]); unfold execOp; simp only [ho, resolve, invoke, builtin, Sem.run_bind, Sem.run_pure, Result.andThen_ok, List.map_toArray, List.map_cons, List.map_nil, hx, hy, run_max3]; exact hK _ _ h
theorem wpListIn_min (x y : Operand) (ty : Array TypeId) (ho : o.op = .call { callee := .builtin .min, args := #[x, y], argTypes := ty }) (hg : o.guard = none) {u v : Int} (hx : a.eval x = .int .i64 u) (hy : a.eval y = .int .i64 v)
    (h : wpListIn F n Try.prog ops Q rest (a.put o.dst (.int .i64 (min u v))) W) : wpListIn F n Try.prog ops Q (o :: rest) a W := by
 (refine wpListIn_plain hg fun K hK => ?_); unfold Oper.wpIn; refine ⟨?_, ?_⟩
 ·simp [Oper.about, ho, resolve, Target.leads]
 ·(rw [Oper.semAt_eq _ _ _ (by rw [ho]; intro c hc'; cases hc')]); unfold execOp; simp only [ho, resolve, invoke, builtin, Sem.run_bind, Sem.run_pure, Result.andThen_ok, List.map_toArray, List.map_cons, List.map_nil, hx, hy, run_min3]; exact hK _ _ h
end
section
variable {P : Program} {ops : Array Oper} {rest : List Oper} {o : Oper} {a : Act} {Q : Exit → Act → World → Prop} {W : World}
theorem wpList_max (x y : Operand) (ty : Array TypeId) (ho : o.op = .call { callee := .builtin .max, args := #[x, y], argTypes := ty }) (hg : o.guard = none) {u v : Int} (hx : a.eval x = .int .i64 u) (hy : a.eval y = .int .i64 v)
    (h : wpList Try.prog ops Q rest (a.put o.dst (.int .i64 (max u v))) W) : wpList Try.prog ops Q (o :: rest) a W := by
 (refine wpList_plain hg fun K hK => ?_); unfold Oper.wp execOp; simp only [ho, resolve, invoke, builtin, Sem.run_bind, Sem.run_pure, Result.andThen_ok, List.map_toArray, List.map_cons, List.map_nil, hx, hy, run_max3]; exact hK _ _ h
theorem wpList_min (x y : Operand) (ty : Array TypeId) (ho : o.op = .call { callee := .builtin .min, args := #[x, y], argTypes := ty }) (hg : o.guard = none) {u v : Int} (hx : a.eval x = .int .i64 u) (hy : a.eval y = .int .i64 v)
    (h : wpList Try.prog ops Q rest (a.put o.dst (.int .i64 (min u v))) W) : wpList Try.prog ops Q (o :: rest) a W := by
 (refine wpList_plain hg fun K hK => ?_); unfold Oper.wp execOp; simp only [ho, resolve, invoke, builtin, Sem.run_bind, Sem.run_pure, Result.andThen_ok, List.map_toArray, List.map_cons, List.map_nil, hx, hy, run_min3]; exact hK _ _ h
end
section
variable {P : Program} {ops : Array Oper} {rest : List Oper} {o : Oper} {a : Act} {Q : Exit → Act → World → Prop} {W W1 : World}
theorem wpList_store1 (hg : o.guard = none) (hN : o.dst = none) (t : TypeId) (p x : Operand) (hop : o.op = .store t p x) {ad v : Value} (hp : a.eval p = ad) (hx : a.eval x = v)
    (hrun : (Instr.storeAt t ad v).run Try.prog W = .ok () W1) (h : wpList Try.prog ops Q rest a W1) : wpList Try.prog ops Q (o :: rest) a W := by
 (refine wpList_plain hg fun K hK => ?_); unfold Oper.wp; simp [execOp, hop, hp, hx, hrun, Result.andThen]; rw [Oper.upon_skip, hN]; exact hK _ _ h
end
theorem wpIn_cut {F : Fence} {n : Nat} {P : Program} {c : Code} {Q : Exit → Act → World → Prop} {t : List Value} {W : World} (lo m : Nat) (S : World → Prop) (R : List Value → Prop)
    (h1 : c.wpIn F n P (fun e a' w' => e = .normal ∧ S w' ∧ ∃ us : List Value, us.length = m ∧ R us ∧ a' = { tmps := (t.take lo ++ us ++ t.drop (lo + m)).toArray, defers := [] }) { tmps := t.toArray, defers := [] } W)
    (h2 : ∀ us w', us.length = m → R us → S w' → Q .normal { tmps := (t.take lo ++ us ++ t.drop (lo + m)).toArray, defers := [] } w') : c.wpIn F n P Q { tmps := t.toArray, defers := [] } W :=
  wpIn_mono h1 fun e a' w' h => by obtain ⟨rfl, hs, us, hl, hr, rfl⟩ := h; exact h2 us w' hl hr hs
theorem len12 {α : Type} (us : List α) (h : us.length = 12) : ∃ a b c d e f g i j k l m, us = [a, b, c, d, e, f, g, i, j, k, l, m] := by
 match us, h with
 | [a, b, c, d, e, f, g, i, j, k, l, m], _ => exact ⟨a, b, c, d, e, f, g, i, j, k, l, m, rfl⟩
end Go.Proofs.Ytamajnhdibcpiaa.G
namespace Go.Proofs.Ytamajnhdibcpiaa.G
open Go.RowKit Go.Shelf Go.Proofs.YtamajnhdibcpiaaW.PrintWords Go.Proofs.YtamajnhdibcpiaaW.PrintLast Go.Proofs.YtamajnhdibcpiaaW.PrintMore
attribute [local go_sem] Oper.semAt_some
def valM (l : List S28) (key : S24) (known : Int) (t : Int) : Int := match bestM (ofM l key known) t with | none => -1 | some b => max b.f1 (-1)
def valArr (l : List S28) (key : S24) (known : Int) : Array Value := ((List.range 1024).map fun t : Nat => Value.int .i64 (valM l key known (t : Int))).toArray
def midF (pre : List S28) (x : S28) (c : Nat) : Nat → Option S28 := fun t => if x.f2.f0 ≤ (t : Int) ∧ (t : Int) < x.f2.f1 ∧ t < c then bestM (pre ++ [x]) t else bestM pre t
theorem zero70 : ∃ Z : Array Value, (∀ w, (zeroValue 70).run Try.prog w = .ok (.agg Z) w) ∧ Z.size = 1024 := by
 (have h : (Try.prog.info? 70).map (fun i => (i.zero, i.size)) = some (some (.agg (Array.replicate 1024 (.int .i64 0))), 1024) := by kernel_rfl); (exact ⟨_, (zero_of_info h).1, by simp⟩)
theorem zero85 : ∃ Z : Array Value, (∀ w, (zeroValue 85).run Try.prog w = .ok (.agg Z) w) ∧ Z.size = 1024 ∧ ∀ t, t < 1024 → Z[t]? = some (.bool false) := by
 (have h : (Try.prog.info? 85).map (fun i => (i.zero, i.size)) = some (some (.agg (Array.replicate 1024 (.bool false))), 1024) := by kernel_rfl); (exact ⟨_, (zero_of_info h).1, by simp, fun t ht => by simp [ht]⟩)
theorem zero84 : ∃ Z : Array Value, (∀ w, (zeroValue 84).run Try.prog w = .ok (.agg Z) w) ∧ Z.size = 8192 := by
 (have h1 : (Try.prog.info? 84).map (fun i => (i.zero.map fun z => z.cells.size)) = some (some 8192) := by kernel_rfl); (have h2 : (Try.prog.info? 84).map (fun i => (i.zero.map fun z => match z with | .agg _ => true | _ => false)) = some (some true) := by kernel_rfl)
 cases hq : Try.prog.info? 84 with
 | none => rw [hq] at h1; cases h1
 | some i =>
  rw [hq] at h1 h2; simp only [Option.map_some, Option.some.injEq] at h1 h2
  cases hz : i.zero with
  | none => rw [hz] at h1; cases h1
  | some z =>
   rw [hz] at h1 h2; simp only [Option.map_some, Option.some.injEq] at h1 h2
   match z, h1, h2 with
   | .agg cs, h1, h2 => exact ⟨cs, fun w => by simp [zeroValue, typeInfo, hq, hz], h1⟩
theorem mid_end {B c : Nat} {pre : List S28} {x : S28} {W : World} (hc : x.f2.f1 ≤ (c : Int) ∨ 1024 ≤ c) (h : Holds2 B (midF pre x c) W) : Holds2 B (fun t => bestM (pre ++ [x]) (t : Int)) W := h.congr (fun t ht => by
  unfold midF
  by_cases h : x.f2.f0 ≤ (t : Int) ∧ (t : Int) < x.f2.f1
  · rw [if_pos ⟨h.1, h.2, by omega⟩]
  · rw [if_neg (fun h2 => h ⟨h2.1, h2.2.1⟩), bestM_snoc]; unfold bestStep; rw [if_neg h])
theorem ownPost_norm {α : Type} {B : Nat} {Kp : World → World → Prop} {I : List α → World → Prop} {Ix : Code → List α → World → Prop} {s : List α} {W : World} {a : Act} {w : World} (h : KeepsFrom B W w ∧ Kp W w ∧ I s w) : ownPostG B Kp I Ix s W .normal a w := h
theorem mid_take {pre : List S28} {x : S28} {c : Nat} (h0 : x.f2.f0 ≤ (c : Int)) (h1 : (c : Int) < x.f2.f1) (hb : bestM (pre ++ [x]) (c : Int) = some x) : ∀ t, t < 1024 → midF pre x (c + 1) t = updS (midF pre x c) c x t := fun t ht => by
  by_cases e : t = c
  · subst e; simp only [midF, updS, if_true]; rw [if_pos ⟨h0, h1, by omega⟩, hb]
  · simp only [midF, updS]
    rw [if_neg e]
    by_cases h : x.f2.f0 ≤ (t : Int) ∧ (t : Int) < x.f2.f1 ∧ t < c
    · rw [if_pos h, if_pos ⟨h.1, h.2.1, by omega⟩]
    · rw [if_neg h, if_neg (fun h2 => h ⟨h2.1, h2.2.1, by omega⟩)]
theorem mid_keep {pre : List S28} {x : S28} {c : Nat} (hb : bestM (pre ++ [x]) (c : Int) = bestM pre (c : Int)) : ∀ t, t < 1024 → midF pre x (c + 1) t = midF pre x c t := fun t ht => by
  by_cases e : t = c
  · subst e
    simp only [midF]
    rw [hb]
    split <;> split <;> rfl
  · simp only [midF]
    by_cases h : x.f2.f0 ≤ (t : Int) ∧ (t : Int) < x.f2.f1 ∧ t < c
    · rw [if_pos h, if_pos ⟨h.1, h.2.1, by omega⟩]
    · rw [if_neg h, if_neg (fun h2 => h ⟨h2.1, h2.2.1, by omega⟩)]
def givesB (st : Option S28) (x : S28) : Bool := match st with | none => true | some b => !lessB x b
def nextS (st : Option S28) (x : S28) : Option S28 := match st with | none => some x | some b => if lessB x b = true then some b else some x
theorem gives_take {st : Option S28} {x : S28} (h : givesB st x = true) : nextS st x = some x := by
 cases st with
 | none => rfl
 | some b => simp [givesB] at h; simp [nextS, h]
theorem gives_keep {st : Option S28} {x : S28} (h : givesB st x = false) : nextS st x = st := by
 cases st with
 | none => cases h
 | some b => simp [givesB] at h; simp [nextS, h]
def RowP (R : Nat) (k : Nat) (f : Nat → Int) (W : World) : Prop := ∃ cr : Array Value, W.heap[R]? = some (.cells cr 70 (0, 0)) ∧ cr.size = 1024 ∧ ∀ t, t < k → cr[t]? = some (.int .i64 (f t))
theorem RowP.lt {R k : Nat} {f : Nat → Int} {W : World} (h : RowP R k f W) : R < W.heap.size := by obtain ⟨cr, h1, _⟩ := h; exact (Array.getElem?_eq_some_iff.1 h1).1
theorem RowP.store {R k : Nat} {f : Nat → Int} {W : World} (h : RowP R k f W) (hk : k < 1024) (v : Int) :
    ∃ W1, (Instr.storeAt 3 (.pointer (some ⟨R, k, none⟩)) (.int .i64 v)).run Try.prog W = .ok () W1 ∧ RowP R k f W1 ∧ (v = f k → RowP R (k + 1) f W1) ∧ (∀ i, i ≠ R → W1.heap[i]? = W.heap[i]?) ∧ W1.os = W.os ∧ W1.tape = W.tape ∧ W1.output = W.output ∧ W1.heap.size = W.heap.size := by
 obtain ⟨cr, h1, h2, h3⟩ := h; (obtain ⟨W1, cr', r1, r2, r3, r4, r5, r6, r7, r8, r9, r10⟩ := seg_store (W := W) (g := R) (o := k) 3 (.int .i64 v) [.int .i64 v] h1 (by simp [Value.cells]) (by kernel_rfl) (by simp [h2]; omega) (by intro q hq; simp at hq; subst hq; rfl)); (refine ⟨W1, r1, ⟨cr', r2, by omega, fun t ht => by rw [r5 t (.inl ht)]; exact h3 t ht⟩, fun hv => ⟨cr', r2, by omega, fun t ht => ?_⟩, r6, r7, r8, r9, r10⟩); (by_cases e : t = k)
 ·subst e; (have := r4 0 (by simp)); simp at this; rw [this, hv]
 ·rw [r5 t (.inl (by omega))]; exact h3 t (by omega)
theorem RowP.all {R : Nat} {f : Nat → Int} {W : World} (h : RowP R 1024 f W) : W.heap[R]? = some (.cells ((List.range 1024).map fun t : Nat => Value.int .i64 (f t)).toArray 70 (0, 0)) := by
 obtain ⟨cr, h1, h2, h3⟩ := h
 have : cr = ((List.range 1024).map fun t : Nat => Value.int .i64 (f t)).toArray := by
  apply Array.ext_getElem?; intro i; (by_cases hi : i < 1024)
  ·rw [h3 i hi]; simp [hi]
  ·rw [Array.getElem?_eq_none (by omega), Array.getElem?_eq_none (by simp; omega)]
 rw [this] at h1; exact h1
theorem wpListIn_load {F : Fence} {n : Nat} {ops : Array Oper} {rest : List Oper} {o : Oper} {a : Act} {Q : Exit → Act → World → Prop} {W : World}
    (hg : o.guard = none) (t : TypeId) (p : Operand) (hop : o.op = .load t p) {ad v : Value} (hp : a.eval p = ad)
    (hrun : (Instr.loadAt t ad).run Try.prog W = .ok v W) (h : wpListIn F n Try.prog ops Q rest (a.put o.dst v) W) : wpListIn F n Try.prog ops Q (o :: rest) a W := by
 (refine wpListIn_plain hg fun K hK => ?_); unfold Oper.wpIn; refine ⟨?_, ?_⟩
 ·simp [Oper.about, hop, Sem.run_pure]
 ·(rw [Oper.semAt_eq _ _ _ (by rw [hop]; intro c hc'; cases hc')]); simp [execOp, hop, hp, hrun, Result.andThen]; rw [Oper.uponIn_value]; exact hK _ _ h
def Row0 (R : Nat) (Z : Array Value) (W : World) : Prop := W.heap[R]? = some (.cells Z 70 (0, 0))
theorem row0_own {β : Type} (R : Nat) (Z : Array Value) : Own (fun (_ : β) W => Row0 R Z W) := fun s X Y row hs hg hrow =>
  (hg.block R (Array.getElem?_eq_some_iff.1 hs).1 (fun e => by obtain ⟨o, ho, hc⟩ := hrow R e.symm; rw [hs] at ho; cases ho; cases hc)).trans hs
theorem row0_alloc {R : Nat} {Z : Array Value} {W : World} (h : Row0 R Z W) (o : Obj) : Row0 R Z (W.alloc o) := (Below.heap_alloc W o R (Array.getElem?_eq_some_iff.1 h).1).trans h
theorem took2 {B R : Nat} {Z : Array Value} {w W0 W wr wd Wt : World} (hkf : KeepsFrom W0.heap.size W wr) (hkp : Kpt w.heap.size (B + 2) W wr) (hr : Row0 R Z wr) (hd : Below wr.heap.size wr wd) (hother : ∀ k, k ≠ B → k ≠ B + 1 → Wt.heap[k]? = wd.heap[k]?)
    (o1 : Wt.os = wd.os) (o2 : Wt.tape = wd.tape) (o3 : Wt.output = wd.output) (o4 : Wt.heap.size = wd.heap.size) (hw : w.heap.size < R ∧ R < B) (hB1 : Below w.heap.size w W) (hsz : W0.heap.size = B + 5) :
    Row0 R Z Wt ∧ KeepsFrom W0.heap.size W Wt ∧ Kpt w.heap.size (B + 2) W Wt := by
 (have hb : Below w.heap.size wd Wt := ⟨o1, o2, o3, by omega, fun k hk => hother k (by omega) (by omega)⟩); have hs1 : w.heap.size ≤ wr.heap.size := Nat.le_trans hB1.size hkp.below.size; (refine ⟨(hother R (by omega) (by omega)).trans ((hd.block R (Array.getElem?_eq_some_iff.1 hr).1).trans hr), hkf.trans ((KeepsFrom.of_below hd).trans ⟨by omega, fun k o hk ho hc => (hother k (by omega) (by omega)).trans ho⟩), hkp.trans ((Kpt.of_below hs1 hd).trans ⟨hb, fun i o hi ho hc => (hother i (by omega) (by omega)).trans ho⟩)⟩)
set_option maxRecDepth 100000 in
set_option maxHeartbeats 4000000 in
theorem values_calls (A0 : Option Addr) (c0 : Nat) (l0 : List (S28)) (key : S24) (known : Int) (w : World) (hr0 : Kd.C k28 w A0 l0.length l0) (hc0 : l0.length ≤ c0) :
    Calls Try.prog 39 #[.slice A0 l0.length c0, .agg #[.int .i64 key.f0, .int .i64 key.f1, .int .i64 key.f2], .int .i64 known] w fun e w' => e = .returned (.agg (valArr l0 key known)) ∧ Below w.heap.size w w' := by
 have hu28 := Try.underlying28; (have h1 : 1 ≤ 9 := by omega); obtain ⟨Z70, hz70, s70⟩ := zero70; obtain ⟨Z84, hz84, s84⟩ := zero84; obtain ⟨Z85, hz85, s85, t85⟩ := zero85; have S70 := Aside0.mk s70; have S84 := Aside0.mk s84; have S85 := Aside0.mk (And.intro s85 t85); clear s70 s84 s85 t85; refine (callsIn_wide (n := 9)).1 ?_; refine callsIn_of_wp_marks Try.func39 rfl trivial ?_ rfl; simp only [Try.ntmps39, List.size_toArray, List.length_cons, List.length_nil, Nat.reduceAdd, Nat.reduceSub, Array.replicate_succ, Array.replicate_zero, List.push_toArray, List.append_toArray, List.nil_append, List.cons_append]; (gi_wp2_with (refine ⟨trivial, ?_⟩; gi_at_call 38; refine (of_in _ _ trivial rfl _ _ _ key known _).mono ?_; rintro e w1 ⟨rfl, rfl⟩)); obtain ⟨R, hR⟩ : ∃ R, R = w.heap.size + 1 := ⟨_, rfl⟩; obtain ⟨B, hBe⟩ : ∃ B, B = w.heap.size + 1 + 1 := ⟨_, rfl⟩; (have hq1 : w.heap.size + 1 + 1 + 1 = B + 1 := by omega); (have hq2 : w.heap.size + 1 + 1 + 1 + 1 = B + 2 := by omega); (have hq3 : w.heap.size + 1 + 1 + 1 + 1 + 1 = B + 2 + 1 := by omega); (have hq4 : w.heap.size + 1 + 1 + 1 + 1 + 2 = B + 2 + 2 := by omega); rw [hq4, hq3, hq2, hq1, ← hBe, ← hR]; obtain ⟨os, hos⟩ : ∃ os : List Obj, os = [.cells #[.int .i64 key.f0, .int .i64 key.f1, .int .i64 key.f2] 24, .cells Z70 70, .cells Z84 84, .cells Z85 85, .cells #[.slice A0 l0.length c0] 22, .cells #[.int .i64 key.f0, .int .i64 key.f1, .int .i64 key.f2] 24, .cells #[.int .i64 known] 3] := ⟨_, rfl⟩; (have hWe : ((((((w.alloc (.cells #[.int .i64 key.f0, .int .i64 key.f1, .int .i64 key.f2] 24)).alloc (.cells Z70 70)).alloc (.cells Z84 84)).alloc (.cells Z85 85)).alloc (.cells #[.slice A0 l0.length c0] 22)).alloc (.cells #[.int .i64 key.f0, .int .i64 key.f1, .int .i64 key.f2] 24)).alloc (.cells #[.int .i64 known] 3) = allocs w os := by rw [hos]; rfl); rw [hWe]; have hat := allocs_at os w; (have hsz : (allocs w os).heap.size = B + 5 := by rw [allocs_size, hos, hBe]; simp); have hB0 : Below w.heap.size w (allocs w os) := allocs_below os w w _ (Below.refl _ _) (Nat.le_refl _); generalize allocs w os = W0 at hat hsz hB0 ⊢; (have bR : W0.heap[R]? = some (.cells Z70 70 (0, 0)) := by rw [hR]; exact hat 1 _ (by rw [hos]; rfl)); (have bB : Holds2 B (fun t => bestM [] (t : Int)) W0 := ⟨⟨Z84, by rw [hBe]; exact hat 2 _ (by rw [hos]; rfl), S84.out, fun t ht b hb => by cases hb⟩, ⟨Z85, by rw [hBe]; exact hat 3 _ (by rw [hos]; rfl), S85.out.1, fun t ht => by rw [S85.out.2 t ht]; rfl⟩⟩); (have k0 : W0.heap[B + 2]? = some (.cells #[.slice A0 l0.length c0] 22 (0, 0)) := by rw [hBe]; exact hat 4 _ (by rw [hos]; rfl)); (have k1 : W0.heap[B + 2 + 1]? = some (.cells #[.int .i64 key.f0, .int .i64 key.f1, .int .i64 key.f2] 24 (0, 0)) := by rw [hBe]; exact hat 5 _ (by rw [hos]; rfl)); (have k2 : W0.heap[B + 2 + 2]? = some (.cells #[.int .i64 known] 3 (0, 0)) := by rw [hBe]; exact hat 6 _ (by rw [hos]; rfl)); (have hRB : w.heap.size < R ∧ R < B := by omega); clear hWe hat hos hq1 hq2 hq3 hq4 hR hBe hz70 hz84 hz85; have hOB : B + 5 = W0.heap.size := hsz.symm
 refine wpIn_rangeFunc_ownH rfl h1 (gf := 53) (lb := #[.pointer (some ⟨B + 2, 0, none⟩), .pointer (some ⟨B + 2 + 1, 0, none⟩), .pointer (some ⟨B + 2 + 2, 0, none⟩)]) rfl trivial (enters_of Try.func53 (by kernel_rfl) rfl)
  (of_stops Fence.wide (9 - 1) trivial rfl (by omega) (B + 2) w A0 c0 l0 key known hr0 hc0 W0 hB0 k0 k1 k2) Kpt.trans (fun W l o o' hl h hc hw => Kpt.putObj (w := W0) (by omega) W l o o' hl h hc hw) (Below.refl _ _) (fun _ => rfl)
  (fun pre W => (Holds2 B (fun t => bestM pre (t : Int)) W ∧ Row0 R Z70 W) ∧ Below w.heap.size w W)
  (fun c pre W => False)
  (OwnFrom.and (OwnFrom.and (Own.from (holds2_own B (fun pre t => bestM pre (t : Int))) _) (Own.from (row0_own _ _) _)) (ownFrom_below (Nat.le_refl _) (by omega)))
  (fun c s W W' row h => h.elim)
  ⟨⟨bB, bR⟩, hB0⟩
  (fun (x : S28) (a' : Act) (W : World) => ∃ B1 : Nat, (B + 1 < B1 ∧ W.heap[B1]? = some (Obj.cells (cells28 x) 28)) ∧ ∃ v0 v1 v2 v3 v4 v5 v10 v11 v12 v13 v14 v15 v16 v17 v18 v19 v20 v21 v22 v23 v24 v25 v26 v27 v28 v29 v30 v31 v32 v33 v34 v35 v36 v37 v38 v39 v40 v41 v42 v43 v44 v45 v46 v47 v48 v49 v50 v51 v52 v53 v54 v55 v56 v57 v58 v59 v60 v61 v62 : Value, a' = { tmps := #[v0, v1, v2, v3, v4, v5, .pointer (some ⟨R, 0, none⟩), .pointer (some ⟨B, 0, none⟩), .pointer (some ⟨B + 1, 0, none⟩), .pointer (some ⟨B1, 0, none⟩), v10, v11, v12, v13, v14, v15, v16, v17, v18, v19, v20, v21, v22, v23, v24, v25, v26, v27, v28, v29, v30, v31, v32, v33, v34, v35, v36, v37, v38, v39, v40, v41, v42, v43, v44, v45, v46, v47, v48, v49, v50, v51, v52, v53, v54, v55, v56, v57, v58, v59, v60, v61, v62], defers := [] })
  ?own ?assign ?body ?done ?stop
 case own =>
  rintro x a' _ X Y row ⟨B1, ⟨e0, e1⟩, e3⟩ hg hr
  have same : ∀ (i : Nat) (cs : Array Value) (t : TypeId), X.heap[i]? = some (.cells cs t) → Y.heap[i]? = some (.cells cs t) := fun i cs t hi =>
   (hg.block i (Array.getElem?_eq_some_iff.1 hi).1 (fun e => by obtain ⟨_, o, ho, hc⟩ := hr i e.symm; rw [hi] at ho; cases ho; cases hc)).trans hi
  exact ⟨B1, ⟨e0, same _ _ _ e1⟩, e3⟩
 case assign =>
  rintro l pre x W K ⟨⟨hb, bR1⟩, hB1⟩ hK; simp only [ev28]; (gi_wp2); (refine hK _ _ ((KeepsOthers.alloc _ _).from _) (Kpt.alloc _ hB1.size _) ⟨⟨hb.alloc _, row0_alloc bR1 _⟩, hB1.alloc hB1.size _⟩ ⟨W.heap.size, ⟨hb.lt1, World.alloc_heap_new W _⟩, _, _, _, _, _, _, _, _, _, _, _, _, _, _, _, _, _, _, _, _, _, _, _, _, _, _, _, _, _, _, _, _, _, _, _, _, _, _, _, _, _, _, _, _, _, _, _, _, _, _, _, _, _, _, _, _, _, _, _, rfl⟩)
 case body =>
  rintro l pre x a' W hl hrec ⟨⟨hb, bR1⟩, hB1⟩ ⟨B1, ⟨e0, e1⟩, v0, v1, v2, v3, v4, v5, v10, v11, v12, v13, v14, v15, v16, v17, v18, v19, v20, v21, v22, v23, v24, v25, v26, v27, v28, v29, v30, v31, v32, v33, v34, v35, v36, v37, v38, v39, v40, v41, v42, v43, v44, v45, v46, v47, v48, v49, v50, v51, v52, v53, v54, v55, v56, v57, v58, v59, v60, v61, v62, rfl⟩ hlt; (have b0 : W.cell? ⟨B1, 0, none⟩ = some (.int .i64 x.f0.f0) := by simp [World.cell?, e1, cells28]); (have b1 : W.cell? ⟨B1, 1, none⟩ = some (.int .i64 x.f0.f1) := by simp [World.cell?, e1, cells28]); (have b2 : W.cell? ⟨B1, 2, none⟩ = some (.int .i64 x.f0.f2) := by simp [World.cell?, e1, cells28]); (have b3 : W.cell? ⟨B1, 3, none⟩ = some (.int .i64 x.f1) := by simp [World.cell?, e1, cells28]); (have b4 : W.cell? ⟨B1, 4, none⟩ = some (.int .i64 x.f2.f0) := by simp [World.cell?, e1, cells28]); (have b5 : W.cell? ⟨B1, 5, none⟩ = some (.int .i64 x.f2.f1) := by simp [World.cell?, e1, cells28]); (have b6 : W.cell? ⟨B1, 6, none⟩ = some (.int .i64 x.f3) := by simp [World.cell?, e1, cells28]); (have b7 : W.cell? ⟨B1, 7, none⟩ = some (.int .i64 x.f4) := by simp [World.cell?, e1, cells28]); have hF33 : Fence.wide.fn 33 := trivial; (have hmo : Try.prog.follows .mixedOrders = true := by kernel_rfl); have HB := Aside0.mk hb; clear hb; (gi_wp2_with ((with_reducible refine wpListIn_max (.const (.int .i64 0)) (.tmp 19) #[3, 3] (u := 0) (v := x.f2.f0) ?ho ?hg ?hx ?hy ?_); (case ho => with_reducible rfl); (case hg => rfl); (case hx => rfl); (case hy => rfl)))
  gi_loopw [10] (fun i wr => ∃ c : Nat, i = .int .i64 (c : Int) ∧ x.f2.f0 ≤ (c : Int) ∧ Aside0 (Holds2 B (midF pre x c) wr ∧ Row0 R Z70 wr ∧ KeepsFrom W0.heap.size W wr ∧ Kpt w.heap.size (B + 2) W wr))
   (fun i _ => 1024 - (intOf i).toNat)
  case atStart =>
   exact ⟨(max 0 x.f2.f0).toNat, by rw [Int.toNat_of_nonneg (by omega)], by omega, ⟨HB.out.congr (fun t ht => by unfold midF; rw [if_neg (by omega)]), bR1, Go.KeepsFrom.refl _ _, Kpt.refl _ _ _⟩⟩
  case round =>
   obtain ⟨c, rfl, hc0, hI⟩ := hrel; (have e1' := hI.out.2.2.2.block (by omega) e1); (have q0 : wr.cell? ⟨B1, 0, none⟩ = some (.int .i64 x.f0.f0) := by simp [World.cell?, e1', cells28]); (have q1 : wr.cell? ⟨B1, 1, none⟩ = some (.int .i64 x.f0.f1) := by simp [World.cell?, e1', cells28]); (have q2 : wr.cell? ⟨B1, 2, none⟩ = some (.int .i64 x.f0.f2) := by simp [World.cell?, e1', cells28]); (have q3 : wr.cell? ⟨B1, 3, none⟩ = some (.int .i64 x.f1) := by simp [World.cell?, e1', cells28]); (have q4 : wr.cell? ⟨B1, 4, none⟩ = some (.int .i64 x.f2.f0) := by simp [World.cell?, e1', cells28]); (have q5 : wr.cell? ⟨B1, 5, none⟩ = some (.int .i64 x.f2.f1) := by simp [World.cell?, e1', cells28]); (have q6 : wr.cell? ⟨B1, 6, none⟩ = some (.int .i64 x.f3) := by simp [World.cell?, e1', cells28]); (have q7 : wr.cell? ⟨B1, 7, none⟩ = some (.int .i64 x.f4) := by simp [World.cell?, e1', cells28]); clear e1'; (by_cases hlc : (c : Int) < min x.f2.f1 1024)
   ·have hI2 := hI; obtain ⟨⟨hh, hr, hkf, hkp⟩⟩ := hI2; (have c1 : (c : Int) < x.f2.f1 := by omega); (have c2 : c < 1024 := by omega); (have c2' : (c : Int) < 1024 := by omega); (have hcI : (0 : Int) ≤ (c : Int) := by omega); (have hmid : midF pre x c c = bestM pre (c : Int) := by unfold midF; rw [if_neg (by omega)]); have cS := hh.someCell c2; rw [hmid] at cS; (have hbs : bestM (pre ++ [x]) (c : Int) = nextS (bestM pre (c : Int)) x := by rw [bestM_snoc]; unfold bestStep; rw [if_pos ⟨hc0, c1⟩]; cases bestM pre (c : Int) <;> rfl); have HX := Aside0.mk (And.intro hh (And.intro hr (And.intro hkf (And.intro hkp hB1)))); have HC := Aside0.mk (And.intro hc0 (And.intro c1 (And.intro hbs hmid))); clear hI hlt hh hr hkf hkp hmid hbs c1 hc0; (gi_wp2_with ((with_reducible refine wpListIn_min (.tmp 24) (.const (.int .i64 1024)) #[3, 3] (u := x.f2.f1) (v := 1024) ?ho ?hg ?hx ?hy ?_); (case ho => with_reducible rfl); (case hg => rfl); (case hx => rfl); (case hy => rfl))); (refine wpIn_cut 29 12 (fun W' => Below wr.heap.size wr W') (fun us => us[11]? = some (.bool (givesB (bestM pre (c : Int)) x))) ?region ?rest)
    case region =>
     cases hst : bestM pre (c : Int) with
     | none =>
      rw [hst] at cS; simp only [Option.isSome_none] at cS; clear HX HC hst HB; (gi_region_with_o (fail)); (all_goals exact ⟨rfl, (Below.refl _ _).drew, [_, _, _, _, _, _, _, _, _, _, _, _], rfl, rfl, rfl⟩)
     | some b =>
      rw [hst] at cS; simp only [Option.isSome_some] at cS; (have hst2 : midF pre x c c = some b := by rw [HC.out.2.2.2, hst]); (have d0 : wr.cell? ⟨B, c * 8, none⟩ = some (.int .i64 b.f0.f0) := (HX.out.1.bestCell c2 hst2 (j := 0) (by omega)).trans rfl); (have d1 : wr.cell? ⟨B, c * 8 + 1, none⟩ = some (.int .i64 b.f0.f1) := (HX.out.1.bestCell c2 hst2 (j := 1) (by omega)).trans rfl); (have d2 : wr.cell? ⟨B, c * 8 + 2, none⟩ = some (.int .i64 b.f0.f2) := (HX.out.1.bestCell c2 hst2 (j := 2) (by omega)).trans rfl); (have d3 : wr.cell? ⟨B, c * 8 + 3, none⟩ = some (.int .i64 b.f1) := (HX.out.1.bestCell c2 hst2 (j := 3) (by omega)).trans rfl); (have d4 : wr.cell? ⟨B, c * 8 + 4, none⟩ = some (.int .i64 b.f2.f0) := (HX.out.1.bestCell c2 hst2 (j := 4) (by omega)).trans rfl); (have d5 : wr.cell? ⟨B, c * 8 + 5, none⟩ = some (.int .i64 b.f2.f1) := (HX.out.1.bestCell c2 hst2 (j := 5) (by omega)).trans rfl); (have d6 : wr.cell? ⟨B, c * 8 + 6, none⟩ = some (.int .i64 b.f3) := (HX.out.1.bestCell c2 hst2 (j := 6) (by omega)).trans rfl); (have d7 : wr.cell? ⟨B, c * 8 + 7, none⟩ = some (.int .i64 b.f4) := (HX.out.1.bestCell c2 hst2 (j := 7) (by omega)).trans rfl); have hge := cmpI_ge x b; (have hcp := Aside0.mk (fun W => compare_calls x b W)); simp only [ev28] at hcp; have HG : Aside0 (givesB (some b) x = !lessB x b) := ⟨rfl⟩; rw [HG.out]; clear HX HC hst hst2 HB HG; generalize lessB x b = lb at hge ⊢; (gi_region_with_o (first | (gi_at_call 33; refine (CallsIn.inRound l (callsIn_wide.2 (hcp.out _))).mono ?_; rintro e w3 ⟨rfl, hb3⟩) | (refine ⟨trivial, ?_⟩; gi_at_call 33; refine (CallsIn.inRound l (callsIn_wide.2 (hcp.out _))).mono ?_; rintro e w3 ⟨rfl, hb3⟩))); (all_goals exact ⟨rfl, ((Below.refl _ _).drew).trans hb3, [_, _, _, _, _, _, _, _, _, _, _, _], rfl, rfl, rfl⟩)
    case rest =>
     intro us w2 hl hr hb2; obtain ⟨u0, u1, u2, u3, u4, u5, u6, u7, u8, u9, u10, u11, rfl⟩ := len12 us hl; simp only [List.getElem?_cons_succ, List.getElem?_cons_zero, Option.some.injEq] at hr; subst hr; simp only [List.take_succ_cons, List.take_zero, List.drop_succ_cons, List.drop_zero, List.cons_append, List.nil_append, Nat.reduceAdd]; have y0 := Below.keepc hb2 q0; have y1 := Below.keepc hb2 q1; have y2 := Below.keepc hb2 q2; have y3 := Below.keepc hb2 q3; have y4 := Below.keepc hb2 q4; have y5 := Below.keepc hb2 q5; have y6 := Below.keepc hb2 q6; have y7 := Below.keepc hb2 q7
     cases hg : givesB (bestM pre (c : Int)) x with
     | true =>
      obtain ⟨Ws, Wt, hrun, hrun2, hbest, hother, o1, o2, o3, o4⟩ := Holds2.take x (HX.out.1.below hb2) c2; have hpost := took2 HX.out.2.2.1 HX.out.2.2.2.1 HX.out.2.1 hb2 hother o1 o2 o3 o4 hRB hB1 hsz; (have HP := Aside0.mk (And.intro (hbest.congr (mid_take HC.out.1 HC.out.2.1 (by rw [HC.out.2.2.1]; exact gives_take hg))) hpost)); simp only [ev28] at hrun; (have hc1 : Aside0 (x.f2.f0 ≤ ((c + 1 : Nat) : Int)) := ⟨by have := HC.out.1; omega⟩); clear hg HX HC hb2 hbest hother o1 o2 o3 o4 hpost HB; (gi_wp2_with (first | (refine wpListIn_store (by rfl) (by rfl) 28 (.tmp 44) (.tmp 43) (by rfl) (by rfl) (by rfl) hrun ?_) | (refine wpListIn_store (by rfl) (by rfl) 4 (.tmp 45) (.const (.bool true)) (by rfl) (by rfl) (by rfl) hrun2 ?_))); (go_roundw)
      case rel => exact ⟨c + 1, by simp, hc1.out, HP⟩
      case measure => simp [intOf]; omega
     | false =>
      (have HP := Aside0.mk (show Holds2 B (midF pre x (c + 1)) w2 ∧ Row0 R Z70 w2 ∧ KeepsFrom W0.heap.size W w2 ∧ Kpt w.heap.size (B + 2) W w2 from ⟨(HX.out.1.below hb2).congr (mid_keep (by rw [HC.out.2.2.1]; exact gives_keep hg)), (hb2.block R (Array.getElem?_eq_some_iff.1 HX.out.2.1).1).trans HX.out.2.1, HX.out.2.2.1.trans (KeepsFrom.of_below hb2), HX.out.2.2.2.1.trans (Kpt.of_below (Nat.le_trans hB1.size HX.out.2.2.2.1.below.size) hb2)⟩)); (have hc1 : Aside0 (x.f2.f0 ≤ ((c + 1 : Nat) : Int)) := ⟨by have := HC.out.1; omega⟩); clear hg HX HC hb2 HB; (gi_wp2); (go_roundw)
      case rel => exact ⟨c + 1, by simp, hc1.out, HP⟩
      case measure => simp [intOf]; omega
   ·(have hfin : Holds2 B (fun t => bestM (pre ++ [x]) (t : Int)) wr := mid_end (by omega) hI.out.1); (have HF := Aside0.mk (show KeepsFrom W0.heap.size W wr ∧ Kpt w.heap.size (B + 2) W wr ∧ ((Holds2 B (fun t => bestM (pre ++ [x]) (t : Int)) wr ∧ Row0 R Z70 wr) ∧ Below w.heap.size w wr) from ⟨hI.out.2.2.1, hI.out.2.2.2, ⟨hfin, hI.out.2.1⟩, hB1.trans hI.out.2.2.2.below⟩)); have d1 : decide ((c : Int) < min x.f2.f1 1024) = false := decide_eq_false hlc; clear hfin hI hlt hlc hc0; (gi_wp2_with (first | ((with_reducible refine wpListIn_min (.tmp 24) (.const (.int .i64 1024)) #[3, 3] (u := x.f2.f1) (v := 1024) ?ho ?hg ?hx ?hy ?_); (case ho => with_reducible rfl); (case hg => rfl); (case hx => rfl); (case hy => rfl)) | (with_reducible refine ownPost_norm ?_; exact HF.out)))
 case done =>
  rintro D ys W hD rfl ⟨⟨hb, bR1⟩, hB1⟩ hK; (have HBD := Aside0.mk (hB1.trans (belowK_b (w := w) (Nat.le_refl _) W D _ (.deferred none) (by omega) hK rfl rfl))); (have HI := Aside0.mk (show RowP R 0 (fun t => valM l0 key known (t : Int)) W ∧ Holds2 B (fun t => bestM (ofM l0 key known) (t : Int)) W ∧ Below w.heap.size w W ∧ W.heap[D]? = some (Obj.deferred (some [])) from ⟨⟨Z70, bR1, S70.out, fun t ht => absurd ht (by omega)⟩, hb, hB1, hK⟩)); (have hDR : R ≠ D := fun e => by subst e; rw [bR1] at hK; cases hK); clear hb bR1 hB1 HBD hK; (gi_wp2)
  gi_loopw [46] (fun i wr => ∃ k : Nat, k ≤ 1024 ∧ i = .int .i64 (k : Int) ∧ Aside0 (RowP R k (fun t => valM l0 key known (t : Int)) wr ∧ Holds2 B (fun t => bestM (ofM l0 key known) (t : Int)) wr ∧ Below w.heap.size w wr ∧ wr.heap[D]? = some (Obj.deferred (some []))))
   (fun i _ => 1024 - (intOf i).toNat)
  case atStart => exact ⟨0, by omega, rfl, HI⟩
  case round =>
   obtain ⟨k, hk, rfl, hI⟩ := hrel; (by_cases hlt : k < 1024)
   ·(have hlt' : (k : Int) < 1024 := by omega); (have hkI : (0 : Int) ≤ (k : Int) := by omega); have hI2 := hI; obtain ⟨⟨hp, hh, hB, hK⟩⟩ := hI2; have hRlt : w.heap.size < R ∧ R < B := hRB; obtain ⟨Ws, hrun, hp1, hp2, hother, o1, o2, o3, o4⟩ := hp.store hlt (-1); (have hh1 : Holds2 B (fun t => bestM (ofM l0 key known) (t : Int)) Ws := hh.frame (hother B (by omega)) (hother (B + 1) (by omega))); have cS := hh1.someCell hlt; (have hBs : Below w.heap.size w Ws := hB.trans ⟨o1, o2, o3, by omega, fun i hi => hother i (by omega)⟩); have hKs : Ws.heap[D]? = some (Obj.deferred (some [])) := (hother D (Ne.symm hDR)).trans hK
    cases hst : bestM (ofM l0 key known) (k : Int) with
    | none =>
     rw [hst] at cS; simp only [Option.isSome_none] at cS; (have HP := Aside0.mk (And.intro (hp2 (by unfold valM; rw [hst])) (And.intro hh1 (And.intro hBs hKs)))); clear hst hI hp hh hB hK hp1 hp2 hother o1 o2 o3 o4 hh1 hBs hKs; (gi_wp2_with (refine wpListIn_store (by rfl) (by rfl) 3 (.tmp 50) (.const (.int .i64 (-1))) (by rfl) (by rfl) (by rfl) hrun ?_)); (go_roundw)
     case rel => exact ⟨k + 1, by omega, by simp, HP⟩
     case measure => simp [intOf]; omega
    | some b =>
     rw [hst] at cS; simp only [Option.isSome_some] at cS; (have cV : Ws.cell? ⟨B, k * 8 + 3, none⟩ = some (.int .i64 b.f1) := (hh1.bestCell hlt hst (j := 3) (by omega)).trans rfl); obtain ⟨Wt, hrun2, _, hq2, hother2, p1, p2, p3, p4⟩ := hp1.store hlt (max b.f1 (-1)); (have HP := Aside0.mk (And.intro (hq2 (by unfold valM; rw [hst])) (And.intro (hh1.frame (hother2 B (by omega)) (hother2 (B + 1) (by omega))) (And.intro (hBs.trans ⟨p1, p2, p3, by omega, fun i hi => hother2 i (by omega)⟩) ((hother2 D (Ne.symm hDR)).trans hKs))))); clear hst hI hp hh hB hK hp1 hp2 hother o1 o2 o3 o4 hh1 hBs hKs hq2 hother2 p1 p2 p3 p4; (gi_wp2_with (first | (refine wpListIn_store (by rfl) (by rfl) 3 (.tmp 50) (.const (.int .i64 (-1))) (by rfl) (by rfl) (by rfl) hrun ?_) | ((with_reducible refine wpListIn_max (.tmp 58) (.const (.int .i64 (-1))) #[3, 3] (u := b.f1) (v := -1) ?ho ?hg ?hx ?hy ?_); (case ho => with_reducible rfl); (case hg => rfl); (case hx => rfl); (case hy => rfl)) | (refine wpListIn_store (by rfl) (by rfl) 3 (.tmp 60) (.tmp 59) (by rfl) (by rfl) (by rfl) hrun2 ?_))); (go_roundw)
     case rel => exact ⟨k + 1, by omega, by simp, HP⟩
     case measure => simp [intOf]; omega
   ·(obtain rfl : k = 1024 := by omega); obtain ⟨⟨hp, hh, hB, hK⟩⟩ := hI; have hrow : wr.heap[R]? = some (.cells (valArr l0 key known) 70 (0, 0)) := hp.all
    have hld : (Instr.loadAt 70 (.pointer (some ⟨R, 0, none⟩))).run Try.prog wr = .ok (.agg (valArr l0 key known)) wr := by
     simp only [Instr.loadAt, Instr.sureAddr, Sem.run_bind, Sem.run_pure, Result.andThen]; (exact run_loadVar_row wr R 70 70 _ (0, 0) _ hrow Try.underlying70 rfl (by rw [show (Try.prog.info? 70).map (·.size) = some 1024 from by kernel_rfl]; simp [valArr]))
    obtain ⟨Wt, cr', r1, r2, r3, r4, r5, r6, r7, r8, r9, r10⟩ := seg_store (W := wr) (g := R) (o := 0) 70 (.agg (valArr l0 key known)) (valArr l0 key known).toList hrow (by simp [Value.cells]) (by rw [show (Try.prog.info? 70).map (·.size) = some 1024 from by kernel_rfl]; simp [valArr]) (by simp) (by intro q hq; simp [valArr] at hq; obtain ⟨t, _, rfl⟩ := hq; rfl)
    have hcr : cr' = valArr l0 key known := by
     apply Array.ext_getElem?; intro i; (by_cases hi : i < (valArr l0 key known).size)
     ·(have := r4 i (by simpa using hi)); (simpa using this)
     ·rw [Array.getElem?_eq_none (by omega), Array.getElem?_eq_none (by omega)]
    rw [hcr] at r2; have hKt : Wt.heap[D]? = some (Obj.deferred (some [])) := (r6 D (Ne.symm hDR)).trans hK; (have hBt : Below w.heap.size w Wt := hB.trans ⟨r7, r8, r9, by omega, fun i hi => r6 i (by omega)⟩); (have HBD := Aside0.mk (hBt.trans (belowK_b (w := w) (Nat.le_refl _) Wt D _ (.deferred none) (by omega) hKt rfl rfl))); (have hRt : (Wt.putObj D (.deferred none)).heap[R]? = some (.cells (valArr l0 key known) 70 (0, 0)) := (World.putObj_heap_other (by omega)).trans r2); have HRT := Aside0.mk hRt; clear hrow hcr r2 r3 r4 r5 r6 r7 r8 r9 r10 hB hK hh hp hBt hRt; (gi_wp2_with (first | (refine wpListIn_load (by rfl) 70 (.tmp 6) (by rfl) (by rfl) hld ?_) | (refine wpListIn_store (by rfl) (by rfl) 70 (.tmp 6) (.tmp 62) (by rfl) (by rfl) (by rfl) r1 ?_))); (refine ⟨by simp, .inl ⟨_, _, rfl, run_takeDeferred hKt, ?_⟩⟩); (exact ⟨_, results_cell_row (d := .array 1024 3) rfl _ _ R 70 _ (0, 0) rfl HRT.out Try.underlying70 rfl (by rw [show (Try.prog.info? 70).map (·.size) = some 1024 from by kernel_rfl]; simp [valArr]), rfl, HBD.out⟩)
 case stop =>
  rintro D c pre W hD hpre h hK; exact h.elim
end Go.Proofs.Ytamajnhdibcpiaa.G
namespace Go.Proofs.Ytamajnhdibcpiaa.G
open Go.RowKit Go.Shelf Go.Proofs.YtamajnhdibcpiaaW.PrintWords Go.Proofs.YtamajnhdibcpiaaW.PrintLast Go.Proofs.YtamajnhdibcpiaaW.PrintMore
def ptsTo (f : Nat → Int) (frm upt : Int) (c : Nat) : List S60 := ((List.range c).filter fun t : Nat => decide (frm ≤ (t : Int) ∧ (t : Int) < upt ∧ 0 ≤ f t)).map fun t : Nat => ⟨(t : Int), f t⟩
def pointsM (l : List S28) (key : S24) (frm upt known : Int) : List S60 := ptsTo (fun t : Nat => valM l key known (t : Int)) frm upt 1024
def facts_Points.f (l0 : List S28) (a1_0 a1_1 a1_2 a2 a3 a4 : Int) : Option (List S60) := some (pointsM l0 ⟨a1_0, a1_1, a1_2⟩ a2 a3 a4)
theorem ptsTo_succ (f : Nat → Int) (frm upt : Int) (c : Nat) : ptsTo f frm upt (c + 1) = if frm ≤ (c : Int) ∧ (c : Int) < upt ∧ 0 ≤ f c then ptsTo f frm upt c ++ [⟨(c : Int), f c⟩] else ptsTo f frm upt c := by
 unfold ptsTo; rw [List.range_succ, List.filter_append, List.map_append]; (by_cases h : frm ≤ (c : Int) ∧ (c : Int) < upt ∧ 0 ≤ f c)
 ·rw [if_pos h]; simp [h]
 ·rw [if_neg h]; simp only [List.filter_cons, h, decide_false]; simp
theorem ptsTo_more (f : Nat → Int) (frm upt : Int) (c : Nat) (h : ∀ t : Nat, c ≤ t → ¬ (frm ≤ (t : Int) ∧ (t : Int) < upt)) : ∀ d, ptsTo f frm upt (c + d) = ptsTo f frm upt c
  | 0 => rfl
  | d + 1 => by
    rw [show c + (d + 1) = (c + d) + 1 by omega, ptsTo_succ, if_neg (fun h2 => h (c + d) (by omega) ⟨h2.1, h2.2.1⟩)]
    exact ptsTo_more f frm upt c h d
theorem ptsTo_none (f : Nat → Int) (frm upt : Int) : ∀ c : Nat, (∀ t : Nat, t < c → ¬ (frm ≤ (t : Int) ∧ (t : Int) < upt)) → ptsTo f frm upt c = []
  | 0, _ => rfl
  | c + 1, h => by
    rw [ptsTo_succ, if_neg (fun h2 => h c (by omega) ⟨h2.1, h2.2.1⟩)]
    exact ptsTo_none f frm upt c (fun t ht => h t (by omega))
theorem ptsTo_length (f : Nat → Int) (frm upt : Int) (c : Nat) : (ptsTo f frm upt c).length ≤ c := by
 unfold ptsTo; rw [List.length_map]; (have := List.length_filter_le (fun t : Nat => decide (frm ≤ (t : Int) ∧ (t : Int) < upt ∧ 0 ≤ f t)) (List.range c)); (simpa using this)
theorem info60g : (Try.prog.info? 60).map (fun i => (i.zero, i.size, i.bytes)) = some (some (.agg #[.int .i64 0, .int .i64 0]), 2, 16) := by kernel_rfl
section
variable {ops : Array Oper} {rest : List Oper} {o : Oper} {a : Act} {Q : Exit → Act → World → Prop}
theorem append60 {w0 W : World} {base H : Nat} {v : Value} {xs : List S60} {x y : Int} (s q : Tmp) (ho : o.op = .call { callee := .builtin .append, args := #[.tmp s, .tmp q], argTypes := #[41, 41] }) (hgd : o.guard = none)
    (hs : a.eval (.tmp s) = v) (hx : a.eval (.tmp q) = .slice (some ⟨H, 0, none⟩) 1 1) (hH : W.heap.size = H) (HO : Kd.R k60 60 W base (fun _ => True) v xs) (HB : Below base w0 W) (hbase : base ≤ W.heap.size) (hl : xs.length ≤ 1024)
    (h : ∀ v1 w1, Kd.R k60 60 w1 base (fun _ => True) v1 (xs ++ [⟨x, y⟩]) → Below base w0 w1 → wpList Try.prog ops Q rest (a.put o.dst v1) w1) :
    wpList Try.prog ops Q (o :: rest) a (W.alloc (.cells #[.int .i64 x, .int .i64 y] 60)) := by
 subst hH; (exact Kd.R_append k60 (w0 := w0) base hgd (.tmp s) (.tmp q) 41 60 (.agg #[.int .i64 0, .int .i64 0]) 16 ho Try.underlying41 info60g rfl (by decide) (by omega) v xs (⟨x, y⟩ : S60) [.int .i64 x, .int .i64 y] (fun _ => True) (fun _ => False) hs hx (k60_mkM _ _ _ (⟨x, y⟩ : S60)) (fun _ h => h.elim) (fun _ _ => trivial) HO HB hbase (by omega) (fun v1 w1 h1 h2 h3 _ => h v1 w1 h1 h2))
end
theorem valArr_at (l : List S28) (key : S24) (known : Int) {t : Nat} (ht : t < 1024) : (valArr l key known)[t]? = some (.int .i64 (valM l key known (t : Int))) := by
 unfold valArr; simp [ht]
theorem valArr_size (l : List S28) (key : S24) (known : Int) : (valArr l key known).size = 1024 := by simp [valArr]
theorem valArr_one (l : List S28) (key : S24) (known : Int) : (valArr l key known).all (·.oneCell') = true := by
 rw [Array.all_eq_true]; intro i hi; simp only [valArr, List.getElem_toArray, List.getElem_map]; rfl
theorem store70 (w : World) (c c' : Array Value) (h : c.size = 1024) (h' : c'.size = 1024) (h1 : c'.all (·.oneCell') = true) :
    (Instr.storeAt 70 (.pointer (some ⟨w.heap.size, 0, none⟩)) (.agg c')).run Try.prog (w.alloc (.cells c 70)) = .ok () (w.alloc (.cells c' 70)) :=
  run_storeAt_new w 70 c c' (by rw [show (Try.prog.info? 70).map (·.size) = some 1024 from by kernel_rfl, h']) (by omega) h1
set_option maxRecDepth 100000 in
set_option maxHeartbeats 4000000 in
theorem points_calls (A0 : Option Addr) (c0 : Nat) (l0 : List (S28)) (key : S24) (frm upt known : Int) (w : World) (hr0 : Kd.C k28 w A0 l0.length l0) (hc0 : l0.length ≤ c0) :
    Calls Try.prog 21 #[.slice A0 l0.length c0, .agg #[.int .i64 key.f0, .int .i64 key.f1, .int .i64 key.f2], .int .i64 frm, .int .i64 upt, .int .i64 known] w fun e w' => ∃ v0_ : Value, e = .returned v0_ ∧ Kd.R k60 60 w' w.heap.size (fun _ => True) v0_ (pointsM l0 key frm upt known) ∧ Below w.heap.size w w' := by
  obtain ⟨Z70, hz70, s70⟩ := zero70
  have S70 := Aside0.mk s70
  clear s70
  have hu24 := Try.underlying24
  have hu60 := Try.underlying60
  have HV := Aside0.mk (fun (W : World) (hb : Below w.heap.size w W) => values_calls A0 c0 l0 key known W (Kd.C_below hr0 hb) hc0)
  obtain ⟨V, hV⟩ : ∃ V, V = valArr l0 key known := ⟨_, rfl⟩
  obtain ⟨f, hf⟩ : ∃ f : Nat → Int, f = fun t : Nat => valM l0 key known (t : Int) := ⟨_, rfl⟩
  have hVf : ∀ t, t < 1024 → V[t]? = some (.int .i64 (f t)) := fun t ht => by rw [hV, hf]; exact valArr_at l0 key known ht
  have hVs : V.size = 1024 := by rw [hV]; exact valArr_size _ _ _
  have hVo : V.all (·.oneCell') = true := by rw [hV]; exact valArr_one _ _ _
  have hpm : pointsM l0 key frm upt known = ptsTo f frm upt 1024 := by rw [hf]; rfl
  rw [← hV] at HV
  rw [hpm]
  have HVV := Aside0.mk (And.intro hVf (And.intro hVs hVo))
  clear hV hf hVf hVs hVo hpm
  go_enter Try.func21, Try.ntmps21
  go_wp2_with (first
    | (go_at_call 39; refine (HV.out _ ((Below.refl _ _).alloc (Nat.le_refl _) _)).mono ?_; rintro e w1 ⟨rfl, hb1⟩)
    | (refine wpList_store1 (by rfl) (by rfl) 70 (.tmp 11) (.tmp 16) (by rfl) (by rfl) (by rfl) (store70 w1 Z70 V S70.out HVV.out.2.1 HVV.out.2.2) ?_)
    | ((with_reducible refine wpList_max (.const (.int .i64 0)) (.tmp 17) #[3, 3] (u := 0) (v := frm) ?ho ?hg ?hx ?hy ?_); (case ho => with_reducible rfl); (case hg => rfl); (case hx => rfl); (case hy => rfl)))
  have bV : (w1.alloc (.cells V 70)).heap[w1.heap.size]? = some (.cells V 70 (0, 0)) := World.alloc_heap_new _ _
  have hB2 : Below w.heap.size w (w1.alloc (.cells V 70)) := (((Below.refl w.heap.size w).alloc (Nat.le_refl _) _).trans (hb1.mono (by simp))).alloc (by have := hb1.size; simp at this; omega) _
  have hlt2 : w1.heap.size < (w1.alloc (.cells V 70)).heap.size := by simp
  generalize w1.alloc (.cells V 70) = W2 at bV hB2 hlt2 ⊢
  generalize w1.heap.size = Rb at bV hlt2 ⊢
  clear hb1 HV
  go_loopw [10, 12] (fun v i wr => ∃ (c : Nat) (acc : List S60), i = .int .i64 (c : Int) ∧ (frm ≤ (c : Int) ∧ (c ≤ 1024 ∨ (c : Int) = frm)) ∧ Aside0 (acc = ptsTo f frm upt c) ∧ acc.length ≤ 1024 ∧ Aside0 (Kd.R k60 60 wr W2.heap.size (fun _ => True) v acc) ∧ Aside0 (Below W2.heap.size W2 wr))
    (fun _ i _ => 1024 - (intOf i).toNat)
  case atStart =>
    exact ⟨(max 0 frm).toNat, [], by rw [Int.toNat_of_nonneg (by omega)], ⟨by omega, by omega⟩, ⟨(ptsTo_none f frm upt _ (fun t ht => by omega)).symm⟩, by simp, ⟨Kd.R_nil _ _ _ _ _⟩, ⟨Below.refl _ _⟩⟩
  case round =>
    obtain ⟨c, acc, rfl, hfc, hacc, hlen, hO, hB⟩ := hrel
    by_cases hlc : (c : Int) < min upt 1024
    · have c2 : c < 1024 := by omega
      have c2' : (c : Int) < 1024 := by omega
      have hcI : (0 : Int) ≤ (c : Int) := by omega
      have hc1 : Aside0 (frm ≤ ((c + 1 : Nat) : Int) ∧ (c + 1 ≤ 1024 ∨ ((c + 1 : Nat) : Int) = frm)) := ⟨by omega, by omega⟩
      have bV2 : wr.heap[Rb]? = some (.cells V 70 (0, 0)) := (hB.out.block Rb hlt2).trans bV
      have cV : wr.cell? ⟨Rb, c, none⟩ = some (.int .i64 (f c)) := by rw [cell_of_row wr Rb c V 70 (0, 0) bV2]; exact HVV.out.1 c c2
      by_cases hv : 0 ≤ f c
      · have hl2 : Aside0 (acc.length ≤ c) := ⟨by rw [hacc.out]; exact ptsTo_length _ _ _ _⟩
        have hacc2 : Aside0 (acc ++ [⟨(c : Int), f c⟩] = ptsTo f frm upt (c + 1)) := ⟨by rw [ptsTo_succ, if_pos ⟨hfc.1, by omega, hv⟩, hacc.out]⟩
        have hlen2 : Aside0 ((acc ++ [(⟨(c : Int), f c⟩ : S60)]).length ≤ 1024) := ⟨by have := hl2.out; simp; omega⟩
        clear hacc hfc bV2 hl2
        go_wp2_with (first
          | ((with_reducible refine wpList_min (.tmp 20) (.const (.int .i64 1024)) #[3, 3] (u := upt) (v := 1024) ?ho ?hg ?hx ?hy ?_); (case ho => with_reducible rfl); (case hg => rfl); (case hx => rfl); (case hy => rfl))
          | ((with_reducible refine gate_builtin (b := .append) (xs := #[.tmp 29, .tmp 35]) rfl ?_); refine append60 29 35 (by rfl) (by rfl) (by rfl) (by rfl) (by simp) hO.out hB.out hB.out.size hlen ?_; intro v7 w7 ho7 hb7; have HO7 := Aside0.mk ho7; have HB7 := Aside0.mk hb7; clear ho7 hb7))
        go_roundw
        case rel => exact ⟨c + 1, _, by simp, hc1.out, hacc2, hlen2.out, HO7, HB7⟩
        case measure => simp [intOf]; omega
      · have kv : decide (0 ≤ f c) = false := decide_eq_false hv
        have hacc2 : Aside0 (acc = ptsTo f frm upt (c + 1)) := ⟨by rw [ptsTo_succ, if_neg (fun h => hv h.2.2), hacc.out]⟩
        clear hacc hfc bV2 hv
        go_wp2_with ((with_reducible refine wpList_min (.tmp 20) (.const (.int .i64 1024)) #[3, 3] (u := upt) (v := 1024) ?ho ?hg ?hx ?hy ?_); (case ho => with_reducible rfl); (case hg => rfl); (case hx => rfl); (case hy => rfl))
        go_roundw
        case rel => exact ⟨c + 1, acc, by simp, hc1.out, hacc2, hlen, hO, hB⟩
        case measure => simp [intOf]; omega
    · have hfin : Aside0 (acc = ptsTo f frm upt 1024) := ⟨by
        rw [hacc.out]
        by_cases h0 : c = 1024
        · rw [h0]
        by_cases h : c ≤ 1024
        · have := ptsTo_more f frm upt c (fun t ht h2 => by omega) (1024 - c)
          rw [show c + (1024 - c) = 1024 by omega] at this
          exact this.symm
        · rw [ptsTo_none f frm upt c (fun t ht => by omega), ptsTo_none f frm upt 1024 (fun t ht => by omega)]⟩
      have d2 : decide ((c : Int) < min upt 1024) = false := decide_eq_false hlc
      have HE := Aside0.mk (And.intro (Kd.R_lower hO.out hB2.size) (hB2.trans (hB.out.mono hB2.size)))
      clear hlc hacc hfc
      go_wp2_with ((with_reducible refine wpList_min (.tmp 20) (.const (.int .i64 1024)) #[3, 3] (u := upt) (v := 1024) ?ho ?hg ?hx ?hy ?_); (case ho => with_reducible rfl); (case hg => rfl); (case hx => rfl); (case hy => rfl))
      go_ret
      exact ⟨_, rfl, by rw [← hfin.out]; exact HE.out.1, HE.out.2⟩
theorem facts_Points.calls (A0 : Option Addr) (c0 : Nat) (l0 : List (S28)) (a1_0 : Int) (a1_1 : Int) (a1_2 : Int) (a2 : Int) (a3 : Int) (a4 : Int) (r : List (S60)) (w : World) (hr0 : Kd.C k28 w A0 l0.length l0) (hc0 : l0.length ≤ c0) (h : facts_Points.f l0 a1_0 a1_1 a1_2 a2 a3 a4 = some r) :
    Calls Try.prog 21 #[.slice A0 l0.length c0, .agg #[.int .i64 a1_0, .int .i64 a1_1, .int .i64 a1_2], .int .i64 a2, .int .i64 a3, .int .i64 a4] w fun e w' => ∃ v0_ : Value, e = .returned (v0_) ∧ Kd.R k60 60 w' w.heap.size (fun _ => True) v0_ r ∧ Below w.heap.size w w' := by
 have h2 : pointsM l0 ⟨a1_0, a1_1, a1_2⟩ a2 a3 a4 = r := Option.some.inj h; have := points_calls A0 c0 l0 ⟨a1_0, a1_1, a1_2⟩ a2 a3 a4 w hr0 hc0; rw [h2] at this; exact this
end Go.Proofs.Ytamajnhdibcpiaa.G
