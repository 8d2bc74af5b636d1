/- Part 26 of the proof of the claim; the conditions are the statement's own. Own texts and printed texts, merged by pack.py (ours). -/
import Derived.Test.YtamajnhdibcpiaaRows
import Derived.Deep.Slices
import Derived.Deep.Fields
import Derived.ChangeSame
import Derived.WalkKit
import Derived.ProofKit
import Derived.OpenShut
import Derived.ChangeOld
import Derived.Below
import Derived.SizedLaws
import Derived.Test.YtamajnhdibcpiaaKD3
namespace Go.Proofs.Ytamajnhdibcpiaa.G
open Go.RowKit Go.Proofs.YtamajnhdibcpiaaW.PrintWords Go.Proofs.YtamajnhdibcpiaaW.PrintLast Go.Proofs.YtamajnhdibcpiaaW.PrintMore
attribute [local go_sem] max2_int min2_int max_two min_two max_three min_three max_four min_four   -- for this text's walks alone
set_option linter.unusedVariables false
set_option linter.unusedSimpArgs false
attribute [local go_sem high] eqA24
mutual
def sizarlaw07_FactsRead.l0 : Nat → List (S28) → Int → Int → List (S57) → Bool → Int → Int → Int → Int → Int → Int → Option (Bool)
  | 0, _, _, _, _, _, _, _, _, _, _, _ => none
  | k + 1, x0, x2, x3, x9, x10, x11, x477000, x477001, x477002, x477003, x477004 => if x11 < (x9.length : Int) then (sizarlaw07_FactsRead.l1 k x0 x2 x3 x9 x10 x11 0 x477000 x477001 x477002 x477003 x477004) else ((facts_Alike.f k x0 (([(⟨(⟨x477000, x477001, x477002⟩ : S24), x477003, x477004⟩ : S54)] : List (S54))) x2 x3).bind fun t484 => (some (t484 == (!x10))))
def sizarlaw07_FactsRead.l1 : Nat → List (S28) → Int → Int → List (S57) → Bool → Int → Int → Int → Int → Int → Int → Int → Option (Bool)
  | 0, _, _, _, _, _, _, _, _, _, _, _, _ => none
  | k + 1, x0, x2, x3, x9, x10, x11, x12, x477000, x477001, x477002, x477003, x477004 => if 0 ≤ x11 then (if x11 < (x9.length : Int) then (if x12 < (((rd_T57 x9 x11).f1).length : Int) then (if 0 ≤ x12 then (if ((rd_T26 ((rd_T57 x9 x11).f1) x12).f0) ≥ ((rd_T26 ((rd_T57 x9 x11).f1) x12).f1) then (none) else (if ((rd_T26 ((rd_T57 x9 x11).f1) x12).f0) < 0 then (none) else (if ((rd_T26 ((rd_T57 x9 x11).f1) x12).f1) > 1024 then (none) else (if x12 > 0 then (if 0 ≤ (wrap64 (x12 - 1)) then (if (wrap64 (x12 - 1)) < (((rd_T57 x9 x11).f1).length : Int) then (sizarlaw07_FactsRead.j2 k x0 x2 x3 x9 x10 x11 x12 (decide (((rd_T26 ((rd_T57 x9 x11).f1) (wrap64 (x12 - 1))).f1) ≥ ((rd_T26 ((rd_T57 x9 x11).f1) x12).f0))) x477000 x477001 x477002 x477003 x477004 ((rd_T26 ((rd_T57 x9 x11).f1) x12).f0) ((rd_T26 ((rd_T57 x9 x11).f1) x12).f1)) else (none)) else (none)) else (sizarlaw07_FactsRead.j2 k x0 x2 x3 x9 x10 x11 x12 false x477000 x477001 x477002 x477003 x477004 ((rd_T26 ((rd_T57 x9 x11).f1) x12).f0) ((rd_T26 ((rd_T57 x9 x11).f1) x12).f1)))))) else (none)) else (sizarlaw07_FactsRead.l0 k x0 x2 x3 x9 x10 (wrap64 (x11 + 1)) x477000 x477001 x477002 x477003 x477004)) else (none)) else (none)
def sizarlaw07_FactsRead.j2 : Nat → List (S28) → Int → Int → List (S57) → Bool → Int → Int → Bool → Int → Int → Int → Int → Int → Int → Int → Option (Bool)
  | 0, _, _, _, _, _, _, _, _, _, _, _, _, _, _, _ => none
  | k + 1, x0, x2, x3, x9, x10, x11, x12, x84, x477000, x477001, x477002, x477003, x477004, x489000, x489001 => if x84 = true then (none) else (if 0 ≤ x11 then (if x11 < (x9.length : Int) then ((facts_At.f x0 ((rd_T57 x9 x11).f0.f0) ((rd_T57 x9 x11).f0.f1) ((rd_T57 x9 x11).f0.f2) x489000 x2).bind fun bt492 => ((facts_At.f x0 ((rd_T57 x9 x11).f0.f0) ((rd_T57 x9 x11).f0.f1) ((rd_T57 x9 x11).f0.f2) x489000 x3).bind fun bt495 => (if (bt492.2 == bt495.2) = true then (sizarlaw07_FactsRead.j3 k x0 x2 x3 x9 x10 x11 x12 (bt492.1 == bt495.1) x477000 x477001 x477002 x477003 x477004 x489000 x489001) else (sizarlaw07_FactsRead.j3 k x0 x2 x3 x9 x10 x11 x12 false x477000 x477001 x477002 x477003 x477004 x489000 x489001)))) else (none)) else (none))
def sizarlaw07_FactsRead.j3 : Nat → List (S28) → Int → Int → List (S57) → Bool → Int → Int → Bool → Int → Int → Int → Int → Int → Int → Int → Option (Bool)
  | 0, _, _, _, _, _, _, _, _, _, _, _, _, _, _, _ => none
  | k + 1, x0, x2, x3, x9, x10, x11, x12, x118, x477000, x477001, x477002, x477003, x477004, x489000, x489001 => if x118 = true then (none) else (if 0 ≤ x11 then (if x11 < (x9.length : Int) then (if (((rd_T57 x9 x11).f0.f0) == x477000 && (((rd_T57 x9 x11).f0.f1) == x477001 && (((rd_T57 x9 x11).f0.f2) == x477002))) = true then (if (mx x477003 x489000) < (mn x477004 x489001) then (sizarlaw07_FactsRead.l1 k x0 x2 x3 x9 true x11 (wrap64 (x12 + 1)) x477000 x477001 x477002 x477003 x477004) else (sizarlaw07_FactsRead.l1 k x0 x2 x3 x9 x10 x11 (wrap64 (x12 + 1)) x477000 x477001 x477002 x477003 x477004)) else (sizarlaw07_FactsRead.l1 k x0 x2 x3 x9 x10 x11 (wrap64 (x12 + 1)) x477000 x477001 x477002 x477003 x477004)) else (none)) else (none))
end
def sizarlaw07_FactsRead.f (k : Nat) (l0 : List (S28)) (a1_0 : Int) (a1_1 : Int) (a1_2 : Int) (a1_3 : Int) (a1_4 : Int) (a2 : Int) (a3 : Int) : Option (Bool) := (sizarlaw07_sane.f k).bind fun t477 => (if t477 = true then (if (l0.length : Int) > 10 then (some true) else ((facts_Changed.f l0 a2 a3).bind fun t478 => (sizarlaw07_FactsRead.l0 k l0 a2 a3 t478 false 0 a1_0 a1_1 a1_2 a1_3 a1_4))) else (none))
theorem sizarlaw07_FactsRead.mono_l : ∀ k, (∀ y0 y1 y2 y3 y4 y5 y6 y7 y8 y9 y10, LeO (sizarlaw07_FactsRead.l0 k y0 y1 y2 y3 y4 y5 y6 y7 y8 y9 y10) (sizarlaw07_FactsRead.l0 (k + 1) y0 y1 y2 y3 y4 y5 y6 y7 y8 y9 y10)) ∧ (∀ y0 y1 y2 y3 y4 y5 y6 y7 y8 y9 y10 y11, LeO (sizarlaw07_FactsRead.l1 k y0 y1 y2 y3 y4 y5 y6 y7 y8 y9 y10 y11) (sizarlaw07_FactsRead.l1 (k + 1) y0 y1 y2 y3 y4 y5 y6 y7 y8 y9 y10 y11)) ∧ (∀ y0 y1 y2 y3 y4 y5 y6 y7 y8 y9 y10 y11 y12 y13 y14, LeO (sizarlaw07_FactsRead.j2 k y0 y1 y2 y3 y4 y5 y6 y7 y8 y9 y10 y11 y12 y13 y14) (sizarlaw07_FactsRead.j2 (k + 1) y0 y1 y2 y3 y4 y5 y6 y7 y8 y9 y10 y11 y12 y13 y14)) ∧ (∀ y0 y1 y2 y3 y4 y5 y6 y7 y8 y9 y10 y11 y12 y13 y14, LeO (sizarlaw07_FactsRead.j3 k y0 y1 y2 y3 y4 y5 y6 y7 y8 y9 y10 y11 y12 y13 y14) (sizarlaw07_FactsRead.j3 (k + 1) y0 y1 y2 y3 y4 y5 y6 y7 y8 y9 y10 y11 y12 y13 y14))
  | 0 => ⟨fun _ _ _ _ _ _ _ _ _ _ _ r h => by simp [sizarlaw07_FactsRead.l0] at h, fun _ _ _ _ _ _ _ _ _ _ _ _ r h => by simp [sizarlaw07_FactsRead.l1] at h, fun _ _ _ _ _ _ _ _ _ _ _ _ _ _ _ r h => by simp [sizarlaw07_FactsRead.j2] at h, fun _ _ _ _ _ _ _ _ _ _ _ _ _ _ _ r h => by simp [sizarlaw07_FactsRead.j3] at h⟩
  | k + 1 => by
    obtain ⟨ih0, ih1, ih2, ih3⟩ := sizarlaw07_FactsRead.mono_l k
    refine ⟨?_, ?_, ?_, ?_⟩
    · intro y0 y1 y2 y3 y4 y5 y6 y7 y8 y9 y10
      unfold sizarlaw07_FactsRead.l0
      repeat' first
      | (with_reducible exact ih0 _ _ _ _ _ _ _ _ _ _ _)
      | (with_reducible exact ih1 _ _ _ _ _ _ _ _ _ _ _ _)
      | (with_reducible exact ih2 _ _ _ _ _ _ _ _ _ _ _ _ _ _ _)
      | (with_reducible exact ih3 _ _ _ _ _ _ _ _ _ _ _ _ _ _ _)
      | (with_reducible exact facts_Alike.mono _ _ _ _ _)
      | (with_reducible exact sizarlaw07_sane.mono _)
      | (with_reducible exact LeO.refl _)
      | (with_reducible exact LeO.none _)
      | (with_reducible refine LeO.ite ?_ ?_)
      | (with_reducible refine LeO.bind ?_ (fun _ => ?_))
      | exact ih0 _ _ _ _ _ _ _ _ _ _ _
      | exact ih1 _ _ _ _ _ _ _ _ _ _ _ _
      | exact ih2 _ _ _ _ _ _ _ _ _ _ _ _ _ _ _
      | exact ih3 _ _ _ _ _ _ _ _ _ _ _ _ _ _ _
      | exact facts_Alike.mono _ _ _ _ _
      | exact sizarlaw07_sane.mono _
      | exact LeO.none _
      | refine LeO.ite ?_ ?_
      | refine LeO.bind ?_ (fun _ => ?_)
    · intro y0 y1 y2 y3 y4 y5 y6 y7 y8 y9 y10 y11
      unfold sizarlaw07_FactsRead.l1
      repeat' first
      | (with_reducible exact ih0 _ _ _ _ _ _ _ _ _ _ _)
      | (with_reducible exact ih1 _ _ _ _ _ _ _ _ _ _ _ _)
      | (with_reducible exact ih2 _ _ _ _ _ _ _ _ _ _ _ _ _ _ _)
      | (with_reducible exact ih3 _ _ _ _ _ _ _ _ _ _ _ _ _ _ _)
      | (with_reducible exact facts_Alike.mono _ _ _ _ _)
      | (with_reducible exact sizarlaw07_sane.mono _)
      | (with_reducible exact LeO.refl _)
      | (with_reducible exact LeO.none _)
      | (with_reducible refine LeO.ite ?_ ?_)
      | (with_reducible refine LeO.bind ?_ (fun _ => ?_))
      | exact ih0 _ _ _ _ _ _ _ _ _ _ _
      | exact ih1 _ _ _ _ _ _ _ _ _ _ _ _
      | exact ih2 _ _ _ _ _ _ _ _ _ _ _ _ _ _ _
      | exact ih3 _ _ _ _ _ _ _ _ _ _ _ _ _ _ _
      | exact facts_Alike.mono _ _ _ _ _
      | exact sizarlaw07_sane.mono _
      | exact LeO.none _
      | refine LeO.ite ?_ ?_
      | refine LeO.bind ?_ (fun _ => ?_)
    · intro y0 y1 y2 y3 y4 y5 y6 y7 y8 y9 y10 y11 y12 y13 y14
      unfold sizarlaw07_FactsRead.j2
      repeat' first
      | (with_reducible exact ih0 _ _ _ _ _ _ _ _ _ _ _)
      | (with_reducible exact ih1 _ _ _ _ _ _ _ _ _ _ _ _)
      | (with_reducible exact ih2 _ _ _ _ _ _ _ _ _ _ _ _ _ _ _)
      | (with_reducible exact ih3 _ _ _ _ _ _ _ _ _ _ _ _ _ _ _)
      | (with_reducible exact facts_Alike.mono _ _ _ _ _)
      | (with_reducible exact sizarlaw07_sane.mono _)
      | (with_reducible exact LeO.refl _)
      | (with_reducible exact LeO.none _)
      | (with_reducible refine LeO.ite ?_ ?_)
      | (with_reducible refine LeO.bind ?_ (fun _ => ?_))
      | exact ih0 _ _ _ _ _ _ _ _ _ _ _
      | exact ih1 _ _ _ _ _ _ _ _ _ _ _ _
      | exact ih2 _ _ _ _ _ _ _ _ _ _ _ _ _ _ _
      | exact ih3 _ _ _ _ _ _ _ _ _ _ _ _ _ _ _
      | exact facts_Alike.mono _ _ _ _ _
      | exact sizarlaw07_sane.mono _
      | exact LeO.none _
      | refine LeO.ite ?_ ?_
      | refine LeO.bind ?_ (fun _ => ?_)
    · intro y0 y1 y2 y3 y4 y5 y6 y7 y8 y9 y10 y11 y12 y13 y14
      unfold sizarlaw07_FactsRead.j3
      repeat' first
      | (with_reducible exact ih0 _ _ _ _ _ _ _ _ _ _ _)
      | (with_reducible exact ih1 _ _ _ _ _ _ _ _ _ _ _ _)
      | (with_reducible exact ih2 _ _ _ _ _ _ _ _ _ _ _ _ _ _ _)
      | (with_reducible exact ih3 _ _ _ _ _ _ _ _ _ _ _ _ _ _ _)
      | (with_reducible exact facts_Alike.mono _ _ _ _ _)
      | (with_reducible exact sizarlaw07_sane.mono _)
      | (with_reducible exact LeO.refl _)
      | (with_reducible exact LeO.none _)
      | (with_reducible refine LeO.ite ?_ ?_)
      | (with_reducible refine LeO.bind ?_ (fun _ => ?_))
      | exact ih0 _ _ _ _ _ _ _ _ _ _ _
      | exact ih1 _ _ _ _ _ _ _ _ _ _ _ _
      | exact ih2 _ _ _ _ _ _ _ _ _ _ _ _ _ _ _
      | exact ih3 _ _ _ _ _ _ _ _ _ _ _ _ _ _ _
      | exact facts_Alike.mono _ _ _ _ _
      | exact sizarlaw07_sane.mono _
      | exact LeO.none _
      | refine LeO.ite ?_ ?_
      | refine LeO.bind ?_ (fun _ => ?_)
theorem sizarlaw07_FactsRead.mono : ∀ a0 a1 a2 a3 a4 a5 a6 a7 k, LeO (sizarlaw07_FactsRead.f k a0 a1 a2 a3 a4 a5 a6 a7) (sizarlaw07_FactsRead.f (k + 1) a0 a1 a2 a3 a4 a5 a6 a7) := by
  intro a0 a1 a2 a3 a4 a5 a6 a7 k
  obtain ⟨ih0, ih1, ih2, ih3⟩ := sizarlaw07_FactsRead.mono_l k
  unfold sizarlaw07_FactsRead.f
  repeat' first
      | (with_reducible exact ih0 _ _ _ _ _ _ _ _ _ _ _)
      | (with_reducible exact ih1 _ _ _ _ _ _ _ _ _ _ _ _)
      | (with_reducible exact ih2 _ _ _ _ _ _ _ _ _ _ _ _ _ _ _)
      | (with_reducible exact ih3 _ _ _ _ _ _ _ _ _ _ _ _ _ _ _)
      | (with_reducible exact facts_Alike.mono _ _ _ _ _)
      | (with_reducible exact sizarlaw07_sane.mono _)
      | (with_reducible exact LeO.refl _)
      | (with_reducible exact LeO.none _)
      | (with_reducible refine LeO.ite ?_ ?_)
      | (with_reducible refine LeO.bind ?_ (fun _ => ?_))
      | exact ih0 _ _ _ _ _ _ _ _ _ _ _
      | exact ih1 _ _ _ _ _ _ _ _ _ _ _ _
      | exact ih2 _ _ _ _ _ _ _ _ _ _ _ _ _ _ _
      | exact ih3 _ _ _ _ _ _ _ _ _ _ _ _ _ _ _
      | exact facts_Alike.mono _ _ _ _ _
      | exact sizarlaw07_sane.mono _
      | exact LeO.none _
      | refine LeO.ite ?_ ?_
      | refine LeO.bind ?_ (fun _ => ?_)
def sizarlaw07_FactsRead.T14 : Bool × List (List Nat × List Nat) := (true, [([], []), ([0], [0]), ([], []), ([2], [2]), ([1, 3], [1, 3]), ([4], [4]), ([5], [5]), ([6, 5], [5, 6]), ([7, 5], [5, 7]), ([5, 8], [5, 8]), ([9, 5], [9]), ([10], [10]), ([11, 10], [10, 11]), ([12, 10], [10, 12]), ([10, 13], [10, 13]), ([14, 10], [14]), ([15], [15]), ([16, 15], [15, 16]), ([17, 15, 15], [15, 17]), ([18], [18]), ([18], [18]), ([19, 20, 18], [18, 19, 20]), ([21, 18], [18, 21]), ([22, 18], [18, 22]), ([18], [18]), ([24, 18], [18, 24]), ([23, 25, 18], [18, 23, 25]), ([26, 18], [18, 26]), ([27, 18], [18, 27]), ([18], [18]), ([29, 18], [18, 29]), ([28, 30, 18], [18, 28, 30]), ([18, 31, 15], [15, 18, 31]), ([15, 32], [15, 32])])
def sizarlaw07_FactsRead.B14 : List Nat := [0, 1, 0, 4, 15, 31, 63, 127, 255, 511, 1023, 2047, 4095, 8191, 16383, 32767, 65535, 131071, 262143, 524287, 524287, 2097151, 4194303, 8388607, 524287, 17301503, 67108863, 134217727, 268435455, 524287, 537395199, 2147483647, 4294967295, 8589934591]
theorem sizarlaw07_FactsRead.tab14 : rtab .any (opsOf Try.f9 14) = sizarlaw07_FactsRead.T14 := by kernel_rfl
theorem sizarlaw07_FactsRead.bits14 : waitsOk sizarlaw07_FactsRead.T14.2 sizarlaw07_FactsRead.B14 = true := by kernel_rfl
def sizarlaw07_FactsRead.T16 : Bool × List (List Nat × List Nat) := (true, [([], []), ([], []), ([], []), ([1, 2], [1, 2]), ([3], [3]), ([4], [4]), ([], []), ([6], [6]), ([], []), ([0, 5, 7, 8], [0, 5, 7, 8]), ([9], [9]), ([10], [10]), ([10], [10]), ([11, 9, 0, 1, 2, 3, 4, 5, 6, 7, 8, 9, 10, 11], [11]), ([12, 13, 0, 1, 2, 3, 4, 5, 6, 7, 8, 9, 10, 11, 12, 13], [12])])
def sizarlaw07_FactsRead.B16 : List Nat := [0, 0, 0, 6, 14, 30, 0, 64, 0, 511, 1023, 2047, 2047, 4095, 16383]
theorem sizarlaw07_FactsRead.tab16 : rtab .any (opsOf Try.f9 16) = sizarlaw07_FactsRead.T16 := by kernel_rfl
theorem sizarlaw07_FactsRead.bits16 : waitsOk sizarlaw07_FactsRead.T16.2 sizarlaw07_FactsRead.B16 = true := by kernel_rfl
def sizarlaw07_FactsRead.T17 : Bool × List (List Nat × List Nat) := (true, [([], []), ([], []), ([], []), ([1, 2], [1, 2]), ([3], [3]), ([4], [4]), ([], []), ([6], [6]), ([], []), ([0, 5, 7, 8], [0, 5, 7, 8]), ([9], [9]), ([10], [10]), ([10], [10]), ([11, 9, 0, 1, 2, 3, 4, 5, 6, 7, 8, 9, 10, 11], [11]), ([12, 13, 0, 1, 2, 3, 4, 5, 6, 7, 8, 9, 10, 11, 12, 13], [12])])
def sizarlaw07_FactsRead.B17 : List Nat := [0, 0, 0, 6, 14, 30, 0, 64, 0, 511, 1023, 2047, 2047, 4095, 16383]
theorem sizarlaw07_FactsRead.tab17 : rtab .any (opsOf Try.f9 17) = sizarlaw07_FactsRead.T17 := by kernel_rfl
theorem sizarlaw07_FactsRead.bits17 : waitsOk sizarlaw07_FactsRead.T17.2 sizarlaw07_FactsRead.B17 = true := by kernel_rfl
def sizarlaw07_FactsRead.T20 : Bool × List (List Nat × List Nat) := (true, [([], []), ([], []), ([0, 1], [0, 1]), ([2], [2]), ([3], [3]), ([], []), ([5], [5]), ([4, 6], [4, 6]), ([7], [7]), ([8], [8]), ([9, 8], [8, 9]), ([8], [8]), ([11, 8], [8, 11]), ([10, 12, 8], [8, 10, 12]), ([8], [8]), ([14, 8], [8, 14]), ([8], [8]), ([16, 8], [8, 16]), ([15, 17, 8], [8, 15, 17]), ([13, 18, 8], [8, 13, 18]), ([8, 19], [8, 19])])
def sizarlaw07_FactsRead.B20 : List Nat := [0, 0, 3, 7, 15, 0, 32, 127, 255, 511, 1023, 511, 2559, 8191, 511, 16895, 511, 66047, 246271, 524287, 1048575]
theorem sizarlaw07_FactsRead.tab20 : rtab .any (opsOf Try.f9 20) = sizarlaw07_FactsRead.T20 := by kernel_rfl
theorem sizarlaw07_FactsRead.bits20 : waitsOk sizarlaw07_FactsRead.T20.2 sizarlaw07_FactsRead.B20 = true := by kernel_rfl
set_option maxHeartbeats 8000000 in
set_option maxRecDepth 100000 in
theorem sizarlaw07_FactsRead.calls (k : Nat) (A0 : Option Addr) (c0 : Nat) (l0 : List (S28)) (a1_0 : Int) (a1_1 : Int) (a1_2 : Int) (a1_3 : Int) (a1_4 : Int) (a2 : Int) (a3 : Int) (r : Bool) (w : World) (hr0 : Kd.C k28 w A0 l0.length l0) (hc0 : l0.length ≤ c0) (h : sizarlaw07_FactsRead.f k l0 a1_0 a1_1 a1_2 a1_3 a1_4 a2 a3 = some r) :
    Calls Try.prog 9 #[.slice A0 l0.length c0, .agg #[.int .i64 a1_0, .int .i64 a1_1, .int .i64 a1_2, .int .i64 a1_3, .int .i64 a1_4], .int .i64 a2, .int .i64 a3] w fun e w' => e = .returned (.bool r) ∧ Below w.heap.size w w' := by
  have hu54 := Try.underlying54
  have hu26 := Try.underlying26
  have hu24 := Try.underlying24
  have HR0 := Aside0.mk hr0
  have HC0 := Aside0.mk hc0
  clear hr0 hc0
  have HB := Aside0.mk (Below.refl w.heap.size w)
  have H : ((sizarlaw07_sane.f k).bind fun t477 => (if t477 = true then (if (l0.length : Int) > 10 then (some true) else ((facts_Changed.f l0 a2 a3).bind fun t478 => (sizarlaw07_FactsRead.l0 k l0 a2 a3 t478 false 0 a1_0 a1_1 a1_2 a1_3 a1_4))) else (none))) = some r := h
  clear h
  replace H := Option.bind_eq_some_iff.mp H
  obtain ⟨t477, A50, H⟩ := H
  replace H : (if t477 = true then (if (l0.length : Int) > 10 then (some true) else ((facts_Changed.f l0 a2 a3).bind fun t478 => (sizarlaw07_FactsRead.l0 k l0 a2 a3 t478 false 0 a1_0 a1_1 a1_2 a1_3 a1_4))) else (none)) = some r := H
  have A5 := Aside0.mk A50
  clear A50
  by_cases c6 : t477 = true
  · subst c6
    have H1 : (if (l0.length : Int) > 10 then (some true) else ((facts_Changed.f l0 a2 a3).bind fun t478 => (sizarlaw07_FactsRead.l0 k l0 a2 a3 t478 false 0 a1_0 a1_1 a1_2 a1_3 a1_4))) = some r := by rw [if_pos rfl] at H; exact H
    clear H
    have H := H1
    clear H1
    by_cases c7 : (l0.length : Int) > 10
    · rw [if_pos c7] at H
      have c7b0 : decide (10 < (l0.length : Int)) = true := decide_eq_true c7
      have c7b1 : decide (10 < l0.length) = true := decide_eq_true (by omega)
      clear c7
      obtain rfl := Option.some.inj H
      go_enter Try.func9, Try.ntmps9
      go_wp2_with (first | ((with_reducible refine gate_dst (N := 5) rfl ?_); (try (refine gate_guard (by rfl) ?_; dsimp only)); refine box_event ?hg (N := 5) ?hd (cs := #[.int .i64 a1_0, .int .i64 a1_1, .int .i64 a1_2, .int .i64 a1_3, .int .i64 a1_4]) (t := 54) ?hr ?_; (case hd => rfl); (case hg => rfl); (case hr => first | (go_simp; done) | (go_simp; rfl)); intro gb476 hg w8 hbox hb; have n0_ := Aside0.mk (below_step (by repeat (first | (with_reducible first | exact HB.out | apply below_alloc | apply pw_below_drewN | apply below_drew1) | exact HB.out)) hb); have n1_ := Aside0.mk (hbox); have n2_ := Aside0.mk ((by rw [hg]; exact (below_size (by repeat (first | (with_reducible first | exact HB.out | apply below_alloc | apply pw_below_drewN | apply below_drew1) | exact HB.out))) : w.heap.size ≤ gb476)); have n3_ := Aside0.mk ((by rw [hg]; exact (below_size (by repeat (first | (with_reducible first | exact HB.out | apply below_alloc | apply pw_below_drewN | apply below_drew1) | exact HB.out))) : w.heap.size ≤ gb476)); clear HB; have HB := n0_; have BK476 := n1_; have GW476 := n2_; have GE476 := n3_; clear n0_ n1_ n2_ n3_; clear hb hbox hg) | ((with_reducible refine gate_callee (f := 11) rfl ?_); refine goesL_ (some 18) rfl rfl Try.func11 (by kernel_rfl) rfl #[] rfl (by (try simp only [List.map_toArray, List.map_cons, List.map_nil]); first | done | rfl | (simp only [List.length_drop, List.length_take]; rfl)) ?_; (with_reducible refine (sizarlaw07_sane.calls k  true _ A5.out).mono ?_); rintro e w9 ⟨rfl, hb⟩; refine ⟨_, rfl, ?_⟩; have n0_ := Aside0.mk (blk_below (g := gb476) (o := .cells #[.int .i64 a1_0, .int .i64 a1_1, .int .i64 a1_2, .int .i64 a1_3, .int .i64 a1_4] 54 (0, 0)) (by (with_reducible repeat (first | refine blk_drewN ?_ _ | refine blk_drew ?_ | refine blk_alloc ?_ _)); exact BK476.out) hb); have n1_ := Aside0.mk (below_step (by repeat (first | (with_reducible first | exact HB.out | apply below_alloc | apply pw_below_drewN | apply below_drew1 | refine below_set ?_ GE476.out) | exact HB.out)) hb); clear BK476; clear HB; have BK476 := n0_; have HB := n1_; clear n0_ n1_; (try clear hb); (try clear hb2); (try clear hk); (try clear hi)))
      go_ret
      exact ⟨by first | rfl | (simp [errW_none, errW_some] <;> rfl) | (simp [*, errW_none, errW_some] <;> rfl), by repeat (first | (with_reducible first | exact HB.out | apply below_alloc | apply pw_below_drewN | apply below_drew1 | refine below_set ?_ GE476.out) | exact HB.out)⟩
    · rw [if_neg c7] at H
      have c7b0 : decide (10 < (l0.length : Int)) = false := decide_eq_false c7
      have c7b1 : decide (10 < l0.length) = false := decide_eq_false (by omega)
      clear c7
      replace H := Option.bind_eq_some_iff.mp H
      obtain ⟨t478, A100, H⟩ := H
      replace H : (sizarlaw07_FactsRead.l0 k l0 a2 a3 t478 false 0 a1_0 a1_1 a1_2 a1_3 a1_4) = some r := H
      have A10 := Aside0.mk A100
      clear A100
      have H' := Aside0.mk H
      clear H
      go_enter Try.func9, Try.ntmps9
      go_wp2_with (first | ((with_reducible refine gate_dst (N := 5) rfl ?_); (try (refine gate_guard (by rfl) ?_; dsimp only)); refine box_event ?hg (N := 5) ?hd (cs := #[.int .i64 a1_0, .int .i64 a1_1, .int .i64 a1_2, .int .i64 a1_3, .int .i64 a1_4]) (t := 54) ?hr ?_; (case hd => rfl); (case hg => rfl); (case hr => first | (go_simp; done) | (go_simp; rfl)); intro gb476 hg w11 hbox hb; have n0_ := Aside0.mk (below_step (by repeat (first | (with_reducible first | exact HB.out | apply below_alloc | apply pw_below_drewN | apply below_drew1) | exact HB.out)) hb); have n1_ := Aside0.mk (hbox); have n2_ := Aside0.mk ((by rw [hg]; exact (below_size (by repeat (first | (with_reducible first | exact HB.out | apply below_alloc | apply pw_below_drewN | apply below_drew1) | exact HB.out))) : w.heap.size ≤ gb476)); have n3_ := Aside0.mk ((by rw [hg]; exact (below_size (by repeat (first | (with_reducible first | exact HB.out | apply below_alloc | apply pw_below_drewN | apply below_drew1) | exact HB.out))) : w.heap.size ≤ gb476)); clear HB; have HB := n0_; have BK476 := n1_; have GW476 := n2_; have GE476 := n3_; clear n0_ n1_ n2_ n3_; clear hb hbox hg) | ((with_reducible refine gate_callee (f := 11) rfl ?_); refine goesL_ (some 18) rfl rfl Try.func11 (by kernel_rfl) rfl #[] rfl (by (try simp only [List.map_toArray, List.map_cons, List.map_nil]); first | done | rfl | (simp only [List.length_drop, List.length_take]; rfl)) ?_; (with_reducible refine (sizarlaw07_sane.calls k  true _ A5.out).mono ?_); rintro e w12 ⟨rfl, hb⟩; refine ⟨_, rfl, ?_⟩; have n0_ := Aside0.mk (blk_below (g := gb476) (o := .cells #[.int .i64 a1_0, .int .i64 a1_1, .int .i64 a1_2, .int .i64 a1_3, .int .i64 a1_4] 54 (0, 0)) (by (with_reducible repeat (first | refine blk_drewN ?_ _ | refine blk_drew ?_ | refine blk_alloc ?_ _)); exact BK476.out) hb); have n1_ := Aside0.mk (below_step (by repeat (first | (with_reducible first | exact HB.out | apply below_alloc | apply pw_below_drewN | apply below_drew1 | refine below_set ?_ GE476.out) | exact HB.out)) hb); clear BK476; clear HB; have BK476 := n0_; have HB := n1_; clear n0_ n1_; (try clear hb); (try clear hb2); (try clear hk); (try clear hi)) | ((with_reducible refine gate_callee (f := 24) rfl ?_); refine goesL_ (some 26) rfl rfl Try.func24 (by kernel_rfl) rfl #[.slice A0 l0.length c0, .int .i64 a2, .int .i64 a3] rfl (by (try simp only [List.map_toArray, List.map_cons, List.map_nil]); first | done | rfl | (simp only [List.length_drop, List.length_take]; rfl)) ?_; (with_reducible refine (facts_Changed.calls _ _ l0 a2 a3 t478 _ ?side1 ?side2 A10.out).mono ?_); (case side1 => repeat (first | exact (Kd.C_below HR0.out HB.out) | (with_reducible refine Kd.C_alloc ?_ _) | (with_reducible refine Kd.C_drewN ?_ _) | (with_reducible refine Kd.C_drew ?_))); (case side2 => exact HC0.out); rintro e w13 ⟨v479, rfl, ho0, hb⟩; refine ⟨_, rfl, ?_⟩; have n0_ := Aside0.mk (Kd.S_lower ho0 (below_size (by repeat (first | (with_reducible first | exact HB.out | apply below_alloc | apply pw_below_drewN | apply below_drew1 | refine below_set ?_ GE476.out) | exact HB.out)))); have n1_ := Aside0.mk (blk_below (g := gb476) (o := .cells #[.int .i64 a1_0, .int .i64 a1_1, .int .i64 a1_2, .int .i64 a1_3, .int .i64 a1_4] 54 (0, 0)) (by (with_reducible repeat (first | refine blk_drewN ?_ _ | refine blk_drew ?_ | refine blk_alloc ?_ _)); exact BK476.out) hb); have n2_ := Aside0.mk (below_step (by repeat (first | (with_reducible first | exact HB.out | apply below_alloc | apply pw_below_drewN | apply below_drew1 | refine below_set ?_ GE476.out) | exact HB.out)) hb); clear BK476; clear HB; have HO480 := n0_; have BK476 := n1_; have HB := n2_; clear n0_ n1_ n2_; (try clear hb); (try clear hb2); (try clear hk); (try clear hi); (try clear ho0)))
      go_loopg [10, 11] k (fun kq v10 v11 w' => ∃ (x10_1 : Bool) (x11_1 : Int), v10 = .bool x10_1 ∧ v11 = .int .i64 x11_1 ∧ Aside0 (sizarlaw07_FactsRead.l0 kq l0 a2 a3 t478 x10_1 x11_1 a1_0 a1_1 a1_2 a1_3 a1_4 = some r) ∧ Aside0 (kq ≤ k) ∧ Aside0 (Kd.S k57 57 w' w.heap.size (fun _ => True) v479 t478) ∧ Aside0 (w'.heap[gb476]? = some (.cells #[.int .i64 a1_0, .int .i64 a1_1, .int .i64 a1_2, .int .i64 a1_3, .int .i64 a1_4] 54 (0, 0))) ∧ Aside0 (Below w.heap.size w w'))
      case atStart => exact ⟨(false), (0), (by first | rfl | (simp; done) | (simp [*]; done)), (by first | rfl | (simp; done) | (simp [*]; done)), H', ⟨Nat.le_refl _⟩, ⟨by (with_reducible repeat (first | apply Kd.S_alloc | apply Kd.S_drewN | apply Kd.S_drew)); exact HO480.out⟩, ⟨by (with_reducible repeat (first | refine blk_drewN ?_ _ | refine blk_drew ?_ | refine blk_alloc ?_ _)); exact BK476.out⟩, ⟨by repeat (first | (with_reducible first | exact HB.out | apply below_alloc | apply pw_below_drewN | apply below_drew1 | refine below_set ?_ GE476.out) | exact HB.out)⟩⟩
      case round =>
        clear H'
        try clear c1
        try clear c2
        try clear p2
        try clear c6
        try clear c7
        try clear c7b0
        try clear c7b1
        try clear c9
        try clear c11
        obtain ⟨x10_1, x11_1, rfl, rfl, HA, HK1, HO_9, BK476, HB⟩ := hrel
        cases gk with
        | zero => exact absurd HA.out (by simp [sizarlaw07_FactsRead.l0])
        | succ k1 =>
          have H := HA.out
          clear HA
          simp only [sizarlaw07_FactsRead.l0] at H
          by_cases c14 : x11_1 < (t478.length : Int)
          · rw [if_pos c14] at H
            have c14b0 : decide (x11_1 < (t478.length : Int)) = true := decide_eq_true c14
            clear c14
            have H' := Aside0.mk H
            clear H
            obtain ⟨Ao15, co15, eo15⟩ := Kd.S_slice HO_9.out
            subst eo15
            go_wp2
            go_loopg [10, 12] k1 (fun kq v10 v12 w' => ∃ (x10_2 : Bool) (x12_2 : Int), v10 = .bool x10_2 ∧ v12 = .int .i64 x12_2 ∧ Aside0 (sizarlaw07_FactsRead.l1 kq l0 a2 a3 t478 x10_2 x11_1 x12_2 a1_0 a1_1 a1_2 a1_3 a1_4 = some r) ∧ Aside0 (kq ≤ k1) ∧ Aside0 (Kd.S k57 57 w' w.heap.size (fun _ => True) (.slice Ao15 t478.length co15) t478) ∧ Aside0 (w'.heap[gb476]? = some (.cells #[.int .i64 a1_0, .int .i64 a1_1, .int .i64 a1_2, .int .i64 a1_3, .int .i64 a1_4] 54 (0, 0))) ∧ Aside0 (Below w.heap.size w w'))
            case atStart => exact ⟨(x10_1), (0), (by first | rfl | (simp; done) | (simp [*]; done)), (by first | rfl | (simp; done) | (simp [*]; done)), H', ⟨Nat.le_refl _⟩, ⟨by (with_reducible repeat (first | apply Kd.S_alloc | apply Kd.S_drewN | apply Kd.S_drew)); exact HO_9.out⟩, ⟨by (with_reducible repeat (first | refine blk_drewN ?_ _ | refine blk_drew ?_ | refine blk_alloc ?_ _)); exact BK476.out⟩, ⟨by repeat (first | (with_reducible first | exact HB.out | apply below_alloc | apply pw_below_drewN | apply below_drew1 | refine below_set ?_ GE476.out) | exact HB.out)⟩⟩
            case round =>
              clear H'
              try clear c1
              try clear c2
              try clear p2
              try clear c6
              try clear c7
              try clear c7b0
              try clear c7b1
              try clear c9
              try clear c11
              try clear c14
              try clear c14b0
              try clear p2
              obtain ⟨x10_2, x12_2, rfl, rfl, HA, HK2, HO_9, BK476, HB⟩ := hrel
              cases gk with
              | zero => exact absurd HA.out (by simp [sizarlaw07_FactsRead.l1])
              | succ k2 =>
                have H := HA.out
                clear HA
                simp only [sizarlaw07_FactsRead.l1] at H
                by_cases c16 : 0 ≤ x11_1
                · rw [if_pos c16] at H
                  have c16b0 : decide (0 ≤ x11_1) = true := decide_eq_true c16
                  clear c16
                  by_cases c17 : x11_1 < (t478.length : Int)
                  · rw [if_pos c17] at H
                    have c17b0 : decide (x11_1 < (t478.length : Int)) = true := decide_eq_true c17
                    clear c17
                    by_cases c18 : x12_2 < (((rd_T57 t478 x11_1).f1).length : Int)
                    · rw [if_pos c18] at H
                      have c18b0 : decide (x12_2 < (((rd_T57 t478 x11_1).f1).length : Int)) = true := decide_eq_true c18
                      clear c18
                      by_cases c19 : 0 ≤ x12_2
                      · rw [if_pos c19] at H
                        have c19b0 : decide (0 ≤ x12_2) = true := decide_eq_true c19
                        clear c19
                        have HC20 := Aside0.mk H
                        clear H
                        have p485 : 0 ≤ (x11_1 : Int) := of_decide_eq_true (by first | (with_reducible assumption) | assumption)
                        have q485 : x11_1 < (t478.length : Int) := of_decide_eq_true (by first | (with_reducible assumption) | assumption)
                        obtain ⟨ad485, A485_3, c485_3, e485, hx485_0, hx485_1, hx485_2, hx485_3, hl485_3, hi485_3⟩ := at_T57 (Kd.S_reads' HO_9.out).2.2 x11_1 p485 q485
                        cases e485
                        obtain ⟨ce485, hce485, hMe485, hcc485⟩ := Kd.S_get HO_9.out z57 x11_1 p485 (by first | exact q485 | exact of_decide_eq_true (by first | (with_reducible assumption) | assumption) | (have e_ := (Kd.S_reads' HO_9.out).1; omega))
                        obtain ⟨ve485_3, rfl, ge485_3⟩ := k57_openM hMe485
                        have hv485_3 := hcc485 3 _ rfl
                        rw [add_field _ _ 3 (by omega)] at hv485_3
                        replace hv485_3 := Option.some.inj (hv485_3.symm.trans hx485_3)
                        rw [hv485_3] at ge485_3
                        have HL485_3 := Aside0.mk (show Kd.R k26 26 _ _ _ _ ((rd_T57 t478 x11_1).f1) from ge485_3)
                        clear hv485_3 ge485_3
                        clear hcc485 hce485
                        have HR485_3 := Aside0.mk hi485_3
                        have HC485_3 := Aside0.mk hl485_3
                        clear hi485_3 hl485_3
                        replace p485 := eq_true p485
                        replace q485 := eq_true q485
                        have p486 : 0 ≤ (x11_1 : Int) := of_decide_eq_true (by first | (with_reducible assumption) | assumption)
                        have q486 : x11_1 < (t478.length : Int) := of_decide_eq_true (by first | (with_reducible assumption) | assumption)
                        obtain ⟨ad486, A486_3, c486_3, e486, hx486_0, hx486_1, hx486_2, hx486_3, hl486_3, hi486_3⟩ := at_T57 (Kd.S_reads' HO_9.out).2.2 x11_1 p486 q486
                        obtain rfl : ad485 = ad486 := (by injection e486)
                        obtain ⟨ce486, hce486, hMe486, hcc486⟩ := Kd.S_get HO_9.out z57 x11_1 p486 (by first | exact q486 | exact of_decide_eq_true (by first | (with_reducible assumption) | assumption) | (have e_ := (Kd.S_reads' HO_9.out).1; omega))
                        obtain ⟨ve486_3, rfl, ge486_3⟩ := k57_openM hMe486
                        have hv486_3 := hcc486 3 _ rfl
                        rw [add_field _ _ 3 (by omega)] at hv486_3
                        replace hv486_3 := Option.some.inj (hv486_3.symm.trans hx486_3)
                        rw [hv486_3] at ge486_3
                        have HL486_3 := Aside0.mk (show Kd.R k26 26 _ _ _ _ ((rd_T57 t478 x11_1).f1) from ge486_3)
                        clear hv486_3 ge486_3
                        clear hcc486 hce486
                        have HR486_3 := Aside0.mk hi486_3
                        have HC486_3 := Aside0.mk hl486_3
                        clear hi486_3 hl486_3
                        replace p486 := eq_true p486
                        replace q486 := eq_true q486
                        have ea_ := Option.some.inj (hx485_3.symm.trans hx486_3)
                        injection ea_ with ea_ en_ ec_
                        subst ea_
                        subst ec_
                        clear en_
                        have p487 : 0 ≤ (x12_2 : Int) := of_decide_eq_true (by first | (with_reducible assumption) | assumption)
                        have q487 : x12_2 < (((rd_T57 t478 x11_1).f1).length : Int) := of_decide_eq_true (by first | (with_reducible assumption) | assumption)
                        obtain ⟨ad487, e487, hx487_0, hx487_1⟩ := at_T26 (by repeat (first | (with_reducible exact HR486_3.out) | (with_reducible refine Kd.C_alloc ?_ _) | (with_reducible refine Kd.C_drewN ?_ _) | (with_reducible refine Kd.C_drew ?_) | exact HR486_3.out)) x12_2 p487 q487
                        cases e487
                        replace p487 := eq_true p487
                        replace q487 := eq_true q487
                        go_upto_region 14 with (first | ((with_reducible refine gate_dst (N := 13) rfl ?_); (try (refine gate_guard (by rfl) ?_; dsimp only)); refine box_event ?hg (N := 13) ?hd (cs := #[.int .i64 0, .int .i64 0]) (t := 26) ?hr ?_; (case hd => rfl); (case hg => rfl); (case hr => first | (go_simp; done) | (go_simp; rfl)); intro gb488 hg w21 hbox hb; have n0_ := Aside0.mk (Kd.S_below (Kd.S_elderB (by (with_reducible repeat (first | apply Kd.S_alloc | apply Kd.S_drewN | apply Kd.S_drew)); exact HO_9.out) gb488 (Nat.le_of_eq hg.symm)) hb); have n1_ := Aside0.mk (Kd.R_below (Kd.R_elderB (by (with_reducible repeat (first | apply Kd.R_alloc | apply Kd.R_drewN | apply Kd.R_drew)); exact HL485_3.out) gb488 (Nat.le_of_eq hg.symm)) hb); have n2_ := Aside0.mk (Kd.R_below (Kd.R_elderB (by (with_reducible repeat (first | apply Kd.R_alloc | apply Kd.R_drewN | apply Kd.R_drew)); exact HL486_3.out) gb488 (Nat.le_of_eq hg.symm)) hb); have n3_ := Aside0.mk (blk_below (g := gb476) (o := .cells #[.int .i64 a1_0, .int .i64 a1_1, .int .i64 a1_2, .int .i64 a1_3, .int .i64 a1_4] 54 (0, 0)) (by (with_reducible repeat (first | refine blk_drewN ?_ _ | refine blk_drew ?_ | refine blk_alloc ?_ _)); exact BK476.out) hb); have n4_ := Aside0.mk (Kd.C_below (by repeat (first | (with_reducible exact HR485_3.out) | (with_reducible refine Kd.C_alloc ?_ _) | (with_reducible refine Kd.C_drewN ?_ _) | (with_reducible refine Kd.C_drew ?_) | exact HR485_3.out)) hb); have n5_ := Aside0.mk (Kd.C_below (by repeat (first | (with_reducible exact HR486_3.out) | (with_reducible refine Kd.C_alloc ?_ _) | (with_reducible refine Kd.C_drewN ?_ _) | (with_reducible refine Kd.C_drew ?_) | exact HR486_3.out)) hb); have n6_ := Aside0.mk (below_step (by repeat (first | (with_reducible first | exact HB.out | apply below_alloc | apply pw_below_drewN | apply below_drew1 | refine below_set ?_ GE476.out) | exact HB.out)) hb); have n7_ := Aside0.mk (hbox); have n8_ := Aside0.mk ((by rw [hg]; exact (below_size (by repeat (first | (with_reducible first | exact HB.out | apply below_alloc | apply pw_below_drewN | apply below_drew1 | refine below_set ?_ GE476.out) | exact HB.out))) : w.heap.size ≤ gb488)); have n9_ := Aside0.mk ((by rw [hg]; exact (below_size (by repeat (first | (with_reducible first | exact HB.out | apply below_alloc | apply pw_below_drewN | apply below_drew1 | refine below_set ?_ GE476.out) | exact HB.out))) : w.heap.size ≤ gb488)); have n10_ := Aside0.mk ((by rw [hg]; exact Nat.ne_of_lt (blk_lt (g := gb476) (o := .cells #[.int .i64 a1_0, .int .i64 a1_1, .int .i64 a1_2, .int .i64 a1_3, .int .i64 a1_4] 54 (0, 0)) (by (with_reducible repeat (first | refine blk_drewN ?_ _ | refine blk_drew ?_ | refine blk_alloc ?_ _)); exact BK476.out)) : gb476 ≠ gb488)); have n11_ := Aside0.mk ((by rw [hg]; exact Nat.ne_of_gt (blk_lt (g := gb476) (o := .cells #[.int .i64 a1_0, .int .i64 a1_1, .int .i64 a1_2, .int .i64 a1_3, .int .i64 a1_4] 54 (0, 0)) (by (with_reducible repeat (first | refine blk_drewN ?_ _ | refine blk_drew ?_ | refine blk_alloc ?_ _)); exact BK476.out)) : gb488 ≠ gb476)); clear HO_9; clear HL485_3; clear HL486_3; clear BK476; clear HR485_3; clear HR486_3; clear HB; have HO_9 := n0_; have HL485_3 := n1_; have HL486_3 := n2_; have BK476 := n3_; have HR485_3 := n4_; have HR486_3 := n5_; have HB := n6_; have BK488 := n7_; have GW488 := n8_; have GE488 := n9_; have NB476_488 := n10_; have NB488_476 := n11_; clear n0_ n1_ n2_ n3_ n4_ n5_ n6_ n7_ n8_ n9_ n10_ n11_; clear hb hbox hg; have hnb22 := NB488_476.out; have hnc22 := NB476_488.out; have hcz23_0 : w21.cell? ⟨gb488, 0, none⟩ = some (.int .i64 0) := (blk_cell BK488.out 0).trans rfl; have hcz23_1 : w21.cell? ⟨gb488, 1, none⟩ = some (.int .i64 0) := (blk_cell BK488.out 1).trans rfl; have hfz23_0 := blk_frozen BK488.out 0; have hfz23_1 := blk_frozen BK488.out 1))
                        (try simp only [Act.put, List.setIfInBounds_toArray, List.set_cons_zero, List.set_cons_succ])
                        go_cut [84] (fun v84 wc => ∃ (kq : Nat) (x84_19 : Bool), v84 = .bool x84_19 ∧ Aside0 (sizarlaw07_FactsRead.j2 kq l0 a2 a3 t478 x10_2 x11_1 x12_2 x84_19 a1_0 a1_1 a1_2 a1_3 a1_4 ((rd_T26 ((rd_T57 t478 x11_1).f1) x12_2).f0) ((rd_T26 ((rd_T57 t478 x11_1).f1) x12_2).f1) = some r) ∧ Aside0 (kq ≤ k2) ∧ Aside0 (Kd.S k57 57 wc w.heap.size (fun k_ => k_ ≠ gb488) (.slice (some ad485) t478.length co15) t478) ∧ Aside0 (wc.heap[gb476]? = some (.cells #[.int .i64 a1_0, .int .i64 a1_1, .int .i64 a1_2, .int .i64 a1_3, .int .i64 a1_4] 54 (0, 0))) ∧ Aside0 (wc.heap[gb488]? = some (.cells #[.int .i64 ((rd_T26 ((rd_T57 t478 x11_1).f1) x12_2).f0), .int .i64 ((rd_T26 ((rd_T57 t478 x11_1).f1) x12_2).f1)] 26 (0, 0))) ∧ Aside0 (Below w.heap.size w wc))
                        case first =>
                          have H := HC20.out
                          clear HC20
                          by_cases c24 : ((rd_T26 ((rd_T57 t478 x11_1).f1) x12_2).f0) ≥ ((rd_T26 ((rd_T57 t478 x11_1).f1) x12_2).f1)
                          · rw [if_pos c24] at H
                            have c24b0 : decide (((rd_T26 ((rd_T57 t478 x11_1).f1) x12_2).f1) ≤ ((rd_T26 ((rd_T57 t478 x11_1).f1) x12_2).f0)) = true := decide_eq_true c24
                            clear c24
                            (first | rw [c24b0] | (simp only [i64_w, i32_w]; rw [c24b0]) | skip)
                            exact absurd H (by simp)
                          · rw [if_neg c24] at H
                            have c24b0 : decide (((rd_T26 ((rd_T57 t478 x11_1).f1) x12_2).f1) ≤ ((rd_T26 ((rd_T57 t478 x11_1).f1) x12_2).f0)) = false := decide_eq_false c24
                            clear c24
                            (first | rw [c24b0] | (simp only [i64_w, i32_w]; rw [c24b0]) | skip)
                            by_cases c25 : ((rd_T26 ((rd_T57 t478 x11_1).f1) x12_2).f0) < 0
                            · rw [if_pos c25] at H
                              have c25b0 : decide (((rd_T26 ((rd_T57 t478 x11_1).f1) x12_2).f0) < 0) = true := decide_eq_true c25
                              clear c25
                              exact absurd H (by simp)
                            · rw [if_neg c25] at H
                              have c25b0 : decide (((rd_T26 ((rd_T57 t478 x11_1).f1) x12_2).f0) < 0) = false := decide_eq_false c25
                              clear c25
                              by_cases c26 : ((rd_T26 ((rd_T57 t478 x11_1).f1) x12_2).f1) > 1024
                              · rw [if_pos c26] at H
                                have c26b0 : decide (1024 < ((rd_T26 ((rd_T57 t478 x11_1).f1) x12_2).f1)) = true := decide_eq_true c26
                                clear c26
                                exact absurd H (by simp)
                              · rw [if_neg c26] at H
                                have c26b0 : decide (1024 < ((rd_T26 ((rd_T57 t478 x11_1).f1) x12_2).f1)) = false := decide_eq_false c26
                                clear c26
                                by_cases c27 : x12_2 > 0
                                · rw [if_pos c27] at H
                                  have c27b0 : decide (0 < x12_2) = true := decide_eq_true c27
                                  clear c27
                                  obtain ⟨ji28, hji28⟩ : ∃ j_ : Int, (wrap64 (x12_2 - 1)) = j_ := ⟨_, rfl⟩
                                  replace H : (if 0 ≤ (ji28) then (if (ji28) < (((rd_T57 t478 x11_1).f1).length : Int) then (sizarlaw07_FactsRead.j2 k2 l0 a2 a3 t478 x10_2 x11_1 x12_2 (decide (((rd_T26 ((rd_T57 t478 x11_1).f1) (ji28)).f1) ≥ ((rd_T26 ((rd_T57 t478 x11_1).f1) x12_2).f0))) a1_0 a1_1 a1_2 a1_3 a1_4 ((rd_T26 ((rd_T57 t478 x11_1).f1) x12_2).f0) ((rd_T26 ((rd_T57 t478 x11_1).f1) x12_2).f1)) else (none)) else (none)) = some r := by first | (rw [hji28] at H; exact H) | (simp only [hji28] at H ⊢; exact H)
                                  have hji28w : (IntKind.i64.wrap (x12_2 - 1)) = ji28 := (i64_w _).trans hji28
                                  by_cases c29 : 0 ≤ (ji28)
                                  · rw [if_pos c29] at H
                                    have c29b0 : decide (0 ≤ (ji28)) = true := decide_eq_true c29
                                    clear c29
                                    by_cases c30 : (ji28) < (((rd_T57 t478 x11_1).f1).length : Int)
                                    · rw [if_pos c30] at H
                                      have c30b0 : decide ((ji28) < (((rd_T57 t478 x11_1).f1).length : Int)) = true := decide_eq_true c30
                                      clear c30
                                      have H' := Aside0.mk H
                                      clear H
                                      try go_wp2
                                      have n0_ : Aside0 (Kd.S k57 57 ((w21.setCell ⟨gb488, 0, none⟩ (.int .i64 ((rd_T26 ((rd_T57 t478 x11_1).f1) x12_2).f0))).setCell ⟨gb488, 1, none⟩ (.int .i64 ((rd_T26 ((rd_T57 t478 x11_1).f1) x12_2).f1))) w.heap.size (fun k_ => k_ ≠ gb488) (.slice (some ad485) t478.length co15) t478) := ⟨by (with_reducible repeat (first | apply Kd.S_alloc | apply Kd.S_drewN | apply Kd.S_drew)); exact Kd.S_mono (Kd.S_far (p := ⟨gb488, 1, none⟩) (Kd.S_far (p := ⟨gb488, 0, none⟩) (Kd.S_mono HO_9.out (fun k_ hk => (⟨hk, hk.2⟩ : _ ∧ k_ ≠ gb488))) (fun _ hk => hk.2) (.int .i64 ((rd_T26 ((rd_T57 t478 x11_1).f1) x12_2).f0))) (fun _ hk => hk.2) (.int .i64 ((rd_T26 ((rd_T57 t478 x11_1).f1) x12_2).f1))) (fun _ hk => hk.1.2)⟩
                                      have n1_ : Aside0 (Kd.R k26 26 ((w21.setCell ⟨gb488, 0, none⟩ (.int .i64 ((rd_T26 ((rd_T57 t478 x11_1).f1) x12_2).f0))).setCell ⟨gb488, 1, none⟩ (.int .i64 ((rd_T26 ((rd_T57 t478 x11_1).f1) x12_2).f1))) w.heap.size (fun k_ => some k_ ≠ (.slice (some ad485) t478.length co15 : Value).ownBlock ∧ k_ ≠ gb488) (.slice (some ad487) ((rd_T57 t478 x11_1).f1).length c485_3) ((rd_T57 t478 x11_1).f1)) := ⟨by (with_reducible repeat (first | apply Kd.R_alloc | apply Kd.R_drewN | apply Kd.R_drew)); exact Kd.R_mono (Kd.R_far (p := ⟨gb488, 1, none⟩) (Kd.R_far (p := ⟨gb488, 0, none⟩) (Kd.R_mono HL485_3.out (fun k_ hk => (⟨hk, hk.2⟩ : _ ∧ k_ ≠ gb488))) (fun _ hk => hk.2) (.int .i64 ((rd_T26 ((rd_T57 t478 x11_1).f1) x12_2).f0))) (fun _ hk => hk.2) (.int .i64 ((rd_T26 ((rd_T57 t478 x11_1).f1) x12_2).f1))) (fun _ hk => ⟨hk.1.1.2, hk.1.2⟩)⟩
                                      have n2_ : Aside0 (Kd.R k26 26 ((w21.setCell ⟨gb488, 0, none⟩ (.int .i64 ((rd_T26 ((rd_T57 t478 x11_1).f1) x12_2).f0))).setCell ⟨gb488, 1, none⟩ (.int .i64 ((rd_T26 ((rd_T57 t478 x11_1).f1) x12_2).f1))) w.heap.size (fun k_ => some k_ ≠ (.slice (some ad485) t478.length co15 : Value).ownBlock ∧ k_ ≠ gb488) (.slice (some ad487) ((rd_T57 t478 x11_1).f1).length c485_3) ((rd_T57 t478 x11_1).f1)) := ⟨by (with_reducible repeat (first | apply Kd.R_alloc | apply Kd.R_drewN | apply Kd.R_drew)); exact Kd.R_mono (Kd.R_far (p := ⟨gb488, 1, none⟩) (Kd.R_far (p := ⟨gb488, 0, none⟩) (Kd.R_mono HL486_3.out (fun k_ hk => (⟨hk, hk.2⟩ : _ ∧ k_ ≠ gb488))) (fun _ hk => hk.2) (.int .i64 ((rd_T26 ((rd_T57 t478 x11_1).f1) x12_2).f0))) (fun _ hk => hk.2) (.int .i64 ((rd_T26 ((rd_T57 t478 x11_1).f1) x12_2).f1))) (fun _ hk => ⟨hk.1.1.2, hk.1.2⟩)⟩
                                      have n3_ : Aside0 (((w21.setCell ⟨gb488, 0, none⟩ (.int .i64 ((rd_T26 ((rd_T57 t478 x11_1).f1) x12_2).f0))).setCell ⟨gb488, 1, none⟩ (.int .i64 ((rd_T26 ((rd_T57 t478 x11_1).f1) x12_2).f1))).heap[gb476]? = some (.cells #[.int .i64 a1_0, .int .i64 a1_1, .int .i64 a1_2, .int .i64 a1_3, .int .i64 a1_4] 54 (0, 0))) := ⟨by (with_reducible repeat (first | refine blk_drewN ?_ _ | refine blk_drew ?_ | refine blk_alloc ?_ _)); refine blk_far ?_ NB476_488.out _; (with_reducible repeat (first | refine blk_drewN ?_ _ | refine blk_drew ?_ | refine blk_alloc ?_ _)); refine blk_far ?_ NB476_488.out _; (with_reducible repeat (first | refine blk_drewN ?_ _ | refine blk_drew ?_ | refine blk_alloc ?_ _)); exact BK476.out⟩
                                      have n4_ : Aside0 (((w21.setCell ⟨gb488, 0, none⟩ (.int .i64 ((rd_T26 ((rd_T57 t478 x11_1).f1) x12_2).f0))).setCell ⟨gb488, 1, none⟩ (.int .i64 ((rd_T26 ((rd_T57 t478 x11_1).f1) x12_2).f1))).heap[gb488]? = some (.cells #[.int .i64 ((rd_T26 ((rd_T57 t478 x11_1).f1) x12_2).f0), .int .i64 ((rd_T26 ((rd_T57 t478 x11_1).f1) x12_2).f1)] 26 (0, 0))) := ⟨by (with_reducible repeat (first | refine blk_drewN ?_ _ | refine blk_drew ?_ | refine blk_alloc ?_ _)); refine blk_put (cs := #[.int .i64 ((rd_T26 ((rd_T57 t478 x11_1).f1) x12_2).f0), .int .i64 0]) ?_ 1 _ rfl; (with_reducible repeat (first | refine blk_drewN ?_ _ | refine blk_drew ?_ | refine blk_alloc ?_ _)); refine blk_put (cs := #[.int .i64 0, .int .i64 0]) ?_ 0 _ rfl; (with_reducible repeat (first | refine blk_drewN ?_ _ | refine blk_drew ?_ | refine blk_alloc ?_ _)); exact BK488.out⟩
                                      have n5_ : Aside0 (Below w.heap.size w ((w21.setCell ⟨gb488, 0, none⟩ (.int .i64 ((rd_T26 ((rd_T57 t478 x11_1).f1) x12_2).f0))).setCell ⟨gb488, 1, none⟩ (.int .i64 ((rd_T26 ((rd_T57 t478 x11_1).f1) x12_2).f1)))) := ⟨by repeat (first | (with_reducible first | exact HB.out | apply below_alloc | apply pw_below_drewN | apply below_drew1 | refine below_set ?_ GE476.out | refine below_set ?_ GE488.out) | exact HB.out)⟩
                                      (try clear HO_9)
                                      (try clear HL485_3)
                                      (try clear HL486_3)
                                      (try clear BK476)
                                      (try clear BK488)
                                      (try clear HB)
                                      generalize ((w21.setCell ⟨gb488, 0, none⟩ (.int .i64 ((rd_T26 ((rd_T57 t478 x11_1).f1) x12_2).f0))).setCell ⟨gb488, 1, none⟩ (.int .i64 ((rd_T26 ((rd_T57 t478 x11_1).f1) x12_2).f1))) = w31 at n0_ n1_ n2_ n3_ n4_ n5_ ⊢
                                      have HO_9 := n0_
                                      have HL485_3 := n1_
                                      have HL486_3 := n2_
                                      have BK476 := n3_
                                      have BK488 := n4_
                                      have HB := n5_
                                      clear n0_ n1_ n2_ n3_ n4_ n5_
                                      have n0_ := Aside0.mk (Kd.S_drew HO_9.out)
                                      have n1_ := Aside0.mk (Kd.R_drew HL485_3.out)
                                      have n2_ := Aside0.mk (Kd.R_drew HL486_3.out)
                                      have n3_ := Aside0.mk (blk_drew BK476.out)
                                      have n4_ := Aside0.mk (blk_drew BK488.out)
                                      have n5_ := Aside0.mk (below_drew1 HB.out)
                                      clear HO_9
                                      clear HL485_3
                                      clear HL486_3
                                      clear BK476
                                      clear BK488
                                      clear HB
                                      have HO_9 := n0_
                                      have HL485_3 := n1_
                                      have HL486_3 := n2_
                                      have BK476 := n3_
                                      have BK488 := n4_
                                      have HB := n5_
                                      clear n0_ n1_ n2_ n3_ n4_ n5_
                                      have p489 : 0 ≤ (x11_1 : Int) := of_decide_eq_true (by first | (with_reducible assumption) | assumption)
                                      have q489 : x11_1 < (t478.length : Int) := of_decide_eq_true (by first | (with_reducible assumption) | assumption)
                                      obtain ⟨ad489, A489_3, c489_3, e489, hx489_0, hx489_1, hx489_2, hx489_3, hl489_3, hi489_3⟩ := at_T57 (Kd.S_reads' HO_9.out).2.2 x11_1 p489 q489
                                      obtain rfl : ad485 = ad489 := (by injection e489)
                                      obtain ⟨ce489, hce489, hMe489, hcc489⟩ := Kd.S_get HO_9.out z57 x11_1 p489 (by first | exact q489 | exact of_decide_eq_true (by first | (with_reducible assumption) | assumption) | (have e_ := (Kd.S_reads' HO_9.out).1; omega))
                                      obtain ⟨ve489_3, rfl, ge489_3⟩ := k57_openM hMe489
                                      have hv489_3 := hcc489 3 _ rfl
                                      rw [add_field _ _ 3 (by omega)] at hv489_3
                                      replace hv489_3 := Option.some.inj (hv489_3.symm.trans hx489_3)
                                      rw [hv489_3] at ge489_3
                                      have HL489_3 := Aside0.mk (show Kd.R k26 26 _ _ _ _ ((rd_T57 t478 x11_1).f1) from ge489_3)
                                      clear hv489_3 ge489_3
                                      clear hcc489 hce489
                                      have HR489_3 := Aside0.mk hi489_3
                                      have HC489_3 := Aside0.mk hl489_3
                                      clear hi489_3 hl489_3
                                      replace p489 := eq_true p489
                                      replace q489 := eq_true q489
                                      have p490 : 0 ≤ ((ji28) : Int) := of_decide_eq_true (by first | (with_reducible assumption) | assumption)
                                      have q490 : (ji28) < (((rd_T57 t478 x11_1).f1).length : Int) := of_decide_eq_true (by first | (with_reducible assumption) | assumption)
                                      obtain ⟨ad490, e490, hx490_0, hx490_1⟩ := at_T26 (by repeat (first | (with_reducible exact HR489_3.out) | (with_reducible refine Kd.C_alloc ?_ _) | (with_reducible refine Kd.C_drewN ?_ _) | (with_reducible refine Kd.C_drew ?_) | exact HR489_3.out)) (ji28) p490 q490
                                      cases e490
                                      replace p490 := eq_true p490
                                      replace q490 := eq_true q490
                                      refine start_ (n := 34) (S := fun w' => w'.cell? ⟨gb488, 0, none⟩ = some (.int .i64 ((rd_T26 ((rd_T57 t478 x11_1).f1) x12_2).f0)) ∧ w'.cell? ⟨gb488, 1, none⟩ = some (.int .i64 ((rd_T26 ((rd_T57 t478 x11_1).f1) x12_2).f1)) ∧ w'.cell? (ad485.add ((x11_1).toNat * 4)) = some (.int .i64 ((rd_T57 t478 x11_1).f0.f0)) ∧ w'.cell? ⟨(ad485.add ((x11_1).toNat * 4)).block, (ad485.add ((x11_1).toNat * 4)).off + 1, none⟩ = some (.int .i64 ((rd_T57 t478 x11_1).f0.f1)) ∧ w'.cell? ⟨(ad485.add ((x11_1).toNat * 4)).block, (ad485.add ((x11_1).toNat * 4)).off + 2, none⟩ = some (.int .i64 ((rd_T57 t478 x11_1).f0.f2)) ∧ w'.cell? ⟨(ad485.add ((x11_1).toNat * 4)).block, (ad485.add ((x11_1).toNat * 4)).off + 3, none⟩ = some (.slice (some ad490) ((rd_T57 t478 x11_1).f1).length c489_3) ∧ w'.cell? (ad490.add (((ji28)).toNat * 2)) = some (.int .i64 ((rd_T26 ((rd_T57 t478 x11_1).f1) (ji28)).f0)) ∧ w'.cell? ⟨(ad490.add (((ji28)).toNat * 2)).block, (ad490.add (((ji28)).toNat * 2)).off + 1, none⟩ = some (.int .i64 ((rd_T26 ((rd_T57 t478 x11_1).f1) (ji28)).f1))) (ds := []) #[false, false, false, false, false, false, false, false, false, false, false, false, false, false, false, false, false, false, false, false, false, false, false, false, false, false, false, false, false, false, false, false, false, false] (by kernel_rfl) rfl rfl ⟨(blk_cell BK488.out 0).trans rfl, (blk_cell BK488.out 1).trans rfl, hx489_0, hx489_1, hx489_2, hx489_3, hx490_0, hx490_1⟩ (fun hHeld => ?_); refine with_tabW sizarlaw07_FactsRead.tab14 sizarlaw07_FactsRead.bits14 (fun HT_ HW_ => ?_)
                                      generalize w31.drew = w32 at HO_9 HL485_3 HL486_3 BK476 BK488 HB HL489_3 HR489_3 hx489_0 hx489_1 hx489_2 hx489_3 hx490_0 hx490_1 hHeld ⊢
                                      refine pure_ (i := 0) (N := some 51) (v := ?_) (a' := ?_) #[true, false, false, false, false, false, false, false, false, false, false, false, false, false, false, false, false, false, false, false, false, false, false, false, false, false, false, false, false, false, false, false, false, false] rfl rfl (any_of HT_.out (by kernel_rfl)) (fun _ _ _ h => h) (Or.inl ⟨by rfl, ?_⟩) ?_ ?_
                                      rotate_left
                                      · intro w'
                                        go_simp
                                        with_reducible rfl
                                      rotate_left
                                      · simp only [Act.put, List.setIfInBounds_toArray, List.set_cons_zero, List.set_cons_succ, i64_w, i32_w]
                                        rfl
                                      refine pure_ (i := 2) (N := some 53) (v := ?_) (a' := ?_) #[true, false, true, false, false, false, false, false, false, false, false, false, false, false, false, false, false, false, false, false, false, false, false, false, false, false, false, false, false, false, false, false, false, false] rfl rfl (any_of HT_.out (by kernel_rfl)) (fun _ _ _ h => h) (Or.inl ⟨by rfl, ?_⟩) ?_ ?_
                                      rotate_left
                                      · intro w'
                                        go_simp
                                        with_reducible rfl
                                      rotate_left
                                      · simp only [Act.put, List.setIfInBounds_toArray, List.set_cons_zero, List.set_cons_succ, i64_w, i32_w]
                                        rfl
                                      refine take_ (i := 1) (N := some 52) (v := ?_) (a' := ?_) #[true, true, true, false, false, false, false, false, false, false, false, false, false, false, false, false, false, false, false, false, false, false, false, false, false, false, false, false, false, false, false, false, false, false] rfl rfl (take_ofW HT_.out HW_.out (by kernel_rfl)) (fun _ _ _ h => h) (Or.inl ⟨by rfl, ?_⟩) hHeld ?_ ?_
                                      rotate_left
                                      · rintro w' ⟨s0, s1, s2, s3, s4, s5, s6, s7⟩
                                        go_simp
                                        with_reducible rfl
                                      rotate_left
                                      · simp only [Act.put, List.setIfInBounds_toArray, List.set_cons_zero, List.set_cons_succ, i64_w, i32_w]
                                        rfl
                                      refine take_ (i := 3) (N := some 54) (v := ?_) (a' := ?_) #[true, true, true, true, false, false, false, false, false, false, false, false, false, false, false, false, false, false, false, false, false, false, false, false, false, false, false, false, false, false, false, false, false, false] rfl rfl (take_ofW HT_.out HW_.out (by kernel_rfl)) (fun _ _ _ h => h) (Or.inl ⟨by rfl, ?_⟩) hHeld ?_ ?_
                                      rotate_left
                                      · rintro w' ⟨s0, s1, s2, s3, s4, s5, s6, s7⟩
                                        go_simp
                                        with_reducible rfl
                                      rotate_left
                                      · simp only [Act.put, List.setIfInBounds_toArray, List.set_cons_zero, List.set_cons_succ, i64_w, i32_w]
                                        rfl
                                      refine pure_ (i := 4) (N := some 55) (v := ?_) (a' := ?_) #[true, true, true, true, true, false, false, false, false, false, false, false, false, false, false, false, false, false, false, false, false, false, false, false, false, false, false, false, false, false, false, false, false, false] rfl rfl (any_of HT_.out (by kernel_rfl)) (fun _ _ _ h => h) (Or.inl ⟨by rfl, ?_⟩) ?_ ?_
                                      rotate_left
                                      · intro w'
                                        go_simp
                                        with_reducible rfl
                                      rotate_left
                                      · simp only [Act.put, List.setIfInBounds_toArray, List.set_cons_zero, List.set_cons_succ, i64_w, i32_w]
                                        rfl
                                      refine pure_ (i := 5) (N := some 56) (v := ?_) (a' := ?_) #[true, true, true, true, true, true, false, false, false, false, false, false, false, false, false, false, false, false, false, false, false, false, false, false, false, false, false, false, false, false, false, false, false, false] rfl rfl (any_of HT_.out (by kernel_rfl)) (fun _ _ _ h => h) (Or.inl ⟨by rfl, ?_⟩) ?_ ?_
                                      rotate_left
                                      · intro w'
                                        go_simp
                                        with_reducible rfl
                                      rotate_left
                                      · simp only [Act.put, List.setIfInBounds_toArray, List.set_cons_zero, List.set_cons_succ, i64_w, i32_w]
                                        rfl
                                      refine pure_ (i := 6) (N := some 57) (v := ?_) (a' := ?_) #[true, true, true, true, true, true, true, false, false, false, false, false, false, false, false, false, false, false, false, false, false, false, false, false, false, false, false, false, false, false, false, false, false, false] rfl rfl (any_of HT_.out (by kernel_rfl)) (fun _ _ _ h => h) (Or.inl ⟨by rfl, ?_⟩) ?_ ?_
                                      rotate_left
                                      · intro w'
                                        go_simp
                                        with_reducible rfl
                                      rotate_left
                                      · simp only [Act.put, List.setIfInBounds_toArray, List.set_cons_zero, List.set_cons_succ, i64_w, i32_w]
                                        rfl
                                      refine take_ (i := 7) (N := some 58) (v := ?_) (a' := ?_) #[true, true, true, true, true, true, true, true, false, false, false, false, false, false, false, false, false, false, false, false, false, false, false, false, false, false, false, false, false, false, false, false, false, false] rfl rfl (take_ofW HT_.out HW_.out (by kernel_rfl)) (fun _ _ _ h => h) (Or.inl ⟨by rfl, ?_⟩) hHeld ?_ ?_
                                      rotate_left
                                      · rintro w' ⟨s0, s1, s2, s3, s4, s5, s6, s7⟩
                                        go_simp
                                        with_reducible rfl
                                      rotate_left
                                      · simp only [Act.put, List.setIfInBounds_toArray, List.set_cons_zero, List.set_cons_succ, i64_w, i32_w]
                                        rfl
                                      refine pure_ (i := 8) (N := some 59) (v := ?_) (a' := ?_) #[true, true, true, true, true, true, true, true, true, false, false, false, false, false, false, false, false, false, false, false, false, false, false, false, false, false, false, false, false, false, false, false, false, false] rfl rfl (any_of HT_.out (by kernel_rfl)) (fun _ _ _ h => h) (Or.inl ⟨by rfl, ?_⟩) ?_ ?_
                                      rotate_left
                                      · intro w'
                                        go_simp
                                        with_reducible rfl
                                      rotate_left
                                      · simp only [Act.put, List.setIfInBounds_toArray, List.set_cons_zero, List.set_cons_succ, i64_w, i32_w]
                                        rfl
                                      refine pure_ (i := 9) (N := some 60) (v := ?_) (a' := ?_) #[true, true, true, true, true, true, true, true, true, true, false, false, false, false, false, false, false, false, false, false, false, false, false, false, false, false, false, false, false, false, false, false, false, false] rfl rfl (any_of HT_.out (by kernel_rfl)) (fun _ _ _ h => h) (Or.inl ⟨by rfl, ?_⟩) ?_ ?_
                                      rotate_left
                                      · intro w'
                                        go_simp
                                        with_reducible rfl
                                      rotate_left
                                      · simp only [Act.put, List.setIfInBounds_toArray, List.set_cons_zero, List.set_cons_succ, i64_w, i32_w]
                                        rfl
                                      refine pure_ (i := 10) (N := some 61) (v := ?_) (a' := ?_) #[true, true, true, true, true, true, true, true, true, true, true, false, false, false, false, false, false, false, false, false, false, false, false, false, false, false, false, false, false, false, false, false, false, false] rfl rfl (any_of HT_.out (by kernel_rfl)) (fun _ _ _ h => h) (Or.inl ⟨by rfl, ?_⟩) ?_ ?_
                                      rotate_left
                                      · intro w'
                                        go_simp
                                        with_reducible rfl
                                      rotate_left
                                      · simp only [Act.put, List.setIfInBounds_toArray, List.set_cons_zero, List.set_cons_succ, i64_w, i32_w]
                                        rfl
                                      refine pure_ (i := 11) (N := some 62) (v := ?_) (a' := ?_) #[true, true, true, true, true, true, true, true, true, true, true, true, false, false, false, false, false, false, false, false, false, false, false, false, false, false, false, false, false, false, false, false, false, false] rfl rfl (any_of HT_.out (by kernel_rfl)) (fun _ _ _ h => h) (Or.inl ⟨by rfl, ?_⟩) ?_ ?_
                                      rotate_left
                                      · intro w'
                                        go_simp
                                        with_reducible rfl
                                      rotate_left
                                      · simp only [Act.put, List.setIfInBounds_toArray, List.set_cons_zero, List.set_cons_succ, i64_w, i32_w]
                                        rfl
                                      refine take_ (i := 12) (N := some 63) (v := ?_) (a' := ?_) #[true, true, true, true, true, true, true, true, true, true, true, true, true, false, false, false, false, false, false, false, false, false, false, false, false, false, false, false, false, false, false, false, false, false] rfl rfl (take_ofW HT_.out HW_.out (by kernel_rfl)) (fun _ _ _ h => h) (Or.inl ⟨by rfl, ?_⟩) hHeld ?_ ?_
                                      rotate_left
                                      · rintro w' ⟨s0, s1, s2, s3, s4, s5, s6, s7⟩
                                        go_simp
                                        with_reducible rfl
                                      rotate_left
                                      · simp only [Act.put, List.setIfInBounds_toArray, List.set_cons_zero, List.set_cons_succ, i64_w, i32_w]
                                        rfl
                                      refine pure_ (i := 13) (N := some 64) (v := ?_) (a' := ?_) #[true, true, true, true, true, true, true, true, true, true, true, true, true, true, false, false, false, false, false, false, false, false, false, false, false, false, false, false, false, false, false, false, false, false] rfl rfl (any_of HT_.out (by kernel_rfl)) (fun _ _ _ h => h) (Or.inl ⟨by rfl, ?_⟩) ?_ ?_
                                      rotate_left
                                      · intro w'
                                        go_simp
                                        with_reducible rfl
                                      rotate_left
                                      · simp only [Act.put, List.setIfInBounds_toArray, List.set_cons_zero, List.set_cons_succ, i64_w, i32_w]
                                        rfl
                                      refine pure_ (i := 14) (N := some 65) (v := ?_) (a' := ?_) #[true, true, true, true, true, true, true, true, true, true, true, true, true, true, true, false, false, false, false, false, false, false, false, false, false, false, false, false, false, false, false, false, false, false] rfl rfl (any_of HT_.out (by kernel_rfl)) (fun _ _ _ h => h) (Or.inl ⟨by rfl, ?_⟩) ?_ ?_
                                      rotate_left
                                      · intro w'
                                        go_simp
                                        with_reducible rfl
                                      rotate_left
                                      · simp only [Act.put, List.setIfInBounds_toArray, List.set_cons_zero, List.set_cons_succ, i64_w, i32_w]
                                        rfl
                                      refine pure_ (i := 15) (N := some 66) (v := ?_) (a' := ?_) #[true, true, true, true, true, true, true, true, true, true, true, true, true, true, true, true, false, false, false, false, false, false, false, false, false, false, false, false, false, false, false, false, false, false] rfl rfl (any_of HT_.out (by kernel_rfl)) (fun _ _ _ h => h) (Or.inl ⟨by rfl, ?_⟩) ?_ ?_
                                      rotate_left
                                      · intro w'
                                        go_simp
                                        with_reducible rfl
                                      rotate_left
                                      · simp only [Act.put, List.setIfInBounds_toArray, List.set_cons_zero, List.set_cons_succ, i64_w, i32_w]
                                        rfl
                                      refine pure_ (i := 16) (N := some 67) (v := ?_) (a' := ?_) #[true, true, true, true, true, true, true, true, true, true, true, true, true, true, true, true, true, false, false, false, false, false, false, false, false, false, false, false, false, false, false, false, false, false] rfl rfl (any_of HT_.out (by kernel_rfl)) (fun _ _ _ h => h) (Or.inl ⟨by rfl, ?_⟩) ?_ ?_
                                      rotate_left
                                      · intro w'
                                        go_simp
                                        with_reducible rfl
                                      rotate_left
                                      · simp only [Act.put, List.setIfInBounds_toArray, List.set_cons_zero, List.set_cons_succ, i64_w, i32_w]
                                        rfl
                                      refine pure_ (i := 17) (N := some 68) (v := ?_) (a' := ?_) #[true, true, true, true, true, true, true, true, true, true, true, true, true, true, true, true, true, true, false, false, false, false, false, false, false, false, false, false, false, false, false, false, false, false] rfl rfl (any_of HT_.out (by kernel_rfl)) (fun _ _ _ h => h) (Or.inl ⟨by rfl, ?_⟩) ?_ ?_
                                      rotate_left
                                      · intro w'
                                        go_simp
                                        with_reducible rfl
                                      rotate_left
                                      · simp only [Act.put, List.setIfInBounds_toArray, List.set_cons_zero, List.set_cons_succ, i64_w, i32_w]
                                        rfl
                                      refine pure_ (i := 18) (N := some 69) (v := ?_) (a' := ?_) #[true, true, true, true, true, true, true, true, true, true, true, true, true, true, true, true, true, true, true, false, false, false, false, false, false, false, false, false, false, false, false, false, false, false] rfl rfl (any_of HT_.out (by kernel_rfl)) (fun _ _ _ h => h) (Or.inl ⟨by rfl, ?_⟩) ?_ ?_
                                      rotate_left
                                      · intro w'
                                        go_simp
                                        with_reducible rfl
                                      rotate_left
                                      · simp only [Act.put, List.setIfInBounds_toArray, List.set_cons_zero, List.set_cons_succ, i64_w, i32_w]
                                        rfl
                                      refine pure_ (i := 19) (N := some 70) (v := ?_) (a' := ?_) #[true, true, true, true, true, true, true, true, true, true, true, true, true, true, true, true, true, true, true, true, false, false, false, false, false, false, false, false, false, false, false, false, false, false] rfl rfl (any_of HT_.out (by kernel_rfl)) (fun _ _ _ h => h) (Or.inl ⟨by rfl, ?_⟩) ?_ ?_
                                      rotate_left
                                      · intro w'
                                        go_simp
                                        with_reducible rfl
                                      rotate_left
                                      · simp only [Act.put, List.setIfInBounds_toArray, List.set_cons_zero, List.set_cons_succ, i64_w, i32_w]
                                        rfl
                                      refine pure_ (i := 20) (N := some 71) (v := ?_) (a' := ?_) #[true, true, true, true, true, true, true, true, true, true, true, true, true, true, true, true, true, true, true, true, true, false, false, false, false, false, false, false, false, false, false, false, false, false] rfl rfl (any_of HT_.out (by kernel_rfl)) (fun _ _ _ h => h) (Or.inl ⟨by rfl, ?_⟩) ?_ ?_
                                      rotate_left
                                      · intro w'
                                        go_simp
                                        with_reducible rfl
                                      rotate_left
                                      · simp only [Act.put, List.setIfInBounds_toArray, List.set_cons_zero, List.set_cons_succ, i64_w, i32_w]
                                        rfl
                                      refine pure_ (i := 21) (N := some 72) (v := ?_) (a' := ?_) #[true, true, true, true, true, true, true, true, true, true, true, true, true, true, true, true, true, true, true, true, true, true, false, false, false, false, false, false, false, false, false, false, false, false] rfl rfl (any_of HT_.out (by kernel_rfl)) (fun _ _ _ h => h) (Or.inl ⟨by rfl, ?_⟩) ?_ ?_
                                      rotate_left
                                      · intro w'
                                        go_simp
                                        with_reducible rfl
                                      rotate_left
                                      · simp only [Act.put, List.setIfInBounds_toArray, List.set_cons_zero, List.set_cons_succ, i64_w, i32_w]
                                        rfl
                                      refine pure_ (i := 22) (N := some 73) (v := ?_) (a' := ?_) #[true, true, true, true, true, true, true, true, true, true, true, true, true, true, true, true, true, true, true, true, true, true, true, false, false, false, false, false, false, false, false, false, false, false] rfl rfl (any_of HT_.out (by kernel_rfl)) (fun _ _ _ h => h) (Or.inl ⟨by rfl, ?_⟩) ?_ ?_
                                      rotate_left
                                      · intro w'
                                        go_simp
                                        with_reducible rfl
                                      rotate_left
                                      · simp only [Act.put, List.setIfInBounds_toArray, List.set_cons_zero, List.set_cons_succ, i64_w, i32_w]
                                        rfl
                                      refine pure_ (i := 24) (N := some 75) (v := ?_) (a' := ?_) #[true, true, true, true, true, true, true, true, true, true, true, true, true, true, true, true, true, true, true, true, true, true, true, false, true, false, false, false, false, false, false, false, false, false] rfl rfl (any_of HT_.out (by kernel_rfl)) (fun _ _ _ h => h) (Or.inl ⟨by rfl, ?_⟩) ?_ ?_
                                      rotate_left
                                      · intro w'
                                        go_simp
                                        with_reducible rfl
                                      rotate_left
                                      · simp only [Act.put, List.setIfInBounds_toArray, List.set_cons_zero, List.set_cons_succ, i64_w, i32_w]
                                        rfl
                                      refine pure_ (i := 25) (N := some 76) (v := ?_) (a' := ?_) #[true, true, true, true, true, true, true, true, true, true, true, true, true, true, true, true, true, true, true, true, true, true, true, false, true, true, false, false, false, false, false, false, false, false] rfl rfl (any_of HT_.out (by kernel_rfl)) (fun _ _ _ h => h) (Or.inl ⟨by rfl, ?_⟩) ?_ ?_
                                      rotate_left
                                      · intro w'
                                        go_simp
                                        with_reducible rfl
                                      rotate_left
                                      · simp only [Act.put, List.setIfInBounds_toArray, List.set_cons_zero, List.set_cons_succ, i64_w, i32_w]
                                        rfl
                                      refine pure_ (i := 29) (N := some 80) (v := ?_) (a' := ?_) #[true, true, true, true, true, true, true, true, true, true, true, true, true, true, true, true, true, true, true, true, true, true, true, false, true, true, false, false, false, true, false, false, false, false] rfl rfl (any_of HT_.out (by kernel_rfl)) (fun _ _ _ h => h) (Or.inl ⟨by rfl, ?_⟩) ?_ ?_
                                      rotate_left
                                      · intro w'
                                        go_simp
                                        with_reducible rfl
                                      rotate_left
                                      · simp only [Act.put, List.setIfInBounds_toArray, List.set_cons_zero, List.set_cons_succ, i64_w, i32_w]
                                        rfl
                                      refine take_ (i := 23) (N := some 74) (v := ?_) (a' := ?_) #[true, true, true, true, true, true, true, true, true, true, true, true, true, true, true, true, true, true, true, true, true, true, true, true, true, true, false, false, false, true, false, false, false, false] rfl rfl (take_ofW HT_.out HW_.out (by kernel_rfl)) (fun _ _ _ h => h) (Or.inl ⟨by rfl, ?_⟩) hHeld ?_ ?_
                                      rotate_left
                                      · rintro w' ⟨s0, s1, s2, s3, s4, s5, s6, s7⟩
                                        go_simp
                                        with_reducible rfl
                                      rotate_left
                                      · simp only [Act.put, List.setIfInBounds_toArray, List.set_cons_zero, List.set_cons_succ, i64_w, i32_w]
                                        rfl
                                      refine pure_ (i := 26) (N := some 77) (v := ?_) (a' := ?_) #[true, true, true, true, true, true, true, true, true, true, true, true, true, true, true, true, true, true, true, true, true, true, true, true, true, true, true, false, false, true, false, false, false, false] rfl rfl (any_of HT_.out (by kernel_rfl)) (fun _ _ _ h => h) (Or.inl ⟨by rfl, ?_⟩) ?_ ?_
                                      rotate_left
                                      · intro w'
                                        go_simp
                                        with_reducible rfl
                                      rotate_left
                                      · simp only [Act.put, List.setIfInBounds_toArray, List.set_cons_zero, List.set_cons_succ, i64_w, i32_w]
                                        rfl
                                      refine pure_ (i := 27) (N := some 78) (v := ?_) (a' := ?_) #[true, true, true, true, true, true, true, true, true, true, true, true, true, true, true, true, true, true, true, true, true, true, true, true, true, true, true, true, false, true, false, false, false, false] rfl rfl (any_of HT_.out (by kernel_rfl)) (fun _ _ _ h => h) (Or.inl ⟨by rfl, ?_⟩) ?_ ?_
                                      rotate_left
                                      · intro w'
                                        go_simp
                                        with_reducible rfl
                                      rotate_left
                                      · simp only [Act.put, List.setIfInBounds_toArray, List.set_cons_zero, List.set_cons_succ, i64_w, i32_w]
                                        rfl
                                      refine take_ (i := 28) (N := some 79) (v := ?_) (a' := ?_) #[true, true, true, true, true, true, true, true, true, true, true, true, true, true, true, true, true, true, true, true, true, true, true, true, true, true, true, true, true, true, false, false, false, false] rfl rfl (take_ofW HT_.out HW_.out (by kernel_rfl)) (fun _ _ _ h => h) (Or.inl ⟨by rfl, ?_⟩) hHeld ?_ ?_
                                      rotate_left
                                      · rintro w' ⟨s0, s1, s2, s3, s4, s5, s6, s7⟩
                                        go_simp
                                        with_reducible rfl
                                      rotate_left
                                      · simp only [Act.put, List.setIfInBounds_toArray, List.set_cons_zero, List.set_cons_succ, i64_w, i32_w]
                                        rfl
                                      refine take_ (i := 30) (N := some 81) (v := ?_) (a' := ?_) #[true, true, true, true, true, true, true, true, true, true, true, true, true, true, true, true, true, true, true, true, true, true, true, true, true, true, true, true, true, true, true, false, false, false] rfl rfl (take_ofW HT_.out HW_.out (by kernel_rfl)) (fun _ _ _ h => h) (Or.inl ⟨by rfl, ?_⟩) hHeld ?_ ?_
                                      rotate_left
                                      · rintro w' ⟨s0, s1, s2, s3, s4, s5, s6, s7⟩
                                        go_simp
                                        with_reducible rfl
                                      rotate_left
                                      · simp only [Act.put, List.setIfInBounds_toArray, List.set_cons_zero, List.set_cons_succ, i64_w, i32_w]
                                        rfl
                                      refine pure_ (i := 31) (N := some 82) (v := ?_) (a' := ?_) #[true, true, true, true, true, true, true, true, true, true, true, true, true, true, true, true, true, true, true, true, true, true, true, true, true, true, true, true, true, true, true, true, false, false] rfl rfl (any_of HT_.out (by kernel_rfl)) (fun _ _ _ h => h) (Or.inl ⟨by rfl, ?_⟩) ?_ ?_
                                      rotate_left
                                      · intro w'
                                        go_simp
                                        with_reducible rfl
                                      rotate_left
                                      · simp only [Act.put, List.setIfInBounds_toArray, List.set_cons_zero, List.set_cons_succ, i64_w, i32_w]
                                        rfl
                                      refine pure_ (i := 32) (N := some 83) (v := ?_) (a' := ?_) #[true, true, true, true, true, true, true, true, true, true, true, true, true, true, true, true, true, true, true, true, true, true, true, true, true, true, true, true, true, true, true, true, true, false] rfl rfl (any_of HT_.out (by kernel_rfl)) (fun _ _ _ h => h) (Or.inl ⟨by rfl, ?_⟩) ?_ ?_
                                      rotate_left
                                      · intro w'
                                        go_simp
                                        with_reducible rfl
                                      rotate_left
                                      · simp only [Act.put, List.setIfInBounds_toArray, List.set_cons_zero, List.set_cons_succ, i64_w, i32_w]
                                        rfl
                                      refine pure_ (i := 33) (N := some 84) (v := ?_) (a' := ?_) #[true, true, true, true, true, true, true, true, true, true, true, true, true, true, true, true, true, true, true, true, true, true, true, true, true, true, true, true, true, true, true, true, true, true] rfl rfl (any_of HT_.out (by kernel_rfl)) (fun _ _ _ h => h) (Or.inl ⟨by rfl, ?_⟩) ?_ ?_
                                      rotate_left
                                      · intro w'
                                        go_simp
                                        with_reducible rfl
                                      rotate_left
                                      · simp only [Act.put, List.setIfInBounds_toArray, List.set_cons_zero, List.set_cons_succ, i64_w, i32_w]
                                        rfl
                                      refine done_ (done_of HT_.out (by kernel_rfl)) ?_
                                      try go_wp2
                                      go_meet
                                      case rel => exact ⟨_, (decide (((rd_T26 ((rd_T57 t478 x11_1).f1) (ji28)).f1) ≥ ((rd_T26 ((rd_T57 t478 x11_1).f1) x12_2).f0))), (by first | rfl | (simp; done) | (simp only [← hji28] <;> (first | rfl | simp)) | (simp [*]; done)), H', ⟨by have := HK1.out; have := HK2.out; first | omega | exact Nat.le_refl _⟩, ⟨by (with_reducible repeat (first | apply Kd.S_alloc | apply Kd.S_drewN | apply Kd.S_drew)); exact HO_9.out⟩, ⟨by (with_reducible repeat (first | refine blk_drewN ?_ _ | refine blk_drew ?_ | refine blk_alloc ?_ _)); exact BK476.out⟩, ⟨by (with_reducible repeat (first | refine blk_drewN ?_ _ | refine blk_drew ?_ | refine blk_alloc ?_ _)); exact BK488.out⟩, ⟨by repeat (first | (with_reducible first | exact HB.out | apply below_alloc | apply pw_below_drewN | apply below_drew1 | refine below_set ?_ GE476.out | refine below_set ?_ GE488.out) | exact HB.out)⟩⟩
                                    · rw [if_neg c30] at H
                                      exact absurd H (by simp)
                                  · rw [if_neg c29] at H
                                    exact absurd H (by simp)
                                · rw [if_neg c27] at H
                                  have c27b0 : decide (0 < x12_2) = false := decide_eq_false c27
                                  clear c27
                                  have H' := Aside0.mk H
                                  clear H
                                  try go_wp2
                                  have n0_ : Aside0 (Kd.S k57 57 ((w21.setCell ⟨gb488, 0, none⟩ (.int .i64 ((rd_T26 ((rd_T57 t478 x11_1).f1) x12_2).f0))).setCell ⟨gb488, 1, none⟩ (.int .i64 ((rd_T26 ((rd_T57 t478 x11_1).f1) x12_2).f1))) w.heap.size (fun k_ => k_ ≠ gb488) (.slice (some ad485) t478.length co15) t478) := ⟨by (with_reducible repeat (first | apply Kd.S_alloc | apply Kd.S_drewN | apply Kd.S_drew)); exact Kd.S_mono (Kd.S_far (p := ⟨gb488, 1, none⟩) (Kd.S_far (p := ⟨gb488, 0, none⟩) (Kd.S_mono HO_9.out (fun k_ hk => (⟨hk, hk.2⟩ : _ ∧ k_ ≠ gb488))) (fun _ hk => hk.2) (.int .i64 ((rd_T26 ((rd_T57 t478 x11_1).f1) x12_2).f0))) (fun _ hk => hk.2) (.int .i64 ((rd_T26 ((rd_T57 t478 x11_1).f1) x12_2).f1))) (fun _ hk => hk.1.2)⟩
                                  have n1_ : Aside0 (Kd.R k26 26 ((w21.setCell ⟨gb488, 0, none⟩ (.int .i64 ((rd_T26 ((rd_T57 t478 x11_1).f1) x12_2).f0))).setCell ⟨gb488, 1, none⟩ (.int .i64 ((rd_T26 ((rd_T57 t478 x11_1).f1) x12_2).f1))) w.heap.size (fun k_ => some k_ ≠ (.slice (some ad485) t478.length co15 : Value).ownBlock ∧ k_ ≠ gb488) (.slice (some ad487) ((rd_T57 t478 x11_1).f1).length c485_3) ((rd_T57 t478 x11_1).f1)) := ⟨by (with_reducible repeat (first | apply Kd.R_alloc | apply Kd.R_drewN | apply Kd.R_drew)); exact Kd.R_mono (Kd.R_far (p := ⟨gb488, 1, none⟩) (Kd.R_far (p := ⟨gb488, 0, none⟩) (Kd.R_mono HL485_3.out (fun k_ hk => (⟨hk, hk.2⟩ : _ ∧ k_ ≠ gb488))) (fun _ hk => hk.2) (.int .i64 ((rd_T26 ((rd_T57 t478 x11_1).f1) x12_2).f0))) (fun _ hk => hk.2) (.int .i64 ((rd_T26 ((rd_T57 t478 x11_1).f1) x12_2).f1))) (fun _ hk => ⟨hk.1.1.2, hk.1.2⟩)⟩
                                  have n2_ : Aside0 (Kd.R k26 26 ((w21.setCell ⟨gb488, 0, none⟩ (.int .i64 ((rd_T26 ((rd_T57 t478 x11_1).f1) x12_2).f0))).setCell ⟨gb488, 1, none⟩ (.int .i64 ((rd_T26 ((rd_T57 t478 x11_1).f1) x12_2).f1))) w.heap.size (fun k_ => some k_ ≠ (.slice (some ad485) t478.length co15 : Value).ownBlock ∧ k_ ≠ gb488) (.slice (some ad487) ((rd_T57 t478 x11_1).f1).length c485_3) ((rd_T57 t478 x11_1).f1)) := ⟨by (with_reducible repeat (first | apply Kd.R_alloc | apply Kd.R_drewN | apply Kd.R_drew)); exact Kd.R_mono (Kd.R_far (p := ⟨gb488, 1, none⟩) (Kd.R_far (p := ⟨gb488, 0, none⟩) (Kd.R_mono HL486_3.out (fun k_ hk => (⟨hk, hk.2⟩ : _ ∧ k_ ≠ gb488))) (fun _ hk => hk.2) (.int .i64 ((rd_T26 ((rd_T57 t478 x11_1).f1) x12_2).f0))) (fun _ hk => hk.2) (.int .i64 ((rd_T26 ((rd_T57 t478 x11_1).f1) x12_2).f1))) (fun _ hk => ⟨hk.1.1.2, hk.1.2⟩)⟩
                                  have n3_ : Aside0 (((w21.setCell ⟨gb488, 0, none⟩ (.int .i64 ((rd_T26 ((rd_T57 t478 x11_1).f1) x12_2).f0))).setCell ⟨gb488, 1, none⟩ (.int .i64 ((rd_T26 ((rd_T57 t478 x11_1).f1) x12_2).f1))).heap[gb476]? = some (.cells #[.int .i64 a1_0, .int .i64 a1_1, .int .i64 a1_2, .int .i64 a1_3, .int .i64 a1_4] 54 (0, 0))) := ⟨by (with_reducible repeat (first | refine blk_drewN ?_ _ | refine blk_drew ?_ | refine blk_alloc ?_ _)); refine blk_far ?_ NB476_488.out _; (with_reducible repeat (first | refine blk_drewN ?_ _ | refine blk_drew ?_ | refine blk_alloc ?_ _)); refine blk_far ?_ NB476_488.out _; (with_reducible repeat (first | refine blk_drewN ?_ _ | refine blk_drew ?_ | refine blk_alloc ?_ _)); exact BK476.out⟩
                                  have n4_ : Aside0 (((w21.setCell ⟨gb488, 0, none⟩ (.int .i64 ((rd_T26 ((rd_T57 t478 x11_1).f1) x12_2).f0))).setCell ⟨gb488, 1, none⟩ (.int .i64 ((rd_T26 ((rd_T57 t478 x11_1).f1) x12_2).f1))).heap[gb488]? = some (.cells #[.int .i64 ((rd_T26 ((rd_T57 t478 x11_1).f1) x12_2).f0), .int .i64 ((rd_T26 ((rd_T57 t478 x11_1).f1) x12_2).f1)] 26 (0, 0))) := ⟨by (with_reducible repeat (first | refine blk_drewN ?_ _ | refine blk_drew ?_ | refine blk_alloc ?_ _)); refine blk_put (cs := #[.int .i64 ((rd_T26 ((rd_T57 t478 x11_1).f1) x12_2).f0), .int .i64 0]) ?_ 1 _ rfl; (with_reducible repeat (first | refine blk_drewN ?_ _ | refine blk_drew ?_ | refine blk_alloc ?_ _)); refine blk_put (cs := #[.int .i64 0, .int .i64 0]) ?_ 0 _ rfl; (with_reducible repeat (first | refine blk_drewN ?_ _ | refine blk_drew ?_ | refine blk_alloc ?_ _)); exact BK488.out⟩
                                  have n5_ : Aside0 (Below w.heap.size w ((w21.setCell ⟨gb488, 0, none⟩ (.int .i64 ((rd_T26 ((rd_T57 t478 x11_1).f1) x12_2).f0))).setCell ⟨gb488, 1, none⟩ (.int .i64 ((rd_T26 ((rd_T57 t478 x11_1).f1) x12_2).f1)))) := ⟨by repeat (first | (with_reducible first | exact HB.out | apply below_alloc | apply pw_below_drewN | apply below_drew1 | refine below_set ?_ GE476.out | refine below_set ?_ GE488.out) | exact HB.out)⟩
                                  (try clear HO_9)
                                  (try clear HL485_3)
                                  (try clear HL486_3)
                                  (try clear BK476)
                                  (try clear BK488)
                                  (try clear HB)
                                  generalize ((w21.setCell ⟨gb488, 0, none⟩ (.int .i64 ((rd_T26 ((rd_T57 t478 x11_1).f1) x12_2).f0))).setCell ⟨gb488, 1, none⟩ (.int .i64 ((rd_T26 ((rd_T57 t478 x11_1).f1) x12_2).f1))) = w33 at n0_ n1_ n2_ n3_ n4_ n5_ ⊢
                                  have HO_9 := n0_
                                  have HL485_3 := n1_
                                  have HL486_3 := n2_
                                  have BK476 := n3_
                                  have BK488 := n4_
                                  have HB := n5_
                                  clear n0_ n1_ n2_ n3_ n4_ n5_
                                  have n0_ := Aside0.mk (Kd.S_drew HO_9.out)
                                  have n1_ := Aside0.mk (Kd.R_drew HL485_3.out)
                                  have n2_ := Aside0.mk (Kd.R_drew HL486_3.out)
                                  have n3_ := Aside0.mk (blk_drew BK476.out)
                                  have n4_ := Aside0.mk (blk_drew BK488.out)
                                  have n5_ := Aside0.mk (below_drew1 HB.out)
                                  clear HO_9
                                  clear HL485_3
                                  clear HL486_3
                                  clear BK476
                                  clear BK488
                                  clear HB
                                  have HO_9 := n0_
                                  have HL485_3 := n1_
                                  have HL486_3 := n2_
                                  have BK476 := n3_
                                  have BK488 := n4_
                                  have HB := n5_
                                  clear n0_ n1_ n2_ n3_ n4_ n5_
                                  refine start_ (n := 34) (S := fun w' => w'.cell? ⟨gb488, 0, none⟩ = some (.int .i64 ((rd_T26 ((rd_T57 t478 x11_1).f1) x12_2).f0)) ∧ w'.cell? ⟨gb488, 1, none⟩ = some (.int .i64 ((rd_T26 ((rd_T57 t478 x11_1).f1) x12_2).f1))) (ds := []) #[false, false, false, false, false, false, false, false, false, false, false, false, false, false, false, false, false, false, false, false, false, false, false, false, false, false, false, false, false, false, false, false, false, false] (by kernel_rfl) rfl rfl ⟨(blk_cell BK488.out 0).trans rfl, (blk_cell BK488.out 1).trans rfl⟩ (fun hHeld => ?_); refine with_tabW sizarlaw07_FactsRead.tab14 sizarlaw07_FactsRead.bits14 (fun HT_ HW_ => ?_)
                                  generalize w33.drew = w34 at HO_9 HL485_3 HL486_3 BK476 BK488 HB hHeld ⊢
                                  refine pure_ (i := 0) (N := some 51) (v := ?_) (a' := ?_) #[true, false, false, false, false, false, false, false, false, false, false, false, false, false, false, false, false, false, false, false, false, false, false, false, false, false, false, false, false, false, false, false, false, false] rfl rfl (any_of HT_.out (by kernel_rfl)) (fun _ _ _ h => h) (Or.inl ⟨by rfl, ?_⟩) ?_ ?_
                                  rotate_left
                                  · intro w'
                                    go_simp
                                    with_reducible rfl
                                  rotate_left
                                  · simp only [Act.put, List.setIfInBounds_toArray, List.set_cons_zero, List.set_cons_succ, i64_w, i32_w]
                                    rfl
                                  refine pure_ (i := 2) (N := some 53) (v := ?_) (a' := ?_) #[true, false, true, false, false, false, false, false, false, false, false, false, false, false, false, false, false, false, false, false, false, false, false, false, false, false, false, false, false, false, false, false, false, false] rfl rfl (any_of HT_.out (by kernel_rfl)) (fun _ _ _ h => h) (Or.inl ⟨by rfl, ?_⟩) ?_ ?_
                                  rotate_left
                                  · intro w'
                                    go_simp
                                    with_reducible rfl
                                  rotate_left
                                  · simp only [Act.put, List.setIfInBounds_toArray, List.set_cons_zero, List.set_cons_succ, i64_w, i32_w]
                                    rfl
                                  refine take_ (i := 1) (N := some 52) (v := ?_) (a' := ?_) #[true, true, true, false, false, false, false, false, false, false, false, false, false, false, false, false, false, false, false, false, false, false, false, false, false, false, false, false, false, false, false, false, false, false] rfl rfl (take_ofW HT_.out HW_.out (by kernel_rfl)) (fun _ _ _ h => h) (Or.inl ⟨by rfl, ?_⟩) hHeld ?_ ?_
                                  rotate_left
                                  · rintro w' ⟨s0, s1⟩
                                    go_simp
                                    with_reducible rfl
                                  rotate_left
                                  · simp only [Act.put, List.setIfInBounds_toArray, List.set_cons_zero, List.set_cons_succ, i64_w, i32_w]
                                    rfl
                                  refine take_ (i := 3) (N := some 54) (v := ?_) (a' := ?_) #[true, true, true, true, false, false, false, false, false, false, false, false, false, false, false, false, false, false, false, false, false, false, false, false, false, false, false, false, false, false, false, false, false, false] rfl rfl (take_ofW HT_.out HW_.out (by kernel_rfl)) (fun _ _ _ h => h) (Or.inl ⟨by rfl, ?_⟩) hHeld ?_ ?_
                                  rotate_left
                                  · rintro w' ⟨s0, s1⟩
                                    go_simp
                                    with_reducible rfl
                                  rotate_left
                                  · simp only [Act.put, List.setIfInBounds_toArray, List.set_cons_zero, List.set_cons_succ, i64_w, i32_w]
                                    rfl
                                  refine pure_ (i := 4) (N := some 55) (v := ?_) (a' := ?_) #[true, true, true, true, true, false, false, false, false, false, false, false, false, false, false, false, false, false, false, false, false, false, false, false, false, false, false, false, false, false, false, false, false, false] rfl rfl (any_of HT_.out (by kernel_rfl)) (fun _ _ _ h => h) (Or.inl ⟨by rfl, ?_⟩) ?_ ?_
                                  rotate_left
                                  · intro w'
                                    go_simp
                                    with_reducible rfl
                                  rotate_left
                                  · simp only [Act.put, List.setIfInBounds_toArray, List.set_cons_zero, List.set_cons_succ, i64_w, i32_w]
                                    rfl
                                  refine pure_ (i := 5) (N := some 56) (v := ?_) (a' := ?_) #[true, true, true, true, true, true, false, false, false, false, false, false, false, false, false, false, false, false, false, false, false, false, false, false, false, false, false, false, false, false, false, false, false, false] rfl rfl (any_of HT_.out (by kernel_rfl)) (fun _ _ _ h => h) (Or.inl ⟨by rfl, ?_⟩) ?_ ?_
                                  rotate_left
                                  · intro w'
                                    go_simp
                                    with_reducible rfl
                                  rotate_left
                                  · simp only [Act.put, List.setIfInBounds_toArray, List.set_cons_zero, List.set_cons_succ, i64_w, i32_w]
                                    rfl
                                  refine pure_ (i := 6) (N := some 57) (v := ?_) (a' := ?_) #[true, true, true, true, true, true, true, false, false, false, false, false, false, false, false, false, false, false, false, false, false, false, false, false, false, false, false, false, false, false, false, false, false, false] rfl rfl (any_of HT_.out (by kernel_rfl)) (fun _ _ _ h => h) (Or.inl ⟨by rfl, ?_⟩) ?_ ?_
                                  rotate_left
                                  · intro w'
                                    go_simp
                                    with_reducible rfl
                                  rotate_left
                                  · simp only [Act.put, List.setIfInBounds_toArray, List.set_cons_zero, List.set_cons_succ, i64_w, i32_w]
                                    rfl
                                  refine take_ (i := 7) (N := some 58) (v := ?_) (a' := ?_) #[true, true, true, true, true, true, true, true, false, false, false, false, false, false, false, false, false, false, false, false, false, false, false, false, false, false, false, false, false, false, false, false, false, false] rfl rfl (take_ofW HT_.out HW_.out (by kernel_rfl)) (fun _ _ _ h => h) (Or.inl ⟨by rfl, ?_⟩) hHeld ?_ ?_
                                  rotate_left
                                  · rintro w' ⟨s0, s1⟩
                                    go_simp
                                    with_reducible rfl
                                  rotate_left
                                  · simp only [Act.put, List.setIfInBounds_toArray, List.set_cons_zero, List.set_cons_succ, i64_w, i32_w]
                                    rfl
                                  refine pure_ (i := 8) (N := some 59) (v := ?_) (a' := ?_) #[true, true, true, true, true, true, true, true, true, false, false, false, false, false, false, false, false, false, false, false, false, false, false, false, false, false, false, false, false, false, false, false, false, false] rfl rfl (any_of HT_.out (by kernel_rfl)) (fun _ _ _ h => h) (Or.inl ⟨by rfl, ?_⟩) ?_ ?_
                                  rotate_left
                                  · intro w'
                                    go_simp
                                    with_reducible rfl
                                  rotate_left
                                  · simp only [Act.put, List.setIfInBounds_toArray, List.set_cons_zero, List.set_cons_succ, i64_w, i32_w]
                                    rfl
                                  refine pure_ (i := 9) (N := some 60) (v := ?_) (a' := ?_) #[true, true, true, true, true, true, true, true, true, true, false, false, false, false, false, false, false, false, false, false, false, false, false, false, false, false, false, false, false, false, false, false, false, false] rfl rfl (any_of HT_.out (by kernel_rfl)) (fun _ _ _ h => h) (Or.inl ⟨by rfl, ?_⟩) ?_ ?_
                                  rotate_left
                                  · intro w'
                                    go_simp
                                    with_reducible rfl
                                  rotate_left
                                  · simp only [Act.put, List.setIfInBounds_toArray, List.set_cons_zero, List.set_cons_succ, i64_w, i32_w]
                                    rfl
                                  refine pure_ (i := 10) (N := some 61) (v := ?_) (a' := ?_) #[true, true, true, true, true, true, true, true, true, true, true, false, false, false, false, false, false, false, false, false, false, false, false, false, false, false, false, false, false, false, false, false, false, false] rfl rfl (any_of HT_.out (by kernel_rfl)) (fun _ _ _ h => h) (Or.inl ⟨by rfl, ?_⟩) ?_ ?_
                                  rotate_left
                                  · intro w'
                                    go_simp
                                    with_reducible rfl
                                  rotate_left
                                  · simp only [Act.put, List.setIfInBounds_toArray, List.set_cons_zero, List.set_cons_succ, i64_w, i32_w]
                                    rfl
                                  refine pure_ (i := 11) (N := some 62) (v := ?_) (a' := ?_) #[true, true, true, true, true, true, true, true, true, true, true, true, false, false, false, false, false, false, false, false, false, false, false, false, false, false, false, false, false, false, false, false, false, false] rfl rfl (any_of HT_.out (by kernel_rfl)) (fun _ _ _ h => h) (Or.inl ⟨by rfl, ?_⟩) ?_ ?_
                                  rotate_left
                                  · intro w'
                                    go_simp
                                    with_reducible rfl
                                  rotate_left
                                  · simp only [Act.put, List.setIfInBounds_toArray, List.set_cons_zero, List.set_cons_succ, i64_w, i32_w]
                                    rfl
                                  refine take_ (i := 12) (N := some 63) (v := ?_) (a' := ?_) #[true, true, true, true, true, true, true, true, true, true, true, true, true, false, false, false, false, false, false, false, false, false, false, false, false, false, false, false, false, false, false, false, false, false] rfl rfl (take_ofW HT_.out HW_.out (by kernel_rfl)) (fun _ _ _ h => h) (Or.inl ⟨by rfl, ?_⟩) hHeld ?_ ?_
                                  rotate_left
                                  · rintro w' ⟨s0, s1⟩
                                    go_simp
                                    with_reducible rfl
                                  rotate_left
                                  · simp only [Act.put, List.setIfInBounds_toArray, List.set_cons_zero, List.set_cons_succ, i64_w, i32_w]
                                    rfl
                                  refine pure_ (i := 13) (N := some 64) (v := ?_) (a' := ?_) #[true, true, true, true, true, true, true, true, true, true, true, true, true, true, false, false, false, false, false, false, false, false, false, false, false, false, false, false, false, false, false, false, false, false] rfl rfl (any_of HT_.out (by kernel_rfl)) (fun _ _ _ h => h) (Or.inl ⟨by rfl, ?_⟩) ?_ ?_
                                  rotate_left
                                  · intro w'
                                    go_simp
                                    with_reducible rfl
                                  rotate_left
                                  · simp only [Act.put, List.setIfInBounds_toArray, List.set_cons_zero, List.set_cons_succ, i64_w, i32_w]
                                    rfl
                                  refine pure_ (i := 14) (N := some 65) (v := ?_) (a' := ?_) #[true, true, true, true, true, true, true, true, true, true, true, true, true, true, true, false, false, false, false, false, false, false, false, false, false, false, false, false, false, false, false, false, false, false] rfl rfl (any_of HT_.out (by kernel_rfl)) (fun _ _ _ h => h) (Or.inl ⟨by rfl, ?_⟩) ?_ ?_
                                  rotate_left
                                  · intro w'
                                    go_simp
                                    with_reducible rfl
                                  rotate_left
                                  · simp only [Act.put, List.setIfInBounds_toArray, List.set_cons_zero, List.set_cons_succ, i64_w, i32_w]
                                    rfl
                                  refine pure_ (i := 15) (N := some 66) (v := ?_) (a' := ?_) #[true, true, true, true, true, true, true, true, true, true, true, true, true, true, true, true, false, false, false, false, false, false, false, false, false, false, false, false, false, false, false, false, false, false] rfl rfl (any_of HT_.out (by kernel_rfl)) (fun _ _ _ h => h) (Or.inl ⟨by rfl, ?_⟩) ?_ ?_
                                  rotate_left
                                  · intro w'
                                    go_simp
                                    with_reducible rfl
                                  rotate_left
                                  · simp only [Act.put, List.setIfInBounds_toArray, List.set_cons_zero, List.set_cons_succ, i64_w, i32_w]
                                    rfl
                                  refine pure_ (i := 16) (N := some 67) (v := ?_) (a' := ?_) #[true, true, true, true, true, true, true, true, true, true, true, true, true, true, true, true, true, false, false, false, false, false, false, false, false, false, false, false, false, false, false, false, false, false] rfl rfl (any_of HT_.out (by kernel_rfl)) (fun _ _ _ h => h) (Or.inl ⟨by rfl, ?_⟩) ?_ ?_
                                  rotate_left
                                  · intro w'
                                    go_simp
                                    with_reducible rfl
                                  rotate_left
                                  · simp only [Act.put, List.setIfInBounds_toArray, List.set_cons_zero, List.set_cons_succ, i64_w, i32_w]
                                    rfl
                                  refine pure_ (i := 17) (N := some 68) (v := ?_) (a' := ?_) #[true, true, true, true, true, true, true, true, true, true, true, true, true, true, true, true, true, true, false, false, false, false, false, false, false, false, false, false, false, false, false, false, false, false] rfl rfl (any_of HT_.out (by kernel_rfl)) (fun _ _ _ h => h) (Or.inl ⟨by rfl, ?_⟩) ?_ ?_
                                  rotate_left
                                  · intro w'
                                    go_simp
                                    with_reducible rfl
                                  rotate_left
                                  · simp only [Act.put, List.setIfInBounds_toArray, List.set_cons_zero, List.set_cons_succ, i64_w, i32_w]
                                    rfl
                                  refine pure_ (i := 18) (N := some 69) (v := ?_) (a' := ?_) #[true, true, true, true, true, true, true, true, true, true, true, true, true, true, true, true, true, true, true, false, false, false, false, false, false, false, false, false, false, false, false, false, false, false] rfl rfl (any_of HT_.out (by kernel_rfl)) (fun _ _ _ h => h) (Or.inl ⟨by rfl, ?_⟩) ?_ ?_
                                  rotate_left
                                  · intro w'
                                    go_simp
                                    with_reducible rfl
                                  rotate_left
                                  · simp only [Act.put, List.setIfInBounds_toArray, List.set_cons_zero, List.set_cons_succ, i64_w, i32_w]
                                    rfl
                                  refine pure_ (i := 19) (N := some 70) (v := undef) (a' := ?_) #[true, true, true, true, true, true, true, true, true, true, true, true, true, true, true, true, true, true, true, true, false, false, false, false, false, false, false, false, false, false, false, false, false, false] rfl rfl (any_of HT_.out (by kernel_rfl)) (fun _ _ _ h => h) (Or.inr ⟨by rfl, rfl⟩) ?_ ?_
                                  rotate_left
                                  · simp only [Act.put, List.setIfInBounds_toArray, List.set_cons_zero, List.set_cons_succ, i64_w, i32_w]
                                    rfl
                                  refine pure_ (i := 20) (N := some 71) (v := undef) (a' := ?_) #[true, true, true, true, true, true, true, true, true, true, true, true, true, true, true, true, true, true, true, true, true, false, false, false, false, false, false, false, false, false, false, false, false, false] rfl rfl (any_of HT_.out (by kernel_rfl)) (fun _ _ _ h => h) (Or.inr ⟨by rfl, rfl⟩) ?_ ?_
                                  rotate_left
                                  · simp only [Act.put, List.setIfInBounds_toArray, List.set_cons_zero, List.set_cons_succ, i64_w, i32_w]
                                    rfl
                                  refine pure_ (i := 21) (N := some 72) (v := undef) (a' := ?_) #[true, true, true, true, true, true, true, true, true, true, true, true, true, true, true, true, true, true, true, true, true, true, false, false, false, false, false, false, false, false, false, false, false, false] rfl rfl (any_of HT_.out (by kernel_rfl)) (fun _ _ _ h => h) (Or.inr ⟨by rfl, rfl⟩) ?_ ?_
                                  rotate_left
                                  · simp only [Act.put, List.setIfInBounds_toArray, List.set_cons_zero, List.set_cons_succ, i64_w, i32_w]
                                    rfl
                                  refine pure_ (i := 22) (N := some 73) (v := undef) (a' := ?_) #[true, true, true, true, true, true, true, true, true, true, true, true, true, true, true, true, true, true, true, true, true, true, true, false, false, false, false, false, false, false, false, false, false, false] rfl rfl (any_of HT_.out (by kernel_rfl)) (fun _ _ _ h => h) (Or.inr ⟨by rfl, rfl⟩) ?_ ?_
                                  rotate_left
                                  · simp only [Act.put, List.setIfInBounds_toArray, List.set_cons_zero, List.set_cons_succ, i64_w, i32_w]
                                    rfl
                                  refine pure_ (i := 23) (N := some 74) (v := undef) (a' := ?_) #[true, true, true, true, true, true, true, true, true, true, true, true, true, true, true, true, true, true, true, true, true, true, true, true, false, false, false, false, false, false, false, false, false, false] rfl rfl (any_of HT_.out (by kernel_rfl)) (fun _ _ _ h => h) (Or.inr ⟨by rfl, rfl⟩) ?_ ?_
                                  rotate_left
                                  · simp only [Act.put, List.setIfInBounds_toArray, List.set_cons_zero, List.set_cons_succ, i64_w, i32_w]
                                    rfl
                                  refine pure_ (i := 24) (N := some 75) (v := undef) (a' := ?_) #[true, true, true, true, true, true, true, true, true, true, true, true, true, true, true, true, true, true, true, true, true, true, true, true, true, false, false, false, false, false, false, false, false, false] rfl rfl (any_of HT_.out (by kernel_rfl)) (fun _ _ _ h => h) (Or.inr ⟨by rfl, rfl⟩) ?_ ?_
                                  rotate_left
                                  · simp only [Act.put, List.setIfInBounds_toArray, List.set_cons_zero, List.set_cons_succ, i64_w, i32_w]
                                    rfl
                                  refine pure_ (i := 25) (N := some 76) (v := undef) (a' := ?_) #[true, true, true, true, true, true, true, true, true, true, true, true, true, true, true, true, true, true, true, true, true, true, true, true, true, true, false, false, false, false, false, false, false, false] rfl rfl (any_of HT_.out (by kernel_rfl)) (fun _ _ _ h => h) (Or.inr ⟨by rfl, rfl⟩) ?_ ?_
                                  rotate_left
                                  · simp only [Act.put, List.setIfInBounds_toArray, List.set_cons_zero, List.set_cons_succ, i64_w, i32_w]
                                    rfl
                                  refine pure_ (i := 26) (N := some 77) (v := undef) (a' := ?_) #[true, true, true, true, true, true, true, true, true, true, true, true, true, true, true, true, true, true, true, true, true, true, true, true, true, true, true, false, false, false, false, false, false, false] rfl rfl (any_of HT_.out (by kernel_rfl)) (fun _ _ _ h => h) (Or.inr ⟨by rfl, rfl⟩) ?_ ?_
                                  rotate_left
                                  · simp only [Act.put, List.setIfInBounds_toArray, List.set_cons_zero, List.set_cons_succ, i64_w, i32_w]
                                    rfl
                                  refine pure_ (i := 27) (N := some 78) (v := undef) (a' := ?_) #[true, true, true, true, true, true, true, true, true, true, true, true, true, true, true, true, true, true, true, true, true, true, true, true, true, true, true, true, false, false, false, false, false, false] rfl rfl (any_of HT_.out (by kernel_rfl)) (fun _ _ _ h => h) (Or.inr ⟨by rfl, rfl⟩) ?_ ?_
                                  rotate_left
                                  · simp only [Act.put, List.setIfInBounds_toArray, List.set_cons_zero, List.set_cons_succ, i64_w, i32_w]
                                    rfl
                                  refine pure_ (i := 28) (N := some 79) (v := undef) (a' := ?_) #[true, true, true, true, true, true, true, true, true, true, true, true, true, true, true, true, true, true, true, true, true, true, true, true, true, true, true, true, true, false, false, false, false, false] rfl rfl (any_of HT_.out (by kernel_rfl)) (fun _ _ _ h => h) (Or.inr ⟨by rfl, rfl⟩) ?_ ?_
                                  rotate_left
                                  · simp only [Act.put, List.setIfInBounds_toArray, List.set_cons_zero, List.set_cons_succ, i64_w, i32_w]
                                    rfl
                                  refine pure_ (i := 29) (N := some 80) (v := undef) (a' := ?_) #[true, true, true, true, true, true, true, true, true, true, true, true, true, true, true, true, true, true, true, true, true, true, true, true, true, true, true, true, true, true, false, false, false, false] rfl rfl (any_of HT_.out (by kernel_rfl)) (fun _ _ _ h => h) (Or.inr ⟨by rfl, rfl⟩) ?_ ?_
                                  rotate_left
                                  · simp only [Act.put, List.setIfInBounds_toArray, List.set_cons_zero, List.set_cons_succ, i64_w, i32_w]
                                    rfl
                                  refine pure_ (i := 30) (N := some 81) (v := undef) (a' := ?_) #[true, true, true, true, true, true, true, true, true, true, true, true, true, true, true, true, true, true, true, true, true, true, true, true, true, true, true, true, true, true, true, false, false, false] rfl rfl (any_of HT_.out (by kernel_rfl)) (fun _ _ _ h => h) (Or.inr ⟨by rfl, rfl⟩) ?_ ?_
                                  rotate_left
                                  · simp only [Act.put, List.setIfInBounds_toArray, List.set_cons_zero, List.set_cons_succ, i64_w, i32_w]
                                    rfl
                                  refine pure_ (i := 31) (N := some 82) (v := undef) (a' := ?_) #[true, true, true, true, true, true, true, true, true, true, true, true, true, true, true, true, true, true, true, true, true, true, true, true, true, true, true, true, true, true, true, true, false, false] rfl rfl (any_of HT_.out (by kernel_rfl)) (fun _ _ _ h => h) (Or.inr ⟨by rfl, rfl⟩) ?_ ?_
                                  rotate_left
                                  · simp only [Act.put, List.setIfInBounds_toArray, List.set_cons_zero, List.set_cons_succ, i64_w, i32_w]
                                    rfl
                                  refine pure_ (i := 32) (N := some 83) (v := ?_) (a' := ?_) #[true, true, true, true, true, true, true, true, true, true, true, true, true, true, true, true, true, true, true, true, true, true, true, true, true, true, true, true, true, true, true, true, true, false] rfl rfl (any_of HT_.out (by kernel_rfl)) (fun _ _ _ h => h) (Or.inl ⟨by rfl, ?_⟩) ?_ ?_
                                  rotate_left
                                  · intro w'
                                    go_simp
                                    with_reducible rfl
                                  rotate_left
                                  · simp only [Act.put, List.setIfInBounds_toArray, List.set_cons_zero, List.set_cons_succ, i64_w, i32_w]
                                    rfl
                                  refine pure_ (i := 33) (N := some 84) (v := ?_) (a' := ?_) #[true, true, true, true, true, true, true, true, true, true, true, true, true, true, true, true, true, true, true, true, true, true, true, true, true, true, true, true, true, true, true, true, true, true] rfl rfl (any_of HT_.out (by kernel_rfl)) (fun _ _ _ h => h) (Or.inl ⟨by rfl, ?_⟩) ?_ ?_
                                  rotate_left
                                  · intro w'
                                    go_simp
                                    with_reducible rfl
                                  rotate_left
                                  · simp only [Act.put, List.setIfInBounds_toArray, List.set_cons_zero, List.set_cons_succ, i64_w, i32_w]
                                    rfl
                                  refine done_ (done_of HT_.out (by kernel_rfl)) ?_
                                  try go_wp2
                                  go_meet
                                  case rel => exact ⟨_, (false), (by first | rfl | (simp; done) | (simp [*]; done)), H', ⟨by have := HK1.out; have := HK2.out; first | omega | exact Nat.le_refl _⟩, ⟨by (with_reducible repeat (first | apply Kd.S_alloc | apply Kd.S_drewN | apply Kd.S_drew)); exact HO_9.out⟩, ⟨by (with_reducible repeat (first | refine blk_drewN ?_ _ | refine blk_drew ?_ | refine blk_alloc ?_ _)); exact BK476.out⟩, ⟨by (with_reducible repeat (first | refine blk_drewN ?_ _ | refine blk_drew ?_ | refine blk_alloc ?_ _)); exact BK488.out⟩, ⟨by repeat (first | (with_reducible first | exact HB.out | apply below_alloc | apply pw_below_drewN | apply below_drew1 | refine below_set ?_ GE476.out | refine below_set ?_ GE488.out) | exact HB.out)⟩⟩
                        case rest =>
                          clear HC20
                          try clear c2
                          try clear p2
                          try clear c3
                          try clear c4
                          try clear p4
                          try clear q4
                          try clear hx4
                          try clear c27
                          try clear c27b0
                          try clear c29
                          try clear c30
                          try clear hx489_0
                          try clear hx489_1
                          try clear hx489_2
                          try clear hx489_3
                          try clear hx490_0
                          try clear hx490_1
                          try clear p489
                          try clear p490
                          try clear q489
                          try clear q490
                          obtain ⟨kq, x84_19, rfl, HA, HJ19, HO_9, BK476, BK488, HB⟩ := hcut
                          cases kq with
                          | zero => exact absurd HA.out (by simp [sizarlaw07_FactsRead.j2])
                          | succ kj19 =>
                            have H := HA.out
                            clear HA
                            simp only [sizarlaw07_FactsRead.j2] at H
                            by_cases c35 : x84_19 = true
                            · subst c35
                              have H1 : (none) = some r := by rw [if_pos rfl] at H; exact H
                              clear H
                              have H := H1
                              clear H1
                              exact absurd H (by simp)
                            · replace c35 := Bool.eq_false_iff.mpr c35
                              subst c35
                              have H1 : (if 0 ≤ x11_1 then (if x11_1 < (t478.length : Int) then ((facts_At.f l0 ((rd_T57 t478 x11_1).f0.f0) ((rd_T57 t478 x11_1).f0.f1) ((rd_T57 t478 x11_1).f0.f2) ((rd_T26 ((rd_T57 t478 x11_1).f1) x12_2).f0) a2).bind fun bt492 => ((facts_At.f l0 ((rd_T57 t478 x11_1).f0.f0) ((rd_T57 t478 x11_1).f0.f1) ((rd_T57 t478 x11_1).f0.f2) ((rd_T26 ((rd_T57 t478 x11_1).f1) x12_2).f0) a3).bind fun bt495 => (if (bt492.2 == bt495.2) = true then (sizarlaw07_FactsRead.j3 kj19 l0 a2 a3 t478 x10_2 x11_1 x12_2 (bt492.1 == bt495.1) a1_0 a1_1 a1_2 a1_3 a1_4 ((rd_T26 ((rd_T57 t478 x11_1).f1) x12_2).f0) ((rd_T26 ((rd_T57 t478 x11_1).f1) x12_2).f1)) else (sizarlaw07_FactsRead.j3 kj19 l0 a2 a3 t478 x10_2 x11_1 x12_2 false a1_0 a1_1 a1_2 a1_3 a1_4 ((rd_T26 ((rd_T57 t478 x11_1).f1) x12_2).f0) ((rd_T26 ((rd_T57 t478 x11_1).f1) x12_2).f1))))) else (none)) else (none)) = some r := by rw [if_neg (show ¬ (false = true) by decide)] at H; exact H
                              clear H
                              have H := H1
                              clear H1
                              by_cases c36 : 0 ≤ x11_1
                              · rw [if_pos c36] at H
                                have c36b0 : decide (0 ≤ x11_1) = true := decide_eq_true c36
                                clear c36
                                by_cases c37 : x11_1 < (t478.length : Int)
                                · rw [if_pos c37] at H
                                  have c37b0 : decide (x11_1 < (t478.length : Int)) = true := decide_eq_true c37
                                  clear c37
                                  replace H := Option.bind_eq_some_iff.mp H
                                  obtain ⟨⟨t492, t493⟩, A380, H⟩ := H
                                  replace H : ((facts_At.f l0 ((rd_T57 t478 x11_1).f0.f0) ((rd_T57 t478 x11_1).f0.f1) ((rd_T57 t478 x11_1).f0.f2) ((rd_T26 ((rd_T57 t478 x11_1).f1) x12_2).f0) a3).bind fun bt495 => (if (t493 == bt495.2) = true then (sizarlaw07_FactsRead.j3 kj19 l0 a2 a3 t478 x10_2 x11_1 x12_2 (t492 == bt495.1) a1_0 a1_1 a1_2 a1_3 a1_4 ((rd_T26 ((rd_T57 t478 x11_1).f1) x12_2).f0) ((rd_T26 ((rd_T57 t478 x11_1).f1) x12_2).f1)) else (sizarlaw07_FactsRead.j3 kj19 l0 a2 a3 t478 x10_2 x11_1 x12_2 false a1_0 a1_1 a1_2 a1_3 a1_4 ((rd_T26 ((rd_T57 t478 x11_1).f1) x12_2).f0) ((rd_T26 ((rd_T57 t478 x11_1).f1) x12_2).f1)))) = some r := H
                                  have A38 := Aside0.mk A380
                                  clear A380
                                  replace H := Option.bind_eq_some_iff.mp H
                                  obtain ⟨⟨t495, t496⟩, A390, H⟩ := H
                                  replace H : (if (t493 == t496) = true then (sizarlaw07_FactsRead.j3 kj19 l0 a2 a3 t478 x10_2 x11_1 x12_2 (t492 == t495) a1_0 a1_1 a1_2 a1_3 a1_4 ((rd_T26 ((rd_T57 t478 x11_1).f1) x12_2).f0) ((rd_T26 ((rd_T57 t478 x11_1).f1) x12_2).f1)) else (sizarlaw07_FactsRead.j3 kj19 l0 a2 a3 t478 x10_2 x11_1 x12_2 false a1_0 a1_1 a1_2 a1_3 a1_4 ((rd_T26 ((rd_T57 t478 x11_1).f1) x12_2).f0) ((rd_T26 ((rd_T57 t478 x11_1).f1) x12_2).f1))) = some r := H
                                  have A39 := Aside0.mk A390
                                  clear A390
                                  have HC40 := Aside0.mk H
                                  clear H
                                  try go_wp2
                                  have n0_ := Aside0.mk (Kd.S_drew HO_9.out)
                                  have n1_ := Aside0.mk (blk_drew BK476.out)
                                  have n2_ := Aside0.mk (blk_drew BK488.out)
                                  have n3_ := Aside0.mk (below_drew1 HB.out)
                                  clear HO_9
                                  clear BK476
                                  clear BK488
                                  clear HB
                                  have HO_9 := n0_
                                  have BK476 := n1_
                                  have BK488 := n2_
                                  have HB := n3_
                                  clear n0_ n1_ n2_ n3_
                                  have p491 : 0 ≤ (x11_1 : Int) := of_decide_eq_true (by first | (with_reducible assumption) | assumption)
                                  have q491 : x11_1 < (t478.length : Int) := of_decide_eq_true (by first | (with_reducible assumption) | assumption)
                                  obtain ⟨ad491, A491_3, c491_3, e491, hx491_0, hx491_1, hx491_2, hx491_3, hl491_3, hi491_3⟩ := at_T57 (Kd.S_reads' HO_9.out).2.2 x11_1 p491 q491
                                  obtain rfl : ad485 = ad491 := (by injection e491)
                                  obtain ⟨ce491, hce491, hMe491, hcc491⟩ := Kd.S_get HO_9.out z57 x11_1 p491 (by first | exact q491 | exact of_decide_eq_true (by first | (with_reducible assumption) | assumption) | (have e_ := (Kd.S_reads' HO_9.out).1; omega))
                                  obtain ⟨ve491_3, rfl, ge491_3⟩ := k57_openM hMe491
                                  have hv491_3 := hcc491 3 _ rfl
                                  rw [add_field _ _ 3 (by omega)] at hv491_3
                                  replace hv491_3 := Option.some.inj (hv491_3.symm.trans hx491_3)
                                  rw [hv491_3] at ge491_3
                                  have HL491_3 := Aside0.mk (show Kd.R k26 26 _ _ _ _ ((rd_T57 t478 x11_1).f1) from ge491_3)
                                  clear hv491_3 ge491_3
                                  clear hcc491 hce491
                                  have HR491_3 := Aside0.mk hi491_3
                                  have HC491_3 := Aside0.mk hl491_3
                                  clear hi491_3 hl491_3
                                  replace p491 := eq_true p491
                                  replace q491 := eq_true q491
                                  refine start_ (n := 15) (S := fun w' => w'.cell? ⟨gb488, 0, none⟩ = some (.int .i64 ((rd_T26 ((rd_T57 t478 x11_1).f1) x12_2).f0)) ∧ w'.cell? ⟨gb488, 1, none⟩ = some (.int .i64 ((rd_T26 ((rd_T57 t478 x11_1).f1) x12_2).f1)) ∧ w'.cell? (ad485.add ((x11_1).toNat * 4)) = some (.int .i64 ((rd_T57 t478 x11_1).f0.f0)) ∧ w'.cell? ⟨(ad485.add ((x11_1).toNat * 4)).block, (ad485.add ((x11_1).toNat * 4)).off + 1, none⟩ = some (.int .i64 ((rd_T57 t478 x11_1).f0.f1)) ∧ w'.cell? ⟨(ad485.add ((x11_1).toNat * 4)).block, (ad485.add ((x11_1).toNat * 4)).off + 2, none⟩ = some (.int .i64 ((rd_T57 t478 x11_1).f0.f2)) ∧ w'.cell? ⟨(ad485.add ((x11_1).toNat * 4)).block, (ad485.add ((x11_1).toNat * 4)).off + 3, none⟩ = some (.slice A491_3 ((rd_T57 t478 x11_1).f1).length c491_3)) (ds := []) #[false, false, false, false, false, false, false, false, false, false, false, false, false, false, false] (by kernel_rfl) rfl rfl ⟨(blk_cell BK488.out 0).trans rfl, (blk_cell BK488.out 1).trans rfl, hx491_0, hx491_1, hx491_2, hx491_3⟩ (fun hHeld => ?_); refine with_tabW sizarlaw07_FactsRead.tab16 sizarlaw07_FactsRead.bits16 (fun HT_ HW_ => ?_)
                                  generalize wc.drew = w41 at HO_9 BK476 BK488 HB HL491_3 HR491_3 hx491_0 hx491_1 hx491_2 hx491_3 hHeld ⊢
                                  refine pure_ (i := 0) (N := some 86) (v := ?_) (a' := ?_) #[true, false, false, false, false, false, false, false, false, false, false, false, false, false, false] rfl rfl (any_of HT_.out (by kernel_rfl)) (fun _ _ _ h => h) (Or.inl ⟨by rfl, ?_⟩) ?_ ?_
                                  rotate_left
                                  · intro w'
                                    go_simp
                                    with_reducible rfl
                                  rotate_left
                                  · simp only [Act.put, List.setIfInBounds_toArray, List.set_cons_zero, List.set_cons_succ, i64_w, i32_w]
                                    rfl
                                  refine pure_ (i := 1) (N := some 87) (v := ?_) (a' := ?_) #[true, true, false, false, false, false, false, false, false, false, false, false, false, false, false] rfl rfl (any_of HT_.out (by kernel_rfl)) (fun _ _ _ h => h) (Or.inl ⟨by rfl, ?_⟩) ?_ ?_
                                  rotate_left
                                  · intro w'
                                    go_simp
                                    with_reducible rfl
                                  rotate_left
                                  · simp only [Act.put, List.setIfInBounds_toArray, List.set_cons_zero, List.set_cons_succ, i64_w, i32_w]
                                    rfl
                                  refine pure_ (i := 2) (N := some 88) (v := ?_) (a' := ?_) #[true, true, true, false, false, false, false, false, false, false, false, false, false, false, false] rfl rfl (any_of HT_.out (by kernel_rfl)) (fun _ _ _ h => h) (Or.inl ⟨by rfl, ?_⟩) ?_ ?_
                                  rotate_left
                                  · intro w'
                                    go_simp
                                    with_reducible rfl
                                  rotate_left
                                  · simp only [Act.put, List.setIfInBounds_toArray, List.set_cons_zero, List.set_cons_succ, i64_w, i32_w]
                                    rfl
                                  refine pure_ (i := 3) (N := some 89) (v := ?_) (a' := ?_) #[true, true, true, true, false, false, false, false, false, false, false, false, false, false, false] rfl rfl (any_of HT_.out (by kernel_rfl)) (fun _ _ _ h => h) (Or.inl ⟨by rfl, ?_⟩) ?_ ?_
                                  rotate_left
                                  · intro w'
                                    go_simp
                                    with_reducible rfl
                                  rotate_left
                                  · simp only [Act.put, List.setIfInBounds_toArray, List.set_cons_zero, List.set_cons_succ, i64_w, i32_w]
                                    rfl
                                  refine pure_ (i := 4) (N := some 90) (v := ?_) (a' := ?_) #[true, true, true, true, true, false, false, false, false, false, false, false, false, false, false] rfl rfl (any_of HT_.out (by kernel_rfl)) (fun _ _ _ h => h) (Or.inl ⟨by rfl, ?_⟩) ?_ ?_
                                  rotate_left
                                  · intro w'
                                    go_simp
                                    with_reducible rfl
                                  rotate_left
                                  · simp only [Act.put, List.setIfInBounds_toArray, List.set_cons_zero, List.set_cons_succ, i64_w, i32_w]
                                    rfl
                                  refine pure_ (i := 6) (N := some 92) (v := ?_) (a' := ?_) #[true, true, true, true, true, false, true, false, false, false, false, false, false, false, false] rfl rfl (any_of HT_.out (by kernel_rfl)) (fun _ _ _ h => h) (Or.inl ⟨by rfl, ?_⟩) ?_ ?_
                                  rotate_left
                                  · intro w'
                                    go_simp
                                    with_reducible rfl
                                  rotate_left
                                  · simp only [Act.put, List.setIfInBounds_toArray, List.set_cons_zero, List.set_cons_succ, i64_w, i32_w]
                                    rfl
                                  refine pure_ (i := 8) (N := some 94) (v := ?_) (a' := ?_) #[true, true, true, true, true, false, true, false, true, false, false, false, false, false, false] rfl rfl (any_of HT_.out (by kernel_rfl)) (fun _ _ _ h => h) (Or.inl ⟨by rfl, ?_⟩) ?_ ?_
                                  rotate_left
                                  · intro w'
                                    go_simp
                                    with_reducible rfl
                                  rotate_left
                                  · simp only [Act.put, List.setIfInBounds_toArray, List.set_cons_zero, List.set_cons_succ, i64_w, i32_w]
                                    rfl
                                  refine take_ (i := 5) (N := some 91) (v := ?_) (a' := ?_) #[true, true, true, true, true, true, true, false, true, false, false, false, false, false, false] rfl rfl (take_ofW HT_.out HW_.out (by kernel_rfl)) (fun _ _ _ h => h) (Or.inl ⟨by rfl, ?_⟩) hHeld ?_ ?_
                                  rotate_left
                                  · rintro w' ⟨s0, s1, s2, s3, s4, s5⟩
                                    go_simp
                                    with_reducible rfl
                                  rotate_left
                                  · simp only [Act.put, List.setIfInBounds_toArray, List.set_cons_zero, List.set_cons_succ, i64_w, i32_w]
                                    rfl
                                  refine take_ (i := 7) (N := some 93) (v := ?_) (a' := ?_) #[true, true, true, true, true, true, true, true, true, false, false, false, false, false, false] rfl rfl (take_ofW HT_.out HW_.out (by kernel_rfl)) (fun _ _ _ h => h) (Or.inl ⟨by rfl, ?_⟩) hHeld ?_ ?_
                                  rotate_left
                                  · rintro w' ⟨s0, s1, s2, s3, s4, s5⟩
                                    go_simp
                                    with_reducible rfl
                                  rotate_left
                                  · simp only [Act.put, List.setIfInBounds_toArray, List.set_cons_zero, List.set_cons_succ, i64_w, i32_w]
                                    rfl
                                  refine one_ (i := 9) (N := some 95) #[true, true, true, true, true, true, true, true, true, true, false, false, false, false, false] rfl rfl (one_of HT_.out (by kernel_rfl)) (by decide) (fun K hK => ?_)
                                  refine goes_ Try.func18 (by kernel_rfl) rfl #[.slice A0 l0.length c0, .agg #[.int .i64 ((rd_T57 t478 x11_1).f0.f0), .int .i64 ((rd_T57 t478 x11_1).f0.f1), .int .i64 ((rd_T57 t478 x11_1).f0.f2)], .int .i64 ((rd_T26 ((rd_T57 t478 x11_1).f1) x12_2).f0), .int .i64 a2] (by rfl) rfl rfl (by (try simp only [List.map_toArray, List.map_cons, List.map_nil]); first | done | rfl | (simp only [List.length_drop, List.length_take]; rfl)) ?_
                                  with_reducible refine (facts_At.calls _ _ l0 ((rd_T57 t478 x11_1).f0.f0) ((rd_T57 t478 x11_1).f0.f1) ((rd_T57 t478 x11_1).f0.f2) ((rd_T26 ((rd_T57 t478 x11_1).f1) x12_2).f0) a2 t492 t493 _ ?side1 ?side2 A38.out).mono ?_
                                  (case side1 => repeat (first | exact (Kd.C_below HR0.out HB.out) | (with_reducible refine Kd.C_alloc ?_ _) | (with_reducible refine Kd.C_drewN ?_ _) | (with_reducible refine Kd.C_drew ?_)))
                                  (case side2 => exact HC0.out)
                                  rintro e w42 ⟨rfl, hb⟩
                                  have HS2_ := (hb.cell (World.block_lt_of_cell? _ _ (hHeld.2.2.1))).trans (hHeld.2.2.1)
                                  have HS3_ := (hb.cell (World.block_lt_of_cell? _ _ (hHeld.2.2.2.1))).trans (hHeld.2.2.2.1)
                                  have HS4_ := (hb.cell (World.block_lt_of_cell? _ _ (hHeld.2.2.2.2.1))).trans (hHeld.2.2.2.2.1)
                                  have HS5_ := (hb.cell (World.block_lt_of_cell? _ _ (hHeld.2.2.2.2.2))).trans (hHeld.2.2.2.2.2)
                                  refine ⟨_, rfl, ?_⟩
                                  have n0_ := Aside0.mk (Kd.S_below (by (with_reducible repeat (first | apply Kd.S_alloc | apply Kd.S_drewN | apply Kd.S_drew)); exact HO_9.out) hb)
                                  have n1_ := Aside0.mk (Kd.R_below (by (with_reducible repeat (first | apply Kd.R_alloc | apply Kd.R_drewN | apply Kd.R_drew)); exact HL491_3.out) hb)
                                  have n2_ := Aside0.mk (blk_below (g := gb476) (o := .cells #[.int .i64 a1_0, .int .i64 a1_1, .int .i64 a1_2, .int .i64 a1_3, .int .i64 a1_4] 54 (0, 0)) (by (with_reducible repeat (first | refine blk_drewN ?_ _ | refine blk_drew ?_ | refine blk_alloc ?_ _)); exact BK476.out) hb)
                                  have n3_ := Aside0.mk (blk_below (g := gb488) (o := .cells #[.int .i64 ((rd_T26 ((rd_T57 t478 x11_1).f1) x12_2).f0), .int .i64 ((rd_T26 ((rd_T57 t478 x11_1).f1) x12_2).f1)] 26 (0, 0)) (by (with_reducible repeat (first | refine blk_drewN ?_ _ | refine blk_drew ?_ | refine blk_alloc ?_ _)); exact BK488.out) hb)
                                  have n4_ := Aside0.mk (Kd.C_below (by repeat (first | (with_reducible exact HR491_3.out) | (with_reducible refine Kd.C_alloc ?_ _) | (with_reducible refine Kd.C_drewN ?_ _) | (with_reducible refine Kd.C_drew ?_) | exact HR491_3.out)) hb)
                                  have n5_ := Aside0.mk (below_step (by repeat (first | (with_reducible first | exact HB.out | apply below_alloc | apply pw_below_drewN | apply below_drew1 | refine below_set ?_ GE476.out | refine below_set ?_ GE488.out) | exact HB.out)) hb)
                                  clear HO_9
                                  clear HL491_3
                                  clear BK476
                                  clear BK488
                                  clear HR491_3
                                  clear HB
                                  have HO_9 := n0_
                                  have HL491_3 := n1_
                                  have BK476 := n2_
                                  have BK488 := n3_
                                  have HR491_3 := n4_
                                  have HB := n5_
                                  clear n0_ n1_ n2_ n3_ n4_ n5_
                                  (try clear hb)
                                  (try clear hb2)
                                  (try clear hk)
                                  (try clear hi)
                                  refine hK.out _ _ ⟨(blk_cell BK488.out 0).trans rfl, (blk_cell BK488.out 1).trans rfl, HS2_, HS3_, HS4_, HS5_⟩ (fun hHeld => ?_)
                                  clear hK K
                                  refine norm_ (a' := ?_) ?_ ?_
                                  rotate_left
                                  · show Act.put _ (some 95) _ = _
                                    simp only [Act.put, List.setIfInBounds_toArray, List.set_cons_zero, List.set_cons_succ, i64_w, i32_w]
                                    rfl
                                  refine pure_ (i := 10) (N := some 85) (v := ?_) (a' := ?_) #[true, true, true, true, true, true, true, true, true, true, true, false, false, false, false] rfl rfl (any_of HT_.out (by kernel_rfl)) (fun _ _ _ h => h) (Or.inl ⟨by rfl, ?_⟩) ?_ ?_
                                  rotate_left
                                  · intro w'
                                    go_simp
                                    with_reducible rfl
                                  rotate_left
                                  · simp only [Act.put, List.setIfInBounds_toArray, List.set_cons_zero, List.set_cons_succ, i64_w, i32_w]
                                    rfl
                                  refine pure_ (i := 11) (N := some 96) (v := ?_) (a' := ?_) #[true, true, true, true, true, true, true, true, true, true, true, true, false, false, false] rfl rfl (any_of HT_.out (by kernel_rfl)) (fun _ _ _ h => h) (Or.inl ⟨by rfl, ?_⟩) ?_ ?_
                                  rotate_left
                                  · intro w'
                                    go_simp
                                    with_reducible rfl
                                  rotate_left
                                  · simp only [Act.put, List.setIfInBounds_toArray, List.set_cons_zero, List.set_cons_succ, i64_w, i32_w]
                                    rfl
                                  refine pure_ (i := 12) (N := some 97) (v := ?_) (a' := ?_) #[true, true, true, true, true, true, true, true, true, true, true, true, true, false, false] rfl rfl (any_of HT_.out (by kernel_rfl)) (fun _ _ _ h => h) (Or.inl ⟨by rfl, ?_⟩) ?_ ?_
                                  rotate_left
                                  · intro w'
                                    go_simp
                                    with_reducible rfl
                                  rotate_left
                                  · simp only [Act.put, List.setIfInBounds_toArray, List.set_cons_zero, List.set_cons_succ, i64_w, i32_w]
                                    rfl
                                  refine pure_ (i := 13) (N := some 14) (v := ?_) (a' := ?_) #[true, true, true, true, true, true, true, true, true, true, true, true, true, true, false] rfl rfl (any_of HT_.out (by kernel_rfl)) (fun _ _ _ h => h) (Or.inl ⟨by rfl, ?_⟩) ?_ ?_
                                  rotate_left
                                  · intro w'
                                    go_simp
                                    with_reducible rfl
                                  rotate_left
                                  · simp only [Act.put, List.setIfInBounds_toArray, List.set_cons_zero, List.set_cons_succ, i64_w, i32_w]
                                    rfl
                                  refine pure_ (i := 14) (N := some 15) (v := ?_) (a' := ?_) #[true, true, true, true, true, true, true, true, true, true, true, true, true, true, true] rfl rfl (any_of HT_.out (by kernel_rfl)) (fun _ _ _ h => h) (Or.inl ⟨by rfl, ?_⟩) ?_ ?_
                                  rotate_left
                                  · intro w'
                                    go_simp
                                    with_reducible rfl
                                  rotate_left
                                  · simp only [Act.put, List.setIfInBounds_toArray, List.set_cons_zero, List.set_cons_succ, i64_w, i32_w]
                                    rfl
                                  refine done_ (done_of HT_.out (by kernel_rfl)) ?_
                                  try go_wp2
                                  have n0_ := Aside0.mk (Kd.S_drew HO_9.out)
                                  have n1_ := Aside0.mk (Kd.R_drew HL491_3.out)
                                  have n2_ := Aside0.mk (blk_drew BK476.out)
                                  have n3_ := Aside0.mk (blk_drew BK488.out)
                                  have n4_ := Aside0.mk (Kd.C_drew HR491_3.out)
                                  have n5_ := Aside0.mk (below_drew1 HB.out)
                                  clear HO_9
                                  clear HL491_3
                                  clear BK476
                                  clear BK488
                                  clear HR491_3
                                  clear HB
                                  have HO_9 := n0_
                                  have HL491_3 := n1_
                                  have BK476 := n2_
                                  have BK488 := n3_
                                  have HR491_3 := n4_
                                  have HB := n5_
                                  clear n0_ n1_ n2_ n3_ n4_ n5_
                                  have p494 : 0 ≤ (x11_1 : Int) := of_decide_eq_true (by first | (with_reducible assumption) | assumption)
                                  have q494 : x11_1 < (t478.length : Int) := of_decide_eq_true (by first | (with_reducible assumption) | assumption)
                                  obtain ⟨ad494, A494_3, c494_3, e494, hx494_0, hx494_1, hx494_2, hx494_3, hl494_3, hi494_3⟩ := at_T57 (Kd.S_reads' HO_9.out).2.2 x11_1 p494 q494
                                  obtain rfl : ad485 = ad494 := (by injection e494)
                                  obtain ⟨ce494, hce494, hMe494, hcc494⟩ := Kd.S_get HO_9.out z57 x11_1 p494 (by first | exact q494 | exact of_decide_eq_true (by first | (with_reducible assumption) | assumption) | (have e_ := (Kd.S_reads' HO_9.out).1; omega))
                                  obtain ⟨ve494_3, rfl, ge494_3⟩ := k57_openM hMe494
                                  have hv494_3 := hcc494 3 _ rfl
                                  rw [add_field _ _ 3 (by omega)] at hv494_3
                                  replace hv494_3 := Option.some.inj (hv494_3.symm.trans hx494_3)
                                  rw [hv494_3] at ge494_3
                                  have HL494_3 := Aside0.mk (show Kd.R k26 26 _ _ _ _ ((rd_T57 t478 x11_1).f1) from ge494_3)
                                  clear hv494_3 ge494_3
                                  clear hcc494 hce494
                                  have HR494_3 := Aside0.mk hi494_3
                                  have HC494_3 := Aside0.mk hl494_3
                                  clear hi494_3 hl494_3
                                  replace p494 := eq_true p494
                                  replace q494 := eq_true q494
                                  refine start_ (n := 15) (S := fun w' => w'.cell? ⟨gb488, 0, none⟩ = some (.int .i64 ((rd_T26 ((rd_T57 t478 x11_1).f1) x12_2).f0)) ∧ w'.cell? ⟨gb488, 1, none⟩ = some (.int .i64 ((rd_T26 ((rd_T57 t478 x11_1).f1) x12_2).f1)) ∧ w'.cell? (ad485.add ((x11_1).toNat * 4)) = some (.int .i64 ((rd_T57 t478 x11_1).f0.f0)) ∧ w'.cell? ⟨(ad485.add ((x11_1).toNat * 4)).block, (ad485.add ((x11_1).toNat * 4)).off + 1, none⟩ = some (.int .i64 ((rd_T57 t478 x11_1).f0.f1)) ∧ w'.cell? ⟨(ad485.add ((x11_1).toNat * 4)).block, (ad485.add ((x11_1).toNat * 4)).off + 2, none⟩ = some (.int .i64 ((rd_T57 t478 x11_1).f0.f2)) ∧ w'.cell? ⟨(ad485.add ((x11_1).toNat * 4)).block, (ad485.add ((x11_1).toNat * 4)).off + 3, none⟩ = some (.slice A494_3 ((rd_T57 t478 x11_1).f1).length c494_3)) (ds := []) #[false, false, false, false, false, false, false, false, false, false, false, false, false, false, false] (by kernel_rfl) rfl rfl ⟨(blk_cell BK488.out 0).trans rfl, (blk_cell BK488.out 1).trans rfl, hx494_0, hx494_1, hx494_2, hx494_3⟩ (fun hHeld => ?_); refine with_tabW sizarlaw07_FactsRead.tab17 sizarlaw07_FactsRead.bits17 (fun HT_ HW_ => ?_)
                                  generalize w42.drew = w43 at HO_9 HL491_3 BK476 BK488 HR491_3 HB HL494_3 HR494_3 hx494_0 hx494_1 hx494_2 hx494_3 hHeld ⊢
                                  refine pure_ (i := 0) (N := some 99) (v := ?_) (a' := ?_) #[true, false, false, false, false, false, false, false, false, false, false, false, false, false, false] rfl rfl (any_of HT_.out (by kernel_rfl)) (fun _ _ _ h => h) (Or.inl ⟨by rfl, ?_⟩) ?_ ?_
                                  rotate_left
                                  · intro w'
                                    go_simp
                                    with_reducible rfl
                                  rotate_left
                                  · simp only [Act.put, List.setIfInBounds_toArray, List.set_cons_zero, List.set_cons_succ, i64_w, i32_w]
                                    rfl
                                  refine pure_ (i := 1) (N := some 100) (v := ?_) (a' := ?_) #[true, true, false, false, false, false, false, false, false, false, false, false, false, false, false] rfl rfl (any_of HT_.out (by kernel_rfl)) (fun _ _ _ h => h) (Or.inl ⟨by rfl, ?_⟩) ?_ ?_
                                  rotate_left
                                  · intro w'
                                    go_simp
                                    with_reducible rfl
                                  rotate_left
                                  · simp only [Act.put, List.setIfInBounds_toArray, List.set_cons_zero, List.set_cons_succ, i64_w, i32_w]
                                    rfl
                                  refine pure_ (i := 2) (N := some 101) (v := ?_) (a' := ?_) #[true, true, true, false, false, false, false, false, false, false, false, false, false, false, false] rfl rfl (any_of HT_.out (by kernel_rfl)) (fun _ _ _ h => h) (Or.inl ⟨by rfl, ?_⟩) ?_ ?_
                                  rotate_left
                                  · intro w'
                                    go_simp
                                    with_reducible rfl
                                  rotate_left
                                  · simp only [Act.put, List.setIfInBounds_toArray, List.set_cons_zero, List.set_cons_succ, i64_w, i32_w]
                                    rfl
                                  refine pure_ (i := 3) (N := some 102) (v := ?_) (a' := ?_) #[true, true, true, true, false, false, false, false, false, false, false, false, false, false, false] rfl rfl (any_of HT_.out (by kernel_rfl)) (fun _ _ _ h => h) (Or.inl ⟨by rfl, ?_⟩) ?_ ?_
                                  rotate_left
                                  · intro w'
                                    go_simp
                                    with_reducible rfl
                                  rotate_left
                                  · simp only [Act.put, List.setIfInBounds_toArray, List.set_cons_zero, List.set_cons_succ, i64_w, i32_w]
                                    rfl
                                  refine pure_ (i := 4) (N := some 103) (v := ?_) (a' := ?_) #[true, true, true, true, true, false, false, false, false, false, false, false, false, false, false] rfl rfl (any_of HT_.out (by kernel_rfl)) (fun _ _ _ h => h) (Or.inl ⟨by rfl, ?_⟩) ?_ ?_
                                  rotate_left
                                  · intro w'
                                    go_simp
                                    with_reducible rfl
                                  rotate_left
                                  · simp only [Act.put, List.setIfInBounds_toArray, List.set_cons_zero, List.set_cons_succ, i64_w, i32_w]
                                    rfl
                                  refine pure_ (i := 6) (N := some 105) (v := ?_) (a' := ?_) #[true, true, true, true, true, false, true, false, false, false, false, false, false, false, false] rfl rfl (any_of HT_.out (by kernel_rfl)) (fun _ _ _ h => h) (Or.inl ⟨by rfl, ?_⟩) ?_ ?_
                                  rotate_left
                                  · intro w'
                                    go_simp
                                    with_reducible rfl
                                  rotate_left
                                  · simp only [Act.put, List.setIfInBounds_toArray, List.set_cons_zero, List.set_cons_succ, i64_w, i32_w]
                                    rfl
                                  refine pure_ (i := 8) (N := some 107) (v := ?_) (a' := ?_) #[true, true, true, true, true, false, true, false, true, false, false, false, false, false, false] rfl rfl (any_of HT_.out (by kernel_rfl)) (fun _ _ _ h => h) (Or.inl ⟨by rfl, ?_⟩) ?_ ?_
                                  rotate_left
                                  · intro w'
                                    go_simp
                                    with_reducible rfl
                                  rotate_left
                                  · simp only [Act.put, List.setIfInBounds_toArray, List.set_cons_zero, List.set_cons_succ, i64_w, i32_w]
                                    rfl
                                  refine take_ (i := 5) (N := some 104) (v := ?_) (a' := ?_) #[true, true, true, true, true, true, true, false, true, false, false, false, false, false, false] rfl rfl (take_ofW HT_.out HW_.out (by kernel_rfl)) (fun _ _ _ h => h) (Or.inl ⟨by rfl, ?_⟩) hHeld ?_ ?_
                                  rotate_left
                                  · rintro w' ⟨s0, s1, s2, s3, s4, s5⟩
                                    go_simp
                                    with_reducible rfl
                                  rotate_left
                                  · simp only [Act.put, List.setIfInBounds_toArray, List.set_cons_zero, List.set_cons_succ, i64_w, i32_w]
                                    rfl
                                  refine take_ (i := 7) (N := some 106) (v := ?_) (a' := ?_) #[true, true, true, true, true, true, true, true, true, false, false, false, false, false, false] rfl rfl (take_ofW HT_.out HW_.out (by kernel_rfl)) (fun _ _ _ h => h) (Or.inl ⟨by rfl, ?_⟩) hHeld ?_ ?_
                                  rotate_left
                                  · rintro w' ⟨s0, s1, s2, s3, s4, s5⟩
                                    go_simp
                                    with_reducible rfl
                                  rotate_left
                                  · simp only [Act.put, List.setIfInBounds_toArray, List.set_cons_zero, List.set_cons_succ, i64_w, i32_w]
                                    rfl
                                  refine one_ (i := 9) (N := some 108) #[true, true, true, true, true, true, true, true, true, true, false, false, false, false, false] rfl rfl (one_of HT_.out (by kernel_rfl)) (by decide) (fun K hK => ?_)
                                  refine goes_ Try.func18 (by kernel_rfl) rfl #[.slice A0 l0.length c0, .agg #[.int .i64 ((rd_T57 t478 x11_1).f0.f0), .int .i64 ((rd_T57 t478 x11_1).f0.f1), .int .i64 ((rd_T57 t478 x11_1).f0.f2)], .int .i64 ((rd_T26 ((rd_T57 t478 x11_1).f1) x12_2).f0), .int .i64 a3] (by rfl) rfl rfl (by (try simp only [List.map_toArray, List.map_cons, List.map_nil]); first | done | rfl | (simp only [List.length_drop, List.length_take]; rfl)) ?_
                                  with_reducible refine (facts_At.calls _ _ l0 ((rd_T57 t478 x11_1).f0.f0) ((rd_T57 t478 x11_1).f0.f1) ((rd_T57 t478 x11_1).f0.f2) ((rd_T26 ((rd_T57 t478 x11_1).f1) x12_2).f0) a3 t495 t496 _ ?side1 ?side2 A39.out).mono ?_
                                  (case side1 => repeat (first | exact (Kd.C_below HR0.out HB.out) | (with_reducible refine Kd.C_alloc ?_ _) | (with_reducible refine Kd.C_drewN ?_ _) | (with_reducible refine Kd.C_drew ?_)))
                                  (case side2 => exact HC0.out)
                                  rintro e w44 ⟨rfl, hb⟩
                                  have HS2_ := (hb.cell (World.block_lt_of_cell? _ _ (hHeld.2.2.1))).trans (hHeld.2.2.1)
                                  have HS3_ := (hb.cell (World.block_lt_of_cell? _ _ (hHeld.2.2.2.1))).trans (hHeld.2.2.2.1)
                                  have HS4_ := (hb.cell (World.block_lt_of_cell? _ _ (hHeld.2.2.2.2.1))).trans (hHeld.2.2.2.2.1)
                                  have HS5_ := (hb.cell (World.block_lt_of_cell? _ _ (hHeld.2.2.2.2.2))).trans (hHeld.2.2.2.2.2)
                                  refine ⟨_, rfl, ?_⟩
                                  have n0_ := Aside0.mk (Kd.S_below (by (with_reducible repeat (first | apply Kd.S_alloc | apply Kd.S_drewN | apply Kd.S_drew)); exact HO_9.out) hb)
                                  have n1_ := Aside0.mk (Kd.R_below (by (with_reducible repeat (first | apply Kd.R_alloc | apply Kd.R_drewN | apply Kd.R_drew)); exact HL491_3.out) hb)
                                  have n2_ := Aside0.mk (Kd.R_below (by (with_reducible repeat (first | apply Kd.R_alloc | apply Kd.R_drewN | apply Kd.R_drew)); exact HL494_3.out) hb)
                                  have n3_ := Aside0.mk (blk_below (g := gb476) (o := .cells #[.int .i64 a1_0, .int .i64 a1_1, .int .i64 a1_2, .int .i64 a1_3, .int .i64 a1_4] 54 (0, 0)) (by (with_reducible repeat (first | refine blk_drewN ?_ _ | refine blk_drew ?_ | refine blk_alloc ?_ _)); exact BK476.out) hb)
                                  have n4_ := Aside0.mk (blk_below (g := gb488) (o := .cells #[.int .i64 ((rd_T26 ((rd_T57 t478 x11_1).f1) x12_2).f0), .int .i64 ((rd_T26 ((rd_T57 t478 x11_1).f1) x12_2).f1)] 26 (0, 0)) (by (with_reducible repeat (first | refine blk_drewN ?_ _ | refine blk_drew ?_ | refine blk_alloc ?_ _)); exact BK488.out) hb)
                                  have n5_ := Aside0.mk (Kd.C_below (by repeat (first | (with_reducible exact HR491_3.out) | (with_reducible refine Kd.C_alloc ?_ _) | (with_reducible refine Kd.C_drewN ?_ _) | (with_reducible refine Kd.C_drew ?_) | exact HR491_3.out)) hb)
                                  have n6_ := Aside0.mk (Kd.C_below (by repeat (first | (with_reducible exact HR494_3.out) | (with_reducible refine Kd.C_alloc ?_ _) | (with_reducible refine Kd.C_drewN ?_ _) | (with_reducible refine Kd.C_drew ?_) | exact HR494_3.out)) hb)
                                  have n7_ := Aside0.mk (below_step (by repeat (first | (with_reducible first | exact HB.out | apply below_alloc | apply pw_below_drewN | apply below_drew1 | refine below_set ?_ GE476.out | refine below_set ?_ GE488.out) | exact HB.out)) hb)
                                  clear HO_9
                                  clear HL491_3
                                  clear HL494_3
                                  clear BK476
                                  clear BK488
                                  clear HR491_3
                                  clear HR494_3
                                  clear HB
                                  have HO_9 := n0_
                                  have HL491_3 := n1_
                                  have HL494_3 := n2_
                                  have BK476 := n3_
                                  have BK488 := n4_
                                  have HR491_3 := n5_
                                  have HR494_3 := n6_
                                  have HB := n7_
                                  clear n0_ n1_ n2_ n3_ n4_ n5_ n6_ n7_
                                  (try clear hb)
                                  (try clear hb2)
                                  (try clear hk)
                                  (try clear hi)
                                  refine hK.out _ _ ⟨(blk_cell BK488.out 0).trans rfl, (blk_cell BK488.out 1).trans rfl, HS2_, HS3_, HS4_, HS5_⟩ (fun hHeld => ?_)
                                  clear hK K
                                  refine norm_ (a' := ?_) ?_ ?_
                                  rotate_left
                                  · show Act.put _ (some 108) _ = _
                                    simp only [Act.put, List.setIfInBounds_toArray, List.set_cons_zero, List.set_cons_succ, i64_w, i32_w]
                                    rfl
                                  refine pure_ (i := 10) (N := some 98) (v := ?_) (a' := ?_) #[true, true, true, true, true, true, true, true, true, true, true, false, false, false, false] rfl rfl (any_of HT_.out (by kernel_rfl)) (fun _ _ _ h => h) (Or.inl ⟨by rfl, ?_⟩) ?_ ?_
                                  rotate_left
                                  · intro w'
                                    go_simp
                                    with_reducible rfl
                                  rotate_left
                                  · simp only [Act.put, List.setIfInBounds_toArray, List.set_cons_zero, List.set_cons_succ, i64_w, i32_w]
                                    rfl
                                  refine pure_ (i := 11) (N := some 109) (v := ?_) (a' := ?_) #[true, true, true, true, true, true, true, true, true, true, true, true, false, false, false] rfl rfl (any_of HT_.out (by kernel_rfl)) (fun _ _ _ h => h) (Or.inl ⟨by rfl, ?_⟩) ?_ ?_
                                  rotate_left
                                  · intro w'
                                    go_simp
                                    with_reducible rfl
                                  rotate_left
                                  · simp only [Act.put, List.setIfInBounds_toArray, List.set_cons_zero, List.set_cons_succ, i64_w, i32_w]
                                    rfl
                                  refine pure_ (i := 12) (N := some 110) (v := ?_) (a' := ?_) #[true, true, true, true, true, true, true, true, true, true, true, true, true, false, false] rfl rfl (any_of HT_.out (by kernel_rfl)) (fun _ _ _ h => h) (Or.inl ⟨by rfl, ?_⟩) ?_ ?_
                                  rotate_left
                                  · intro w'
                                    go_simp
                                    with_reducible rfl
                                  rotate_left
                                  · simp only [Act.put, List.setIfInBounds_toArray, List.set_cons_zero, List.set_cons_succ, i64_w, i32_w]
                                    rfl
                                  refine pure_ (i := 13) (N := some 16) (v := ?_) (a' := ?_) #[true, true, true, true, true, true, true, true, true, true, true, true, true, true, false] rfl rfl (any_of HT_.out (by kernel_rfl)) (fun _ _ _ h => h) (Or.inl ⟨by rfl, ?_⟩) ?_ ?_
                                  rotate_left
                                  · intro w'
                                    go_simp
                                    with_reducible rfl
                                  rotate_left
                                  · simp only [Act.put, List.setIfInBounds_toArray, List.set_cons_zero, List.set_cons_succ, i64_w, i32_w]
                                    rfl
                                  refine pure_ (i := 14) (N := some 17) (v := ?_) (a' := ?_) #[true, true, true, true, true, true, true, true, true, true, true, true, true, true, true] rfl rfl (any_of HT_.out (by kernel_rfl)) (fun _ _ _ h => h) (Or.inl ⟨by rfl, ?_⟩) ?_ ?_
                                  rotate_left
                                  · intro w'
                                    go_simp
                                    with_reducible rfl
                                  rotate_left
                                  · simp only [Act.put, List.setIfInBounds_toArray, List.set_cons_zero, List.set_cons_succ, i64_w, i32_w]
                                    rfl
                                  refine done_ (done_of HT_.out (by kernel_rfl)) ?_
                                  go_upto_region 18 with (fail)
                                  go_cut [118] (fun v118 wc => ∃ (kq : Nat) (x118_39 : Bool), v118 = .bool x118_39 ∧ Aside0 (sizarlaw07_FactsRead.j3 kq l0 a2 a3 t478 x10_2 x11_1 x12_2 x118_39 a1_0 a1_1 a1_2 a1_3 a1_4 ((rd_T26 ((rd_T57 t478 x11_1).f1) x12_2).f0) ((rd_T26 ((rd_T57 t478 x11_1).f1) x12_2).f1) = some r) ∧ Aside0 (kq ≤ kj19) ∧ Aside0 (Kd.S k57 57 wc w.heap.size (fun k_ => k_ ≠ gb488) (.slice (some ad485) t478.length co15) t478) ∧ Aside0 (wc.heap[gb476]? = some (.cells #[.int .i64 a1_0, .int .i64 a1_1, .int .i64 a1_2, .int .i64 a1_3, .int .i64 a1_4] 54 (0, 0))) ∧ Aside0 (wc.heap[gb488]? = some (.cells #[.int .i64 ((rd_T26 ((rd_T57 t478 x11_1).f1) x12_2).f0), .int .i64 ((rd_T26 ((rd_T57 t478 x11_1).f1) x12_2).f1)] 26 (0, 0))) ∧ Aside0 (Kd.C k26 wc A491_3 ((rd_T57 t478 x11_1).f1).length ((rd_T57 t478 x11_1).f1)) ∧ Aside0 (Kd.C k26 wc A494_3 ((rd_T57 t478 x11_1).f1).length ((rd_T57 t478 x11_1).f1)) ∧ Aside0 (Below w.heap.size w wc))
                                  case first =>
                                    have H := HC40.out
                                    clear HC40
                                    by_cases c45 : (t493 == t496) = true
                                    · rw [if_pos c45] at H
                                      have c45b0 : (t493 == t496) = true := c45
                                      (try (have c45b1 : decide (t493 = t496) = true := by simpa using c45))
                                      (try (have c45b2 : (t493 == t496) = true := by first | simpa using c45 | (have b_ : (!(t493 == t496)) = false := c45b0; cases h_ : (t493 == t496) with | true => rfl | false => rw [h_] at b_; cases b_)))
                                      clear c45
                                      (first | rw [c45b0] | (simp only [i64_w, i32_w]; rw [c45b0]) | skip)
                                      have H' := Aside0.mk H
                                      clear H
                                      go_wp2
                                      go_meet
                                      case rel => exact ⟨_, ((t492 == t495)), (by first | rfl | (simp; done) | (simp [*]; done)), H', ⟨by have := HK1.out; have := HK2.out; have := HJ19.out; first | omega | exact Nat.le_refl _⟩, ⟨by (with_reducible repeat (first | apply Kd.S_alloc | apply Kd.S_drewN | apply Kd.S_drew)); exact HO_9.out⟩, ⟨by (with_reducible repeat (first | refine blk_drewN ?_ _ | refine blk_drew ?_ | refine blk_alloc ?_ _)); exact BK476.out⟩, ⟨by (with_reducible repeat (first | refine blk_drewN ?_ _ | refine blk_drew ?_ | refine blk_alloc ?_ _)); exact BK488.out⟩, ⟨by repeat (first | (with_reducible exact HR491_3.out) | (with_reducible refine Kd.C_alloc ?_ _) | (with_reducible refine Kd.C_drewN ?_ _) | (with_reducible refine Kd.C_drew ?_) | exact HR491_3.out)⟩, ⟨by repeat (first | (with_reducible exact HR494_3.out) | (with_reducible refine Kd.C_alloc ?_ _) | (with_reducible refine Kd.C_drewN ?_ _) | (with_reducible refine Kd.C_drew ?_) | exact HR494_3.out)⟩, ⟨by repeat (first | (with_reducible first | exact HB.out | apply below_alloc | apply pw_below_drewN | apply below_drew1 | refine below_set ?_ GE476.out | refine below_set ?_ GE488.out) | exact HB.out)⟩⟩
                                    · rw [if_neg c45] at H
                                      have c45b0 : (t493 == t496) = false := by simpa using c45
                                      (try (have c45b1 : decide (t493 = t496) = false := by simpa using c45))
                                      (try (have c45b2 : (t493 == t496) = false := by simpa using c45))
                                      (try (have c45b3 : ¬ (t493 = t496) := by simpa using c45))
                                      clear c45
                                      (first | rw [c45b0] | (simp only [i64_w, i32_w]; rw [c45b0]) | skip)
                                      have H' := Aside0.mk H
                                      clear H
                                      go_wp2
                                      go_meet
                                      case rel => exact ⟨_, (false), (by first | rfl | (simp; done) | (simp [*]; done)), H', ⟨by have := HK1.out; have := HK2.out; have := HJ19.out; first | omega | exact Nat.le_refl _⟩, ⟨by (with_reducible repeat (first | apply Kd.S_alloc | apply Kd.S_drewN | apply Kd.S_drew)); exact HO_9.out⟩, ⟨by (with_reducible repeat (first | refine blk_drewN ?_ _ | refine blk_drew ?_ | refine blk_alloc ?_ _)); exact BK476.out⟩, ⟨by (with_reducible repeat (first | refine blk_drewN ?_ _ | refine blk_drew ?_ | refine blk_alloc ?_ _)); exact BK488.out⟩, ⟨by repeat (first | (with_reducible exact HR491_3.out) | (with_reducible refine Kd.C_alloc ?_ _) | (with_reducible refine Kd.C_drewN ?_ _) | (with_reducible refine Kd.C_drew ?_) | exact HR491_3.out)⟩, ⟨by repeat (first | (with_reducible exact HR494_3.out) | (with_reducible refine Kd.C_alloc ?_ _) | (with_reducible refine Kd.C_drewN ?_ _) | (with_reducible refine Kd.C_drew ?_) | exact HR494_3.out)⟩, ⟨by repeat (first | (with_reducible first | exact HB.out | apply below_alloc | apply pw_below_drewN | apply below_drew1 | refine below_set ?_ GE476.out | refine below_set ?_ GE488.out) | exact HB.out)⟩⟩
                                  case rest =>
                                    clear HC40
                                    try clear c1
                                    try clear c2
                                    try clear p2
                                    try clear c3
                                    try clear c4
                                    try clear p4
                                    try clear q4
                                    try clear hx4
                                    try clear c18
                                    try clear c27
                                    try clear c27b0
                                    try clear c29
                                    try clear c30
                                    try clear c35
                                    try clear c36
                                    try clear c36b0
                                    try clear c37
                                    try clear c37b0
                                    try clear c45
                                    try clear c45b0
                                    try clear c45b1
                                    try clear c45b2
                                    try clear hx489_0
                                    try clear hx489_1
                                    try clear hx489_2
                                    try clear hx489_3
                                    try clear hx490_0
                                    try clear hx490_1
                                    try clear hx491_0
                                    try clear hx491_1
                                    try clear hx491_2
                                    try clear hx491_3
                                    try clear hx494_0
                                    try clear hx494_1
                                    try clear hx494_2
                                    try clear hx494_3
                                    try clear p2
                                    try clear p4
                                    try clear p489
                                    try clear p490
                                    try clear p491
                                    try clear p494
                                    try clear q4
                                    try clear q489
                                    try clear q490
                                    try clear q491
                                    try clear q494
                                    obtain ⟨kq, x118_39, rfl, HA, HJ39, HO_9, BK476, BK488, HR491_3, HR494_3, HB⟩ := hcut
                                    cases kq with
                                    | zero => exact absurd HA.out (by simp [sizarlaw07_FactsRead.j3])
                                    | succ kj39 =>
                                      have H := HA.out
                                      clear HA
                                      simp only [sizarlaw07_FactsRead.j3] at H
                                      by_cases c46 : x118_39 = true
                                      · subst c46
                                        have H1 : (none) = some r := by rw [if_pos rfl] at H; exact H
                                        clear H
                                        have H := H1
                                        clear H1
                                        exact absurd H (by simp)
                                      · replace c46 := Bool.eq_false_iff.mpr c46
                                        subst c46
                                        have H1 : (if 0 ≤ x11_1 then (if x11_1 < (t478.length : Int) then (if (((rd_T57 t478 x11_1).f0.f0) == a1_0 && (((rd_T57 t478 x11_1).f0.f1) == a1_1 && (((rd_T57 t478 x11_1).f0.f2) == a1_2))) = true then (if (mx a1_3 ((rd_T26 ((rd_T57 t478 x11_1).f1) x12_2).f0)) < (mn a1_4 ((rd_T26 ((rd_T57 t478 x11_1).f1) x12_2).f1)) then (sizarlaw07_FactsRead.l1 kj39 l0 a2 a3 t478 true x11_1 (wrap64 (x12_2 + 1)) a1_0 a1_1 a1_2 a1_3 a1_4) else (sizarlaw07_FactsRead.l1 kj39 l0 a2 a3 t478 x10_2 x11_1 (wrap64 (x12_2 + 1)) a1_0 a1_1 a1_2 a1_3 a1_4)) else (sizarlaw07_FactsRead.l1 kj39 l0 a2 a3 t478 x10_2 x11_1 (wrap64 (x12_2 + 1)) a1_0 a1_1 a1_2 a1_3 a1_4)) else (none)) else (none)) = some r := by rw [if_neg (show ¬ (false = true) by decide)] at H; exact H
                                        clear H
                                        have H := H1
                                        clear H1
                                        by_cases c47 : 0 ≤ x11_1
                                        · rw [if_pos c47] at H
                                          have c47b0 : decide (0 ≤ x11_1) = true := decide_eq_true c47
                                          clear c47
                                          by_cases c48 : x11_1 < (t478.length : Int)
                                          · rw [if_pos c48] at H
                                            have c48b0 : decide (x11_1 < (t478.length : Int)) = true := decide_eq_true c48
                                            clear c48
                                            by_cases c49 : (((rd_T57 t478 x11_1).f0.f0) == a1_0 && (((rd_T57 t478 x11_1).f0.f1) == a1_1 && (((rd_T57 t478 x11_1).f0.f2) == a1_2))) = true
                                            · rw [if_pos c49] at H
                                              have c49b0 : (((rd_T57 t478 x11_1).f0.f0) == a1_0 && (((rd_T57 t478 x11_1).f0.f1) == a1_1 && (((rd_T57 t478 x11_1).f0.f2) == a1_2))) = true := c49
                                              (try (have c49b1 : decide (((rd_T57 t478 x11_1).f0.f0) = a1_0 && (((rd_T57 t478 x11_1).f0.f1) == a1_1 && (((rd_T57 t478 x11_1).f0.f2) == a1_2))) = true := by simpa using c49))
                                              (try (have c49b2 : (((rd_T57 t478 x11_1).f0.f0) == a1_0 && (((rd_T57 t478 x11_1).f0.f1) == a1_1 && (((rd_T57 t478 x11_1).f0.f2) == a1_2))) = true := by first | simpa using c49 | (have b_ : (!(((rd_T57 t478 x11_1).f0.f0) == a1_0 && (((rd_T57 t478 x11_1).f0.f1) == a1_1 && (((rd_T57 t478 x11_1).f0.f2) == a1_2)))) = false := c49b0; cases h_ : (((rd_T57 t478 x11_1).f0.f0) == a1_0 && (((rd_T57 t478 x11_1).f0.f1) == a1_1 && (((rd_T57 t478 x11_1).f0.f2) == a1_2))) with | true => rfl | false => rw [h_] at b_; cases b_)))
                                              clear c49
                                              obtain ⟨ji50, hji50⟩ : ∃ j_ : Int, (mx a1_3 ((rd_T26 ((rd_T57 t478 x11_1).f1) x12_2).f0)) = j_ := ⟨_, rfl⟩
                                              replace H : (if (ji50) < (mn a1_4 ((rd_T26 ((rd_T57 t478 x11_1).f1) x12_2).f1)) then (sizarlaw07_FactsRead.l1 kj39 l0 a2 a3 t478 true x11_1 (wrap64 (x12_2 + 1)) a1_0 a1_1 a1_2 a1_3 a1_4) else (sizarlaw07_FactsRead.l1 kj39 l0 a2 a3 t478 x10_2 x11_1 (wrap64 (x12_2 + 1)) a1_0 a1_1 a1_2 a1_3 a1_4)) = some r := by first | (rw [hji50] at H; exact H) | (simp only [hji50] at H ⊢; exact H)
                                              have hji50_ : (if a1_3 < ((rd_T26 ((rd_T57 t478 x11_1).f1) x12_2).f0) then ((rd_T26 ((rd_T57 t478 x11_1).f1) x12_2).f0) else a1_3) = ji50 := hji50
                                              obtain ⟨ji51, hji51⟩ : ∃ j_ : Int, (mn a1_4 ((rd_T26 ((rd_T57 t478 x11_1).f1) x12_2).f1)) = j_ := ⟨_, rfl⟩
                                              replace H : (if (ji50) < (ji51) then (sizarlaw07_FactsRead.l1 kj39 l0 a2 a3 t478 true x11_1 (wrap64 (x12_2 + 1)) a1_0 a1_1 a1_2 a1_3 a1_4) else (sizarlaw07_FactsRead.l1 kj39 l0 a2 a3 t478 x10_2 x11_1 (wrap64 (x12_2 + 1)) a1_0 a1_1 a1_2 a1_3 a1_4)) = some r := by first | (rw [hji51] at H; exact H) | (simp only [hji51] at H ⊢; exact H)
                                              have hji51_ : (if ((rd_T26 ((rd_T57 t478 x11_1).f1) x12_2).f1) < a1_4 then ((rd_T26 ((rd_T57 t478 x11_1).f1) x12_2).f1) else a1_4) = ji51 := hji51
                                              by_cases c52 : (ji50) < (ji51)
                                              · rw [if_pos c52] at H
                                                have c52b0 : decide ((ji50) < (ji51)) = true := decide_eq_true c52
                                                clear c52
                                                have H' := Aside0.mk H
                                                clear H
                                                try go_wp2
                                                have n0_ := Aside0.mk (Kd.S_drew HO_9.out)
                                                have n1_ := Aside0.mk (blk_drew BK476.out)
                                                have n2_ := Aside0.mk (blk_drew BK488.out)
                                                have n3_ := Aside0.mk (Kd.C_drew HR491_3.out)
                                                have n4_ := Aside0.mk (Kd.C_drew HR494_3.out)
                                                have n5_ := Aside0.mk (below_drew1 HB.out)
                                                clear HO_9
                                                clear BK476
                                                clear BK488
                                                clear HR491_3
                                                clear HR494_3
                                                clear HB
                                                have HO_9 := n0_
                                                have BK476 := n1_
                                                have BK488 := n2_
                                                have HR491_3 := n3_
                                                have HR494_3 := n4_
                                                have HB := n5_
                                                clear n0_ n1_ n2_ n3_ n4_ n5_
                                                have p497 : 0 ≤ (x11_1 : Int) := of_decide_eq_true (by first | (with_reducible assumption) | assumption)
                                                have q497 : x11_1 < (t478.length : Int) := of_decide_eq_true (by first | (with_reducible assumption) | assumption)
                                                obtain ⟨ad497, A497_3, c497_3, e497, hx497_0, hx497_1, hx497_2, hx497_3, hl497_3, hi497_3⟩ := at_T57 (Kd.S_reads' HO_9.out).2.2 x11_1 p497 q497
                                                obtain rfl : ad485 = ad497 := (by injection e497)
                                                obtain ⟨ce497, hce497, hMe497, hcc497⟩ := Kd.S_get HO_9.out z57 x11_1 p497 (by first | exact q497 | exact of_decide_eq_true (by first | (with_reducible assumption) | assumption) | (have e_ := (Kd.S_reads' HO_9.out).1; omega))
                                                obtain ⟨ve497_3, rfl, ge497_3⟩ := k57_openM hMe497
                                                have hv497_3 := hcc497 3 _ rfl
                                                rw [add_field _ _ 3 (by omega)] at hv497_3
                                                replace hv497_3 := Option.some.inj (hv497_3.symm.trans hx497_3)
                                                rw [hv497_3] at ge497_3
                                                have HL497_3 := Aside0.mk (show Kd.R k26 26 _ _ _ _ ((rd_T57 t478 x11_1).f1) from ge497_3)
                                                clear hv497_3 ge497_3
                                                clear hcc497 hce497
                                                have HR497_3 := Aside0.mk hi497_3
                                                have HC497_3 := Aside0.mk hl497_3
                                                clear hi497_3 hl497_3
                                                replace p497 := eq_true p497
                                                replace q497 := eq_true q497
                                                refine start_ (n := 21) (S := fun w' => w'.cell? ⟨gb476, 0, none⟩ = some (.int .i64 a1_0) ∧ w'.cell? ⟨gb476, 1, none⟩ = some (.int .i64 a1_1) ∧ w'.cell? ⟨gb476, 2, none⟩ = some (.int .i64 a1_2) ∧ w'.cell? ⟨gb476, 3, none⟩ = some (.int .i64 a1_3) ∧ w'.cell? ⟨gb476, 4, none⟩ = some (.int .i64 a1_4) ∧ w'.cell? ⟨gb488, 0, none⟩ = some (.int .i64 ((rd_T26 ((rd_T57 t478 x11_1).f1) x12_2).f0)) ∧ w'.cell? ⟨gb488, 1, none⟩ = some (.int .i64 ((rd_T26 ((rd_T57 t478 x11_1).f1) x12_2).f1)) ∧ w'.cell? (ad485.add ((x11_1).toNat * 4)) = some (.int .i64 ((rd_T57 t478 x11_1).f0.f0)) ∧ w'.cell? ⟨(ad485.add ((x11_1).toNat * 4)).block, (ad485.add ((x11_1).toNat * 4)).off + 1, none⟩ = some (.int .i64 ((rd_T57 t478 x11_1).f0.f1)) ∧ w'.cell? ⟨(ad485.add ((x11_1).toNat * 4)).block, (ad485.add ((x11_1).toNat * 4)).off + 2, none⟩ = some (.int .i64 ((rd_T57 t478 x11_1).f0.f2)) ∧ w'.cell? ⟨(ad485.add ((x11_1).toNat * 4)).block, (ad485.add ((x11_1).toNat * 4)).off + 3, none⟩ = some (.slice A497_3 ((rd_T57 t478 x11_1).f1).length c497_3)) (ds := []) #[false, false, false, false, false, false, false, false, false, false, false, false, false, false, false, false, false, false, false, false, false] (by kernel_rfl) rfl rfl ⟨(blk_cell BK476.out 0).trans rfl, (blk_cell BK476.out 1).trans rfl, (blk_cell BK476.out 2).trans rfl, (blk_cell BK476.out 3).trans rfl, (blk_cell BK476.out 4).trans rfl, (blk_cell BK488.out 0).trans rfl, (blk_cell BK488.out 1).trans rfl, hx497_0, hx497_1, hx497_2, hx497_3⟩ (fun hHeld => ?_); refine with_tabW sizarlaw07_FactsRead.tab20 sizarlaw07_FactsRead.bits20 (fun HT_ HW_ => ?_)
                                                generalize wc.drew = w53 at HO_9 BK476 BK488 HR491_3 HR494_3 HB HL497_3 HR497_3 hx497_0 hx497_1 hx497_2 hx497_3 hHeld ⊢
                                                refine pure_ (i := 0) (N := some 119) (v := ?_) (a' := ?_) #[true, false, false, false, false, false, false, false, false, false, false, false, false, false, false, false, false, false, false, false, false] rfl rfl (any_of HT_.out (by kernel_rfl)) (fun _ _ _ h => h) (Or.inl ⟨by rfl, ?_⟩) ?_ ?_
                                                rotate_left
                                                · intro w'
                                                  go_simp
                                                  with_reducible rfl
                                                rotate_left
                                                · simp only [Act.put, List.setIfInBounds_toArray, List.set_cons_zero, List.set_cons_succ, i64_w, i32_w]
                                                  rfl
                                                refine pure_ (i := 1) (N := some 120) (v := ?_) (a' := ?_) #[true, true, false, false, false, false, false, false, false, false, false, false, false, false, false, false, false, false, false, false, false] rfl rfl (any_of HT_.out (by kernel_rfl)) (fun _ _ _ h => h) (Or.inl ⟨by rfl, ?_⟩) ?_ ?_
                                                rotate_left
                                                · intro w'
                                                  go_simp
                                                  with_reducible rfl
                                                rotate_left
                                                · simp only [Act.put, List.setIfInBounds_toArray, List.set_cons_zero, List.set_cons_succ, i64_w, i32_w]
                                                  rfl
                                                refine pure_ (i := 2) (N := some 121) (v := ?_) (a' := ?_) #[true, true, true, false, false, false, false, false, false, false, false, false, false, false, false, false, false, false, false, false, false] rfl rfl (any_of HT_.out (by kernel_rfl)) (fun _ _ _ h => h) (Or.inl ⟨by rfl, ?_⟩) ?_ ?_
                                                rotate_left
                                                · intro w'
                                                  go_simp
                                                  with_reducible rfl
                                                rotate_left
                                                · simp only [Act.put, List.setIfInBounds_toArray, List.set_cons_zero, List.set_cons_succ, i64_w, i32_w]
                                                  rfl
                                                refine pure_ (i := 3) (N := some 122) (v := ?_) (a' := ?_) #[true, true, true, true, false, false, false, false, false, false, false, false, false, false, false, false, false, false, false, false, false] rfl rfl (any_of HT_.out (by kernel_rfl)) (fun _ _ _ h => h) (Or.inl ⟨by rfl, ?_⟩) ?_ ?_
                                                rotate_left
                                                · intro w'
                                                  go_simp
                                                  with_reducible rfl
                                                rotate_left
                                                · simp only [Act.put, List.setIfInBounds_toArray, List.set_cons_zero, List.set_cons_succ, i64_w, i32_w]
                                                  rfl
                                                refine pure_ (i := 5) (N := some 124) (v := ?_) (a' := ?_) #[true, true, true, true, false, true, false, false, false, false, false, false, false, false, false, false, false, false, false, false, false] rfl rfl (any_of HT_.out (by kernel_rfl)) (fun _ _ _ h => h) (Or.inl ⟨by rfl, ?_⟩) ?_ ?_
                                                rotate_left
                                                · intro w'
                                                  go_simp
                                                  with_reducible rfl
                                                rotate_left
                                                · simp only [Act.put, List.setIfInBounds_toArray, List.set_cons_zero, List.set_cons_succ, i64_w, i32_w]
                                                  rfl
                                                refine take_ (i := 4) (N := some 123) (v := ?_) (a' := ?_) #[true, true, true, true, true, true, false, false, false, false, false, false, false, false, false, false, false, false, false, false, false] rfl rfl (take_ofW HT_.out HW_.out (by kernel_rfl)) (fun _ _ _ h => h) (Or.inl ⟨by rfl, ?_⟩) hHeld ?_ ?_
                                                rotate_left
                                                · rintro w' ⟨s0, s1, s2, s3, s4, s5, s6, s7, s8, s9, s10⟩
                                                  go_simp
                                                  with_reducible rfl
                                                rotate_left
                                                · simp only [Act.put, List.setIfInBounds_toArray, List.set_cons_zero, List.set_cons_succ, i64_w, i32_w]
                                                  rfl
                                                refine take_ (i := 6) (N := some 125) (v := ?_) (a' := ?_) #[true, true, true, true, true, true, true, false, false, false, false, false, false, false, false, false, false, false, false, false, false] rfl rfl (take_ofW HT_.out HW_.out (by kernel_rfl)) (fun _ _ _ h => h) (Or.inl ⟨by rfl, ?_⟩) hHeld ?_ ?_
                                                rotate_left
                                                · rintro w' ⟨s0, s1, s2, s3, s4, s5, s6, s7, s8, s9, s10⟩
                                                  go_simp
                                                  with_reducible rfl
                                                rotate_left
                                                · simp only [Act.put, List.setIfInBounds_toArray, List.set_cons_zero, List.set_cons_succ, i64_w, i32_w]
                                                  rfl
                                                refine pure_ (i := 7) (N := some 126) (v := ?_) (a' := ?_) #[true, true, true, true, true, true, true, true, false, false, false, false, false, false, false, false, false, false, false, false, false] rfl rfl (any_of HT_.out (by kernel_rfl)) (fun _ _ _ h => h) (Or.inl ⟨by rfl, ?_⟩) ?_ ?_
                                                rotate_left
                                                · intro w'
                                                  go_simp
                                                  with_reducible rfl
                                                rotate_left
                                                · simp only [Act.put, List.setIfInBounds_toArray, List.set_cons_zero, List.set_cons_succ, i64_w, i32_w]
                                                  rfl
                                                refine pure_ (i := 8) (N := some 127) (v := ?_) (a' := ?_) #[true, true, true, true, true, true, true, true, true, false, false, false, false, false, false, false, false, false, false, false, false] rfl rfl (any_of HT_.out (by kernel_rfl)) (fun _ _ _ h => h) (Or.inl ⟨by rfl, ?_⟩) ?_ ?_
                                                rotate_left
                                                · intro w'
                                                  go_simp
                                                  with_reducible rfl
                                                rotate_left
                                                · simp only [Act.put, List.setIfInBounds_toArray, List.set_cons_zero, List.set_cons_succ, i64_w, i32_w]
                                                  rfl
                                                refine pure_ (i := 9) (N := some 128) (v := ?_) (a' := ?_) #[true, true, true, true, true, true, true, true, true, true, false, false, false, false, false, false, false, false, false, false, false] rfl rfl (any_of HT_.out (by kernel_rfl)) (fun _ _ _ h => h) (Or.inl ⟨by rfl, ?_⟩) ?_ ?_
                                                rotate_left
                                                · intro w'
                                                  go_simp
                                                  with_reducible rfl
                                                rotate_left
                                                · simp only [Act.put, List.setIfInBounds_toArray, List.set_cons_zero, List.set_cons_succ, i64_w, i32_w]
                                                  rfl
                                                refine pure_ (i := 11) (N := some 130) (v := ?_) (a' := ?_) #[true, true, true, true, true, true, true, true, true, true, false, true, false, false, false, false, false, false, false, false, false] rfl rfl (any_of HT_.out (by kernel_rfl)) (fun _ _ _ h => h) (Or.inl ⟨by rfl, ?_⟩) ?_ ?_
                                                rotate_left
                                                · intro w'
                                                  go_simp
                                                  with_reducible rfl
                                                rotate_left
                                                · simp only [Act.put, List.setIfInBounds_toArray, List.set_cons_zero, List.set_cons_succ, i64_w, i32_w]
                                                  rfl
                                                refine pure_ (i := 14) (N := some 133) (v := ?_) (a' := ?_) #[true, true, true, true, true, true, true, true, true, true, false, true, false, false, true, false, false, false, false, false, false] rfl rfl (any_of HT_.out (by kernel_rfl)) (fun _ _ _ h => h) (Or.inl ⟨by rfl, ?_⟩) ?_ ?_
                                                rotate_left
                                                · intro w'
                                                  go_simp
                                                  with_reducible rfl
                                                rotate_left
                                                · simp only [Act.put, List.setIfInBounds_toArray, List.set_cons_zero, List.set_cons_succ, i64_w, i32_w]
                                                  rfl
                                                refine pure_ (i := 16) (N := some 135) (v := ?_) (a' := ?_) #[true, true, true, true, true, true, true, true, true, true, false, true, false, false, true, false, true, false, false, false, false] rfl rfl (any_of HT_.out (by kernel_rfl)) (fun _ _ _ h => h) (Or.inl ⟨by rfl, ?_⟩) ?_ ?_
                                                rotate_left
                                                · intro w'
                                                  go_simp
                                                  with_reducible rfl
                                                rotate_left
                                                · simp only [Act.put, List.setIfInBounds_toArray, List.set_cons_zero, List.set_cons_succ, i64_w, i32_w]
                                                  rfl
                                                refine take_ (i := 10) (N := some 129) (v := ?_) (a' := ?_) #[true, true, true, true, true, true, true, true, true, true, true, true, false, false, true, false, true, false, false, false, false] rfl rfl (take_ofW HT_.out HW_.out (by kernel_rfl)) (fun _ _ _ h => h) (Or.inl ⟨by rfl, ?_⟩) hHeld ?_ ?_
                                                rotate_left
                                                · rintro w' ⟨s0, s1, s2, s3, s4, s5, s6, s7, s8, s9, s10⟩
                                                  go_simp
                                                  with_reducible rfl
                                                rotate_left
                                                · simp only [Act.put, List.setIfInBounds_toArray, List.set_cons_zero, List.set_cons_succ, i64_w, i32_w]
                                                  rfl
                                                refine take_ (i := 12) (N := some 131) (v := ?_) (a' := ?_) #[true, true, true, true, true, true, true, true, true, true, true, true, true, false, true, false, true, false, false, false, false] rfl rfl (take_ofW HT_.out HW_.out (by kernel_rfl)) (fun _ _ _ h => h) (Or.inl ⟨by rfl, ?_⟩) hHeld ?_ ?_
                                                rotate_left
                                                · rintro w' ⟨s0, s1, s2, s3, s4, s5, s6, s7, s8, s9, s10⟩
                                                  go_simp
                                                  with_reducible rfl
                                                rotate_left
                                                · simp only [Act.put, List.setIfInBounds_toArray, List.set_cons_zero, List.set_cons_succ, i64_w, i32_w]
                                                  rfl
                                                refine pure_ (i := 13) (N := some 132) (v := ?_) (a' := ?_) #[true, true, true, true, true, true, true, true, true, true, true, true, true, true, true, false, true, false, false, false, false] rfl rfl (any_of HT_.out (by kernel_rfl)) (fun _ _ _ h => h) (Or.inl ⟨by rfl, ?_⟩) ?_ ?_
                                                rotate_left
                                                · intro w'
                                                  go_simp
                                                  with_reducible rfl
                                                rotate_left
                                                · simp only [Act.put, List.setIfInBounds_toArray, List.set_cons_zero, List.set_cons_succ, i64_w, i32_w]
                                                  rfl
                                                refine take_ (i := 15) (N := some 134) (v := ?_) (a' := ?_) #[true, true, true, true, true, true, true, true, true, true, true, true, true, true, true, true, true, false, false, false, false] rfl rfl (take_ofW HT_.out HW_.out (by kernel_rfl)) (fun _ _ _ h => h) (Or.inl ⟨by rfl, ?_⟩) hHeld ?_ ?_
                                                rotate_left
                                                · rintro w' ⟨s0, s1, s2, s3, s4, s5, s6, s7, s8, s9, s10⟩
                                                  go_simp
                                                  with_reducible rfl
                                                rotate_left
                                                · simp only [Act.put, List.setIfInBounds_toArray, List.set_cons_zero, List.set_cons_succ, i64_w, i32_w]
                                                  rfl
                                                refine take_ (i := 17) (N := some 136) (v := ?_) (a' := ?_) #[true, true, true, true, true, true, true, true, true, true, true, true, true, true, true, true, true, true, false, false, false] rfl rfl (take_ofW HT_.out HW_.out (by kernel_rfl)) (fun _ _ _ h => h) (Or.inl ⟨by rfl, ?_⟩) hHeld ?_ ?_
                                                rotate_left
                                                · rintro w' ⟨s0, s1, s2, s3, s4, s5, s6, s7, s8, s9, s10⟩
                                                  go_simp
                                                  with_reducible rfl
                                                rotate_left
                                                · simp only [Act.put, List.setIfInBounds_toArray, List.set_cons_zero, List.set_cons_succ, i64_w, i32_w]
                                                  rfl
                                                refine pure_ (i := 18) (N := some 137) (v := ?_) (a' := ?_) #[true, true, true, true, true, true, true, true, true, true, true, true, true, true, true, true, true, true, true, false, false] rfl rfl (any_of HT_.out (by kernel_rfl)) (fun _ _ _ h => h) (Or.inl ⟨by rfl, ?_⟩) ?_ ?_
                                                rotate_left
                                                · intro w'
                                                  go_simp
                                                  with_reducible rfl
                                                rotate_left
                                                · simp only [Act.put, List.setIfInBounds_toArray, List.set_cons_zero, List.set_cons_succ, i64_w, i32_w]
                                                  rfl
                                                refine pure_ (i := 19) (N := some 138) (v := ?_) (a' := ?_) #[true, true, true, true, true, true, true, true, true, true, true, true, true, true, true, true, true, true, true, true, false] rfl rfl (any_of HT_.out (by kernel_rfl)) (fun _ _ _ h => h) (Or.inl ⟨by rfl, ?_⟩) ?_ ?_
                                                rotate_left
                                                · intro w'
                                                  go_simp
                                                  with_reducible rfl
                                                rotate_left
                                                · simp only [Act.put, List.setIfInBounds_toArray, List.set_cons_zero, List.set_cons_succ, i64_w, i32_w]
                                                  rfl
                                                refine pure_ (i := 20) (N := some 139) (v := ?_) (a' := ?_) #[true, true, true, true, true, true, true, true, true, true, true, true, true, true, true, true, true, true, true, true, true] rfl rfl (any_of HT_.out (by kernel_rfl)) (fun _ _ _ h => h) (Or.inl ⟨by rfl, ?_⟩) ?_ ?_
                                                rotate_left
                                                · intro w'
                                                  go_simp
                                                  with_reducible rfl
                                                rotate_left
                                                · simp only [Act.put, List.setIfInBounds_toArray, List.set_cons_zero, List.set_cons_succ, i64_w, i32_w]
                                                  rfl
                                                refine done_ (done_of HT_.out (by kernel_rfl)) ?_
                                                try go_wp2
                                                go_roundg kj39
                                                case measure => have := HK1.out; have := HK2.out; have := HJ19.out; have := HJ39.out; omega
                                                case rel => exact ⟨(true), (wrap64 (x12_2 + 1)), (by first | rfl | (simp; done) | (simp [*]; done)), (by first | rfl | (simp; done) | (simp [*]; done)), H', ⟨by have := HK1.out; have := HK2.out; have := HJ19.out; have := HJ39.out; omega⟩, ⟨by (with_reducible repeat (first | apply Kd.S_alloc | apply Kd.S_drewN | apply Kd.S_drew)); exact Kd.S_mono HO_9.out (fun _ hk => trivial)⟩, ⟨by (with_reducible repeat (first | refine blk_drewN ?_ _ | refine blk_drew ?_ | refine blk_alloc ?_ _)); exact BK476.out⟩, ⟨by repeat (first | (with_reducible first | exact HB.out | apply below_alloc | apply pw_below_drewN | apply below_drew1 | refine below_set ?_ GE476.out | refine below_set ?_ GE488.out) | exact HB.out)⟩⟩
                                              · rw [if_neg c52] at H
                                                have c52b0 : decide ((ji50) < (ji51)) = false := decide_eq_false c52
                                                clear c52
                                                have H' := Aside0.mk H
                                                clear H
                                                try go_wp2
                                                have n0_ := Aside0.mk (Kd.S_drew HO_9.out)
                                                have n1_ := Aside0.mk (blk_drew BK476.out)
                                                have n2_ := Aside0.mk (blk_drew BK488.out)
                                                have n3_ := Aside0.mk (Kd.C_drew HR491_3.out)
                                                have n4_ := Aside0.mk (Kd.C_drew HR494_3.out)
                                                have n5_ := Aside0.mk (below_drew1 HB.out)
                                                clear HO_9
                                                clear BK476
                                                clear BK488
                                                clear HR491_3
                                                clear HR494_3
                                                clear HB
                                                have HO_9 := n0_
                                                have BK476 := n1_
                                                have BK488 := n2_
                                                have HR491_3 := n3_
                                                have HR494_3 := n4_
                                                have HB := n5_
                                                clear n0_ n1_ n2_ n3_ n4_ n5_
                                                have p497 : 0 ≤ (x11_1 : Int) := of_decide_eq_true (by first | (with_reducible assumption) | assumption)
                                                have q497 : x11_1 < (t478.length : Int) := of_decide_eq_true (by first | (with_reducible assumption) | assumption)
                                                obtain ⟨ad497, A497_3, c497_3, e497, hx497_0, hx497_1, hx497_2, hx497_3, hl497_3, hi497_3⟩ := at_T57 (Kd.S_reads' HO_9.out).2.2 x11_1 p497 q497
                                                obtain rfl : ad485 = ad497 := (by injection e497)
                                                obtain ⟨ce497, hce497, hMe497, hcc497⟩ := Kd.S_get HO_9.out z57 x11_1 p497 (by first | exact q497 | exact of_decide_eq_true (by first | (with_reducible assumption) | assumption) | (have e_ := (Kd.S_reads' HO_9.out).1; omega))
                                                obtain ⟨ve497_3, rfl, ge497_3⟩ := k57_openM hMe497
                                                have hv497_3 := hcc497 3 _ rfl
                                                rw [add_field _ _ 3 (by omega)] at hv497_3
                                                replace hv497_3 := Option.some.inj (hv497_3.symm.trans hx497_3)
                                                rw [hv497_3] at ge497_3
                                                have HL497_3 := Aside0.mk (show Kd.R k26 26 _ _ _ _ ((rd_T57 t478 x11_1).f1) from ge497_3)
                                                clear hv497_3 ge497_3
                                                clear hcc497 hce497
                                                have HR497_3 := Aside0.mk hi497_3
                                                have HC497_3 := Aside0.mk hl497_3
                                                clear hi497_3 hl497_3
                                                replace p497 := eq_true p497
                                                replace q497 := eq_true q497
                                                refine start_ (n := 21) (S := fun w' => w'.cell? ⟨gb476, 0, none⟩ = some (.int .i64 a1_0) ∧ w'.cell? ⟨gb476, 1, none⟩ = some (.int .i64 a1_1) ∧ w'.cell? ⟨gb476, 2, none⟩ = some (.int .i64 a1_2) ∧ w'.cell? ⟨gb476, 3, none⟩ = some (.int .i64 a1_3) ∧ w'.cell? ⟨gb476, 4, none⟩ = some (.int .i64 a1_4) ∧ w'.cell? ⟨gb488, 0, none⟩ = some (.int .i64 ((rd_T26 ((rd_T57 t478 x11_1).f1) x12_2).f0)) ∧ w'.cell? ⟨gb488, 1, none⟩ = some (.int .i64 ((rd_T26 ((rd_T57 t478 x11_1).f1) x12_2).f1)) ∧ w'.cell? (ad485.add ((x11_1).toNat * 4)) = some (.int .i64 ((rd_T57 t478 x11_1).f0.f0)) ∧ w'.cell? ⟨(ad485.add ((x11_1).toNat * 4)).block, (ad485.add ((x11_1).toNat * 4)).off + 1, none⟩ = some (.int .i64 ((rd_T57 t478 x11_1).f0.f1)) ∧ w'.cell? ⟨(ad485.add ((x11_1).toNat * 4)).block, (ad485.add ((x11_1).toNat * 4)).off + 2, none⟩ = some (.int .i64 ((rd_T57 t478 x11_1).f0.f2)) ∧ w'.cell? ⟨(ad485.add ((x11_1).toNat * 4)).block, (ad485.add ((x11_1).toNat * 4)).off + 3, none⟩ = some (.slice A497_3 ((rd_T57 t478 x11_1).f1).length c497_3)) (ds := []) #[false, false, false, false, false, false, false, false, false, false, false, false, false, false, false, false, false, false, false, false, false] (by kernel_rfl) rfl rfl ⟨(blk_cell BK476.out 0).trans rfl, (blk_cell BK476.out 1).trans rfl, (blk_cell BK476.out 2).trans rfl, (blk_cell BK476.out 3).trans rfl, (blk_cell BK476.out 4).trans rfl, (blk_cell BK488.out 0).trans rfl, (blk_cell BK488.out 1).trans rfl, hx497_0, hx497_1, hx497_2, hx497_3⟩ (fun hHeld => ?_); refine with_tabW sizarlaw07_FactsRead.tab20 sizarlaw07_FactsRead.bits20 (fun HT_ HW_ => ?_)
                                                generalize wc.drew = w54 at HO_9 BK476 BK488 HR491_3 HR494_3 HB HL497_3 HR497_3 hx497_0 hx497_1 hx497_2 hx497_3 hHeld ⊢
                                                refine pure_ (i := 0) (N := some 119) (v := ?_) (a' := ?_) #[true, false, false, false, false, false, false, false, false, false, false, false, false, false, false, false, false, false, false, false, false] rfl rfl (any_of HT_.out (by kernel_rfl)) (fun _ _ _ h => h) (Or.inl ⟨by rfl, ?_⟩) ?_ ?_
                                                rotate_left
                                                · intro w'
                                                  go_simp
                                                  with_reducible rfl
                                                rotate_left
                                                · simp only [Act.put, List.setIfInBounds_toArray, List.set_cons_zero, List.set_cons_succ, i64_w, i32_w]
                                                  rfl
                                                refine pure_ (i := 1) (N := some 120) (v := ?_) (a' := ?_) #[true, true, false, false, false, false, false, false, false, false, false, false, false, false, false, false, false, false, false, false, false] rfl rfl (any_of HT_.out (by kernel_rfl)) (fun _ _ _ h => h) (Or.inl ⟨by rfl, ?_⟩) ?_ ?_
                                                rotate_left
                                                · intro w'
                                                  go_simp
                                                  with_reducible rfl
                                                rotate_left
                                                · simp only [Act.put, List.setIfInBounds_toArray, List.set_cons_zero, List.set_cons_succ, i64_w, i32_w]
                                                  rfl
                                                refine pure_ (i := 2) (N := some 121) (v := ?_) (a' := ?_) #[true, true, true, false, false, false, false, false, false, false, false, false, false, false, false, false, false, false, false, false, false] rfl rfl (any_of HT_.out (by kernel_rfl)) (fun _ _ _ h => h) (Or.inl ⟨by rfl, ?_⟩) ?_ ?_
                                                rotate_left
                                                · intro w'
                                                  go_simp
                                                  with_reducible rfl
                                                rotate_left
                                                · simp only [Act.put, List.setIfInBounds_toArray, List.set_cons_zero, List.set_cons_succ, i64_w, i32_w]
                                                  rfl
                                                refine pure_ (i := 3) (N := some 122) (v := ?_) (a' := ?_) #[true, true, true, true, false, false, false, false, false, false, false, false, false, false, false, false, false, false, false, false, false] rfl rfl (any_of HT_.out (by kernel_rfl)) (fun _ _ _ h => h) (Or.inl ⟨by rfl, ?_⟩) ?_ ?_
                                                rotate_left
                                                · intro w'
                                                  go_simp
                                                  with_reducible rfl
                                                rotate_left
                                                · simp only [Act.put, List.setIfInBounds_toArray, List.set_cons_zero, List.set_cons_succ, i64_w, i32_w]
                                                  rfl
                                                refine pure_ (i := 5) (N := some 124) (v := ?_) (a' := ?_) #[true, true, true, true, false, true, false, false, false, false, false, false, false, false, false, false, false, false, false, false, false] rfl rfl (any_of HT_.out (by kernel_rfl)) (fun _ _ _ h => h) (Or.inl ⟨by rfl, ?_⟩) ?_ ?_
                                                rotate_left
                                                · intro w'
                                                  go_simp
                                                  with_reducible rfl
                                                rotate_left
                                                · simp only [Act.put, List.setIfInBounds_toArray, List.set_cons_zero, List.set_cons_succ, i64_w, i32_w]
                                                  rfl
                                                refine take_ (i := 4) (N := some 123) (v := ?_) (a' := ?_) #[true, true, true, true, true, true, false, false, false, false, false, false, false, false, false, false, false, false, false, false, false] rfl rfl (take_ofW HT_.out HW_.out (by kernel_rfl)) (fun _ _ _ h => h) (Or.inl ⟨by rfl, ?_⟩) hHeld ?_ ?_
                                                rotate_left
                                                · rintro w' ⟨s0, s1, s2, s3, s4, s5, s6, s7, s8, s9, s10⟩
                                                  go_simp
                                                  with_reducible rfl
                                                rotate_left
                                                · simp only [Act.put, List.setIfInBounds_toArray, List.set_cons_zero, List.set_cons_succ, i64_w, i32_w]
                                                  rfl
                                                refine take_ (i := 6) (N := some 125) (v := ?_) (a' := ?_) #[true, true, true, true, true, true, true, false, false, false, false, false, false, false, false, false, false, false, false, false, false] rfl rfl (take_ofW HT_.out HW_.out (by kernel_rfl)) (fun _ _ _ h => h) (Or.inl ⟨by rfl, ?_⟩) hHeld ?_ ?_
                                                rotate_left
                                                · rintro w' ⟨s0, s1, s2, s3, s4, s5, s6, s7, s8, s9, s10⟩
                                                  go_simp
                                                  with_reducible rfl
                                                rotate_left
                                                · simp only [Act.put, List.setIfInBounds_toArray, List.set_cons_zero, List.set_cons_succ, i64_w, i32_w]
                                                  rfl
                                                refine pure_ (i := 7) (N := some 126) (v := ?_) (a' := ?_) #[true, true, true, true, true, true, true, true, false, false, false, false, false, false, false, false, false, false, false, false, false] rfl rfl (any_of HT_.out (by kernel_rfl)) (fun _ _ _ h => h) (Or.inl ⟨by rfl, ?_⟩) ?_ ?_
                                                rotate_left
                                                · intro w'
                                                  go_simp
                                                  with_reducible rfl
                                                rotate_left
                                                · simp only [Act.put, List.setIfInBounds_toArray, List.set_cons_zero, List.set_cons_succ, i64_w, i32_w]
                                                  rfl
                                                refine pure_ (i := 8) (N := some 127) (v := ?_) (a' := ?_) #[true, true, true, true, true, true, true, true, true, false, false, false, false, false, false, false, false, false, false, false, false] rfl rfl (any_of HT_.out (by kernel_rfl)) (fun _ _ _ h => h) (Or.inl ⟨by rfl, ?_⟩) ?_ ?_
                                                rotate_left
                                                · intro w'
                                                  go_simp
                                                  with_reducible rfl
                                                rotate_left
                                                · simp only [Act.put, List.setIfInBounds_toArray, List.set_cons_zero, List.set_cons_succ, i64_w, i32_w]
                                                  rfl
                                                refine pure_ (i := 9) (N := some 128) (v := ?_) (a' := ?_) #[true, true, true, true, true, true, true, true, true, true, false, false, false, false, false, false, false, false, false, false, false] rfl rfl (any_of HT_.out (by kernel_rfl)) (fun _ _ _ h => h) (Or.inl ⟨by rfl, ?_⟩) ?_ ?_
                                                rotate_left
                                                · intro w'
                                                  go_simp
                                                  with_reducible rfl
                                                rotate_left
                                                · simp only [Act.put, List.setIfInBounds_toArray, List.set_cons_zero, List.set_cons_succ, i64_w, i32_w]
                                                  rfl
                                                refine pure_ (i := 11) (N := some 130) (v := ?_) (a' := ?_) #[true, true, true, true, true, true, true, true, true, true, false, true, false, false, false, false, false, false, false, false, false] rfl rfl (any_of HT_.out (by kernel_rfl)) (fun _ _ _ h => h) (Or.inl ⟨by rfl, ?_⟩) ?_ ?_
                                                rotate_left
                                                · intro w'
                                                  go_simp
                                                  with_reducible rfl
                                                rotate_left
                                                · simp only [Act.put, List.setIfInBounds_toArray, List.set_cons_zero, List.set_cons_succ, i64_w, i32_w]
                                                  rfl
                                                refine pure_ (i := 14) (N := some 133) (v := ?_) (a' := ?_) #[true, true, true, true, true, true, true, true, true, true, false, true, false, false, true, false, false, false, false, false, false] rfl rfl (any_of HT_.out (by kernel_rfl)) (fun _ _ _ h => h) (Or.inl ⟨by rfl, ?_⟩) ?_ ?_
                                                rotate_left
                                                · intro w'
                                                  go_simp
                                                  with_reducible rfl
                                                rotate_left
                                                · simp only [Act.put, List.setIfInBounds_toArray, List.set_cons_zero, List.set_cons_succ, i64_w, i32_w]
                                                  rfl
                                                refine pure_ (i := 16) (N := some 135) (v := ?_) (a' := ?_) #[true, true, true, true, true, true, true, true, true, true, false, true, false, false, true, false, true, false, false, false, false] rfl rfl (any_of HT_.out (by kernel_rfl)) (fun _ _ _ h => h) (Or.inl ⟨by rfl, ?_⟩) ?_ ?_
                                                rotate_left
                                                · intro w'
                                                  go_simp
                                                  with_reducible rfl
                                                rotate_left
                                                · simp only [Act.put, List.setIfInBounds_toArray, List.set_cons_zero, List.set_cons_succ, i64_w, i32_w]
                                                  rfl
                                                refine take_ (i := 10) (N := some 129) (v := ?_) (a' := ?_) #[true, true, true, true, true, true, true, true, true, true, true, true, false, false, true, false, true, false, false, false, false] rfl rfl (take_ofW HT_.out HW_.out (by kernel_rfl)) (fun _ _ _ h => h) (Or.inl ⟨by rfl, ?_⟩) hHeld ?_ ?_
                                                rotate_left
                                                · rintro w' ⟨s0, s1, s2, s3, s4, s5, s6, s7, s8, s9, s10⟩
                                                  go_simp
                                                  with_reducible rfl
                                                rotate_left
                                                · simp only [Act.put, List.setIfInBounds_toArray, List.set_cons_zero, List.set_cons_succ, i64_w, i32_w]
                                                  rfl
                                                refine take_ (i := 12) (N := some 131) (v := ?_) (a' := ?_) #[true, true, true, true, true, true, true, true, true, true, true, true, true, false, true, false, true, false, false, false, false] rfl rfl (take_ofW HT_.out HW_.out (by kernel_rfl)) (fun _ _ _ h => h) (Or.inl ⟨by rfl, ?_⟩) hHeld ?_ ?_
                                                rotate_left
                                                · rintro w' ⟨s0, s1, s2, s3, s4, s5, s6, s7, s8, s9, s10⟩
                                                  go_simp
                                                  with_reducible rfl
                                                rotate_left
                                                · simp only [Act.put, List.setIfInBounds_toArray, List.set_cons_zero, List.set_cons_succ, i64_w, i32_w]
                                                  rfl
                                                refine pure_ (i := 13) (N := some 132) (v := ?_) (a' := ?_) #[true, true, true, true, true, true, true, true, true, true, true, true, true, true, true, false, true, false, false, false, false] rfl rfl (any_of HT_.out (by kernel_rfl)) (fun _ _ _ h => h) (Or.inl ⟨by rfl, ?_⟩) ?_ ?_
                                                rotate_left
                                                · intro w'
                                                  go_simp
                                                  with_reducible rfl
                                                rotate_left
                                                · simp only [Act.put, List.setIfInBounds_toArray, List.set_cons_zero, List.set_cons_succ, i64_w, i32_w]
                                                  rfl
                                                refine take_ (i := 15) (N := some 134) (v := ?_) (a' := ?_) #[true, true, true, true, true, true, true, true, true, true, true, true, true, true, true, true, true, false, false, false, false] rfl rfl (take_ofW HT_.out HW_.out (by kernel_rfl)) (fun _ _ _ h => h) (Or.inl ⟨by rfl, ?_⟩) hHeld ?_ ?_
                                                rotate_left
                                                · rintro w' ⟨s0, s1, s2, s3, s4, s5, s6, s7, s8, s9, s10⟩
                                                  go_simp
                                                  with_reducible rfl
                                                rotate_left
                                                · simp only [Act.put, List.setIfInBounds_toArray, List.set_cons_zero, List.set_cons_succ, i64_w, i32_w]
                                                  rfl
                                                refine take_ (i := 17) (N := some 136) (v := ?_) (a' := ?_) #[true, true, true, true, true, true, true, true, true, true, true, true, true, true, true, true, true, true, false, false, false] rfl rfl (take_ofW HT_.out HW_.out (by kernel_rfl)) (fun _ _ _ h => h) (Or.inl ⟨by rfl, ?_⟩) hHeld ?_ ?_
                                                rotate_left
                                                · rintro w' ⟨s0, s1, s2, s3, s4, s5, s6, s7, s8, s9, s10⟩
                                                  go_simp
                                                  with_reducible rfl
                                                rotate_left
                                                · simp only [Act.put, List.setIfInBounds_toArray, List.set_cons_zero, List.set_cons_succ, i64_w, i32_w]
                                                  rfl
                                                refine pure_ (i := 18) (N := some 137) (v := ?_) (a' := ?_) #[true, true, true, true, true, true, true, true, true, true, true, true, true, true, true, true, true, true, true, false, false] rfl rfl (any_of HT_.out (by kernel_rfl)) (fun _ _ _ h => h) (Or.inl ⟨by rfl, ?_⟩) ?_ ?_
                                                rotate_left
                                                · intro w'
                                                  go_simp
                                                  with_reducible rfl
                                                rotate_left
                                                · simp only [Act.put, List.setIfInBounds_toArray, List.set_cons_zero, List.set_cons_succ, i64_w, i32_w]
                                                  rfl
                                                refine pure_ (i := 19) (N := some 138) (v := ?_) (a' := ?_) #[true, true, true, true, true, true, true, true, true, true, true, true, true, true, true, true, true, true, true, true, false] rfl rfl (any_of HT_.out (by kernel_rfl)) (fun _ _ _ h => h) (Or.inl ⟨by rfl, ?_⟩) ?_ ?_
                                                rotate_left
                                                · intro w'
                                                  go_simp
                                                  with_reducible rfl
                                                rotate_left
                                                · simp only [Act.put, List.setIfInBounds_toArray, List.set_cons_zero, List.set_cons_succ, i64_w, i32_w]
                                                  rfl
                                                refine pure_ (i := 20) (N := some 139) (v := ?_) (a' := ?_) #[true, true, true, true, true, true, true, true, true, true, true, true, true, true, true, true, true, true, true, true, true] rfl rfl (any_of HT_.out (by kernel_rfl)) (fun _ _ _ h => h) (Or.inl ⟨by rfl, ?_⟩) ?_ ?_
                                                rotate_left
                                                · intro w'
                                                  go_simp
                                                  with_reducible rfl
                                                rotate_left
                                                · simp only [Act.put, List.setIfInBounds_toArray, List.set_cons_zero, List.set_cons_succ, i64_w, i32_w]
                                                  rfl
                                                refine done_ (done_of HT_.out (by kernel_rfl)) ?_
                                                try go_wp2
                                                go_roundg kj39
                                                case measure => have := HK1.out; have := HK2.out; have := HJ19.out; have := HJ39.out; omega
                                                case rel => exact ⟨(x10_2), (wrap64 (x12_2 + 1)), (by first | rfl | (simp; done) | (simp [*]; done)), (by first | rfl | (simp; done) | (simp [*]; done)), H', ⟨by have := HK1.out; have := HK2.out; have := HJ19.out; have := HJ39.out; omega⟩, ⟨by (with_reducible repeat (first | apply Kd.S_alloc | apply Kd.S_drewN | apply Kd.S_drew)); exact Kd.S_mono HO_9.out (fun _ hk => trivial)⟩, ⟨by (with_reducible repeat (first | refine blk_drewN ?_ _ | refine blk_drew ?_ | refine blk_alloc ?_ _)); exact BK476.out⟩, ⟨by repeat (first | (with_reducible first | exact HB.out | apply below_alloc | apply pw_below_drewN | apply below_drew1 | refine below_set ?_ GE476.out | refine below_set ?_ GE488.out) | exact HB.out)⟩⟩
                                            · rw [if_neg c49] at H
                                              have c49b0 : (((rd_T57 t478 x11_1).f0.f0) == a1_0 && (((rd_T57 t478 x11_1).f0.f1) == a1_1 && (((rd_T57 t478 x11_1).f0.f2) == a1_2))) = false := by simpa using c49
                                              (try (have c49b1 : decide (((rd_T57 t478 x11_1).f0.f0) = a1_0 && (((rd_T57 t478 x11_1).f0.f1) == a1_1 && (((rd_T57 t478 x11_1).f0.f2) == a1_2))) = false := by simpa using c49))
                                              (try (have c49b2 : (((rd_T57 t478 x11_1).f0.f0) == a1_0 && (((rd_T57 t478 x11_1).f0.f1) == a1_1 && (((rd_T57 t478 x11_1).f0.f2) == a1_2))) = false := by simpa using c49))
                                              (try (have c49b3 : ¬ (((rd_T57 t478 x11_1).f0.f0) = a1_0 && (((rd_T57 t478 x11_1).f0.f1) == a1_1 && (((rd_T57 t478 x11_1).f0.f2) == a1_2))) := by simpa using c49))
                                              clear c49
                                              have H' := Aside0.mk H
                                              clear H
                                              try go_wp2
                                              have n0_ := Aside0.mk (Kd.S_drew HO_9.out)
                                              have n1_ := Aside0.mk (blk_drew BK476.out)
                                              have n2_ := Aside0.mk (blk_drew BK488.out)
                                              have n3_ := Aside0.mk (Kd.C_drew HR491_3.out)
                                              have n4_ := Aside0.mk (Kd.C_drew HR494_3.out)
                                              have n5_ := Aside0.mk (below_drew1 HB.out)
                                              clear HO_9
                                              clear BK476
                                              clear BK488
                                              clear HR491_3
                                              clear HR494_3
                                              clear HB
                                              have HO_9 := n0_
                                              have BK476 := n1_
                                              have BK488 := n2_
                                              have HR491_3 := n3_
                                              have HR494_3 := n4_
                                              have HB := n5_
                                              clear n0_ n1_ n2_ n3_ n4_ n5_
                                              have p497 : 0 ≤ (x11_1 : Int) := of_decide_eq_true (by first | (with_reducible assumption) | assumption)
                                              have q497 : x11_1 < (t478.length : Int) := of_decide_eq_true (by first | (with_reducible assumption) | assumption)
                                              obtain ⟨ad497, A497_3, c497_3, e497, hx497_0, hx497_1, hx497_2, hx497_3, hl497_3, hi497_3⟩ := at_T57 (Kd.S_reads' HO_9.out).2.2 x11_1 p497 q497
                                              obtain rfl : ad485 = ad497 := (by injection e497)
                                              obtain ⟨ce497, hce497, hMe497, hcc497⟩ := Kd.S_get HO_9.out z57 x11_1 p497 (by first | exact q497 | exact of_decide_eq_true (by first | (with_reducible assumption) | assumption) | (have e_ := (Kd.S_reads' HO_9.out).1; omega))
                                              obtain ⟨ve497_3, rfl, ge497_3⟩ := k57_openM hMe497
                                              have hv497_3 := hcc497 3 _ rfl
                                              rw [add_field _ _ 3 (by omega)] at hv497_3
                                              replace hv497_3 := Option.some.inj (hv497_3.symm.trans hx497_3)
                                              rw [hv497_3] at ge497_3
                                              have HL497_3 := Aside0.mk (show Kd.R k26 26 _ _ _ _ ((rd_T57 t478 x11_1).f1) from ge497_3)
                                              clear hv497_3 ge497_3
                                              clear hcc497 hce497
                                              have HR497_3 := Aside0.mk hi497_3
                                              have HC497_3 := Aside0.mk hl497_3
                                              clear hi497_3 hl497_3
                                              replace p497 := eq_true p497
                                              replace q497 := eq_true q497
                                              refine start_ (n := 21) (S := fun w' => w'.cell? ⟨gb476, 0, none⟩ = some (.int .i64 a1_0) ∧ w'.cell? ⟨gb476, 1, none⟩ = some (.int .i64 a1_1) ∧ w'.cell? ⟨gb476, 2, none⟩ = some (.int .i64 a1_2) ∧ w'.cell? ⟨gb476, 3, none⟩ = some (.int .i64 a1_3) ∧ w'.cell? ⟨gb476, 4, none⟩ = some (.int .i64 a1_4) ∧ w'.cell? (ad485.add ((x11_1).toNat * 4)) = some (.int .i64 ((rd_T57 t478 x11_1).f0.f0)) ∧ w'.cell? ⟨(ad485.add ((x11_1).toNat * 4)).block, (ad485.add ((x11_1).toNat * 4)).off + 1, none⟩ = some (.int .i64 ((rd_T57 t478 x11_1).f0.f1)) ∧ w'.cell? ⟨(ad485.add ((x11_1).toNat * 4)).block, (ad485.add ((x11_1).toNat * 4)).off + 2, none⟩ = some (.int .i64 ((rd_T57 t478 x11_1).f0.f2)) ∧ w'.cell? ⟨(ad485.add ((x11_1).toNat * 4)).block, (ad485.add ((x11_1).toNat * 4)).off + 3, none⟩ = some (.slice A497_3 ((rd_T57 t478 x11_1).f1).length c497_3)) (ds := []) #[false, false, false, false, false, false, false, false, false, false, false, false, false, false, false, false, false, false, false, false, false] (by kernel_rfl) rfl rfl ⟨(blk_cell BK476.out 0).trans rfl, (blk_cell BK476.out 1).trans rfl, (blk_cell BK476.out 2).trans rfl, (blk_cell BK476.out 3).trans rfl, (blk_cell BK476.out 4).trans rfl, hx497_0, hx497_1, hx497_2, hx497_3⟩ (fun hHeld => ?_); refine with_tabW sizarlaw07_FactsRead.tab20 sizarlaw07_FactsRead.bits20 (fun HT_ HW_ => ?_)
                                              generalize wc.drew = w55 at HO_9 BK476 BK488 HR491_3 HR494_3 HB HL497_3 HR497_3 hx497_0 hx497_1 hx497_2 hx497_3 hHeld ⊢
                                              refine pure_ (i := 0) (N := some 119) (v := ?_) (a' := ?_) #[true, false, false, false, false, false, false, false, false, false, false, false, false, false, false, false, false, false, false, false, false] rfl rfl (any_of HT_.out (by kernel_rfl)) (fun _ _ _ h => h) (Or.inl ⟨by rfl, ?_⟩) ?_ ?_
                                              rotate_left
                                              · intro w'
                                                go_simp
                                                with_reducible rfl
                                              rotate_left
                                              · simp only [Act.put, List.setIfInBounds_toArray, List.set_cons_zero, List.set_cons_succ, i64_w, i32_w]
                                                rfl
                                              refine pure_ (i := 1) (N := some 120) (v := ?_) (a' := ?_) #[true, true, false, false, false, false, false, false, false, false, false, false, false, false, false, false, false, false, false, false, false] rfl rfl (any_of HT_.out (by kernel_rfl)) (fun _ _ _ h => h) (Or.inl ⟨by rfl, ?_⟩) ?_ ?_
                                              rotate_left
                                              · intro w'
                                                go_simp
                                                with_reducible rfl
                                              rotate_left
                                              · simp only [Act.put, List.setIfInBounds_toArray, List.set_cons_zero, List.set_cons_succ, i64_w, i32_w]
                                                rfl
                                              refine pure_ (i := 2) (N := some 121) (v := ?_) (a' := ?_) #[true, true, true, false, false, false, false, false, false, false, false, false, false, false, false, false, false, false, false, false, false] rfl rfl (any_of HT_.out (by kernel_rfl)) (fun _ _ _ h => h) (Or.inl ⟨by rfl, ?_⟩) ?_ ?_
                                              rotate_left
                                              · intro w'
                                                go_simp
                                                with_reducible rfl
                                              rotate_left
                                              · simp only [Act.put, List.setIfInBounds_toArray, List.set_cons_zero, List.set_cons_succ, i64_w, i32_w]
                                                rfl
                                              refine pure_ (i := 3) (N := some 122) (v := ?_) (a' := ?_) #[true, true, true, true, false, false, false, false, false, false, false, false, false, false, false, false, false, false, false, false, false] rfl rfl (any_of HT_.out (by kernel_rfl)) (fun _ _ _ h => h) (Or.inl ⟨by rfl, ?_⟩) ?_ ?_
                                              rotate_left
                                              · intro w'
                                                go_simp
                                                with_reducible rfl
                                              rotate_left
                                              · simp only [Act.put, List.setIfInBounds_toArray, List.set_cons_zero, List.set_cons_succ, i64_w, i32_w]
                                                rfl
                                              refine pure_ (i := 5) (N := some 124) (v := ?_) (a' := ?_) #[true, true, true, true, false, true, false, false, false, false, false, false, false, false, false, false, false, false, false, false, false] rfl rfl (any_of HT_.out (by kernel_rfl)) (fun _ _ _ h => h) (Or.inl ⟨by rfl, ?_⟩) ?_ ?_
                                              rotate_left
                                              · intro w'
                                                go_simp
                                                with_reducible rfl
                                              rotate_left
                                              · simp only [Act.put, List.setIfInBounds_toArray, List.set_cons_zero, List.set_cons_succ, i64_w, i32_w]
                                                rfl
                                              refine take_ (i := 4) (N := some 123) (v := ?_) (a' := ?_) #[true, true, true, true, true, true, false, false, false, false, false, false, false, false, false, false, false, false, false, false, false] rfl rfl (take_ofW HT_.out HW_.out (by kernel_rfl)) (fun _ _ _ h => h) (Or.inl ⟨by rfl, ?_⟩) hHeld ?_ ?_
                                              rotate_left
                                              · rintro w' ⟨s0, s1, s2, s3, s4, s5, s6, s7, s8⟩
                                                go_simp
                                                with_reducible rfl
                                              rotate_left
                                              · simp only [Act.put, List.setIfInBounds_toArray, List.set_cons_zero, List.set_cons_succ, i64_w, i32_w]
                                                rfl
                                              refine take_ (i := 6) (N := some 125) (v := ?_) (a' := ?_) #[true, true, true, true, true, true, true, false, false, false, false, false, false, false, false, false, false, false, false, false, false] rfl rfl (take_ofW HT_.out HW_.out (by kernel_rfl)) (fun _ _ _ h => h) (Or.inl ⟨by rfl, ?_⟩) hHeld ?_ ?_
                                              rotate_left
                                              · rintro w' ⟨s0, s1, s2, s3, s4, s5, s6, s7, s8⟩
                                                go_simp
                                                with_reducible rfl
                                              rotate_left
                                              · simp only [Act.put, List.setIfInBounds_toArray, List.set_cons_zero, List.set_cons_succ, i64_w, i32_w]
                                                rfl
                                              refine pure_ (i := 7) (N := some 126) (v := ?_) (a' := ?_) #[true, true, true, true, true, true, true, true, false, false, false, false, false, false, false, false, false, false, false, false, false] rfl rfl (any_of HT_.out (by kernel_rfl)) (fun _ _ _ h => h) (Or.inl ⟨by rfl, ?_⟩) ?_ ?_
                                              rotate_left
                                              · intro w'
                                                go_simp
                                                with_reducible rfl
                                              rotate_left
                                              · simp only [Act.put, List.setIfInBounds_toArray, List.set_cons_zero, List.set_cons_succ, i64_w, i32_w]
                                                rfl
                                              refine pure_ (i := 8) (N := some 127) (v := ?_) (a' := ?_) #[true, true, true, true, true, true, true, true, true, false, false, false, false, false, false, false, false, false, false, false, false] rfl rfl (any_of HT_.out (by kernel_rfl)) (fun _ _ _ h => h) (Or.inl ⟨by rfl, ?_⟩) ?_ ?_
                                              rotate_left
                                              · intro w'
                                                go_simp
                                                with_reducible rfl
                                              rotate_left
                                              · simp only [Act.put, List.setIfInBounds_toArray, List.set_cons_zero, List.set_cons_succ, i64_w, i32_w]
                                                rfl
                                              refine pure_ (i := 9) (N := some 128) (v := undef) (a' := ?_) #[true, true, true, true, true, true, true, true, true, true, false, false, false, false, false, false, false, false, false, false, false] rfl rfl (any_of HT_.out (by kernel_rfl)) (fun _ _ _ h => h) (Or.inr ⟨by rfl, rfl⟩) ?_ ?_
                                              rotate_left
                                              · simp only [Act.put, List.setIfInBounds_toArray, List.set_cons_zero, List.set_cons_succ, i64_w, i32_w]
                                                rfl
                                              refine pure_ (i := 10) (N := some 129) (v := undef) (a' := ?_) #[true, true, true, true, true, true, true, true, true, true, true, false, false, false, false, false, false, false, false, false, false] rfl rfl (any_of HT_.out (by kernel_rfl)) (fun _ _ _ h => h) (Or.inr ⟨by rfl, rfl⟩) ?_ ?_
                                              rotate_left
                                              · simp only [Act.put, List.setIfInBounds_toArray, List.set_cons_zero, List.set_cons_succ, i64_w, i32_w]
                                                rfl
                                              refine pure_ (i := 11) (N := some 130) (v := undef) (a' := ?_) #[true, true, true, true, true, true, true, true, true, true, true, true, false, false, false, false, false, false, false, false, false] rfl rfl (any_of HT_.out (by kernel_rfl)) (fun _ _ _ h => h) (Or.inr ⟨by rfl, rfl⟩) ?_ ?_
                                              rotate_left
                                              · simp only [Act.put, List.setIfInBounds_toArray, List.set_cons_zero, List.set_cons_succ, i64_w, i32_w]
                                                rfl
                                              refine pure_ (i := 12) (N := some 131) (v := undef) (a' := ?_) #[true, true, true, true, true, true, true, true, true, true, true, true, true, false, false, false, false, false, false, false, false] rfl rfl (any_of HT_.out (by kernel_rfl)) (fun _ _ _ h => h) (Or.inr ⟨by rfl, rfl⟩) ?_ ?_
                                              rotate_left
                                              · simp only [Act.put, List.setIfInBounds_toArray, List.set_cons_zero, List.set_cons_succ, i64_w, i32_w]
                                                rfl
                                              refine pure_ (i := 13) (N := some 132) (v := undef) (a' := ?_) #[true, true, true, true, true, true, true, true, true, true, true, true, true, true, false, false, false, false, false, false, false] rfl rfl (any_of HT_.out (by kernel_rfl)) (fun _ _ _ h => h) (Or.inr ⟨by rfl, rfl⟩) ?_ ?_
                                              rotate_left
                                              · simp only [Act.put, List.setIfInBounds_toArray, List.set_cons_zero, List.set_cons_succ, i64_w, i32_w]
                                                rfl
                                              refine pure_ (i := 14) (N := some 133) (v := undef) (a' := ?_) #[true, true, true, true, true, true, true, true, true, true, true, true, true, true, true, false, false, false, false, false, false] rfl rfl (any_of HT_.out (by kernel_rfl)) (fun _ _ _ h => h) (Or.inr ⟨by rfl, rfl⟩) ?_ ?_
                                              rotate_left
                                              · simp only [Act.put, List.setIfInBounds_toArray, List.set_cons_zero, List.set_cons_succ, i64_w, i32_w]
                                                rfl
                                              refine pure_ (i := 15) (N := some 134) (v := undef) (a' := ?_) #[true, true, true, true, true, true, true, true, true, true, true, true, true, true, true, true, false, false, false, false, false] rfl rfl (any_of HT_.out (by kernel_rfl)) (fun _ _ _ h => h) (Or.inr ⟨by rfl, rfl⟩) ?_ ?_
                                              rotate_left
                                              · simp only [Act.put, List.setIfInBounds_toArray, List.set_cons_zero, List.set_cons_succ, i64_w, i32_w]
                                                rfl
                                              refine pure_ (i := 16) (N := some 135) (v := undef) (a' := ?_) #[true, true, true, true, true, true, true, true, true, true, true, true, true, true, true, true, true, false, false, false, false] rfl rfl (any_of HT_.out (by kernel_rfl)) (fun _ _ _ h => h) (Or.inr ⟨by rfl, rfl⟩) ?_ ?_
                                              rotate_left
                                              · simp only [Act.put, List.setIfInBounds_toArray, List.set_cons_zero, List.set_cons_succ, i64_w, i32_w]
                                                rfl
                                              refine pure_ (i := 17) (N := some 136) (v := undef) (a' := ?_) #[true, true, true, true, true, true, true, true, true, true, true, true, true, true, true, true, true, true, false, false, false] rfl rfl (any_of HT_.out (by kernel_rfl)) (fun _ _ _ h => h) (Or.inr ⟨by rfl, rfl⟩) ?_ ?_
                                              rotate_left
                                              · simp only [Act.put, List.setIfInBounds_toArray, List.set_cons_zero, List.set_cons_succ, i64_w, i32_w]
                                                rfl
                                              refine pure_ (i := 18) (N := some 137) (v := undef) (a' := ?_) #[true, true, true, true, true, true, true, true, true, true, true, true, true, true, true, true, true, true, true, false, false] rfl rfl (any_of HT_.out (by kernel_rfl)) (fun _ _ _ h => h) (Or.inr ⟨by rfl, rfl⟩) ?_ ?_
                                              rotate_left
                                              · simp only [Act.put, List.setIfInBounds_toArray, List.set_cons_zero, List.set_cons_succ, i64_w, i32_w]
                                                rfl
                                              refine pure_ (i := 19) (N := some 138) (v := undef) (a' := ?_) #[true, true, true, true, true, true, true, true, true, true, true, true, true, true, true, true, true, true, true, true, false] rfl rfl (any_of HT_.out (by kernel_rfl)) (fun _ _ _ h => h) (Or.inr ⟨by rfl, rfl⟩) ?_ ?_
                                              rotate_left
                                              · simp only [Act.put, List.setIfInBounds_toArray, List.set_cons_zero, List.set_cons_succ, i64_w, i32_w]
                                                rfl
                                              refine pure_ (i := 20) (N := some 139) (v := ?_) (a' := ?_) #[true, true, true, true, true, true, true, true, true, true, true, true, true, true, true, true, true, true, true, true, true] rfl rfl (any_of HT_.out (by kernel_rfl)) (fun _ _ _ h => h) (Or.inl ⟨by rfl, ?_⟩) ?_ ?_
                                              rotate_left
                                              · intro w'
                                                go_simp
                                                with_reducible rfl
                                              rotate_left
                                              · simp only [Act.put, List.setIfInBounds_toArray, List.set_cons_zero, List.set_cons_succ, i64_w, i32_w]
                                                rfl
                                              refine done_ (done_of HT_.out (by kernel_rfl)) ?_
                                              try go_wp2
                                              go_roundg kj39
                                              case measure => have := HK1.out; have := HK2.out; have := HJ19.out; have := HJ39.out; omega
                                              case rel => exact ⟨(x10_2), (wrap64 (x12_2 + 1)), (by first | rfl | (simp; done) | (simp [*]; done)), (by first | rfl | (simp; done) | (simp [*]; done)), H', ⟨by have := HK1.out; have := HK2.out; have := HJ19.out; have := HJ39.out; omega⟩, ⟨by (with_reducible repeat (first | apply Kd.S_alloc | apply Kd.S_drewN | apply Kd.S_drew)); exact Kd.S_mono HO_9.out (fun _ hk => trivial)⟩, ⟨by (with_reducible repeat (first | refine blk_drewN ?_ _ | refine blk_drew ?_ | refine blk_alloc ?_ _)); exact BK476.out⟩, ⟨by repeat (first | (with_reducible first | exact HB.out | apply below_alloc | apply pw_below_drewN | apply below_drew1 | refine below_set ?_ GE476.out | refine below_set ?_ GE488.out) | exact HB.out)⟩⟩
                                          · rw [if_neg c48] at H
                                            exact absurd H (by simp)
                                        · rw [if_neg c47] at H
                                          exact absurd H (by simp)
                                · rw [if_neg c37] at H
                                  exact absurd H (by simp)
                              · rw [if_neg c36] at H
                                exact absurd H (by simp)
                      · rw [if_neg c19] at H
                        exact absurd H (by simp)
                    · rw [if_neg c18] at H
                      have c18b0 : decide (x12_2 < (((rd_T57 t478 x11_1).f1).length : Int)) = false := decide_eq_false c18
                      clear c18
                      have H' := Aside0.mk H
                      clear H
                      have p485 : 0 ≤ (x11_1 : Int) := of_decide_eq_true (by first | (with_reducible assumption) | assumption)
                      have q485 : x11_1 < (t478.length : Int) := of_decide_eq_true (by first | (with_reducible assumption) | assumption)
                      obtain ⟨ad485, A485_3, c485_3, e485, hx485_0, hx485_1, hx485_2, hx485_3, hl485_3, hi485_3⟩ := at_T57 (Kd.S_reads' HO_9.out).2.2 x11_1 p485 q485
                      cases e485
                      obtain ⟨ce485, hce485, hMe485, hcc485⟩ := Kd.S_get HO_9.out z57 x11_1 p485 (by first | exact q485 | exact of_decide_eq_true (by first | (with_reducible assumption) | assumption) | (have e_ := (Kd.S_reads' HO_9.out).1; omega))
                      obtain ⟨ve485_3, rfl, ge485_3⟩ := k57_openM hMe485
                      have hv485_3 := hcc485 3 _ rfl
                      rw [add_field _ _ 3 (by omega)] at hv485_3
                      replace hv485_3 := Option.some.inj (hv485_3.symm.trans hx485_3)
                      rw [hv485_3] at ge485_3
                      have HL485_3 := Aside0.mk (show Kd.R k26 26 _ _ _ _ ((rd_T57 t478 x11_1).f1) from ge485_3)
                      clear hv485_3 ge485_3
                      clear hcc485 hce485
                      have HR485_3 := Aside0.mk hi485_3
                      have HC485_3 := Aside0.mk hl485_3
                      clear hi485_3 hl485_3
                      replace p485 := eq_true p485
                      replace q485 := eq_true q485
                      go_wp2
                      go_roundg k2
                      case measure => have := HK1.out; have := HK2.out; omega
                      case rel => exact ⟨(x10_2), (wrap64 (x11_1 + 1)), (by first | rfl | (simp; done) | (simp [*]; done)), (by first | rfl | (simp; done) | (simp [*]; done)), H', ⟨by have := HK1.out; have := HK2.out; omega⟩, ⟨by (with_reducible repeat (first | apply Kd.S_alloc | apply Kd.S_drewN | apply Kd.S_drew)); exact HO_9.out⟩, ⟨by (with_reducible repeat (first | refine blk_drewN ?_ _ | refine blk_drew ?_ | refine blk_alloc ?_ _)); exact BK476.out⟩, ⟨by repeat (first | (with_reducible first | exact HB.out | apply below_alloc | apply pw_below_drewN | apply below_drew1 | refine below_set ?_ GE476.out) | exact HB.out)⟩⟩
                  · rw [if_neg c17] at H
                    exact absurd H (by simp)
                · rw [if_neg c16] at H
                  exact absurd H (by simp)
          · rw [if_neg c14] at H
            have c14b0 : decide (x11_1 < (t478.length : Int)) = false := decide_eq_false c14
            clear c14
            obtain ⟨y481, hy481⟩ : ∃ y_ : List (S54), y_ = (([(⟨(⟨a1_0, a1_1, a1_2⟩ : S24), a1_3, a1_4⟩ : S54)] : List (S54))) := ⟨_, rfl⟩
            replace H : ((facts_Alike.f k1 l0 y481 a2 a3).bind fun t484 => (some (t484 == (!x10_1)))) = some r := by first | (rw [hy481]; with_reducible exact H) | (have H2_ := (Option.bind_some _ _).symm.trans H; rw [hy481]; with_reducible exact H2_) | (have H2_ := (Option.bind_some _ _).symm.trans H; with_reducible exact H2_) | with_reducible exact H | (rw [hy481]; exact H) | exact H
            have Ny481 := Aside0.mk hy481
            clear hy481
            replace H := Option.bind_eq_some_iff.mp H
            obtain ⟨t484, A560, H⟩ := H
            replace H : (some (t484 == (!x10_1))) = some r := H
            have A56 := Aside0.mk A560
            clear A560
            obtain rfl := Option.some.inj H
            obtain ⟨Ao57, co57, eo57⟩ := Kd.S_slice HO_9.out
            subst eo57
            have hcz58_0 : wr.cell? ⟨gb476, 0, none⟩ = some (.int .i64 a1_0) := (blk_cell BK476.out 0).trans rfl
            have hcz58_1 : wr.cell? ⟨gb476, 1, none⟩ = some (.int .i64 a1_1) := (blk_cell BK476.out 1).trans rfl
            have hcz58_2 : wr.cell? ⟨gb476, 2, none⟩ = some (.int .i64 a1_2) := (blk_cell BK476.out 2).trans rfl
            have hcz58_3 : wr.cell? ⟨gb476, 3, none⟩ = some (.int .i64 a1_3) := (blk_cell BK476.out 3).trans rfl
            have hcz58_4 : wr.cell? ⟨gb476, 4, none⟩ = some (.int .i64 a1_4) := (blk_cell BK476.out 4).trans rfl
            have hfz58_0 := blk_frozen BK476.out 0
            have hfz58_1 := blk_frozen BK476.out 1
            have hfz58_2 := blk_frozen BK476.out 2
            have hfz58_3 := blk_frozen BK476.out 3
            have hfz58_4 := blk_frozen BK476.out 4
            go_wp2_with (first | ((with_reducible refine gate_dst (N := 142) rfl ?_); (try (refine gate_guard (by rfl) ?_; dsimp only)); refine Kd.R_lit k54 _ 54 ?hg (N := 142) ?hd (xs := ([(⟨(⟨a1_0, a1_1, a1_2⟩ : S24), a1_3, a1_4⟩ : S54)] : List (S54))) (inner := [.int .i64 a1_0, .int .i64 a1_1, .int .i64 a1_2, .int .i64 a1_3, .int .i64 a1_4]) (ok := fun _ => True) (okp := fun _ => True) ?hr ?hp (fun _ hk => hk) trivial (Below.refl _ _) (Nat.le_refl _) (by simp) ?_; (case hd => rfl); (case hg => rfl); (case hr => first | (go_simp; done) | (go_simp; rfl)); (case hp => exact (Reps.c5 (show Kd.M k54 _ _ _ (⟨(⟨a1_0, a1_1, a1_2⟩ : S24), a1_3, a1_4⟩ : S54) [.int .i64 a1_0, .int .i64 a1_1, .int .i64 a1_2, .int .i64 a1_3, .int .i64 a1_4] from (k54_mkM _ _ _ (⟨(⟨a1_0, a1_1, a1_2⟩ : S24), a1_3, a1_4⟩ : S54) )) (Reps.none _ _))); intro v482 w59 ho60 hb hg_ hnew_; clear hg_ hnew_; (first | rw [← Ny481.out] at ho60 | (simp only [Int.reduceToNat] at ho60; rw [← Ny481.out] at ho60)); have n0_ := Aside0.mk (Kd.S_below (by (with_reducible repeat (first | apply Kd.S_alloc | apply Kd.S_drewN | apply Kd.S_drew)); exact HO_9.out) hb); have n1_ := Aside0.mk (Kd.R_lower (Kd.R_newB ho60 (g := gb476) (o := .cells #[.int .i64 a1_0, .int .i64 a1_1, .int .i64 a1_2, .int .i64 a1_3, .int .i64 a1_4] 54 (0, 0)) (by (with_reducible repeat (first | refine blk_drewN ?_ _ | refine blk_drew ?_ | refine blk_alloc ?_ _)); exact BK476.out)) (below_size (by repeat (first | (with_reducible first | exact HB.out | apply below_alloc | apply pw_below_drewN | apply below_drew1 | refine below_set ?_ GE476.out) | exact HB.out)))); have n2_ := Aside0.mk (blk_below (g := gb476) (o := .cells #[.int .i64 a1_0, .int .i64 a1_1, .int .i64 a1_2, .int .i64 a1_3, .int .i64 a1_4] 54 (0, 0)) (by (with_reducible repeat (first | refine blk_drewN ?_ _ | refine blk_drew ?_ | refine blk_alloc ?_ _)); exact BK476.out) hb); have n3_ := Aside0.mk (below_step (by repeat (first | (with_reducible first | exact HB.out | apply below_alloc | apply pw_below_drewN | apply below_drew1 | refine below_set ?_ GE476.out) | exact HB.out)) hb); clear HO_9; clear BK476; clear HB; have HO_9 := n0_; have HO483 := n1_; have BK476 := n2_; have HB := n3_; clear n0_ n1_ n2_ n3_; clear hb ho60; obtain ⟨Ao61, co61, eo61⟩ := Kd.R_slice HO483.out; subst eo61) | ((with_reducible refine gate_callee (f := 26) rfl ?_); refine goesL_ (some 145) rfl rfl Try.func26 (by kernel_rfl) rfl #[.slice A0 l0.length c0, .slice Ao61 y481.length co61, .int .i64 a2, .int .i64 a3] rfl (by (try simp only [List.map_toArray, List.map_cons, List.map_nil]); first | done | rfl | (simp only [List.length_drop, List.length_take]; rfl)) ?_; (with_reducible refine (facts_Alike.calls k1 _ _ l0 _ _ y481 a2 a3 t484 _ ?side1 ?side2 ?side3 ?side4 A56.out).mono ?_); (case side1 => repeat (first | exact (Kd.C_below HR0.out HB.out) | (with_reducible refine Kd.C_alloc ?_ _) | (with_reducible refine Kd.C_drewN ?_ _) | (with_reducible refine Kd.C_drew ?_))); (case side2 => exact HC0.out); (case side3 => repeat (first | exact (Kd.R_reads' HO483.out).2.2 | (with_reducible refine Kd.C_alloc ?_ _) | (with_reducible refine Kd.C_drewN ?_ _) | (with_reducible refine Kd.C_drew ?_))); (case side4 => exact (Kd.R_reads' HO483.out).2.1); rintro e w62 ⟨rfl, hb⟩; refine ⟨_, rfl, ?_⟩; have n0_ := Aside0.mk (Kd.S_below (by (with_reducible repeat (first | apply Kd.S_alloc | apply Kd.S_drewN | apply Kd.S_drew)); exact HO_9.out) hb); have n1_ := Aside0.mk (Kd.R_below (by (with_reducible repeat (first | apply Kd.R_alloc | apply Kd.R_drewN | apply Kd.R_drew)); exact HO483.out) hb); have n2_ := Aside0.mk (blk_below (g := gb476) (o := .cells #[.int .i64 a1_0, .int .i64 a1_1, .int .i64 a1_2, .int .i64 a1_3, .int .i64 a1_4] 54 (0, 0)) (by (with_reducible repeat (first | refine blk_drewN ?_ _ | refine blk_drew ?_ | refine blk_alloc ?_ _)); exact BK476.out) hb); have n3_ := Aside0.mk (below_step (by repeat (first | (with_reducible first | exact HB.out | apply below_alloc | apply pw_below_drewN | apply below_drew1 | refine below_set ?_ GE476.out) | exact HB.out)) hb); clear HO_9; clear HO483; clear BK476; clear HB; have HO_9 := n0_; have HO483 := n1_; have BK476 := n2_; have HB := n3_; clear n0_ n1_ n2_ n3_; (try clear hb); (try clear hb2); (try clear hk); (try clear hi)))
            go_ret
            exact ⟨by first | rfl | (simp [errW_none, errW_some] <;> rfl) | (simp [*, errW_none, errW_some] <;> rfl), by repeat (first | (with_reducible first | exact HB.out | apply below_alloc | apply pw_below_drewN | apply below_drew1 | refine below_set ?_ GE476.out) | exact HB.out)⟩
  · replace c6 := Bool.eq_false_iff.mpr c6
    subst c6
    have H1 : (none) = some r := by rw [if_neg (show ¬ (false = true) by decide)] at H; exact H
    clear H
    have H := H1
    clear H1
    exact absurd H (by simp)
end Go.Proofs.Ytamajnhdibcpiaa.G
namespace Go.Proofs.Ytamajnhdibcpiaa.G
open Go.RowKit Go.Proofs.YtamajnhdibcpiaaW.PrintWords Go.Proofs.YtamajnhdibcpiaaW.PrintLast Go.Proofs.YtamajnhdibcpiaaW.PrintMore
set_option linter.unusedVariables false
set_option linter.unusedSimpArgs false
theorem w64 {i : Int} (h0 : -9223372036854775808 ≤ i) (h : i ≤ 9223372036854775807) : wrap64 i = i := by unfold wrap64; omega
/-- From some number of rounds on. -/
def Evt {α : Type} (g : Nat → Option α) (r : α) : Prop := ∃ K, ∀ k, K ≤ k → g k = some r
theorem Evt.of {α : Type} {g : Nat → Option α} {r : α} (h : ∀ k, g k = some r) : Evt g r := ⟨0, fun k _ => h k⟩
theorem Evt.succ {α : Type} {g g' : Nat → Option α} {r : α} (h : Evt g' r) (hs : ∀ k, g (k + 1) = g' k) : Evt g r := by
  obtain ⟨K, hK⟩ := h
  refine ⟨K + 1, fun k hk => ?_⟩
  obtain ⟨m, rfl⟩ : ∃ m, k = m + 1 := ⟨k - 1, by omega⟩
  rw [hs]; exact hK m (by omega)
theorem Evt.bind {α β : Type} {g : Nat → Option α} {f : Nat → α → Option β} {a : α} {r : β} (h : Evt g a) (h2 : Evt (fun k => f k a) r) : Evt (fun k => (g k).bind (f k)) r := by
  obtain ⟨K, hK⟩ := h
  obtain ⟨M, hM⟩ := h2
  refine ⟨max K M, fun k hk => ?_⟩
  show (g k).bind (f k) = some r
  rw [hK k (by omega), Option.bind_some]
  exact hM k (by omega)
theorem Evt.congr {α : Type} {g g' : Nat → Option α} {r : α} (h : Evt g' r) (hs : ∀ k, g k = g' k) : Evt g r := by
  obtain ⟨K, hK⟩ := h
  exact ⟨K, fun k hk => by rw [hs]; exact hK k hk⟩
theorem Evt.ex {α : Type} {g : Nat → Option α} {r : α} (h : Evt g r) : ∃ k, g k = some r := by obtain ⟨K, hK⟩ := h; exact ⟨K, hK K (Nat.le_refl _)⟩
end Go.Proofs.Ytamajnhdibcpiaa.G
namespace Go.Proofs.Ytamajnhdibcpiaa.G
open Go.RowKit Go.Proofs.YtamajnhdibcpiaaW.PrintWords Go.Proofs.YtamajnhdibcpiaaW.PrintLast Go.Proofs.YtamajnhdibcpiaaW.PrintMore
set_option linter.unusedVariables false
set_option linter.unusedSimpArgs false
theorem at_val (l : List S28) (key : S24) (t known : Int) : atM l key t known = (if 0 ≤ valM l key known t then valM l key known t else 0, decide (0 ≤ valM l key known t)) := by
  unfold atM valM
  cases h : bestM (ofM l key known) t with
  | none => simp
  | some b =>
    simp only
    by_cases hb : b.f1 < 0
    · rw [if_pos hb, if_neg (by omega)]
      simp; omega
    · rw [if_neg hb, if_pos (by omega)]
      simp; omega
/-- A key that no fact has: no value. -/
theorem valM_none {l : List S28} {key : S24} (h : ∀ x ∈ l, x.f0 ≠ key) (known t : Int) : valM l key known t = -1 := by
  have : ofM l key known = [] := by
    unfold ofM
    rw [List.filter_eq_nil_iff]
    intro x hx hs
    unfold selB at hs
    rw [decide_eq_true_eq] at hs
    exact h x hx (by cases hk : x.f0; cases key; rw [hk] at hs; simp_all)
  unfold valM
  rw [this]; rfl
end Go.Proofs.Ytamajnhdibcpiaa.G
namespace Go.Proofs.Ytamajnhdibcpiaa.G
open Go.RowKit Go.Proofs.YtamajnhdibcpiaaW.PrintWords Go.Proofs.YtamajnhdibcpiaaW.PrintLast Go.Proofs.YtamajnhdibcpiaaW.PrintMore
set_option linter.unusedVariables false
theorem sane20 : sizarlaw07_sane.f 20 = some true := by kernel_rfl
theorem sane_all : Evt (fun k => sizarlaw07_sane.f k) true := by
  refine ⟨20, fun k hk => ?_⟩
  obtain ⟨d, rfl⟩ : ∃ d, k = 20 + d := ⟨k - 20, by omega⟩
  clear hk
  induction d with
  | zero => exact sane20
  | succ d ih => exact sizarlaw07_sane.mono (20 + d) _ ih
end Go.Proofs.Ytamajnhdibcpiaa.G
namespace Go.Proofs.Ytamajnhdibcpiaa.G
open Go.ChangeShapes Go.WideShapes Go.Deep Go.ChangeAt Go.RowKit Go.Proofs.YtamajnhdibcpiaaW.PrintWords Go.Proofs.YtamajnhdibcpiaaW.PrintLast
set_option linter.unusedVariables false
set_option maxRecDepth 100000
theorem own : ownKnob Try.prog.godebug = none := by kernel_rfl
def wfi (n : Int) : Bool := (Lit.int .i64 n).wf
def wf28 (x : S28) : Bool := wfK x.f0 && (wfi x.f1 && (wfi x.f2.f0 && (wfi x.f2.f1 && (wfi x.f3 && wfi x.f4))))
def wf54 (x : S54) : Bool := wfK x.f0 && (wfi x.f1 && wfi x.f2)
theorem cells26 : Try.prog.cellsOf 26 = 2 := by kernel_rfl
theorem cells28n : Try.prog.cellsOf 28 = 8 := by kernel_rfl
theorem cells54 : Try.prog.cellsOf 54 = 5 := by kernel_rfl
section
variable {H : Type} {enc : TypeId × Value → H} {w : World} {base : Nat} {spare : Nat → Bool} {held : Bool} {fuel : Nat} {cs : List Value} {x : DataW H × List MemPlace}
theorem t24 (hl : cs.length = 3) (h : DataW.trod enc Try.prog w base spare held fuel 24 cs = some x) : ∃ k : S24, cs = [.int .i64 k.f0, .int .i64 k.f1, .int .i64 k.f2] ∧ wfK k = true := by
  match cs, hl with
  | [c0, c1, c2], _ =>
    obtain ⟨xs, n, _, hx, _, hlen, hg⟩ := DataW.trod_struct Try.underlying24 h
    match xs, hlen with
    | [y0, y1, y2], _ =>
      have t0 : DataW.trod enc Try.prog w base spare held n 3 [c0] = some y0 := hg 0 _ rfl
      have t1 : DataW.trod enc Try.prog w base spare held n 3 [c1] = some y1 := hg 1 _ rfl
      have t2 : DataW.trod enc Try.prog w base spare held n 3 [c2] = some y2 := hg 2 _ rfl
      obtain ⟨n0, e0, _, w0⟩ := DataW.trod_int Try.underlying3 t0
      obtain ⟨n1, e1, _, w1⟩ := DataW.trod_int Try.underlying3 t1
      obtain ⟨n2, e2, _, w2⟩ := DataW.trod_int Try.underlying3 t2
      cases e0; cases e1; cases e2
      exact ⟨⟨n0, n1, n2⟩, rfl, by simp [wfK, w0, w1, w2]⟩
theorem t26 (hl : cs.length = 2) (h : DataW.trod enc Try.prog w base spare held fuel 26 cs = some x) : ∃ k : S26, cs = [.int .i64 k.f0, .int .i64 k.f1] ∧ (wfi k.f0 && wfi k.f1) = true := by
  match cs, hl with
  | [c0, c1], _ =>
    obtain ⟨xs, n, _, hx, _, hlen, hg⟩ := DataW.trod_struct Try.underlying26 h
    match xs, hlen with
    | [y0, y1], _ =>
      have t0 : DataW.trod enc Try.prog w base spare held n 3 [c0] = some y0 := hg 0 _ rfl
      have t1 : DataW.trod enc Try.prog w base spare held n 3 [c1] = some y1 := hg 1 _ rfl
      obtain ⟨n0, e0, _, w0⟩ := DataW.trod_int Try.underlying3 t0
      obtain ⟨n1, e1, _, w1⟩ := DataW.trod_int Try.underlying3 t1
      cases e0; cases e1
      exact ⟨⟨n0, n1⟩, rfl, by simp [wfi, w0, w1]⟩
theorem t28 (hl : cs.length = 8) (h : DataW.trod enc Try.prog w base spare held fuel 28 cs = some x) :
    ∃ k : S28, cs = [.int .i64 k.f0.f0, .int .i64 k.f0.f1, .int .i64 k.f0.f2, .int .i64 k.f1, .int .i64 k.f2.f0, .int .i64 k.f2.f1, .int .i64 k.f3, .int .i64 k.f4] ∧ wf28 k = true := by
  match cs, hl with
  | [c0, c1, c2, c3, c4, c5, c6, c7], _ =>
    obtain ⟨xs, n, _, hx, _, hlen, hg⟩ := DataW.trod_struct Try.underlying28 h
    match xs, hlen with
    | [y0, y1, y2, y3, y4], _ =>
      have t0 : DataW.trod enc Try.prog w base spare held n 24 (([c0, c1, c2, c3, c4, c5, c6, c7].drop 0).take (Try.prog.cellsOf 24)) = some y0 := hg 0 _ rfl
      have t1 : DataW.trod enc Try.prog w base spare held n 3 [c3] = some y1 := hg 1 _ rfl
      have t2 : DataW.trod enc Try.prog w base spare held n 26 (([c0, c1, c2, c3, c4, c5, c6, c7].drop 4).take (Try.prog.cellsOf 26)) = some y2 := hg 2 _ rfl
      have t3 : DataW.trod enc Try.prog w base spare held n 3 [c6] = some y3 := hg 3 _ rfl
      have t4 : DataW.trod enc Try.prog w base spare held n 3 [c7] = some y4 := hg 4 _ rfl
      rw [cells24] at t0
      rw [cells26] at t2
      obtain ⟨k0, e0, w0⟩ := t24 rfl t0
      obtain ⟨n1, e1, _, w1⟩ := DataW.trod_int Try.underlying3 t1
      obtain ⟨k2, e2, w2⟩ := t26 rfl t2
      obtain ⟨n3, e3, _, w3⟩ := DataW.trod_int Try.underlying3 t3
      obtain ⟨n4, e4, _, w4⟩ := DataW.trod_int Try.underlying3 t4
      cases e0; cases e1; cases e2; cases e3; cases e4
      refine ⟨⟨k0, n1, k2, n3, n4⟩, rfl, ?_⟩
      simp only [Bool.and_eq_true] at w2
      simp only [wf28, Bool.and_eq_true]
      exact ⟨w0, w1, w2.1, w2.2, w3, w4⟩
theorem t54 (hl : cs.length = 5) (h : DataW.trod enc Try.prog w base spare held fuel 54 cs = some x) :
    ∃ k : S54, cs = [.int .i64 k.f0.f0, .int .i64 k.f0.f1, .int .i64 k.f0.f2, .int .i64 k.f1, .int .i64 k.f2] ∧ wf54 k = true := by
  match cs, hl with
  | [c0, c1, c2, c3, c4], _ =>
    obtain ⟨xs, n, _, hx, _, hlen, hg⟩ := DataW.trod_struct Try.underlying54 h
    match xs, hlen with
    | [y0, y1, y2], _ =>
      have t0 : DataW.trod enc Try.prog w base spare held n 24 (([c0, c1, c2, c3, c4].drop 0).take (Try.prog.cellsOf 24)) = some y0 := hg 0 _ rfl
      have t1 : DataW.trod enc Try.prog w base spare held n 3 [c3] = some y1 := hg 1 _ rfl
      have t2 : DataW.trod enc Try.prog w base spare held n 3 [c4] = some y2 := hg 2 _ rfl
      rw [cells24] at t0
      obtain ⟨k0, e0, w0⟩ := t24 rfl t0
      obtain ⟨n1, e1, _, w1⟩ := DataW.trod_int Try.underlying3 t1
      obtain ⟨n2, e2, _, w2⟩ := DataW.trod_int Try.underlying3 t2
      cases e0; cases e1; cases e2
      exact ⟨⟨k0, n1, n2⟩, rfl, by simp only [wf54, Bool.and_eq_true]; exact ⟨w0, w1, w2⟩⟩
end
section
variable {H : Type} {enc : TypeId × Value → H} {W : World} {base b0 : Nat} {r : Reach} {spare : Nat → Bool} {held : Bool} {a : Option Addr} {len cap : Nat} {d : DataW H} {p : List MemPlace} {v : Value}
theorem open28 (h : DataW.Trod enc Try.prog W base spare held 22 (.slice a len cap) d p) : ∃ l : List S28, len = l.length ∧ Kd.C k28 W a l.length l ∧ l.length ≤ cap ∧ ∀ x ∈ l, wf28 x = true := by
  obtain ⟨fuel, hf⟩ := h
  rcases open_slice Try.underlying22 hf with ⟨hcs, _⟩ | ⟨x, l, c, m, n, D, Pl, hcs, _, hl, hm, hmm, _, hi⟩
  · simp [Value.cells] at hcs
    obtain ⟨rfl, rfl, rfl⟩ := hcs
    exact ⟨[], rfl, ⟨rfl, by simp, fun h => absurd h (by simp)⟩, by simp, by simp⟩
  · simp [Value.cells] at hcs
    obtain ⟨rfl, rfl, rfl⟩ := hcs
    have hlm : len ≤ m := by rw [hmm]; split <;> omega
    have hel : ∀ i, i < len → ∃ y : S28, (∀ q u, [Value.int .i64 y.f0.f0, .int .i64 y.f0.f1, .int .i64 y.f0.f2, .int .i64 y.f1, .int .i64 y.f2.f0, .int .i64 y.f2.f1, .int .i64 y.f3, .int .i64 y.f4][q]? = some u → W.cell? (x.add (i * 8 + q)) = some u) ∧ wf28 y = true := by
      intro i hi2
      obtain ⟨cs', hc, ht'⟩ := hi i (by omega)
      rw [cells28n] at hc
      obtain ⟨_, hcl, hat⟩ := World.cells?_some hc
      obtain ⟨k, rfl, hk⟩ := t28 hcl ht'
      refine ⟨k, fun q u hq => ?_, hk⟩
      have hq8 : q < 8 := (List.getElem?_eq_some_iff.1 hq).1
      rw [← Go.Deep.add_add, hat q hq8]
      exact hq
    refine ⟨(List.range len).map fun i => if h : i < len then (hel i h).choose else z28, by simp, ⟨rfl, by simp; unfold maxLen at hm; omega, fun _ => ⟨x, rfl, fun j y hj => ?_⟩⟩, by simp; exact hl, ?_⟩
    · obtain ⟨hj1, hj2⟩ := List.getElem?_eq_some_iff.1 hj
      simp only [List.length_map, List.length_range] at hj1
      simp only [List.getElem_map, List.getElem_range, hj1, dif_pos] at hj2
      subst hj2
      exact ⟨_, rfl, k28_mk W _, (hel j hj1).choose_spec.1⟩
    · intro y hy
      obtain ⟨j, hj, rfl⟩ := List.mem_map.1 hy
      have hj1 : j < len := by simpa using hj
      rw [dif_pos hj1]
      exact (hel j hj1).choose_spec.2
theorem open54s (hv : Value.okWide Try.prog W r b0 54 v) (h : DataW.Trod enc Try.prog W base spare held 54 v d p) :
    ∃ n0 n1 n2 n3 n4 : Int, v = .agg #[.int .i64 n0, .int .i64 n1, .int .i64 n2, .int .i64 n3, .int .i64 n4] ∧ wf54 ⟨⟨n0, n1, n2⟩, n3, n4⟩ = true := by
  obtain ⟨cs, rfl, hsz⟩ := okWide_struct Try.underlying54 hv
  obtain ⟨l⟩ := cs
  obtain ⟨fuel, hf⟩ := h
  obtain ⟨k, e, hk⟩ := t54 (cs := l) (hsz.trans cells54) hf
  exact ⟨k.f0.f0, k.f0.f1, k.f0.f2, k.f1, k.f2, by rw [e], hk⟩
end
end Go.Proofs.Ytamajnhdibcpiaa.G
