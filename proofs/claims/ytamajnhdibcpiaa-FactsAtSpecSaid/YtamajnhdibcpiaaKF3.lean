/- Part 25 of the proof of the claim; the conditions are the statement's own. Own texts and printed texts, merged by pack.py (ours). -/
import Derived.Test.YtamajnhdibcpiaaKF2
namespace Go.Proofs.Ytamajnhdibcpiaa.G
open Go.RowKit Go.Proofs.YtamajnhdibcpiaaW.PrintWords Go.Proofs.YtamajnhdibcpiaaW.PrintLast Go.Proofs.YtamajnhdibcpiaaW.PrintMore
attribute [local go_sem] max2_int min2_int max_two min_two max_three min_three max_four min_four   -- for this text's walks alone
set_option linter.unusedVariables false
set_option linter.unusedSimpArgs false
def sizarlaw07_sane.j0 : Nat → List (S28) → Int → Bool → Bool → Int → Bool → Bool → List (S28) → List (S57) → Bool → Int → Int → Int → Option (Bool)
  | 0, _, _, _, _, _, _, _, _, _, _, _, _, _ => none
  | k + 1, x1, x3, x4, x6, x7, x8, x10, x11, x15, x86, x172000, x172001, x172002 => if x86 = true then (none) else (if x3 = 7 then (if x4 = true then (if x6 = true then (none) else (if x7 = 7 then (if x8 = true then (if x10 = true then (none) else ((sizarref07_Same.f k x11 x1).bind fun t213 => (if t213 = true then ((sizarref07_SameChanges.f k x15 (([(⟨(⟨x172000, x172001, x172002⟩ : S24), (([(⟨3, 4⟩ : S26)] : List (S26)))⟩ : S57)] : List (S57)))).bind fun t220 => (if t220 = true then ((facts_Alike.f k x1 ([] : List (S54)) 1 2).bind fun t221 => (if t221 = true then ((facts_Alike.f k x1 (([(⟨(⟨x172000, x172001, x172002⟩ : S24), 0, 9⟩ : S54)] : List (S54))) 15 20).bind fun t225 => (if t225 = true then (none) else ((facts_Points.f x1 x172000 x172001 x172002 0 9 20).bind fun t226 => (if (t226.length : Int) = 3 then ((facts_Upto.f x1 19).bind fun t229 => (if 1 ≤ (x1.length : Int) then ((sizarref07_Same.f k t229 (x1.take 1)).bind fun t237 => (some t237)) else (none))) else (none))))) else (none))) else (none))) else (none)))) else (none)) else (none))) else (none)) else (none))
def sizarlaw07_sane.f (k : Nat)  : Option (Bool) := (sizarlaw07_grade.f 7 2 6 10 0).bind fun bt151 => ((sizarlaw07_grade.f (-1) 3 4 20 0).bind fun bt159 => ((some (([(⟨(⟨bt151.1, bt151.2.1, bt151.2.2.1⟩ : S24), bt151.2.2.2.1, (⟨bt151.2.2.2.2.1, bt151.2.2.2.2.2.1⟩ : S26), bt151.2.2.2.2.2.2.1, bt151.2.2.2.2.2.2.2⟩ : S28), (⟨(⟨bt159.1, bt159.2.1, bt159.2.2.1⟩ : S24), bt159.2.2.2.1, (⟨bt159.2.2.2.2.1, bt159.2.2.2.2.2.1⟩ : S26), bt159.2.2.2.2.2.2.1, bt159.2.2.2.2.2.2.2⟩ : S28)] : List (S28)) : List (S28))).bind fun y167 => (if 0 < (y167.length : Int) then ((facts_At.f y167 ((rd_T28 y167 0).f0.f0) ((rd_T28 y167 0).f0.f1) ((rd_T28 y167 0).f0.f2) 3 15).bind fun bt172 => ((facts_At.f y167 ((rd_T28 y167 0).f0.f0) ((rd_T28 y167 0).f0.f1) ((rd_T28 y167 0).f0.f2) 3 20).bind fun bt174 => ((facts_At.f y167 ((rd_T28 y167 0).f0.f0) ((rd_T28 y167 0).f0.f1) ((rd_T28 y167 0).f0.f2) 2 20).bind fun bt176 => ((facts_At.f ([] : List (S28)) ((rd_T28 y167 0).f0.f0) ((rd_T28 y167 0).f0.f1) ((rd_T28 y167 0).f0.f2) 0 0).bind fun bt178 => (if 1 ≤ (y167.length : Int) then (if 1 < (y167.length : Int) then ((facts_Add.f k (y167.take 1) ((rd_T28 y167 1).f0.f0) ((rd_T28 y167 1).f0.f1) ((rd_T28 y167 1).f0.f2) ((rd_T28 y167 1).f1) ((rd_T28 y167 1).f2.f0) ((rd_T28 y167 1).f2.f1) ((rd_T28 y167 1).f3) ((rd_T28 y167 1).f4)).bind fun bt186 => ((sizarlaw07_grade.f 7 2 6 20 0).bind fun bt190 => ((facts_Add.f k y167 bt190.1 bt190.2.1 bt190.2.2.1 bt190.2.2.2.1 bt190.2.2.2.2.1 bt190.2.2.2.2.2.1 bt190.2.2.2.2.2.2.1 bt190.2.2.2.2.2.2.2).bind fun bt198 => ((facts_Changed.f y167 15 20).bind fun t202 => (if bt186.2 = 0 then (if bt198.2 = 71 then ((facts_Check.f (([(⟨(⟨0, 0, 0⟩ : S24), 0, (⟨0, 0⟩ : S26), 0, 0⟩ : S28)] : List (S28)))).bind fun t208 => (if t208 = 70 then ((facts_Check.f y167).bind fun t209 => (if t209 = 0 then ((facts_Points.f y167 ((rd_T28 y167 0).f0.f0) ((rd_T28 y167 0).f0.f1) ((rd_T28 y167 0).f0.f2) 5 5 20).bind fun t210 => (sizarlaw07_sane.j0 k y167 bt172.1 bt172.2 bt174.2 bt176.1 bt176.2 bt178.2 bt186.1 t202 ((t210.length : Int) != 0) ((rd_T28 y167 0).f0.f0) ((rd_T28 y167 0).f0.f1) ((rd_T28 y167 0).f0.f2))) else (none))) else (none))) else (none)) else (none)))))) else (none)) else (none)))))) else (none))))
theorem sizarlaw07_sane.mono_l : ∀ k, (∀ y0 y1 y2 y3 y4 y5 y6 y7 y8 y9 y10 y11 y12, LeO (sizarlaw07_sane.j0 k y0 y1 y2 y3 y4 y5 y6 y7 y8 y9 y10 y11 y12) (sizarlaw07_sane.j0 (k + 1) y0 y1 y2 y3 y4 y5 y6 y7 y8 y9 y10 y11 y12))
  | 0 => fun _ _ _ _ _ _ _ _ _ _ _ _ _ r h => by simp [sizarlaw07_sane.j0] at h
  | k + 1 => by
    have ih0 := sizarlaw07_sane.mono_l k
    · intro y0 y1 y2 y3 y4 y5 y6 y7 y8 y9 y10 y11 y12
      unfold sizarlaw07_sane.j0
      repeat' first
      | (with_reducible exact ih0 _ _ _ _ _ _ _ _ _ _ _ _ _)
      | (with_reducible exact facts_Add.mono _ _ _ _ _ _ _ _ _ _)
      | (with_reducible exact facts_Alike.mono _ _ _ _ _)
      | (with_reducible exact sizarref07_Same.mono _ _ _)
      | (with_reducible exact sizarref07_SameChanges.mono _ _ _)
      | (with_reducible exact LeO.refl _)
      | (with_reducible exact LeO.none _)
      | (with_reducible refine LeO.ite ?_ ?_)
      | (with_reducible refine LeO.bind ?_ (fun _ => ?_))
      | exact ih0 _ _ _ _ _ _ _ _ _ _ _ _ _
      | exact facts_Add.mono _ _ _ _ _ _ _ _ _ _
      | exact facts_Alike.mono _ _ _ _ _
      | exact sizarref07_Same.mono _ _ _
      | exact sizarref07_SameChanges.mono _ _ _
      | exact LeO.none _
      | refine LeO.ite ?_ ?_
      | refine LeO.bind ?_ (fun _ => ?_)
theorem sizarlaw07_sane.mono : ∀ k, LeO (sizarlaw07_sane.f k ) (sizarlaw07_sane.f (k + 1) ) := by
  intro  k
  have ih0 := sizarlaw07_sane.mono_l k
  unfold sizarlaw07_sane.f
  repeat' first
      | (with_reducible exact ih0 _ _ _ _ _ _ _ _ _ _ _ _ _)
      | (with_reducible exact facts_Add.mono _ _ _ _ _ _ _ _ _ _)
      | (with_reducible exact facts_Alike.mono _ _ _ _ _)
      | (with_reducible exact sizarref07_Same.mono _ _ _)
      | (with_reducible exact sizarref07_SameChanges.mono _ _ _)
      | (with_reducible exact LeO.refl _)
      | (with_reducible exact LeO.none _)
      | (with_reducible refine LeO.ite ?_ ?_)
      | (with_reducible refine LeO.bind ?_ (fun _ => ?_))
      | exact ih0 _ _ _ _ _ _ _ _ _ _ _ _ _
      | exact facts_Add.mono _ _ _ _ _ _ _ _ _ _
      | exact facts_Alike.mono _ _ _ _ _
      | exact sizarref07_Same.mono _ _ _
      | exact sizarref07_SameChanges.mono _ _ _
      | exact LeO.none _
      | refine LeO.ite ?_ ?_
      | refine LeO.bind ?_ (fun _ => ?_)
def sizarlaw07_sane.T7 : Bool × List (List Nat × List Nat) := (true, [([], []), ([0], [0]), ([], []), ([2], [2]), ([3], [3]), ([1, 4], [1, 4]), ([5], [5]), ([6], [6]), ([6], [6]), ([7, 5, 0, 1, 2, 3, 4, 5, 6, 7], [7]), ([8, 9, 0, 1, 2, 3, 4, 5, 6, 7, 8, 9], [8])])
def sizarlaw07_sane.B7 : List Nat := [0, 1, 0, 4, 12, 31, 63, 127, 127, 255, 1023]
theorem sizarlaw07_sane.tab7 : rtab .any (opsOf Try.f11 7) = sizarlaw07_sane.T7 := by kernel_rfl
theorem sizarlaw07_sane.bits7 : waitsOk sizarlaw07_sane.T7.2 sizarlaw07_sane.B7 = true := by kernel_rfl
def sizarlaw07_sane.T12 : Bool × List (List Nat × List Nat) := (true, [([], []), ([0], [0]), ([1], [1]), ([2], [2]), ([2, 3], [2, 3]), ([4, 2], [4]), ([5], [5]), ([6, 5], [5, 6]), ([5, 7], [5, 7]), ([8, 5], [8]), ([9], [9]), ([10, 9], [9, 10]), ([9, 11], [9, 11]), ([12, 9], [12]), ([13], [13]), ([13, 14], [13, 14]), ([15, 13], [15]), ([16], [16]), ([17, 16], [16, 17]), ([16, 18], [16, 18]), ([19, 16], [19]), ([20], [20]), ([20], [20]), ([21, 22, 20, 20], [20, 21, 22]), ([20, 23], [20, 23]), ([24, 23], [24]), ([25], [25]), ([25], [25]), ([25], [25]), ([28, 25], [25, 28]), ([27, 29, 25], [25, 27, 29]), ([30, 25], [25, 30]), ([26, 31, 25, 25], [25, 26, 31]), ([25, 32], [25, 32]), ([33, 32], [33]), ([34], [34]), ([35, 34, 34], [34, 35]), ([34, 36], [34, 36]), ([37, 36], [37]), ([38], [38]), ([38], [38]), ([40, 38], [38, 40]), ([41, 38], [38, 41]), ([39, 42, 38, 38], [38, 39, 42]), ([43, 38], [38, 43]), ([38, 44], [38, 44]), ([45, 43], [45]), ([46], [46]), ([46], [46]), ([47, 48, 46, 46], [46, 47, 48]), ([49, 46], [46, 49]), ([50, 46], [46, 50]), ([46, 51], [46, 51]), ([52, 49], [52]), ([53], [53]), ([54, 53, 53], [53, 54]), ([53], [53]), ([56, 53], [53, 56]), ([55, 57, 55, 53], [53, 55, 57]), ([53, 58], [53, 58]), ([59, 58, 0, 1, 2, 3, 4, 5, 6, 7, 8, 9, 10, 11, 12, 13, 14, 15, 16, 17, 18, 19, 20, 21, 22, 23, 24, 25, 26, 27, 28, 29, 30, 31, 32, 33, 34, 35, 36, 37, 38, 39, 40, 41, 42, 43, 44, 45, 46, 47, 48, 49, 50, 51, 52, 53, 54, 55, 56, 57, 58, 59], [59])])
def sizarlaw07_sane.B12 : List Nat := [0, 1, 3, 7, 15, 31, 63, 127, 255, 511, 1023, 2047, 4095, 8191, 16383, 32767, 65535, 131071, 262143, 524287, 1048575, 2097151, 2097151, 8388607, 16777215, 33554431, 67108863, 67108863, 67108863, 335544319, 1006632959, 2080374783, 4294967295, 8589934591, 17179869183, 34359738367, 68719476735, 137438953471, 274877906943, 549755813887, 549755813887, 1649267441663, 3848290697215, 8796093022207, 17592186044415, 35184372088831, 70368744177663, 140737488355327, 140737488355327, 562949953421311, 1125899906842623, 2251799813685247, 4503599627370495, 9007199254740991, 18014398509481983, 36028797018963967, 18014398509481983, 90071992547409919, 288230376151711743, 576460752303423487, 1152921504606846975]
theorem sizarlaw07_sane.tab12 : rtab .any (opsOf Try.f11 12) = sizarlaw07_sane.T12 := by kernel_rfl
theorem sizarlaw07_sane.bits12 : waitsOk sizarlaw07_sane.T12.2 sizarlaw07_sane.B12 = true := by kernel_rfl
set_option maxHeartbeats 8000000 in
set_option maxRecDepth 100000 in
theorem sizarlaw07_sane.calls (k : Nat)  (r : Bool) (w : World) (h : sizarlaw07_sane.f k  = some r) :
    Calls Try.prog 11 #[] w fun e w' => e = .returned (.bool r) ∧ Below w.heap.size w w' := by
  have hu24 := Try.underlying24
  have hu28 := Try.underlying28
  have hu26 := Try.underlying26
  have hu57 := Try.underlying57
  have hu54 := Try.underlying54
  have HB := Aside0.mk (Below.refl w.heap.size w)
  have H : ((sizarlaw07_grade.f 7 2 6 10 0).bind fun bt151 => ((sizarlaw07_grade.f (-1) 3 4 20 0).bind fun bt159 => ((some (([(⟨(⟨bt151.1, bt151.2.1, bt151.2.2.1⟩ : S24), bt151.2.2.2.1, (⟨bt151.2.2.2.2.1, bt151.2.2.2.2.2.1⟩ : S26), bt151.2.2.2.2.2.2.1, bt151.2.2.2.2.2.2.2⟩ : S28), (⟨(⟨bt159.1, bt159.2.1, bt159.2.2.1⟩ : S24), bt159.2.2.2.1, (⟨bt159.2.2.2.2.1, bt159.2.2.2.2.2.1⟩ : S26), bt159.2.2.2.2.2.2.1, bt159.2.2.2.2.2.2.2⟩ : S28)] : List (S28)) : List (S28))).bind fun y167 => (if 0 < (y167.length : Int) then ((facts_At.f y167 ((rd_T28 y167 0).f0.f0) ((rd_T28 y167 0).f0.f1) ((rd_T28 y167 0).f0.f2) 3 15).bind fun bt172 => ((facts_At.f y167 ((rd_T28 y167 0).f0.f0) ((rd_T28 y167 0).f0.f1) ((rd_T28 y167 0).f0.f2) 3 20).bind fun bt174 => ((facts_At.f y167 ((rd_T28 y167 0).f0.f0) ((rd_T28 y167 0).f0.f1) ((rd_T28 y167 0).f0.f2) 2 20).bind fun bt176 => ((facts_At.f ([] : List (S28)) ((rd_T28 y167 0).f0.f0) ((rd_T28 y167 0).f0.f1) ((rd_T28 y167 0).f0.f2) 0 0).bind fun bt178 => (if 1 ≤ (y167.length : Int) then (if 1 < (y167.length : Int) then ((facts_Add.f k (y167.take 1) ((rd_T28 y167 1).f0.f0) ((rd_T28 y167 1).f0.f1) ((rd_T28 y167 1).f0.f2) ((rd_T28 y167 1).f1) ((rd_T28 y167 1).f2.f0) ((rd_T28 y167 1).f2.f1) ((rd_T28 y167 1).f3) ((rd_T28 y167 1).f4)).bind fun bt186 => ((sizarlaw07_grade.f 7 2 6 20 0).bind fun bt190 => ((facts_Add.f k y167 bt190.1 bt190.2.1 bt190.2.2.1 bt190.2.2.2.1 bt190.2.2.2.2.1 bt190.2.2.2.2.2.1 bt190.2.2.2.2.2.2.1 bt190.2.2.2.2.2.2.2).bind fun bt198 => ((facts_Changed.f y167 15 20).bind fun t202 => (if bt186.2 = 0 then (if bt198.2 = 71 then ((facts_Check.f (([(⟨(⟨0, 0, 0⟩ : S24), 0, (⟨0, 0⟩ : S26), 0, 0⟩ : S28)] : List (S28)))).bind fun t208 => (if t208 = 70 then ((facts_Check.f y167).bind fun t209 => (if t209 = 0 then ((facts_Points.f y167 ((rd_T28 y167 0).f0.f0) ((rd_T28 y167 0).f0.f1) ((rd_T28 y167 0).f0.f2) 5 5 20).bind fun t210 => (sizarlaw07_sane.j0 k y167 bt172.1 bt172.2 bt174.2 bt176.1 bt176.2 bt178.2 bt186.1 t202 ((t210.length : Int) != 0) ((rd_T28 y167 0).f0.f0) ((rd_T28 y167 0).f0.f1) ((rd_T28 y167 0).f0.f2))) else (none))) else (none))) else (none)) else (none)))))) else (none)) else (none)))))) else (none))))) = some r := h
  clear h
  replace H := Option.bind_eq_some_iff.mp H
  obtain ⟨⟨t151, t152, t153, t154, t155, t156, t157, t158⟩, A10, H⟩ := H
  replace H : ((sizarlaw07_grade.f (-1) 3 4 20 0).bind fun bt159 => ((some (([(⟨(⟨t151, t152, t153⟩ : S24), t154, (⟨t155, t156⟩ : S26), t157, t158⟩ : S28), (⟨(⟨bt159.1, bt159.2.1, bt159.2.2.1⟩ : S24), bt159.2.2.2.1, (⟨bt159.2.2.2.2.1, bt159.2.2.2.2.2.1⟩ : S26), bt159.2.2.2.2.2.2.1, bt159.2.2.2.2.2.2.2⟩ : S28)] : List (S28)) : List (S28))).bind fun y167 => (if 0 < (y167.length : Int) then ((facts_At.f y167 ((rd_T28 y167 0).f0.f0) ((rd_T28 y167 0).f0.f1) ((rd_T28 y167 0).f0.f2) 3 15).bind fun bt172 => ((facts_At.f y167 ((rd_T28 y167 0).f0.f0) ((rd_T28 y167 0).f0.f1) ((rd_T28 y167 0).f0.f2) 3 20).bind fun bt174 => ((facts_At.f y167 ((rd_T28 y167 0).f0.f0) ((rd_T28 y167 0).f0.f1) ((rd_T28 y167 0).f0.f2) 2 20).bind fun bt176 => ((facts_At.f ([] : List (S28)) ((rd_T28 y167 0).f0.f0) ((rd_T28 y167 0).f0.f1) ((rd_T28 y167 0).f0.f2) 0 0).bind fun bt178 => (if 1 ≤ (y167.length : Int) then (if 1 < (y167.length : Int) then ((facts_Add.f k (y167.take 1) ((rd_T28 y167 1).f0.f0) ((rd_T28 y167 1).f0.f1) ((rd_T28 y167 1).f0.f2) ((rd_T28 y167 1).f1) ((rd_T28 y167 1).f2.f0) ((rd_T28 y167 1).f2.f1) ((rd_T28 y167 1).f3) ((rd_T28 y167 1).f4)).bind fun bt186 => ((sizarlaw07_grade.f 7 2 6 20 0).bind fun bt190 => ((facts_Add.f k y167 bt190.1 bt190.2.1 bt190.2.2.1 bt190.2.2.2.1 bt190.2.2.2.2.1 bt190.2.2.2.2.2.1 bt190.2.2.2.2.2.2.1 bt190.2.2.2.2.2.2.2).bind fun bt198 => ((facts_Changed.f y167 15 20).bind fun t202 => (if bt186.2 = 0 then (if bt198.2 = 71 then ((facts_Check.f (([(⟨(⟨0, 0, 0⟩ : S24), 0, (⟨0, 0⟩ : S26), 0, 0⟩ : S28)] : List (S28)))).bind fun t208 => (if t208 = 70 then ((facts_Check.f y167).bind fun t209 => (if t209 = 0 then ((facts_Points.f y167 ((rd_T28 y167 0).f0.f0) ((rd_T28 y167 0).f0.f1) ((rd_T28 y167 0).f0.f2) 5 5 20).bind fun t210 => (sizarlaw07_sane.j0 k y167 bt172.1 bt172.2 bt174.2 bt176.1 bt176.2 bt178.2 bt186.1 t202 ((t210.length : Int) != 0) ((rd_T28 y167 0).f0.f0) ((rd_T28 y167 0).f0.f1) ((rd_T28 y167 0).f0.f2))) else (none))) else (none))) else (none)) else (none)))))) else (none)) else (none)))))) else (none)))) = some r := H
  have A1 := Aside0.mk A10
  clear A10
  replace H := Option.bind_eq_some_iff.mp H
  obtain ⟨⟨t159, t160, t161, t162, t163, t164, t165, t166⟩, A20, H⟩ := H
  replace H : ((some (([(⟨(⟨t151, t152, t153⟩ : S24), t154, (⟨t155, t156⟩ : S26), t157, t158⟩ : S28), (⟨(⟨t159, t160, t161⟩ : S24), t162, (⟨t163, t164⟩ : S26), t165, t166⟩ : S28)] : List (S28)) : List (S28))).bind fun y167 => (if 0 < (y167.length : Int) then ((facts_At.f y167 ((rd_T28 y167 0).f0.f0) ((rd_T28 y167 0).f0.f1) ((rd_T28 y167 0).f0.f2) 3 15).bind fun bt172 => ((facts_At.f y167 ((rd_T28 y167 0).f0.f0) ((rd_T28 y167 0).f0.f1) ((rd_T28 y167 0).f0.f2) 3 20).bind fun bt174 => ((facts_At.f y167 ((rd_T28 y167 0).f0.f0) ((rd_T28 y167 0).f0.f1) ((rd_T28 y167 0).f0.f2) 2 20).bind fun bt176 => ((facts_At.f ([] : List (S28)) ((rd_T28 y167 0).f0.f0) ((rd_T28 y167 0).f0.f1) ((rd_T28 y167 0).f0.f2) 0 0).bind fun bt178 => (if 1 ≤ (y167.length : Int) then (if 1 < (y167.length : Int) then ((facts_Add.f k (y167.take 1) ((rd_T28 y167 1).f0.f0) ((rd_T28 y167 1).f0.f1) ((rd_T28 y167 1).f0.f2) ((rd_T28 y167 1).f1) ((rd_T28 y167 1).f2.f0) ((rd_T28 y167 1).f2.f1) ((rd_T28 y167 1).f3) ((rd_T28 y167 1).f4)).bind fun bt186 => ((sizarlaw07_grade.f 7 2 6 20 0).bind fun bt190 => ((facts_Add.f k y167 bt190.1 bt190.2.1 bt190.2.2.1 bt190.2.2.2.1 bt190.2.2.2.2.1 bt190.2.2.2.2.2.1 bt190.2.2.2.2.2.2.1 bt190.2.2.2.2.2.2.2).bind fun bt198 => ((facts_Changed.f y167 15 20).bind fun t202 => (if bt186.2 = 0 then (if bt198.2 = 71 then ((facts_Check.f (([(⟨(⟨0, 0, 0⟩ : S24), 0, (⟨0, 0⟩ : S26), 0, 0⟩ : S28)] : List (S28)))).bind fun t208 => (if t208 = 70 then ((facts_Check.f y167).bind fun t209 => (if t209 = 0 then ((facts_Points.f y167 ((rd_T28 y167 0).f0.f0) ((rd_T28 y167 0).f0.f1) ((rd_T28 y167 0).f0.f2) 5 5 20).bind fun t210 => (sizarlaw07_sane.j0 k y167 bt172.1 bt172.2 bt174.2 bt176.1 bt176.2 bt178.2 bt186.1 t202 ((t210.length : Int) != 0) ((rd_T28 y167 0).f0.f0) ((rd_T28 y167 0).f0.f1) ((rd_T28 y167 0).f0.f2))) else (none))) else (none))) else (none)) else (none)))))) else (none)) else (none)))))) else (none))) = some r := H
  have A2 := Aside0.mk A20
  clear A20
  obtain ⟨y167, hy167⟩ : ∃ y_ : List (S28), y_ = (([(⟨(⟨t151, t152, t153⟩ : S24), t154, (⟨t155, t156⟩ : S26), t157, t158⟩ : S28), (⟨(⟨t159, t160, t161⟩ : S24), t162, (⟨t163, t164⟩ : S26), t165, t166⟩ : S28)] : List (S28))) := ⟨_, rfl⟩
  replace H : (if 0 < (y167.length : Int) then ((facts_At.f y167 ((rd_T28 y167 0).f0.f0) ((rd_T28 y167 0).f0.f1) ((rd_T28 y167 0).f0.f2) 3 15).bind fun bt172 => ((facts_At.f y167 ((rd_T28 y167 0).f0.f0) ((rd_T28 y167 0).f0.f1) ((rd_T28 y167 0).f0.f2) 3 20).bind fun bt174 => ((facts_At.f y167 ((rd_T28 y167 0).f0.f0) ((rd_T28 y167 0).f0.f1) ((rd_T28 y167 0).f0.f2) 2 20).bind fun bt176 => ((facts_At.f ([] : List (S28)) ((rd_T28 y167 0).f0.f0) ((rd_T28 y167 0).f0.f1) ((rd_T28 y167 0).f0.f2) 0 0).bind fun bt178 => (if 1 ≤ (y167.length : Int) then (if 1 < (y167.length : Int) then ((facts_Add.f k (y167.take 1) ((rd_T28 y167 1).f0.f0) ((rd_T28 y167 1).f0.f1) ((rd_T28 y167 1).f0.f2) ((rd_T28 y167 1).f1) ((rd_T28 y167 1).f2.f0) ((rd_T28 y167 1).f2.f1) ((rd_T28 y167 1).f3) ((rd_T28 y167 1).f4)).bind fun bt186 => ((sizarlaw07_grade.f 7 2 6 20 0).bind fun bt190 => ((facts_Add.f k y167 bt190.1 bt190.2.1 bt190.2.2.1 bt190.2.2.2.1 bt190.2.2.2.2.1 bt190.2.2.2.2.2.1 bt190.2.2.2.2.2.2.1 bt190.2.2.2.2.2.2.2).bind fun bt198 => ((facts_Changed.f y167 15 20).bind fun t202 => (if bt186.2 = 0 then (if bt198.2 = 71 then ((facts_Check.f (([(⟨(⟨0, 0, 0⟩ : S24), 0, (⟨0, 0⟩ : S26), 0, 0⟩ : S28)] : List (S28)))).bind fun t208 => (if t208 = 70 then ((facts_Check.f y167).bind fun t209 => (if t209 = 0 then ((facts_Points.f y167 ((rd_T28 y167 0).f0.f0) ((rd_T28 y167 0).f0.f1) ((rd_T28 y167 0).f0.f2) 5 5 20).bind fun t210 => (sizarlaw07_sane.j0 k y167 bt172.1 bt172.2 bt174.2 bt176.1 bt176.2 bt178.2 bt186.1 t202 ((t210.length : Int) != 0) ((rd_T28 y167 0).f0.f0) ((rd_T28 y167 0).f0.f1) ((rd_T28 y167 0).f0.f2))) else (none))) else (none))) else (none)) else (none)))))) else (none)) else (none)))))) else (none)) = some r := by first | (rw [hy167]; with_reducible exact H) | (have H2_ := (Option.bind_some _ _).symm.trans H; rw [hy167]; with_reducible exact H2_) | (have H2_ := (Option.bind_some _ _).symm.trans H; with_reducible exact H2_) | with_reducible exact H | (rw [hy167]; exact H) | exact H
  have Ny167 := Aside0.mk hy167
  clear hy167
  by_cases c3 : 0 < (y167.length : Int)
  · rw [if_pos c3] at H
    have c3b0 : decide (0 < (y167.length : Int)) = true := decide_eq_true c3
    have c3b1 : decide (0 < y167.length) = true := decide_eq_true (by omega)
    clear c3
    replace H := Option.bind_eq_some_iff.mp H
    obtain ⟨⟨t172, t173⟩, A40, H⟩ := H
    replace H : ((facts_At.f y167 ((rd_T28 y167 0).f0.f0) ((rd_T28 y167 0).f0.f1) ((rd_T28 y167 0).f0.f2) 3 20).bind fun bt174 => ((facts_At.f y167 ((rd_T28 y167 0).f0.f0) ((rd_T28 y167 0).f0.f1) ((rd_T28 y167 0).f0.f2) 2 20).bind fun bt176 => ((facts_At.f ([] : List (S28)) ((rd_T28 y167 0).f0.f0) ((rd_T28 y167 0).f0.f1) ((rd_T28 y167 0).f0.f2) 0 0).bind fun bt178 => (if 1 ≤ (y167.length : Int) then (if 1 < (y167.length : Int) then ((facts_Add.f k (y167.take 1) ((rd_T28 y167 1).f0.f0) ((rd_T28 y167 1).f0.f1) ((rd_T28 y167 1).f0.f2) ((rd_T28 y167 1).f1) ((rd_T28 y167 1).f2.f0) ((rd_T28 y167 1).f2.f1) ((rd_T28 y167 1).f3) ((rd_T28 y167 1).f4)).bind fun bt186 => ((sizarlaw07_grade.f 7 2 6 20 0).bind fun bt190 => ((facts_Add.f k y167 bt190.1 bt190.2.1 bt190.2.2.1 bt190.2.2.2.1 bt190.2.2.2.2.1 bt190.2.2.2.2.2.1 bt190.2.2.2.2.2.2.1 bt190.2.2.2.2.2.2.2).bind fun bt198 => ((facts_Changed.f y167 15 20).bind fun t202 => (if bt186.2 = 0 then (if bt198.2 = 71 then ((facts_Check.f (([(⟨(⟨0, 0, 0⟩ : S24), 0, (⟨0, 0⟩ : S26), 0, 0⟩ : S28)] : List (S28)))).bind fun t208 => (if t208 = 70 then ((facts_Check.f y167).bind fun t209 => (if t209 = 0 then ((facts_Points.f y167 ((rd_T28 y167 0).f0.f0) ((rd_T28 y167 0).f0.f1) ((rd_T28 y167 0).f0.f2) 5 5 20).bind fun t210 => (sizarlaw07_sane.j0 k y167 t172 t173 bt174.2 bt176.1 bt176.2 bt178.2 bt186.1 t202 ((t210.length : Int) != 0) ((rd_T28 y167 0).f0.f0) ((rd_T28 y167 0).f0.f1) ((rd_T28 y167 0).f0.f2))) else (none))) else (none))) else (none)) else (none)))))) else (none)) else (none))))) = some r := H
    have A4 := Aside0.mk A40
    clear A40
    replace H := Option.bind_eq_some_iff.mp H
    obtain ⟨⟨t174, t175⟩, A50, H⟩ := H
    replace H : ((facts_At.f y167 ((rd_T28 y167 0).f0.f0) ((rd_T28 y167 0).f0.f1) ((rd_T28 y167 0).f0.f2) 2 20).bind fun bt176 => ((facts_At.f ([] : List (S28)) ((rd_T28 y167 0).f0.f0) ((rd_T28 y167 0).f0.f1) ((rd_T28 y167 0).f0.f2) 0 0).bind fun bt178 => (if 1 ≤ (y167.length : Int) then (if 1 < (y167.length : Int) then ((facts_Add.f k (y167.take 1) ((rd_T28 y167 1).f0.f0) ((rd_T28 y167 1).f0.f1) ((rd_T28 y167 1).f0.f2) ((rd_T28 y167 1).f1) ((rd_T28 y167 1).f2.f0) ((rd_T28 y167 1).f2.f1) ((rd_T28 y167 1).f3) ((rd_T28 y167 1).f4)).bind fun bt186 => ((sizarlaw07_grade.f 7 2 6 20 0).bind fun bt190 => ((facts_Add.f k y167 bt190.1 bt190.2.1 bt190.2.2.1 bt190.2.2.2.1 bt190.2.2.2.2.1 bt190.2.2.2.2.2.1 bt190.2.2.2.2.2.2.1 bt190.2.2.2.2.2.2.2).bind fun bt198 => ((facts_Changed.f y167 15 20).bind fun t202 => (if bt186.2 = 0 then (if bt198.2 = 71 then ((facts_Check.f (([(⟨(⟨0, 0, 0⟩ : S24), 0, (⟨0, 0⟩ : S26), 0, 0⟩ : S28)] : List (S28)))).bind fun t208 => (if t208 = 70 then ((facts_Check.f y167).bind fun t209 => (if t209 = 0 then ((facts_Points.f y167 ((rd_T28 y167 0).f0.f0) ((rd_T28 y167 0).f0.f1) ((rd_T28 y167 0).f0.f2) 5 5 20).bind fun t210 => (sizarlaw07_sane.j0 k y167 t172 t173 t175 bt176.1 bt176.2 bt178.2 bt186.1 t202 ((t210.length : Int) != 0) ((rd_T28 y167 0).f0.f0) ((rd_T28 y167 0).f0.f1) ((rd_T28 y167 0).f0.f2))) else (none))) else (none))) else (none)) else (none)))))) else (none)) else (none)))) = some r := H
    have A5 := Aside0.mk A50
    clear A50
    replace H := Option.bind_eq_some_iff.mp H
    obtain ⟨⟨t176, t177⟩, A60, H⟩ := H
    replace H : ((facts_At.f ([] : List (S28)) ((rd_T28 y167 0).f0.f0) ((rd_T28 y167 0).f0.f1) ((rd_T28 y167 0).f0.f2) 0 0).bind fun bt178 => (if 1 ≤ (y167.length : Int) then (if 1 < (y167.length : Int) then ((facts_Add.f k (y167.take 1) ((rd_T28 y167 1).f0.f0) ((rd_T28 y167 1).f0.f1) ((rd_T28 y167 1).f0.f2) ((rd_T28 y167 1).f1) ((rd_T28 y167 1).f2.f0) ((rd_T28 y167 1).f2.f1) ((rd_T28 y167 1).f3) ((rd_T28 y167 1).f4)).bind fun bt186 => ((sizarlaw07_grade.f 7 2 6 20 0).bind fun bt190 => ((facts_Add.f k y167 bt190.1 bt190.2.1 bt190.2.2.1 bt190.2.2.2.1 bt190.2.2.2.2.1 bt190.2.2.2.2.2.1 bt190.2.2.2.2.2.2.1 bt190.2.2.2.2.2.2.2).bind fun bt198 => ((facts_Changed.f y167 15 20).bind fun t202 => (if bt186.2 = 0 then (if bt198.2 = 71 then ((facts_Check.f (([(⟨(⟨0, 0, 0⟩ : S24), 0, (⟨0, 0⟩ : S26), 0, 0⟩ : S28)] : List (S28)))).bind fun t208 => (if t208 = 70 then ((facts_Check.f y167).bind fun t209 => (if t209 = 0 then ((facts_Points.f y167 ((rd_T28 y167 0).f0.f0) ((rd_T28 y167 0).f0.f1) ((rd_T28 y167 0).f0.f2) 5 5 20).bind fun t210 => (sizarlaw07_sane.j0 k y167 t172 t173 t175 t176 t177 bt178.2 bt186.1 t202 ((t210.length : Int) != 0) ((rd_T28 y167 0).f0.f0) ((rd_T28 y167 0).f0.f1) ((rd_T28 y167 0).f0.f2))) else (none))) else (none))) else (none)) else (none)))))) else (none)) else (none))) = some r := H
    have A6 := Aside0.mk A60
    clear A60
    replace H := Option.bind_eq_some_iff.mp H
    obtain ⟨⟨t178, t179⟩, A70, H⟩ := H
    replace H : (if 1 ≤ (y167.length : Int) then (if 1 < (y167.length : Int) then ((facts_Add.f k (y167.take 1) ((rd_T28 y167 1).f0.f0) ((rd_T28 y167 1).f0.f1) ((rd_T28 y167 1).f0.f2) ((rd_T28 y167 1).f1) ((rd_T28 y167 1).f2.f0) ((rd_T28 y167 1).f2.f1) ((rd_T28 y167 1).f3) ((rd_T28 y167 1).f4)).bind fun bt186 => ((sizarlaw07_grade.f 7 2 6 20 0).bind fun bt190 => ((facts_Add.f k y167 bt190.1 bt190.2.1 bt190.2.2.1 bt190.2.2.2.1 bt190.2.2.2.2.1 bt190.2.2.2.2.2.1 bt190.2.2.2.2.2.2.1 bt190.2.2.2.2.2.2.2).bind fun bt198 => ((facts_Changed.f y167 15 20).bind fun t202 => (if bt186.2 = 0 then (if bt198.2 = 71 then ((facts_Check.f (([(⟨(⟨0, 0, 0⟩ : S24), 0, (⟨0, 0⟩ : S26), 0, 0⟩ : S28)] : List (S28)))).bind fun t208 => (if t208 = 70 then ((facts_Check.f y167).bind fun t209 => (if t209 = 0 then ((facts_Points.f y167 ((rd_T28 y167 0).f0.f0) ((rd_T28 y167 0).f0.f1) ((rd_T28 y167 0).f0.f2) 5 5 20).bind fun t210 => (sizarlaw07_sane.j0 k y167 t172 t173 t175 t176 t177 t179 bt186.1 t202 ((t210.length : Int) != 0) ((rd_T28 y167 0).f0.f0) ((rd_T28 y167 0).f0.f1) ((rd_T28 y167 0).f0.f2))) else (none))) else (none))) else (none)) else (none)))))) else (none)) else (none)) = some r := H
    have A7 := Aside0.mk A70
    clear A70
    by_cases c8 : 1 ≤ (y167.length : Int)
    · rw [if_pos c8] at H
      have c8b0 := eq_true c8
      have c8b1 : decide (1 ≤ (y167.length : Int)) = true := decide_eq_true c8
      clear c8
      obtain ⟨y180, hy180⟩ : ∃ y_ : List (S28), y_ = (y167.take 1) := ⟨_, rfl⟩
      replace H : (if 1 < (y167.length : Int) then ((facts_Add.f k y180 ((rd_T28 y167 1).f0.f0) ((rd_T28 y167 1).f0.f1) ((rd_T28 y167 1).f0.f2) ((rd_T28 y167 1).f1) ((rd_T28 y167 1).f2.f0) ((rd_T28 y167 1).f2.f1) ((rd_T28 y167 1).f3) ((rd_T28 y167 1).f4)).bind fun bt186 => ((sizarlaw07_grade.f 7 2 6 20 0).bind fun bt190 => ((facts_Add.f k y167 bt190.1 bt190.2.1 bt190.2.2.1 bt190.2.2.2.1 bt190.2.2.2.2.1 bt190.2.2.2.2.2.1 bt190.2.2.2.2.2.2.1 bt190.2.2.2.2.2.2.2).bind fun bt198 => ((facts_Changed.f y167 15 20).bind fun t202 => (if bt186.2 = 0 then (if bt198.2 = 71 then ((facts_Check.f (([(⟨(⟨0, 0, 0⟩ : S24), 0, (⟨0, 0⟩ : S26), 0, 0⟩ : S28)] : List (S28)))).bind fun t208 => (if t208 = 70 then ((facts_Check.f y167).bind fun t209 => (if t209 = 0 then ((facts_Points.f y167 ((rd_T28 y167 0).f0.f0) ((rd_T28 y167 0).f0.f1) ((rd_T28 y167 0).f0.f2) 5 5 20).bind fun t210 => (sizarlaw07_sane.j0 k y167 t172 t173 t175 t176 t177 t179 bt186.1 t202 ((t210.length : Int) != 0) ((rd_T28 y167 0).f0.f0) ((rd_T28 y167 0).f0.f1) ((rd_T28 y167 0).f0.f2))) else (none))) else (none))) else (none)) else (none)))))) else (none)) = some r := by first | (rw [hy180]; with_reducible exact H) | (have H2_ := (Option.bind_some _ _).symm.trans H; rw [hy180]; with_reducible exact H2_) | (have H2_ := (Option.bind_some _ _).symm.trans H; with_reducible exact H2_) | with_reducible exact H | (rw [hy180]; exact H) | exact H
      have Ny180 := Aside0.mk hy180
      clear hy180
      by_cases c9 : 1 < (y167.length : Int)
      · rw [if_pos c9] at H
        have c9b0 : decide (1 < (y167.length : Int)) = true := decide_eq_true c9
        have c9b1 : decide (1 < y167.length) = true := decide_eq_true (by omega)
        clear c9
        replace H := Option.bind_eq_some_iff.mp H
        obtain ⟨⟨t186, t189⟩, A100, H⟩ := H
        replace H : ((sizarlaw07_grade.f 7 2 6 20 0).bind fun bt190 => ((facts_Add.f k y167 bt190.1 bt190.2.1 bt190.2.2.1 bt190.2.2.2.1 bt190.2.2.2.2.1 bt190.2.2.2.2.2.1 bt190.2.2.2.2.2.2.1 bt190.2.2.2.2.2.2.2).bind fun bt198 => ((facts_Changed.f y167 15 20).bind fun t202 => (if t189 = 0 then (if bt198.2 = 71 then ((facts_Check.f (([(⟨(⟨0, 0, 0⟩ : S24), 0, (⟨0, 0⟩ : S26), 0, 0⟩ : S28)] : List (S28)))).bind fun t208 => (if t208 = 70 then ((facts_Check.f y167).bind fun t209 => (if t209 = 0 then ((facts_Points.f y167 ((rd_T28 y167 0).f0.f0) ((rd_T28 y167 0).f0.f1) ((rd_T28 y167 0).f0.f2) 5 5 20).bind fun t210 => (sizarlaw07_sane.j0 k y167 t172 t173 t175 t176 t177 t179 t186 t202 ((t210.length : Int) != 0) ((rd_T28 y167 0).f0.f0) ((rd_T28 y167 0).f0.f1) ((rd_T28 y167 0).f0.f2))) else (none))) else (none))) else (none)) else (none))))) = some r := H
        have A10 := Aside0.mk A100
        clear A100
        replace H := Option.bind_eq_some_iff.mp H
        obtain ⟨⟨t190, t191, t192, t193, t194, t195, t196, t197⟩, A110, H⟩ := H
        replace H : ((facts_Add.f k y167 t190 t191 t192 t193 t194 t195 t196 t197).bind fun bt198 => ((facts_Changed.f y167 15 20).bind fun t202 => (if t189 = 0 then (if bt198.2 = 71 then ((facts_Check.f (([(⟨(⟨0, 0, 0⟩ : S24), 0, (⟨0, 0⟩ : S26), 0, 0⟩ : S28)] : List (S28)))).bind fun t208 => (if t208 = 70 then ((facts_Check.f y167).bind fun t209 => (if t209 = 0 then ((facts_Points.f y167 ((rd_T28 y167 0).f0.f0) ((rd_T28 y167 0).f0.f1) ((rd_T28 y167 0).f0.f2) 5 5 20).bind fun t210 => (sizarlaw07_sane.j0 k y167 t172 t173 t175 t176 t177 t179 t186 t202 ((t210.length : Int) != 0) ((rd_T28 y167 0).f0.f0) ((rd_T28 y167 0).f0.f1) ((rd_T28 y167 0).f0.f2))) else (none))) else (none))) else (none)) else (none)))) = some r := H
        have A11 := Aside0.mk A110
        clear A110
        replace H := Option.bind_eq_some_iff.mp H
        obtain ⟨⟨t198, t201⟩, A120, H⟩ := H
        replace H : ((facts_Changed.f y167 15 20).bind fun t202 => (if t189 = 0 then (if t201 = 71 then ((facts_Check.f (([(⟨(⟨0, 0, 0⟩ : S24), 0, (⟨0, 0⟩ : S26), 0, 0⟩ : S28)] : List (S28)))).bind fun t208 => (if t208 = 70 then ((facts_Check.f y167).bind fun t209 => (if t209 = 0 then ((facts_Points.f y167 ((rd_T28 y167 0).f0.f0) ((rd_T28 y167 0).f0.f1) ((rd_T28 y167 0).f0.f2) 5 5 20).bind fun t210 => (sizarlaw07_sane.j0 k y167 t172 t173 t175 t176 t177 t179 t186 t202 ((t210.length : Int) != 0) ((rd_T28 y167 0).f0.f0) ((rd_T28 y167 0).f0.f1) ((rd_T28 y167 0).f0.f2))) else (none))) else (none))) else (none)) else (none))) = some r := H
        have A12 := Aside0.mk A120
        clear A120
        replace H := Option.bind_eq_some_iff.mp H
        obtain ⟨t202, A130, H⟩ := H
        replace H : (if t189 = 0 then (if t201 = 71 then ((facts_Check.f (([(⟨(⟨0, 0, 0⟩ : S24), 0, (⟨0, 0⟩ : S26), 0, 0⟩ : S28)] : List (S28)))).bind fun t208 => (if t208 = 70 then ((facts_Check.f y167).bind fun t209 => (if t209 = 0 then ((facts_Points.f y167 ((rd_T28 y167 0).f0.f0) ((rd_T28 y167 0).f0.f1) ((rd_T28 y167 0).f0.f2) 5 5 20).bind fun t210 => (sizarlaw07_sane.j0 k y167 t172 t173 t175 t176 t177 t179 t186 t202 ((t210.length : Int) != 0) ((rd_T28 y167 0).f0.f0) ((rd_T28 y167 0).f0.f1) ((rd_T28 y167 0).f0.f2))) else (none))) else (none))) else (none)) else (none)) = some r := H
        have A13 := Aside0.mk A130
        clear A130
        have HC14 := Aside0.mk H
        clear H
        go_enter Try.func11, Try.ntmps11
        try go_wp2_with (first | ((with_reducible refine gate_callee (f := 31) rfl ?_); refine goesL_ (some 16) rfl rfl Try.func31 (by kernel_rfl) rfl #[.int .i64 7, .int .i64 2, .int .i64 6, .int .i64 10, .int .i64 0] rfl (by (try simp only [List.map_toArray, List.map_cons, List.map_nil]); first | done | rfl | (simp only [List.length_drop, List.length_take]; rfl)) ?_; (with_reducible refine (sizarlaw07_grade.calls 7 2 6 10 0 t151 t152 t153 t154 t155 t156 t157 t158 _ A1.out).mono ?_); rintro e w15 ⟨rfl, hb⟩; refine ⟨_, rfl, ?_⟩; have n0_ := Aside0.mk (below_step (by repeat (first | (with_reducible first | exact HB.out | apply below_alloc | apply pw_below_drewN | apply below_drew1) | exact HB.out)) hb); clear HB; have HB := n0_; clear n0_; (try clear hb); (try clear hb2); (try clear hk); (try clear hi)) | ((with_reducible refine gate_callee (f := 31) rfl ?_); refine goesL_ (some 17) rfl rfl Try.func31 (by kernel_rfl) rfl #[.int .i64 (-1), .int .i64 3, .int .i64 4, .int .i64 20, .int .i64 0] rfl (by (try simp only [List.map_toArray, List.map_cons, List.map_nil]); first | done | rfl | (simp only [List.length_drop, List.length_take]; rfl)) ?_; (with_reducible refine (sizarlaw07_grade.calls (-1) 3 4 20 0 t159 t160 t161 t162 t163 t164 t165 t166 _ A2.out).mono ?_); rintro e w16 ⟨rfl, hb⟩; refine ⟨_, rfl, ?_⟩; have n0_ := Aside0.mk (below_step (by repeat (first | (with_reducible first | exact HB.out | apply below_alloc | apply pw_below_drewN | apply below_drew1) | exact HB.out)) hb); clear HB; have HB := n0_; clear n0_; (try clear hb); (try clear hb2); (try clear hk); (try clear hi)) | ((with_reducible refine gate_dst (N := 18) rfl ?_); (try (refine gate_guard (by rfl) ?_; dsimp only)); refine Kd.R_lit k28 _ 28 ?hg (N := 18) ?hd (xs := ([(⟨(⟨t151, t152, t153⟩ : S24), t154, (⟨t155, t156⟩ : S26), t157, t158⟩ : S28), (⟨(⟨t159, t160, t161⟩ : S24), t162, (⟨t163, t164⟩ : S26), t165, t166⟩ : S28)] : List (S28))) (inner := [.int .i64 t151, .int .i64 t152, .int .i64 t153, .int .i64 t154, .int .i64 t155, .int .i64 t156, .int .i64 t157, .int .i64 t158, .int .i64 t159, .int .i64 t160, .int .i64 t161, .int .i64 t162, .int .i64 t163, .int .i64 t164, .int .i64 t165, .int .i64 t166]) (ok := fun _ => True) (okp := fun _ => True) ?hr ?hp (fun _ hk => hk) trivial (Below.refl _ _) (Nat.le_refl _) (by simp) ?_; (case hd => rfl); (case hg => rfl); (case hr => first | (go_simp; done) | (go_simp; rfl)); (case hp => exact (Reps.c8 (show Kd.M k28 _ _ _ (⟨(⟨t151, t152, t153⟩ : S24), t154, (⟨t155, t156⟩ : S26), t157, t158⟩ : S28) [.int .i64 t151, .int .i64 t152, .int .i64 t153, .int .i64 t154, .int .i64 t155, .int .i64 t156, .int .i64 t157, .int .i64 t158] from (k28_mkM _ _ _ (⟨(⟨t151, t152, t153⟩ : S24), t154, (⟨t155, t156⟩ : S26), t157, t158⟩ : S28) )) (Reps.c8 (show Kd.M k28 _ _ _ (⟨(⟨t159, t160, t161⟩ : S24), t162, (⟨t163, t164⟩ : S26), t165, t166⟩ : S28) [.int .i64 t159, .int .i64 t160, .int .i64 t161, .int .i64 t162, .int .i64 t163, .int .i64 t164, .int .i64 t165, .int .i64 t166] from (k28_mkM _ _ _ (⟨(⟨t159, t160, t161⟩ : S24), t162, (⟨t163, t164⟩ : S26), t165, t166⟩ : S28) )) (Reps.none _ _)))); intro v168 w17 ho18 hb hg_ hnew_; clear hg_ hnew_; (first | rw [← Ny167.out] at ho18 | (simp only [Int.reduceToNat] at ho18; rw [← Ny167.out] at ho18)); have n0_ := Aside0.mk (Kd.R_lower ho18 (below_size (by repeat (first | (with_reducible first | exact HB.out | apply below_alloc | apply pw_below_drewN | apply below_drew1) | exact HB.out)))); have n1_ := Aside0.mk (below_step (by repeat (first | (with_reducible first | exact HB.out | apply below_alloc | apply pw_below_drewN | apply below_drew1) | exact HB.out)) hb); clear HB; have HO169 := n0_; have HB := n1_; clear n0_ n1_; clear hb ho18; obtain ⟨Ao19, co19, eo19⟩ := Kd.R_slice HO169.out; subst eo19; have p170 : 0 ≤ (0 : Int) := (by omega); have q170 : 0 < (y167.length : Int) := of_decide_eq_true (by first | (with_reducible assumption) | assumption); obtain ⟨ad170, e170, hx170_0, hx170_1, hx170_2, hx170_3, hx170_4, hx170_5, hx170_6, hx170_7⟩ := at_T28 (Kd.R_reads' HO169.out).2.2 0 p170 q170; cases e170; have qi170 : (0 < y167.length) = True := eq_true (by omega); (try rw [show ((0 : Int)).toNat = 0 from rfl] at hx170_0); (try rw [show 0 * 8 = 0 from rfl] at hx170_0); (try rw [Addr.add_zero'] at hx170_0); (try rw [show ((0 : Int)).toNat = 0 from rfl] at hx170_1); (try rw [show 0 * 8 = 0 from rfl] at hx170_1); (try rw [Addr.add_zero'] at hx170_1); (try rw [show ((0 : Int)).toNat = 0 from rfl] at hx170_2); (try rw [show 0 * 8 = 0 from rfl] at hx170_2); (try rw [Addr.add_zero'] at hx170_2); (try rw [show ((0 : Int)).toNat = 0 from rfl] at hx170_3); (try rw [show 0 * 8 = 0 from rfl] at hx170_3); (try rw [Addr.add_zero'] at hx170_3); (try rw [show ((0 : Int)).toNat = 0 from rfl] at hx170_4); (try rw [show 0 * 8 = 0 from rfl] at hx170_4); (try rw [Addr.add_zero'] at hx170_4); (try rw [show ((0 : Int)).toNat = 0 from rfl] at hx170_5); (try rw [show 0 * 8 = 0 from rfl] at hx170_5); (try rw [Addr.add_zero'] at hx170_5); (try rw [show ((0 : Int)).toNat = 0 from rfl] at hx170_6); (try rw [show 0 * 8 = 0 from rfl] at hx170_6); (try rw [Addr.add_zero'] at hx170_6); (try rw [show ((0 : Int)).toNat = 0 from rfl] at hx170_7); (try rw [show 0 * 8 = 0 from rfl] at hx170_7); (try rw [Addr.add_zero'] at hx170_7); replace p170 := eq_true p170; replace q170 := eq_true q170) | ((with_reducible refine gate_dst (N := 2) rfl ?_); (try (refine gate_guard (by rfl) ?_; dsimp only)); refine box_event ?hg (N := 2) ?hd (cs := #[.int .i64 0, .int .i64 0, .int .i64 0]) (t := 24) ?hr ?_; (case hd => rfl); (case hg => rfl); (case hr => first | (go_simp; done) | (go_simp; rfl)); intro gb171 hg w20 hbox hb; have n0_ := Aside0.mk (Kd.R_below (by (with_reducible repeat (first | apply Kd.R_alloc | apply Kd.R_drewN | apply Kd.R_drew)); exact HO169.out) hb); have n1_ := Aside0.mk (below_step (by repeat (first | (with_reducible first | exact HB.out | apply below_alloc | apply pw_below_drewN | apply below_drew1) | exact HB.out)) hb); have n2_ := Aside0.mk (hbox); have n3_ := Aside0.mk ((by rw [hg]; exact (below_size (by repeat (first | (with_reducible first | exact HB.out | apply below_alloc | apply pw_below_drewN | apply below_drew1) | exact HB.out))) : w.heap.size ≤ gb171)); have n4_ := Aside0.mk ((by rw [hg]; exact (below_size (by repeat (first | (with_reducible first | exact HB.out | apply below_alloc | apply pw_below_drewN | apply below_drew1) | exact HB.out))) : w.heap.size ≤ gb171)); clear HO169; clear HB; have HO169 := n0_; have HB := n1_; have BK171 := n2_; have GW171 := n3_; have GE171 := n4_; clear n0_ n1_ n2_ n3_ n4_; clear hb hbox hg; have hcz21_0 : w20.cell? ⟨gb171, 0, none⟩ = some (.int .i64 0) := (blk_cell BK171.out 0).trans rfl; have hcz21_1 : w20.cell? ⟨gb171, 1, none⟩ = some (.int .i64 0) := (blk_cell BK171.out 1).trans rfl; have hcz21_2 : w20.cell? ⟨gb171, 2, none⟩ = some (.int .i64 0) := (blk_cell BK171.out 2).trans rfl; have hfz21_0 := blk_frozen BK171.out 0; have hfz21_1 := blk_frozen BK171.out 1; have hfz21_2 := blk_frozen BK171.out 2) | ((with_reducible refine gate_callee (f := 18) rfl ?_); refine goesL_ (some 26) rfl rfl Try.func18 (by kernel_rfl) rfl #[.slice (some ad170) y167.length co19, .agg #[.int .i64 ((rd_T28 y167 0).f0.f0), .int .i64 ((rd_T28 y167 0).f0.f1), .int .i64 ((rd_T28 y167 0).f0.f2)], .int .i64 3, .int .i64 15] rfl (by (try simp only [List.map_toArray, List.map_cons, List.map_nil]); first | done | rfl | (simp only [List.length_drop, List.length_take]; rfl)) ?_; (with_reducible refine (facts_At.calls _ _ y167 ((rd_T28 y167 0).f0.f0) ((rd_T28 y167 0).f0.f1) ((rd_T28 y167 0).f0.f2) 3 15 t172 t173 _ ?side1 ?side2 A4.out).mono ?_); (case side1 => refine (Kd.R_reads' (e := 28) (base := w.heap.size) (ok := fun k_ => True) (n := y167.length) (c := co19) ?_).2.2; exact (by (with_reducible repeat (first | apply Kd.R_alloc | apply Kd.R_drewN | apply Kd.R_drew)); exact (Kd.R_mono (Kd.R_far (p := ⟨gb171, 2, none⟩) (Kd.R_far (p := ⟨gb171, 1, none⟩) (Kd.R_far (p := ⟨gb171, 0, none⟩) (Kd.R_types HO169.out BK171.out (by decide)) (fun _ hk => hk.2) (.int .i64 ((rd_T28 y167 0).f0.f0))) (fun _ hk => hk.2) (.int .i64 ((rd_T28 y167 0).f0.f1))) (fun _ hk => hk.2) (.int .i64 ((rd_T28 y167 0).f0.f2))) (fun _ h_ => h_.1)))); (case side2 => exact (Kd.R_reads' HO169.out).2.1); rintro e w22 ⟨rfl, hb⟩; refine ⟨_, rfl, ?_⟩; have n0_ := Aside0.mk (Kd.R_below (by (with_reducible repeat (first | apply Kd.R_alloc | apply Kd.R_drewN | apply Kd.R_drew)); exact (Kd.R_mono (Kd.R_far (p := ⟨gb171, 2, none⟩) (Kd.R_far (p := ⟨gb171, 1, none⟩) (Kd.R_far (p := ⟨gb171, 0, none⟩) (Kd.R_types HO169.out BK171.out (by decide)) (fun _ hk => hk.2) (.int .i64 ((rd_T28 y167 0).f0.f0))) (fun _ hk => hk.2) (.int .i64 ((rd_T28 y167 0).f0.f1))) (fun _ hk => hk.2) (.int .i64 ((rd_T28 y167 0).f0.f2))) (fun _ h_ => h_.1))) hb); have n1_ := Aside0.mk (blk_below (g := gb171) (o := .cells #[.int .i64 ((rd_T28 y167 0).f0.f0), .int .i64 ((rd_T28 y167 0).f0.f1), .int .i64 ((rd_T28 y167 0).f0.f2)] 24 (0, 0)) (by (with_reducible repeat (first | refine blk_drewN ?_ _ | refine blk_drew ?_ | refine blk_alloc ?_ _)); refine blk_put (cs := #[.int .i64 ((rd_T28 y167 0).f0.f0), .int .i64 ((rd_T28 y167 0).f0.f1), .int .i64 0]) ?_ 2 _ rfl; (with_reducible repeat (first | refine blk_drewN ?_ _ | refine blk_drew ?_ | refine blk_alloc ?_ _)); refine blk_put (cs := #[.int .i64 ((rd_T28 y167 0).f0.f0), .int .i64 0, .int .i64 0]) ?_ 1 _ rfl; (with_reducible repeat (first | refine blk_drewN ?_ _ | refine blk_drew ?_ | refine blk_alloc ?_ _)); refine blk_put (cs := #[.int .i64 0, .int .i64 0, .int .i64 0]) ?_ 0 _ rfl; (with_reducible repeat (first | refine blk_drewN ?_ _ | refine blk_drew ?_ | refine blk_alloc ?_ _)); exact BK171.out) hb); have n2_ := Aside0.mk (below_step (by repeat (first | (with_reducible first | exact HB.out | apply below_alloc | apply pw_below_drewN | apply below_drew1 | refine below_set ?_ GE171.out) | exact HB.out)) hb); clear HO169; clear BK171; clear HB; have HO169 := n0_; have BK171 := n1_; have HB := n2_; clear n0_ n1_ n2_; (try clear hb); (try clear hb2); (try clear hk); (try clear hi); have hcz23_0 : w22.cell? ⟨gb171, 0, none⟩ = some (.int .i64 ((rd_T28 y167 0).f0.f0)) := (blk_cell BK171.out 0).trans rfl; have hcz23_1 : w22.cell? ⟨gb171, 1, none⟩ = some (.int .i64 ((rd_T28 y167 0).f0.f1)) := (blk_cell BK171.out 1).trans rfl; have hcz23_2 : w22.cell? ⟨gb171, 2, none⟩ = some (.int .i64 ((rd_T28 y167 0).f0.f2)) := (blk_cell BK171.out 2).trans rfl; have hfz23_0 := blk_frozen BK171.out 0; have hfz23_1 := blk_frozen BK171.out 1; have hfz23_2 := blk_frozen BK171.out 2) | ((with_reducible refine gate_callee (f := 18) rfl ?_); refine goesL_ (some 32) rfl rfl Try.func18 (by kernel_rfl) rfl #[.slice (some ad170) y167.length co19, .agg #[.int .i64 ((rd_T28 y167 0).f0.f0), .int .i64 ((rd_T28 y167 0).f0.f1), .int .i64 ((rd_T28 y167 0).f0.f2)], .int .i64 3, .int .i64 20] rfl (by (try simp only [List.map_toArray, List.map_cons, List.map_nil]); first | done | rfl | (simp only [List.length_drop, List.length_take]; rfl)) ?_; (with_reducible refine (facts_At.calls _ _ y167 ((rd_T28 y167 0).f0.f0) ((rd_T28 y167 0).f0.f1) ((rd_T28 y167 0).f0.f2) 3 20 t174 t175 _ ?side1 ?side2 A5.out).mono ?_); (case side1 => repeat (first | exact (Kd.R_reads' HO169.out).2.2 | (with_reducible refine Kd.C_alloc ?_ _) | (with_reducible refine Kd.C_drewN ?_ _) | (with_reducible refine Kd.C_drew ?_))); (case side2 => exact (Kd.R_reads' HO169.out).2.1); rintro e w24 ⟨rfl, hb⟩; refine ⟨_, rfl, ?_⟩; have n0_ := Aside0.mk (Kd.R_below (by (with_reducible repeat (first | apply Kd.R_alloc | apply Kd.R_drewN | apply Kd.R_drew)); exact HO169.out) hb); have n1_ := Aside0.mk (blk_below (g := gb171) (o := .cells #[.int .i64 ((rd_T28 y167 0).f0.f0), .int .i64 ((rd_T28 y167 0).f0.f1), .int .i64 ((rd_T28 y167 0).f0.f2)] 24 (0, 0)) (by (with_reducible repeat (first | refine blk_drewN ?_ _ | refine blk_drew ?_ | refine blk_alloc ?_ _)); exact BK171.out) hb); have n2_ := Aside0.mk (below_step (by repeat (first | (with_reducible first | exact HB.out | apply below_alloc | apply pw_below_drewN | apply below_drew1 | refine below_set ?_ GE171.out) | exact HB.out)) hb); clear HO169; clear BK171; clear HB; have HO169 := n0_; have BK171 := n1_; have HB := n2_; clear n0_ n1_ n2_; (try clear hb); (try clear hb2); (try clear hk); (try clear hi); have hcz25_0 : w24.cell? ⟨gb171, 0, none⟩ = some (.int .i64 ((rd_T28 y167 0).f0.f0)) := (blk_cell BK171.out 0).trans rfl; have hcz25_1 : w24.cell? ⟨gb171, 1, none⟩ = some (.int .i64 ((rd_T28 y167 0).f0.f1)) := (blk_cell BK171.out 1).trans rfl; have hcz25_2 : w24.cell? ⟨gb171, 2, none⟩ = some (.int .i64 ((rd_T28 y167 0).f0.f2)) := (blk_cell BK171.out 2).trans rfl; have hfz25_0 := blk_frozen BK171.out 0; have hfz25_1 := blk_frozen BK171.out 1; have hfz25_2 := blk_frozen BK171.out 2) | ((with_reducible refine gate_callee (f := 18) rfl ?_); refine goesL_ (some 38) rfl rfl Try.func18 (by kernel_rfl) rfl #[.slice (some ad170) y167.length co19, .agg #[.int .i64 ((rd_T28 y167 0).f0.f0), .int .i64 ((rd_T28 y167 0).f0.f1), .int .i64 ((rd_T28 y167 0).f0.f2)], .int .i64 2, .int .i64 20] rfl (by (try simp only [List.map_toArray, List.map_cons, List.map_nil]); first | done | rfl | (simp only [List.length_drop, List.length_take]; rfl)) ?_; (with_reducible refine (facts_At.calls _ _ y167 ((rd_T28 y167 0).f0.f0) ((rd_T28 y167 0).f0.f1) ((rd_T28 y167 0).f0.f2) 2 20 t176 t177 _ ?side1 ?side2 A6.out).mono ?_); (case side1 => repeat (first | exact (Kd.R_reads' HO169.out).2.2 | (with_reducible refine Kd.C_alloc ?_ _) | (with_reducible refine Kd.C_drewN ?_ _) | (with_reducible refine Kd.C_drew ?_))); (case side2 => exact (Kd.R_reads' HO169.out).2.1); rintro e w26 ⟨rfl, hb⟩; refine ⟨_, rfl, ?_⟩; have n0_ := Aside0.mk (Kd.R_below (by (with_reducible repeat (first | apply Kd.R_alloc | apply Kd.R_drewN | apply Kd.R_drew)); exact HO169.out) hb); have n1_ := Aside0.mk (blk_below (g := gb171) (o := .cells #[.int .i64 ((rd_T28 y167 0).f0.f0), .int .i64 ((rd_T28 y167 0).f0.f1), .int .i64 ((rd_T28 y167 0).f0.f2)] 24 (0, 0)) (by (with_reducible repeat (first | refine blk_drewN ?_ _ | refine blk_drew ?_ | refine blk_alloc ?_ _)); exact BK171.out) hb); have n2_ := Aside0.mk (below_step (by repeat (first | (with_reducible first | exact HB.out | apply below_alloc | apply pw_below_drewN | apply below_drew1 | refine below_set ?_ GE171.out) | exact HB.out)) hb); clear HO169; clear BK171; clear HB; have HO169 := n0_; have BK171 := n1_; have HB := n2_; clear n0_ n1_ n2_; (try clear hb); (try clear hb2); (try clear hk); (try clear hi); have hcz27_0 : w26.cell? ⟨gb171, 0, none⟩ = some (.int .i64 ((rd_T28 y167 0).f0.f0)) := (blk_cell BK171.out 0).trans rfl; have hcz27_1 : w26.cell? ⟨gb171, 1, none⟩ = some (.int .i64 ((rd_T28 y167 0).f0.f1)) := (blk_cell BK171.out 1).trans rfl; have hcz27_2 : w26.cell? ⟨gb171, 2, none⟩ = some (.int .i64 ((rd_T28 y167 0).f0.f2)) := (blk_cell BK171.out 2).trans rfl; have hfz27_0 := blk_frozen BK171.out 0; have hfz27_1 := blk_frozen BK171.out 1; have hfz27_2 := blk_frozen BK171.out 2) | ((with_reducible refine gate_callee (f := 18) rfl ?_); refine goesL_ (some 43) rfl rfl Try.func18 (by kernel_rfl) rfl #[.slice none 0 0, .agg #[.int .i64 ((rd_T28 y167 0).f0.f0), .int .i64 ((rd_T28 y167 0).f0.f1), .int .i64 ((rd_T28 y167 0).f0.f2)], .int .i64 0, .int .i64 0] rfl (by (try simp only [List.map_toArray, List.map_cons, List.map_nil]); first | done | rfl | (simp only [List.length_drop, List.length_take]; rfl)) ?_; (refine (facts_At.calls _ _ ([] : List (S28)) ((rd_T28 y167 0).f0.f0) ((rd_T28 y167 0).f0.f1) ((rd_T28 y167 0).f0.f2) 0 0 t178 t179 _ ?side1 ?side2 A7.out).mono ?_); (case side1 => exact Kd.C_nil _ _); (case side2 => exact Nat.le_refl _); rintro e w28 ⟨rfl, hb⟩; refine ⟨_, rfl, ?_⟩; have n0_ := Aside0.mk (Kd.R_below (by (with_reducible repeat (first | apply Kd.R_alloc | apply Kd.R_drewN | apply Kd.R_drew)); exact HO169.out) hb); have n1_ := Aside0.mk (blk_below (g := gb171) (o := .cells #[.int .i64 ((rd_T28 y167 0).f0.f0), .int .i64 ((rd_T28 y167 0).f0.f1), .int .i64 ((rd_T28 y167 0).f0.f2)] 24 (0, 0)) (by (with_reducible repeat (first | refine blk_drewN ?_ _ | refine blk_drew ?_ | refine blk_alloc ?_ _)); exact BK171.out) hb); have n2_ := Aside0.mk (below_step (by repeat (first | (with_reducible first | exact HB.out | apply below_alloc | apply pw_below_drewN | apply below_drew1 | refine below_set ?_ GE171.out) | exact HB.out)) hb); clear HO169; clear BK171; clear HB; have HO169 := n0_; have BK171 := n1_; have HB := n2_; clear n0_ n1_ n2_; (try clear hb); (try clear hb2); (try clear hk); (try clear hi)))
        have n0_ := Aside0.mk (Kd.R_drew HO169.out)
        have n1_ := Aside0.mk (blk_drew BK171.out)
        have n2_ := Aside0.mk (below_drew1 HB.out)
        clear HO169
        clear BK171
        clear HB
        have HO169 := n0_
        have BK171 := n1_
        have HB := n2_
        clear n0_ n1_ n2_
        have q30 : (1 : Int) ≤ ((y167.length : Int) : Int) := of_decide_eq_true (by first | (with_reducible assumption) | assumption)
        obtain ⟨i030, hi030, _, hsz30, _⟩ := info_parts info28
        have hroom30 : y167.length ≤ co19 := (Kd.R_reads' HO169.out).2.1
        have hC30 : Kd.F k28 _ _ (some ad170) y167.length y167 := (Kd.V_at (base := w.heap.size) (Kd.R_V (Kd.R_types (HO169.out) BK171.out (by decide)))).2.2
        have hcut30 := cut_to (P := Try.prog) 22 28 .i64 Try.underlying22 hi030 (some ad170) y167.length co19 1 (by omega) q30 hroom30
        have hr30 := Kd.F_take (m := 1) hC30 (by omega)
        have hy30 : y180.length = (1 : Int).toNat := (by rw [Ny180.out, List.length_take]; omega)
        rw [← Ny180.out] at hr30
        rw [← hy30] at hcut30
        have HO184 := Aside0.mk (show Kd.V k28 28 _ w.heap.size _ (.slice (some ad170) y180.length co19) y180 from Kd.V_mk (by omega) hr30)
        have HC184 := Aside0.mk (show y180.length ≤ co19 from by omega)
        clear hr30 hC30 hroom30 hi030 hsz30
        have KY30 := Aside0.mk hy30
        clear hy30
        replace q30 := eq_true q30
        have p185 : 0 ≤ (1 : Int) := (by omega)
        have q185 : 1 < (y167.length : Int) := of_decide_eq_true (by first | (with_reducible assumption) | assumption)
        obtain ⟨ad185, e185, hx185_0, hx185_1, hx185_2, hx185_3, hx185_4, hx185_5, hx185_6, hx185_7⟩ := at_T28 (Kd.R_reads' HO169.out).2.2 1 p185 q185
        obtain rfl : ad170 = ad185 := (by injection e185)
        (try simp only [show (1 : Int).toNat = 1 from rfl, Nat.reduceMul, Nat.reduceEqDiff, Go.Addr.add, ↓reduceIte] at hx185_0)
        (try simp only [show (1 : Int).toNat = 1 from rfl, Nat.reduceMul, Nat.reduceEqDiff, Go.Addr.add, ↓reduceIte] at hx185_1)
        (try simp only [show (1 : Int).toNat = 1 from rfl, Nat.reduceMul, Nat.reduceEqDiff, Go.Addr.add, ↓reduceIte] at hx185_2)
        (try simp only [show (1 : Int).toNat = 1 from rfl, Nat.reduceMul, Nat.reduceEqDiff, Go.Addr.add, ↓reduceIte] at hx185_3)
        (try simp only [show (1 : Int).toNat = 1 from rfl, Nat.reduceMul, Nat.reduceEqDiff, Go.Addr.add, ↓reduceIte] at hx185_4)
        (try simp only [show (1 : Int).toNat = 1 from rfl, Nat.reduceMul, Nat.reduceEqDiff, Go.Addr.add, ↓reduceIte] at hx185_5)
        (try simp only [show (1 : Int).toNat = 1 from rfl, Nat.reduceMul, Nat.reduceEqDiff, Go.Addr.add, ↓reduceIte] at hx185_6)
        (try simp only [show (1 : Int).toNat = 1 from rfl, Nat.reduceMul, Nat.reduceEqDiff, Go.Addr.add, ↓reduceIte] at hx185_7)
        have qi185 : (1 < y167.length) = True := eq_true (by omega)
        (try rw [show ((1 : Int)).toNat = 1 from rfl] at hx185_0)
        (try rw [show 1 * 8 = 8 from rfl] at hx185_0)
        (try rw [show ((1 : Int)).toNat = 1 from rfl] at hx185_1)
        (try rw [show 1 * 8 = 8 from rfl] at hx185_1)
        (try rw [show ((1 : Int)).toNat = 1 from rfl] at hx185_2)
        (try rw [show 1 * 8 = 8 from rfl] at hx185_2)
        (try rw [show ((1 : Int)).toNat = 1 from rfl] at hx185_3)
        (try rw [show 1 * 8 = 8 from rfl] at hx185_3)
        (try rw [show ((1 : Int)).toNat = 1 from rfl] at hx185_4)
        (try rw [show 1 * 8 = 8 from rfl] at hx185_4)
        (try rw [show ((1 : Int)).toNat = 1 from rfl] at hx185_5)
        (try rw [show 1 * 8 = 8 from rfl] at hx185_5)
        (try rw [show ((1 : Int)).toNat = 1 from rfl] at hx185_6)
        (try rw [show 1 * 8 = 8 from rfl] at hx185_6)
        (try rw [show ((1 : Int)).toNat = 1 from rfl] at hx185_7)
        (try rw [show 1 * 8 = 8 from rfl] at hx185_7)
        replace p185 := eq_true p185
        replace q185 := eq_true q185
        refine start_ (n := 11) (S := fun w' => w'.cell? ⟨ad170.block, ad170.off + 8, none⟩ = some (.int .i64 ((rd_T28 y167 1).f0.f0)) ∧ w'.cell? ⟨ad170.block, ad170.off + 8 + 1, none⟩ = some (.int .i64 ((rd_T28 y167 1).f0.f1)) ∧ w'.cell? ⟨ad170.block, ad170.off + 8 + 2, none⟩ = some (.int .i64 ((rd_T28 y167 1).f0.f2)) ∧ w'.cell? ⟨ad170.block, ad170.off + 8 + 3, none⟩ = some (.int .i64 ((rd_T28 y167 1).f1)) ∧ w'.cell? ⟨ad170.block, ad170.off + 8 + 4, none⟩ = some (.int .i64 ((rd_T28 y167 1).f2.f0)) ∧ w'.cell? ⟨ad170.block, ad170.off + 8 + 5, none⟩ = some (.int .i64 ((rd_T28 y167 1).f2.f1)) ∧ w'.cell? ⟨ad170.block, ad170.off + 8 + 6, none⟩ = some (.int .i64 ((rd_T28 y167 1).f3)) ∧ w'.cell? ⟨ad170.block, ad170.off + 8 + 7, none⟩ = some (.int .i64 ((rd_T28 y167 1).f4))) (ds := []) #[false, false, false, false, false, false, false, false, false, false, false] (by kernel_rfl) rfl rfl ⟨hx185_0, hx185_1, hx185_2, hx185_3, hx185_4, hx185_5, hx185_6, hx185_7⟩ (fun hHeld => ?_); refine with_tabW sizarlaw07_sane.tab7 sizarlaw07_sane.bits7 (fun HT_ HW_ => ?_)
        generalize w28.drew = w29 at HO169 BK171 HB HO184 hx185_0 hx185_1 hx185_2 hx185_3 hx185_4 hx185_5 hx185_6 hx185_7 hHeld ⊢
        refine pure_ (i := 0) (N := some 47) (v := ?_) (a' := ?_) #[true, false, false, false, false, false, false, false, false, false, false] rfl rfl (any_of HT_.out (by kernel_rfl)) (fun _ _ _ h => h) (Or.inl ⟨by rfl, ?_⟩) ?_ ?_
        rotate_left
        · intro w'
          go_simp
          with_reducible rfl
        rotate_left
        · simp only [Act.put, List.setIfInBounds_toArray, List.set_cons_zero, List.set_cons_succ, i64_w, i32_w]
          rfl
        refine pure_ (i := 1) (N := some 48) (v := ?_) (a' := ?_) #[true, true, false, false, false, false, false, false, false, false, false] rfl rfl (any_of HT_.out (by kernel_rfl)) (fun _ _ _ h => h) (Or.inl ⟨by rfl, ?_⟩) ?_ ?_
        rotate_left
        · intro w'
          go_simp
          with_reducible rfl
        rotate_left
        · simp only [Act.put, List.setIfInBounds_toArray, List.set_cons_zero, List.set_cons_succ, i64_w, i32_w]
          rfl
        refine pure_ (i := 2) (N := some 49) (v := ?_) (a' := ?_) #[true, true, true, false, false, false, false, false, false, false, false] rfl rfl (any_of HT_.out (by kernel_rfl)) (fun _ _ _ h => h) (Or.inl ⟨by rfl, ?_⟩) ?_ ?_
        rotate_left
        · intro w'
          go_simp
          with_reducible rfl
        rotate_left
        · simp only [Act.put, List.setIfInBounds_toArray, List.set_cons_zero, List.set_cons_succ, i64_w, i32_w]
          rfl
        refine pure_ (i := 3) (N := some 50) (v := ?_) (a' := ?_) #[true, true, true, true, false, false, false, false, false, false, false] rfl rfl (any_of HT_.out (by kernel_rfl)) (fun _ _ _ h => h) (Or.inl ⟨by rfl, ?_⟩) ?_ ?_
        rotate_left
        · intro w'
          go_simp
          with_reducible rfl
        rotate_left
        · simp only [Act.put, List.setIfInBounds_toArray, List.set_cons_zero, List.set_cons_succ, i64_w, i32_w]
          rfl
        refine take_ (i := 4) (N := some 51) (v := ?_) (a' := ?_) #[true, true, true, true, true, false, false, false, false, false, false] rfl rfl (take_ofW HT_.out HW_.out (by kernel_rfl)) (fun _ _ _ h => h) (Or.inl ⟨by rfl, ?_⟩) hHeld ?_ ?_
        rotate_left
        · rintro w' ⟨s0, s1, s2, s3, s4, s5, s6, s7⟩
          go_simp
          with_reducible rfl
        rotate_left
        · simp only [Act.put, List.setIfInBounds_toArray, List.set_cons_zero, List.set_cons_succ, i64_w, i32_w]
          rfl
        refine one_ (i := 5) (N := some 52) #[true, true, true, true, true, true, false, false, false, false, false] rfl rfl (one_of HT_.out (by kernel_rfl)) (by decide) (fun K hK => ?_)
        refine goes_ Try.func13 (by kernel_rfl) rfl #[.slice (some ad170) y180.length co19, .agg #[.int .i64 ((rd_T28 y167 1).f0.f0), .int .i64 ((rd_T28 y167 1).f0.f1), .int .i64 ((rd_T28 y167 1).f0.f2), .int .i64 ((rd_T28 y167 1).f1), .int .i64 ((rd_T28 y167 1).f2.f0), .int .i64 ((rd_T28 y167 1).f2.f1), .int .i64 ((rd_T28 y167 1).f3), .int .i64 ((rd_T28 y167 1).f4)]] (by rfl) rfl rfl (by (try simp only [List.map_toArray, List.map_cons, List.map_nil]); first | done | rfl | (simp only [List.length_drop, List.length_take]; rfl)) ?_
        with_reducible refine (facts_Add.calls k _ _ y180 ((rd_T28 y167 1).f0.f0) ((rd_T28 y167 1).f0.f1) ((rd_T28 y167 1).f0.f2) ((rd_T28 y167 1).f1) ((rd_T28 y167 1).f2.f0) ((rd_T28 y167 1).f2.f1) ((rd_T28 y167 1).f3) ((rd_T28 y167 1).f4) t186 t189 _ ?side1 ?side2 A10.out).mono ?_
        (case side1 => repeat (first | exact (Kd.V_reads' HO184.out).2.2 | (with_reducible refine Kd.C_alloc ?_ _) | (with_reducible refine Kd.C_drewN ?_ _) | (with_reducible refine Kd.C_drew ?_)))
        (case side2 => exact (Kd.V_reads' HO184.out).2.1)
        rintro e w31 ⟨v187, rfl, ho0, hb⟩
        have HS0_ := (hb.cell (World.block_lt_of_cell? _ _ (hHeld.1))).trans (hHeld.1)
        have HS1_ := (hb.cell (World.block_lt_of_cell? _ _ (hHeld.2.1))).trans (hHeld.2.1)
        have HS2_ := (hb.cell (World.block_lt_of_cell? _ _ (hHeld.2.2.1))).trans (hHeld.2.2.1)
        have HS3_ := (hb.cell (World.block_lt_of_cell? _ _ (hHeld.2.2.2.1))).trans (hHeld.2.2.2.1)
        have HS4_ := (hb.cell (World.block_lt_of_cell? _ _ (hHeld.2.2.2.2.1))).trans (hHeld.2.2.2.2.1)
        have HS5_ := (hb.cell (World.block_lt_of_cell? _ _ (hHeld.2.2.2.2.2.1))).trans (hHeld.2.2.2.2.2.1)
        have HS6_ := (hb.cell (World.block_lt_of_cell? _ _ (hHeld.2.2.2.2.2.2.1))).trans (hHeld.2.2.2.2.2.2.1)
        have HS7_ := (hb.cell (World.block_lt_of_cell? _ _ (hHeld.2.2.2.2.2.2.2))).trans (hHeld.2.2.2.2.2.2.2)
        refine ⟨_, rfl, ?_⟩
        have n0_ := Aside0.mk (Kd.R_elder' (by (with_reducible repeat (first | apply Kd.R_alloc | apply Kd.R_drewN | apply Kd.R_drew)); exact HO169.out) (Kd.R_base ho0) hb)
        have n1_ := Aside0.mk (Kd.V_elder' (by (with_reducible repeat (first | apply Kd.V_alloc | apply Kd.V_drewN | apply Kd.V_drew)); exact HO184.out) (Kd.R_base ho0) hb)
        have n2_ := Aside0.mk (Kd.R_lower (Kd.R_new' ho0 (Kd.R_lt (by (with_reducible repeat (first | apply Kd.R_alloc | apply Kd.R_drewN | apply Kd.R_drew)); exact HO169.out))) (below_size (by repeat (first | (with_reducible first | exact HB.out | apply below_alloc | apply pw_below_drewN | apply below_drew1 | refine below_set ?_ GE171.out) | exact HB.out))))
        have n3_ := Aside0.mk (blk_below (g := gb171) (o := .cells #[.int .i64 ((rd_T28 y167 0).f0.f0), .int .i64 ((rd_T28 y167 0).f0.f1), .int .i64 ((rd_T28 y167 0).f0.f2)] 24 (0, 0)) (by (with_reducible repeat (first | refine blk_drewN ?_ _ | refine blk_drew ?_ | refine blk_alloc ?_ _)); exact BK171.out) hb)
        have n4_ := Aside0.mk (below_step (by repeat (first | (with_reducible first | exact HB.out | apply below_alloc | apply pw_below_drewN | apply below_drew1 | refine below_set ?_ GE171.out) | exact HB.out)) hb)
        clear HO169
        clear HO184
        clear BK171
        clear HB
        have HO169 := n0_
        have HO184 := n1_
        have HO188 := n2_
        have BK171 := n3_
        have HB := n4_
        clear n0_ n1_ n2_ n3_ n4_
        (try clear hb)
        (try clear hb2)
        (try clear hk)
        (try clear hi)
        (try clear ho0)
        refine hK.out _ _ ⟨HS0_, HS1_, HS2_, HS3_, HS4_, HS5_, HS6_, HS7_⟩ (fun hHeld => ?_)
        clear hK K
        refine norm_ (a' := ?_) ?_ ?_
        rotate_left
        · show Act.put _ (some 52) _ = _
          simp only [Act.put, List.setIfInBounds_toArray, List.set_cons_zero, List.set_cons_succ, i64_w, i32_w]
          rfl
        refine pure_ (i := 6) (N := some 46) (v := ?_) (a' := ?_) #[true, true, true, true, true, true, true, false, false, false, false] rfl rfl (any_of HT_.out (by kernel_rfl)) (fun _ _ _ h => h) (Or.inl ⟨by rfl, ?_⟩) ?_ ?_
        rotate_left
        · intro w'
          go_simp
          with_reducible rfl
        rotate_left
        · simp only [Act.put, List.setIfInBounds_toArray, List.set_cons_zero, List.set_cons_succ, i64_w, i32_w]
          rfl
        refine pure_ (i := 7) (N := some 53) (v := ?_) (a' := ?_) #[true, true, true, true, true, true, true, true, false, false, false] rfl rfl (any_of HT_.out (by kernel_rfl)) (fun _ _ _ h => h) (Or.inl ⟨by rfl, ?_⟩) ?_ ?_
        rotate_left
        · intro w'
          go_simp
          with_reducible rfl
        rotate_left
        · simp only [Act.put, List.setIfInBounds_toArray, List.set_cons_zero, List.set_cons_succ, i64_w, i32_w]
          rfl
        refine pure_ (i := 8) (N := some 54) (v := ?_) (a' := ?_) #[true, true, true, true, true, true, true, true, true, false, false] rfl rfl (any_of HT_.out (by kernel_rfl)) (fun _ _ _ h => h) (Or.inl ⟨by rfl, ?_⟩) ?_ ?_
        rotate_left
        · intro w'
          go_simp
          with_reducible rfl
        rotate_left
        · simp only [Act.put, List.setIfInBounds_toArray, List.set_cons_zero, List.set_cons_succ, i64_w, i32_w]
          rfl
        refine pure_ (i := 9) (N := some 11) (v := ?_) (a' := ?_) #[true, true, true, true, true, true, true, true, true, true, false] rfl rfl (any_of HT_.out (by kernel_rfl)) (fun _ _ _ h => h) (Or.inl ⟨by rfl, ?_⟩) ?_ ?_
        rotate_left
        · intro w'
          go_simp
          with_reducible rfl
        rotate_left
        · simp only [Act.put, List.setIfInBounds_toArray, List.set_cons_zero, List.set_cons_succ, i64_w, i32_w]
          rfl
        refine pure_ (i := 10) (N := some 12) (v := ?_) (a' := ?_) #[true, true, true, true, true, true, true, true, true, true, true] rfl rfl (any_of HT_.out (by kernel_rfl)) (fun _ _ _ h => h) (Or.inl ⟨by rfl, ?_⟩) ?_ ?_
        rotate_left
        · intro w'
          go_simp
          with_reducible rfl
        rotate_left
        · simp only [Act.put, List.setIfInBounds_toArray, List.set_cons_zero, List.set_cons_succ, i64_w, i32_w]
          rfl
        refine done_ (done_of HT_.out (by kernel_rfl)) ?_
        go_upto_region 10 with (first | ((with_reducible refine gate_callee (f := 31) rfl ?_); refine goesL_ (some 57) rfl rfl Try.func31 (by kernel_rfl) rfl #[.int .i64 7, .int .i64 2, .int .i64 6, .int .i64 20, .int .i64 0] rfl (by (try simp only [List.map_toArray, List.map_cons, List.map_nil]); first | done | rfl | (simp only [List.length_drop, List.length_take]; rfl)) ?_; (with_reducible refine (sizarlaw07_grade.calls 7 2 6 20 0 t190 t191 t192 t193 t194 t195 t196 t197 _ A11.out).mono ?_); rintro e w32 ⟨rfl, hb⟩; refine ⟨_, rfl, ?_⟩; have n0_ := Aside0.mk (Kd.R_below (by (with_reducible repeat (first | apply Kd.R_alloc | apply Kd.R_drewN | apply Kd.R_drew)); exact HO169.out) hb); have n1_ := Aside0.mk (Kd.V_below (by (with_reducible repeat (first | apply Kd.V_alloc | apply Kd.V_drewN | apply Kd.V_drew)); exact HO184.out) hb); have n2_ := Aside0.mk (Kd.R_below (by (with_reducible repeat (first | apply Kd.R_alloc | apply Kd.R_drewN | apply Kd.R_drew)); exact HO188.out) hb); have n3_ := Aside0.mk (blk_below (g := gb171) (o := .cells #[.int .i64 ((rd_T28 y167 0).f0.f0), .int .i64 ((rd_T28 y167 0).f0.f1), .int .i64 ((rd_T28 y167 0).f0.f2)] 24 (0, 0)) (by (with_reducible repeat (first | refine blk_drewN ?_ _ | refine blk_drew ?_ | refine blk_alloc ?_ _)); exact BK171.out) hb); have n4_ := Aside0.mk (below_step (by repeat (first | (with_reducible first | exact HB.out | apply below_alloc | apply pw_below_drewN | apply below_drew1 | refine below_set ?_ GE171.out) | exact HB.out)) hb); clear HO169; clear HO184; clear HO188; clear BK171; clear HB; have HO169 := n0_; have HO184 := n1_; have HO188 := n2_; have BK171 := n3_; have HB := n4_; clear n0_ n1_ n2_ n3_ n4_; (try clear hb); (try clear hb2); (try clear hk); (try clear hi)) | ((with_reducible refine gate_callee (f := 13) rfl ?_); refine goesL_ (some 58) rfl rfl Try.func13 (by kernel_rfl) rfl #[.slice (some ad170) y167.length co19, .agg #[.int .i64 t190, .int .i64 t191, .int .i64 t192, .int .i64 t193, .int .i64 t194, .int .i64 t195, .int .i64 t196, .int .i64 t197]] rfl (by (try simp only [List.map_toArray, List.map_cons, List.map_nil]); first | done | rfl | (simp only [List.length_drop, List.length_take]; rfl)) ?_; (with_reducible refine (facts_Add.calls k _ _ y167 t190 t191 t192 t193 t194 t195 t196 t197 t198 t201 _ ?side1 ?side2 A12.out).mono ?_); (case side1 => repeat (first | exact (Kd.R_reads' HO169.out).2.2 | (with_reducible refine Kd.C_alloc ?_ _) | (with_reducible refine Kd.C_drewN ?_ _) | (with_reducible refine Kd.C_drew ?_))); (case side2 => exact (Kd.R_reads' HO169.out).2.1); rintro e w33 ⟨v199, rfl, ho0, hb⟩; refine ⟨_, rfl, ?_⟩; have n0_ := Aside0.mk (Kd.R_elder' (by (with_reducible repeat (first | apply Kd.R_alloc | apply Kd.R_drewN | apply Kd.R_drew)); exact HO169.out) (Kd.R_base ho0) hb); have n1_ := Aside0.mk (Kd.V_elder' (by (with_reducible repeat (first | apply Kd.V_alloc | apply Kd.V_drewN | apply Kd.V_drew)); exact HO184.out) (Kd.R_base ho0) hb); have n2_ := Aside0.mk (Kd.R_elder' (by (with_reducible repeat (first | apply Kd.R_alloc | apply Kd.R_drewN | apply Kd.R_drew)); exact HO188.out) (Kd.R_base ho0) hb); have n3_ := Aside0.mk (Kd.R_lower (Kd.R_new' (Kd.R_new' ho0 (Kd.R_lt (by (with_reducible repeat (first | apply Kd.R_alloc | apply Kd.R_drewN | apply Kd.R_drew)); exact HO169.out))) (Kd.R_lt (by (with_reducible repeat (first | apply Kd.R_alloc | apply Kd.R_drewN | apply Kd.R_drew)); exact HO188.out))) (below_size (by repeat (first | (with_reducible first | exact HB.out | apply below_alloc | apply pw_below_drewN | apply below_drew1 | refine below_set ?_ GE171.out) | exact HB.out)))); have n4_ := Aside0.mk (blk_below (g := gb171) (o := .cells #[.int .i64 ((rd_T28 y167 0).f0.f0), .int .i64 ((rd_T28 y167 0).f0.f1), .int .i64 ((rd_T28 y167 0).f0.f2)] 24 (0, 0)) (by (with_reducible repeat (first | refine blk_drewN ?_ _ | refine blk_drew ?_ | refine blk_alloc ?_ _)); exact BK171.out) hb); have n5_ := Aside0.mk (below_step (by repeat (first | (with_reducible first | exact HB.out | apply below_alloc | apply pw_below_drewN | apply below_drew1 | refine below_set ?_ GE171.out) | exact HB.out)) hb); clear HO169; clear HO184; clear HO188; clear BK171; clear HB; have HO169 := n0_; have HO184 := n1_; have HO188 := n2_; have HO200 := n3_; have BK171 := n4_; have HB := n5_; clear n0_ n1_ n2_ n3_ n4_ n5_; (try clear hb); (try clear hb2); (try clear hk); (try clear hi); (try clear ho0)) | ((with_reducible refine gate_callee (f := 24) rfl ?_); refine goesL_ (some 62) rfl rfl Try.func24 (by kernel_rfl) rfl #[.slice (some ad170) y167.length co19, .int .i64 15, .int .i64 20] rfl (by (try simp only [List.map_toArray, List.map_cons, List.map_nil]); first | done | rfl | (simp only [List.length_drop, List.length_take]; rfl)) ?_; (with_reducible refine (facts_Changed.calls _ _ y167 15 20 t202 _ ?side1 ?side2 A13.out).mono ?_); (case side1 => repeat (first | exact (Kd.R_reads' HO169.out).2.2 | (with_reducible refine Kd.C_alloc ?_ _) | (with_reducible refine Kd.C_drewN ?_ _) | (with_reducible refine Kd.C_drew ?_))); (case side2 => exact (Kd.R_reads' HO169.out).2.1); rintro e w34 ⟨v203, rfl, ho0, hb⟩; refine ⟨_, rfl, ?_⟩; have n0_ := Aside0.mk (Kd.R_below (by (with_reducible repeat (first | apply Kd.R_alloc | apply Kd.R_drewN | apply Kd.R_drew)); exact HO169.out) hb); have n1_ := Aside0.mk (Kd.V_elder' (by (with_reducible repeat (first | apply Kd.V_alloc | apply Kd.V_drewN | apply Kd.V_drew)); exact HO184.out) (Kd.N_base (Kd.S_N ho0)) hb); have n2_ := Aside0.mk (Kd.R_below (by (with_reducible repeat (first | apply Kd.R_alloc | apply Kd.R_drewN | apply Kd.R_drew)); exact HO188.out) hb); have n3_ := Aside0.mk (Kd.R_below (by (with_reducible repeat (first | apply Kd.R_alloc | apply Kd.R_drewN | apply Kd.R_drew)); exact HO200.out) hb); have n4_ := Aside0.mk (Kd.N_lower (Kd.N_mono (ok' := fun k_ => some k_ ≠ (.slice (some ad170) y167.length co19 : Value).ownBlock ∧ some k_ ≠ (v187 : Value).ownBlock ∧ some k_ ≠ (v199 : Value).ownBlock ∧ k_ ≠ gb171) (Kd.S_N (Kd.S_bound ho0)) (fun k_ hk_ => ⟨(Kd.fresh' (Kd.R_lt (by (with_reducible repeat (first | apply Kd.R_alloc | apply Kd.R_drewN | apply Kd.R_drew)); exact HO169.out)) k_ hk_.2.1), (Kd.fresh' (Kd.R_lt (by (with_reducible repeat (first | apply Kd.R_alloc | apply Kd.R_drewN | apply Kd.R_drew)); exact HO188.out)) k_ hk_.2.1), (Kd.fresh' (Kd.R_lt (by (with_reducible repeat (first | apply Kd.R_alloc | apply Kd.R_drewN | apply Kd.R_drew)); exact HO200.out)) k_ hk_.2.1), (Kd.freshB (g := gb171) (o := .cells #[.int .i64 ((rd_T28 y167 0).f0.f0), .int .i64 ((rd_T28 y167 0).f0.f1), .int .i64 ((rd_T28 y167 0).f0.f2)] 24 (0, 0)) (by (with_reducible repeat (first | refine blk_drewN ?_ _ | refine blk_drew ?_ | refine blk_alloc ?_ _)); exact BK171.out) k_ hk_.2.1)⟩)) (below_size (by repeat (first | (with_reducible first | exact HB.out | apply below_alloc | apply pw_below_drewN | apply below_drew1 | refine below_set ?_ GE171.out) | exact HB.out)))); have n5_ := Aside0.mk (blk_below (g := gb171) (o := .cells #[.int .i64 ((rd_T28 y167 0).f0.f0), .int .i64 ((rd_T28 y167 0).f0.f1), .int .i64 ((rd_T28 y167 0).f0.f2)] 24 (0, 0)) (by (with_reducible repeat (first | refine blk_drewN ?_ _ | refine blk_drew ?_ | refine blk_alloc ?_ _)); exact BK171.out) hb); have n6_ := Aside0.mk (below_step (by repeat (first | (with_reducible first | exact HB.out | apply below_alloc | apply pw_below_drewN | apply below_drew1 | refine below_set ?_ GE171.out) | exact HB.out)) hb); clear HO169; clear HO184; clear HO188; clear HO200; clear BK171; clear HB; have HO169 := n0_; have HO184 := n1_; have HO188 := n2_; have HO200 := n3_; have HO204 := n4_; have BK171 := n5_; have HB := n6_; clear n0_ n1_ n2_ n3_ n4_ n5_ n6_; (try clear hb); (try clear hb2); (try clear hk); (try clear hi); (try clear ho0)))
        (try simp only [Act.put, List.setIfInBounds_toArray, List.set_cons_zero, List.set_cons_succ])
        go_cut [86] (fun v86 wc => ∃ (kq : Nat) (x86_13 : Bool), v86 = .bool x86_13 ∧ Aside0 (sizarlaw07_sane.j0 kq y167 t172 t173 t175 t176 t177 t179 t186 t202 x86_13 ((rd_T28 y167 0).f0.f0) ((rd_T28 y167 0).f0.f1) ((rd_T28 y167 0).f0.f2) = some r) ∧ Aside0 (kq ≤ k) ∧ Aside0 (Kd.R k28 28 wc w.heap.size (fun k_ => some k_ ≠ (v187 : Value).ownBlock) (.slice (some ad170) y167.length co19) y167) ∧ Aside0 (Kd.R k28 28 wc w.heap.size (fun k_ => some k_ ≠ ((.slice (some ad170) y167.length co19) : Value).ownBlock) v187 t186) ∧ Aside0 (Kd.N k57 57 wc w.heap.size (fun k_ => some k_ ≠ ((.slice (some ad170) y167.length co19) : Value).ownBlock ∧ some k_ ≠ (v187 : Value).ownBlock ∧ k_ ≠ gb171) v203 t202) ∧ Aside0 (wc.heap[gb171]? = some (.cells #[.int .i64 ((rd_T28 y167 0).f0.f0), .int .i64 ((rd_T28 y167 0).f0.f1), .int .i64 ((rd_T28 y167 0).f0.f2)] 24 (0, 0))) ∧ Aside0 (Below w.heap.size w wc))
        case first =>
          have H := HC14.out
          clear HC14
          by_cases c35 : t189 = 0
          · rw [if_pos c35] at H
            have c35b0 : (t189 == 0) = true := beq_iff_eq.mpr c35
            have c35b1 : (t189 != 0) = false := bne_eq_false_iff_eq.mpr c35
            clear c35
            (first | rw [c35b0] | (simp only [i64_w, i32_w]; rw [c35b0]) | skip)
            by_cases c36 : t201 = 71
            · rw [if_pos c36] at H
              have c36b0 : (t201 == 71) = true := beq_iff_eq.mpr c36
              have c36b1 : (t201 != 71) = false := bne_eq_false_iff_eq.mpr c36
              clear c36
              obtain ⟨y205, hy205⟩ : ∃ y_ : List (S28), y_ = (([(⟨(⟨0, 0, 0⟩ : S24), 0, (⟨0, 0⟩ : S26), 0, 0⟩ : S28)] : List (S28))) := ⟨_, rfl⟩
              replace H : ((facts_Check.f y205).bind fun t208 => (if t208 = 70 then ((facts_Check.f y167).bind fun t209 => (if t209 = 0 then ((facts_Points.f y167 ((rd_T28 y167 0).f0.f0) ((rd_T28 y167 0).f0.f1) ((rd_T28 y167 0).f0.f2) 5 5 20).bind fun t210 => (sizarlaw07_sane.j0 k y167 t172 t173 t175 t176 t177 t179 t186 t202 ((t210.length : Int) != 0) ((rd_T28 y167 0).f0.f0) ((rd_T28 y167 0).f0.f1) ((rd_T28 y167 0).f0.f2))) else (none))) else (none))) = some r := by first | (rw [hy205]; with_reducible exact H) | (have H2_ := (Option.bind_some _ _).symm.trans H; rw [hy205]; with_reducible exact H2_) | (have H2_ := (Option.bind_some _ _).symm.trans H; with_reducible exact H2_) | with_reducible exact H | (rw [hy205]; exact H) | exact H
              have Ny205 := Aside0.mk hy205
              clear hy205
              replace H := Option.bind_eq_some_iff.mp H
              obtain ⟨t208, A370, H⟩ := H
              replace H : (if t208 = 70 then ((facts_Check.f y167).bind fun t209 => (if t209 = 0 then ((facts_Points.f y167 ((rd_T28 y167 0).f0.f0) ((rd_T28 y167 0).f0.f1) ((rd_T28 y167 0).f0.f2) 5 5 20).bind fun t210 => (sizarlaw07_sane.j0 k y167 t172 t173 t175 t176 t177 t179 t186 t202 ((t210.length : Int) != 0) ((rd_T28 y167 0).f0.f0) ((rd_T28 y167 0).f0.f1) ((rd_T28 y167 0).f0.f2))) else (none))) else (none)) = some r := H
              have A37 := Aside0.mk A370
              clear A370
              by_cases c38 : t208 = 70
              · rw [if_pos c38] at H
                have c38b0 : (t208 == 70) = true := beq_iff_eq.mpr c38
                have c38b1 : (t208 != 70) = false := bne_eq_false_iff_eq.mpr c38
                clear c38
                replace H := Option.bind_eq_some_iff.mp H
                obtain ⟨t209, A390, H⟩ := H
                replace H : (if t209 = 0 then ((facts_Points.f y167 ((rd_T28 y167 0).f0.f0) ((rd_T28 y167 0).f0.f1) ((rd_T28 y167 0).f0.f2) 5 5 20).bind fun t210 => (sizarlaw07_sane.j0 k y167 t172 t173 t175 t176 t177 t179 t186 t202 ((t210.length : Int) != 0) ((rd_T28 y167 0).f0.f0) ((rd_T28 y167 0).f0.f1) ((rd_T28 y167 0).f0.f2))) else (none)) = some r := H
                have A39 := Aside0.mk A390
                clear A390
                by_cases c40 : t209 = 0
                · rw [if_pos c40] at H
                  have c40b0 : (t209 == 0) = true := beq_iff_eq.mpr c40
                  have c40b1 : (t209 != 0) = false := bne_eq_false_iff_eq.mpr c40
                  clear c40
                  replace H := Option.bind_eq_some_iff.mp H
                  obtain ⟨t210, A410, H⟩ := H
                  replace H : (sizarlaw07_sane.j0 k y167 t172 t173 t175 t176 t177 t179 t186 t202 ((t210.length : Int) != 0) ((rd_T28 y167 0).f0.f0) ((rd_T28 y167 0).f0.f1) ((rd_T28 y167 0).f0.f2)) = some r := H
                  have A41 := Aside0.mk A410
                  clear A410
                  have H' := Aside0.mk H
                  clear H
                  go_wp2_with (first | ((with_reducible refine gate_dst (N := 71) rfl ?_); (try (refine gate_guard (by rfl) ?_; dsimp only)); refine Kd.R_lit k28 _ 28 ?hg (N := 71) ?hd (xs := ([(⟨(⟨0, 0, 0⟩ : S24), 0, (⟨0, 0⟩ : S26), 0, 0⟩ : S28)] : List (S28))) (inner := [.int .i64 0, .int .i64 0, .int .i64 0, .int .i64 0, .int .i64 0, .int .i64 0, .int .i64 0, .int .i64 0]) (ok := fun _ => True) (okp := fun _ => True) ?hr ?hp (fun _ hk => hk) trivial (Below.refl _ _) (Nat.le_refl _) (by simp) ?_; (case hd => rfl); (case hg => rfl); (case hr => first | (go_simp; done) | (go_simp; rfl)); (case hp => exact (Reps.c8 (show Kd.M k28 _ _ _ (⟨(⟨0, 0, 0⟩ : S24), 0, (⟨0, 0⟩ : S26), 0, 0⟩ : S28) [.int .i64 0, .int .i64 0, .int .i64 0, .int .i64 0, .int .i64 0, .int .i64 0, .int .i64 0, .int .i64 0] from (k28_mkM _ _ _ (⟨(⟨0, 0, 0⟩ : S24), 0, (⟨0, 0⟩ : S26), 0, 0⟩ : S28) )) (Reps.none _ _))); intro v206 w42 ho43 hb hg_ hnew_; clear hg_ hnew_; (first | rw [← Ny205.out] at ho43 | (simp only [Int.reduceToNat] at ho43; rw [← Ny205.out] at ho43)); have n0_ := Aside0.mk (Kd.R_elder' (by (with_reducible repeat (first | apply Kd.R_alloc | apply Kd.R_drewN | apply Kd.R_drew)); exact HO169.out) (Kd.R_base ho43) hb); have n1_ := Aside0.mk (Kd.V_elder' (by (with_reducible repeat (first | apply Kd.V_alloc | apply Kd.V_drewN | apply Kd.V_drew)); exact HO184.out) (Kd.R_base ho43) hb); have n2_ := Aside0.mk (Kd.R_elder' (by (with_reducible repeat (first | apply Kd.R_alloc | apply Kd.R_drewN | apply Kd.R_drew)); exact HO188.out) (Kd.R_base ho43) hb); have n3_ := Aside0.mk (Kd.R_elder' (by (with_reducible repeat (first | apply Kd.R_alloc | apply Kd.R_drewN | apply Kd.R_drew)); exact HO200.out) (Kd.R_base ho43) hb); have n4_ := Aside0.mk (Kd.N_elder' (by (with_reducible repeat (first | apply Kd.N_alloc | apply Kd.N_drewN | apply Kd.N_drew)); exact HO204.out) (Kd.R_base ho43) hb); have n5_ := Aside0.mk (Kd.R_lower (Kd.R_new' (Kd.R_new' (Kd.R_new' ho43 (Kd.R_lt (by (with_reducible repeat (first | apply Kd.R_alloc | apply Kd.R_drewN | apply Kd.R_drew)); exact HO169.out))) (Kd.R_lt (by (with_reducible repeat (first | apply Kd.R_alloc | apply Kd.R_drewN | apply Kd.R_drew)); exact HO188.out))) (Kd.R_lt (by (with_reducible repeat (first | apply Kd.R_alloc | apply Kd.R_drewN | apply Kd.R_drew)); exact HO200.out))) (below_size (by repeat (first | (with_reducible first | exact HB.out | apply below_alloc | apply pw_below_drewN | apply below_drew1 | refine below_set ?_ GE171.out) | exact HB.out)))); have n6_ := Aside0.mk (blk_below (g := gb171) (o := .cells #[.int .i64 ((rd_T28 y167 0).f0.f0), .int .i64 ((rd_T28 y167 0).f0.f1), .int .i64 ((rd_T28 y167 0).f0.f2)] 24 (0, 0)) (by (with_reducible repeat (first | refine blk_drewN ?_ _ | refine blk_drew ?_ | refine blk_alloc ?_ _)); exact BK171.out) hb); have n7_ := Aside0.mk (below_step (by repeat (first | (with_reducible first | exact HB.out | apply below_alloc | apply pw_below_drewN | apply below_drew1 | refine below_set ?_ GE171.out) | exact HB.out)) hb); clear HO169; clear HO184; clear HO188; clear HO200; clear HO204; clear BK171; clear HB; have HO169 := n0_; have HO184 := n1_; have HO188 := n2_; have HO200 := n3_; have HO204 := n4_; have HO207 := n5_; have BK171 := n6_; have HB := n7_; clear n0_ n1_ n2_ n3_ n4_ n5_ n6_ n7_; clear hb ho43; obtain ⟨Ao44, co44, eo44⟩ := Kd.R_slice HO207.out; subst eo44) | (go_at_call 15; (with_reducible refine (facts_Check.calls _ _ y205 t208 _ ?side1 ?side2 A37.out).mono ?_); (case side1 => repeat (first | exact (Kd.R_reads' HO207.out).2.2 | (with_reducible refine Kd.C_alloc ?_ _) | (with_reducible refine Kd.C_drewN ?_ _) | (with_reducible refine Kd.C_drew ?_))); (case side2 => exact (Kd.R_reads' HO207.out).2.1); rintro e w45 ⟨rfl, hb⟩; have n0_ := Aside0.mk (Kd.R_below (by (with_reducible repeat (first | apply Kd.R_alloc | apply Kd.R_drewN | apply Kd.R_drew)); exact HO169.out) hb); have n1_ := Aside0.mk (Kd.V_below (by (with_reducible repeat (first | apply Kd.V_alloc | apply Kd.V_drewN | apply Kd.V_drew)); exact HO184.out) hb); have n2_ := Aside0.mk (Kd.R_below (by (with_reducible repeat (first | apply Kd.R_alloc | apply Kd.R_drewN | apply Kd.R_drew)); exact HO188.out) hb); have n3_ := Aside0.mk (Kd.R_below (by (with_reducible repeat (first | apply Kd.R_alloc | apply Kd.R_drewN | apply Kd.R_drew)); exact HO200.out) hb); have n4_ := Aside0.mk (Kd.N_below (by (with_reducible repeat (first | apply Kd.N_alloc | apply Kd.N_drewN | apply Kd.N_drew)); exact HO204.out) hb); have n5_ := Aside0.mk (Kd.R_below (by (with_reducible repeat (first | apply Kd.R_alloc | apply Kd.R_drewN | apply Kd.R_drew)); exact HO207.out) hb); have n6_ := Aside0.mk (blk_below (g := gb171) (o := .cells #[.int .i64 ((rd_T28 y167 0).f0.f0), .int .i64 ((rd_T28 y167 0).f0.f1), .int .i64 ((rd_T28 y167 0).f0.f2)] 24 (0, 0)) (by (with_reducible repeat (first | refine blk_drewN ?_ _ | refine blk_drew ?_ | refine blk_alloc ?_ _)); exact BK171.out) hb); have n7_ := Aside0.mk (below_step (by repeat (first | (with_reducible first | exact HB.out | apply below_alloc | apply pw_below_drewN | apply below_drew1 | refine below_set ?_ GE171.out) | exact HB.out)) hb); clear HO169; clear HO184; clear HO188; clear HO200; clear HO204; clear HO207; clear BK171; clear HB; have HO169 := n0_; have HO184 := n1_; have HO188 := n2_; have HO200 := n3_; have HO204 := n4_; have HO207 := n5_; have BK171 := n6_; have HB := n7_; clear n0_ n1_ n2_ n3_ n4_ n5_ n6_ n7_; (try clear hb); (try clear hb2); (try clear hk); (try clear hi)) | (go_at_call 15; (with_reducible refine (facts_Check.calls _ _ y167 t209 _ ?side1 ?side2 A39.out).mono ?_); (case side1 => repeat (first | exact (Kd.R_reads' HO169.out).2.2 | (with_reducible refine Kd.C_alloc ?_ _) | (with_reducible refine Kd.C_drewN ?_ _) | (with_reducible refine Kd.C_drew ?_))); (case side2 => exact (Kd.R_reads' HO169.out).2.1); rintro e w46 ⟨rfl, hb⟩; have n0_ := Aside0.mk (Kd.R_below (by (with_reducible repeat (first | apply Kd.R_alloc | apply Kd.R_drewN | apply Kd.R_drew)); exact HO169.out) hb); have n1_ := Aside0.mk (Kd.V_below (by (with_reducible repeat (first | apply Kd.V_alloc | apply Kd.V_drewN | apply Kd.V_drew)); exact HO184.out) hb); have n2_ := Aside0.mk (Kd.R_below (by (with_reducible repeat (first | apply Kd.R_alloc | apply Kd.R_drewN | apply Kd.R_drew)); exact HO188.out) hb); have n3_ := Aside0.mk (Kd.R_below (by (with_reducible repeat (first | apply Kd.R_alloc | apply Kd.R_drewN | apply Kd.R_drew)); exact HO200.out) hb); have n4_ := Aside0.mk (Kd.N_below (by (with_reducible repeat (first | apply Kd.N_alloc | apply Kd.N_drewN | apply Kd.N_drew)); exact HO204.out) hb); have n5_ := Aside0.mk (Kd.R_below (by (with_reducible repeat (first | apply Kd.R_alloc | apply Kd.R_drewN | apply Kd.R_drew)); exact HO207.out) hb); have n6_ := Aside0.mk (blk_below (g := gb171) (o := .cells #[.int .i64 ((rd_T28 y167 0).f0.f0), .int .i64 ((rd_T28 y167 0).f0.f1), .int .i64 ((rd_T28 y167 0).f0.f2)] 24 (0, 0)) (by (with_reducible repeat (first | refine blk_drewN ?_ _ | refine blk_drew ?_ | refine blk_alloc ?_ _)); exact BK171.out) hb); have n7_ := Aside0.mk (below_step (by repeat (first | (with_reducible first | exact HB.out | apply below_alloc | apply pw_below_drewN | apply below_drew1 | refine below_set ?_ GE171.out) | exact HB.out)) hb); clear HO169; clear HO184; clear HO188; clear HO200; clear HO204; clear HO207; clear BK171; clear HB; have HO169 := n0_; have HO184 := n1_; have HO188 := n2_; have HO200 := n3_; have HO204 := n4_; have HO207 := n5_; have BK171 := n6_; have HB := n7_; clear n0_ n1_ n2_ n3_ n4_ n5_ n6_ n7_; (try clear hb); (try clear hb2); (try clear hk); (try clear hi); have hcz47_0 : w46.cell? ⟨gb171, 0, none⟩ = some (.int .i64 ((rd_T28 y167 0).f0.f0)) := (blk_cell BK171.out 0).trans rfl; have hcz47_1 : w46.cell? ⟨gb171, 1, none⟩ = some (.int .i64 ((rd_T28 y167 0).f0.f1)) := (blk_cell BK171.out 1).trans rfl; have hcz47_2 : w46.cell? ⟨gb171, 2, none⟩ = some (.int .i64 ((rd_T28 y167 0).f0.f2)) := (blk_cell BK171.out 2).trans rfl; have hfz47_0 := blk_frozen BK171.out 0; have hfz47_1 := blk_frozen BK171.out 1; have hfz47_2 := blk_frozen BK171.out 2) | (go_at_call 21; (with_reducible refine (facts_Points.calls _ _ y167 ((rd_T28 y167 0).f0.f0) ((rd_T28 y167 0).f0.f1) ((rd_T28 y167 0).f0.f2) 5 5 20 t210 _ ?side1 ?side2 A41.out).mono ?_); (case side1 => repeat (first | exact (Kd.R_reads' HO169.out).2.2 | (with_reducible refine Kd.C_alloc ?_ _) | (with_reducible refine Kd.C_drewN ?_ _) | (with_reducible refine Kd.C_drew ?_))); (case side2 => exact (Kd.R_reads' HO169.out).2.1); rintro e w48 ⟨v211, rfl, ho0, hb⟩; have n0_ := Aside0.mk (Kd.R_below (by (with_reducible repeat (first | apply Kd.R_alloc | apply Kd.R_drewN | apply Kd.R_drew)); exact HO169.out) hb); have n1_ := Aside0.mk (Kd.V_elder' (by (with_reducible repeat (first | apply Kd.V_alloc | apply Kd.V_drewN | apply Kd.V_drew)); exact HO184.out) (Kd.R_base ho0) hb); have n2_ := Aside0.mk (Kd.R_below (by (with_reducible repeat (first | apply Kd.R_alloc | apply Kd.R_drewN | apply Kd.R_drew)); exact HO188.out) hb); have n3_ := Aside0.mk (Kd.R_below (by (with_reducible repeat (first | apply Kd.R_alloc | apply Kd.R_drewN | apply Kd.R_drew)); exact HO200.out) hb); have n4_ := Aside0.mk (Kd.N_elder' (by (with_reducible repeat (first | apply Kd.N_alloc | apply Kd.N_drewN | apply Kd.N_drew)); exact HO204.out) (Kd.R_base ho0) hb); have n5_ := Aside0.mk (Kd.R_below (by (with_reducible repeat (first | apply Kd.R_alloc | apply Kd.R_drewN | apply Kd.R_drew)); exact HO207.out) hb); have n6_ := Aside0.mk (Kd.R_lower ho0 (below_size (by repeat (first | (with_reducible first | exact HB.out | apply below_alloc | apply pw_below_drewN | apply below_drew1 | refine below_set ?_ GE171.out) | exact HB.out)))); have n7_ := Aside0.mk (blk_below (g := gb171) (o := .cells #[.int .i64 ((rd_T28 y167 0).f0.f0), .int .i64 ((rd_T28 y167 0).f0.f1), .int .i64 ((rd_T28 y167 0).f0.f2)] 24 (0, 0)) (by (with_reducible repeat (first | refine blk_drewN ?_ _ | refine blk_drew ?_ | refine blk_alloc ?_ _)); exact BK171.out) hb); have n8_ := Aside0.mk (below_step (by repeat (first | (with_reducible first | exact HB.out | apply below_alloc | apply pw_below_drewN | apply below_drew1 | refine below_set ?_ GE171.out) | exact HB.out)) hb); clear HO169; clear HO184; clear HO188; clear HO200; clear HO204; clear HO207; clear BK171; clear HB; have HO169 := n0_; have HO184 := n1_; have HO188 := n2_; have HO200 := n3_; have HO204 := n4_; have HO207 := n5_; have HO212 := n6_; have BK171 := n7_; have HB := n8_; clear n0_ n1_ n2_ n3_ n4_ n5_ n6_ n7_ n8_; (try clear hb); (try clear hb2); (try clear hk); (try clear hi); (try clear ho0); obtain ⟨Ao49, co49, eo49⟩ := Kd.R_slice HO212.out; subst eo49))
                  go_meet
                  case rel => exact ⟨_, (((t210.length : Int) != 0)), (by first | rfl | (simp; done) | (simp [*]; done)), H', ⟨by first | omega | exact Nat.le_refl _⟩, ⟨by (with_reducible repeat (first | apply Kd.R_alloc | apply Kd.R_drewN | apply Kd.R_drew)); exact Kd.R_mono HO169.out (fun _ hk => hk.1.1.2)⟩, ⟨by (with_reducible repeat (first | apply Kd.R_alloc | apply Kd.R_drewN | apply Kd.R_drew)); exact Kd.R_mono HO188.out (fun _ hk => hk.1.1.2)⟩, ⟨by (with_reducible repeat (first | apply Kd.N_alloc | apply Kd.N_drewN | apply Kd.N_drew)); exact Kd.N_mono HO204.out (fun _ hk => ⟨hk.1.1.1, ⟨hk.1.1.2.1, hk.1.1.2.2.2⟩⟩)⟩, ⟨by (with_reducible repeat (first | refine blk_drewN ?_ _ | refine blk_drew ?_ | refine blk_alloc ?_ _)); exact BK171.out⟩, ⟨by repeat (first | (with_reducible first | exact HB.out | apply below_alloc | apply pw_below_drewN | apply below_drew1 | refine below_set ?_ GE171.out) | exact HB.out)⟩⟩
                · rw [if_neg c40] at H
                  exact absurd H (by simp)
              · rw [if_neg c38] at H
                exact absurd H (by simp)
            · rw [if_neg c36] at H
              exact absurd H (by simp)
          · rw [if_neg c35] at H
            exact absurd H (by simp)
        case rest =>
          clear HC14
          try clear c1
          try clear p1
          try clear q1
          try clear hx1
          try clear qi1
          try clear c2
          try clear p2
          try clear c3
          try clear c3b0
          try clear c3b1
          try clear q3
          try clear c4
          try clear c8
          try clear c8b0
          try clear c8b1
          try clear c9
          try clear c9b0
          try clear c9b1
          try clear c11
          try clear c13
          try clear p17
          try clear q17
          try clear hx17
          try clear qi17
          try clear c18
          try clear p18
          try clear q18
          try clear hx18
          try clear qi18
          try clear c24
          try clear q30
          try clear c31
          try clear c35
          try clear c35b0
          try clear c35b1
          try clear c36
          try clear c36b0
          try clear c36b1
          try clear c38
          try clear c38b0
          try clear c38b1
          try clear c40
          try clear c40b0
          try clear c40b1
          try clear hcz21_0
          try clear hcz21_1
          try clear hcz21_2
          try clear hcz23_0
          try clear hcz23_1
          try clear hcz23_2
          try clear hcz25_0
          try clear hcz25_1
          try clear hcz25_2
          try clear hcz27_0
          try clear hcz27_1
          try clear hcz27_2
          try clear hcz47_0
          try clear hcz47_1
          try clear hcz47_2
          try clear hfz21_0
          try clear hfz21_1
          try clear hfz21_2
          try clear hfz23_0
          try clear hfz23_1
          try clear hfz23_2
          try clear hfz25_0
          try clear hfz25_1
          try clear hfz25_2
          try clear hfz27_0
          try clear hfz27_1
          try clear hfz27_2
          try clear hfz47_0
          try clear hfz47_1
          try clear hfz47_2
          try clear hx170_0
          try clear hx170_1
          try clear hx170_2
          try clear hx170_3
          try clear hx170_4
          try clear hx170_5
          try clear hx170_6
          try clear hx170_7
          try clear hx185_0
          try clear hx185_1
          try clear hx185_2
          try clear hx185_3
          try clear hx185_4
          try clear hx185_5
          try clear hx185_6
          try clear hx185_7
          try clear p170
          try clear p185
          try clear q170
          try clear q185
          try clear q30
          obtain ⟨kq, x86_13, rfl, HA, HJ13, HO_1, HO_11, HO_15, BK171, HB⟩ := hcut
          cases kq with
          | zero => exact absurd HA.out (by simp [sizarlaw07_sane.j0])
          | succ kj13 =>
            have H := HA.out
            clear HA
            simp only [sizarlaw07_sane.j0] at H
            by_cases c50 : x86_13 = true
            · subst c50
              have H1 : (none) = some r := by rw [if_pos rfl] at H; exact H
              clear H
              have H := H1
              clear H1
              exact absurd H (by simp)
            · replace c50 := Bool.eq_false_iff.mpr c50
              subst c50
              have H1 : (if t172 = 7 then (if t173 = true then (if t175 = true then (none) else (if t176 = 7 then (if t177 = true then (if t179 = true then (none) else ((sizarref07_Same.f kj13 t186 y167).bind fun t213 => (if t213 = true then ((sizarref07_SameChanges.f kj13 t202 (([(⟨(⟨((rd_T28 y167 0).f0.f0), ((rd_T28 y167 0).f0.f1), ((rd_T28 y167 0).f0.f2)⟩ : S24), (([(⟨3, 4⟩ : S26)] : List (S26)))⟩ : S57)] : List (S57)))).bind fun t220 => (if t220 = true then ((facts_Alike.f kj13 y167 ([] : List (S54)) 1 2).bind fun t221 => (if t221 = true then ((facts_Alike.f kj13 y167 (([(⟨(⟨((rd_T28 y167 0).f0.f0), ((rd_T28 y167 0).f0.f1), ((rd_T28 y167 0).f0.f2)⟩ : S24), 0, 9⟩ : S54)] : List (S54))) 15 20).bind fun t225 => (if t225 = true then (none) else ((facts_Points.f y167 ((rd_T28 y167 0).f0.f0) ((rd_T28 y167 0).f0.f1) ((rd_T28 y167 0).f0.f2) 0 9 20).bind fun t226 => (if (t226.length : Int) = 3 then ((facts_Upto.f y167 19).bind fun t229 => (if 1 ≤ (y167.length : Int) then ((sizarref07_Same.f kj13 t229 (y167.take 1)).bind fun t237 => (some t237)) else (none))) else (none))))) else (none))) else (none))) else (none)))) else (none)) else (none))) else (none)) else (none)) = some r := by rw [if_neg (show ¬ (false = true) by decide)] at H; exact H
              clear H
              have H := H1
              clear H1
              by_cases c51 : t172 = 7
              · rw [if_pos c51] at H
                have c51b0 : (t172 == 7) = true := beq_iff_eq.mpr c51
                have c51b1 : (t172 != 7) = false := bne_eq_false_iff_eq.mpr c51
                clear c51
                by_cases c52 : t173 = true
                · subst c52
                  have H1 : (if t175 = true then (none) else (if t176 = 7 then (if t177 = true then (if t179 = true then (none) else ((sizarref07_Same.f kj13 t186 y167).bind fun t213 => (if t213 = true then ((sizarref07_SameChanges.f kj13 t202 (([(⟨(⟨((rd_T28 y167 0).f0.f0), ((rd_T28 y167 0).f0.f1), ((rd_T28 y167 0).f0.f2)⟩ : S24), (([(⟨3, 4⟩ : S26)] : List (S26)))⟩ : S57)] : List (S57)))).bind fun t220 => (if t220 = true then ((facts_Alike.f kj13 y167 ([] : List (S54)) 1 2).bind fun t221 => (if t221 = true then ((facts_Alike.f kj13 y167 (([(⟨(⟨((rd_T28 y167 0).f0.f0), ((rd_T28 y167 0).f0.f1), ((rd_T28 y167 0).f0.f2)⟩ : S24), 0, 9⟩ : S54)] : List (S54))) 15 20).bind fun t225 => (if t225 = true then (none) else ((facts_Points.f y167 ((rd_T28 y167 0).f0.f0) ((rd_T28 y167 0).f0.f1) ((rd_T28 y167 0).f0.f2) 0 9 20).bind fun t226 => (if (t226.length : Int) = 3 then ((facts_Upto.f y167 19).bind fun t229 => (if 1 ≤ (y167.length : Int) then ((sizarref07_Same.f kj13 t229 (y167.take 1)).bind fun t237 => (some t237)) else (none))) else (none))))) else (none))) else (none))) else (none)))) else (none)) else (none))) = some r := by rw [if_pos rfl] at H; exact H
                  clear H
                  have H := H1
                  clear H1
                  by_cases c53 : t175 = true
                  · subst c53
                    have H1 : (none) = some r := by rw [if_pos rfl] at H; exact H
                    clear H
                    have H := H1
                    clear H1
                    exact absurd H (by simp)
                  · replace c53 := Bool.eq_false_iff.mpr c53
                    subst c53
                    have H1 : (if t176 = 7 then (if t177 = true then (if t179 = true then (none) else ((sizarref07_Same.f kj13 t186 y167).bind fun t213 => (if t213 = true then ((sizarref07_SameChanges.f kj13 t202 (([(⟨(⟨((rd_T28 y167 0).f0.f0), ((rd_T28 y167 0).f0.f1), ((rd_T28 y167 0).f0.f2)⟩ : S24), (([(⟨3, 4⟩ : S26)] : List (S26)))⟩ : S57)] : List (S57)))).bind fun t220 => (if t220 = true then ((facts_Alike.f kj13 y167 ([] : List (S54)) 1 2).bind fun t221 => (if t221 = true then ((facts_Alike.f kj13 y167 (([(⟨(⟨((rd_T28 y167 0).f0.f0), ((rd_T28 y167 0).f0.f1), ((rd_T28 y167 0).f0.f2)⟩ : S24), 0, 9⟩ : S54)] : List (S54))) 15 20).bind fun t225 => (if t225 = true then (none) else ((facts_Points.f y167 ((rd_T28 y167 0).f0.f0) ((rd_T28 y167 0).f0.f1) ((rd_T28 y167 0).f0.f2) 0 9 20).bind fun t226 => (if (t226.length : Int) = 3 then ((facts_Upto.f y167 19).bind fun t229 => (if 1 ≤ (y167.length : Int) then ((sizarref07_Same.f kj13 t229 (y167.take 1)).bind fun t237 => (some t237)) else (none))) else (none))))) else (none))) else (none))) else (none)))) else (none)) else (none)) = some r := by rw [if_neg (show ¬ (false = true) by decide)] at H; exact H
                    clear H
                    have H := H1
                    clear H1
                    by_cases c54 : t176 = 7
                    · rw [if_pos c54] at H
                      have c54b0 : (t176 == 7) = true := beq_iff_eq.mpr c54
                      have c54b1 : (t176 != 7) = false := bne_eq_false_iff_eq.mpr c54
                      clear c54
                      by_cases c55 : t177 = true
                      · subst c55
                        have H1 : (if t179 = true then (none) else ((sizarref07_Same.f kj13 t186 y167).bind fun t213 => (if t213 = true then ((sizarref07_SameChanges.f kj13 t202 (([(⟨(⟨((rd_T28 y167 0).f0.f0), ((rd_T28 y167 0).f0.f1), ((rd_T28 y167 0).f0.f2)⟩ : S24), (([(⟨3, 4⟩ : S26)] : List (S26)))⟩ : S57)] : List (S57)))).bind fun t220 => (if t220 = true then ((facts_Alike.f kj13 y167 ([] : List (S54)) 1 2).bind fun t221 => (if t221 = true then ((facts_Alike.f kj13 y167 (([(⟨(⟨((rd_T28 y167 0).f0.f0), ((rd_T28 y167 0).f0.f1), ((rd_T28 y167 0).f0.f2)⟩ : S24), 0, 9⟩ : S54)] : List (S54))) 15 20).bind fun t225 => (if t225 = true then (none) else ((facts_Points.f y167 ((rd_T28 y167 0).f0.f0) ((rd_T28 y167 0).f0.f1) ((rd_T28 y167 0).f0.f2) 0 9 20).bind fun t226 => (if (t226.length : Int) = 3 then ((facts_Upto.f y167 19).bind fun t229 => (if 1 ≤ (y167.length : Int) then ((sizarref07_Same.f kj13 t229 (y167.take 1)).bind fun t237 => (some t237)) else (none))) else (none))))) else (none))) else (none))) else (none)))) = some r := by rw [if_pos rfl] at H; exact H
                        clear H
                        have H := H1
                        clear H1
                        by_cases c56 : t179 = true
                        · subst c56
                          have H1 : (none) = some r := by rw [if_pos rfl] at H; exact H
                          clear H
                          have H := H1
                          clear H1
                          exact absurd H (by simp)
                        · replace c56 := Bool.eq_false_iff.mpr c56
                          subst c56
                          have H1 : ((sizarref07_Same.f kj13 t186 y167).bind fun t213 => (if t213 = true then ((sizarref07_SameChanges.f kj13 t202 (([(⟨(⟨((rd_T28 y167 0).f0.f0), ((rd_T28 y167 0).f0.f1), ((rd_T28 y167 0).f0.f2)⟩ : S24), (([(⟨3, 4⟩ : S26)] : List (S26)))⟩ : S57)] : List (S57)))).bind fun t220 => (if t220 = true then ((facts_Alike.f kj13 y167 ([] : List (S54)) 1 2).bind fun t221 => (if t221 = true then ((facts_Alike.f kj13 y167 (([(⟨(⟨((rd_T28 y167 0).f0.f0), ((rd_T28 y167 0).f0.f1), ((rd_T28 y167 0).f0.f2)⟩ : S24), 0, 9⟩ : S54)] : List (S54))) 15 20).bind fun t225 => (if t225 = true then (none) else ((facts_Points.f y167 ((rd_T28 y167 0).f0.f0) ((rd_T28 y167 0).f0.f1) ((rd_T28 y167 0).f0.f2) 0 9 20).bind fun t226 => (if (t226.length : Int) = 3 then ((facts_Upto.f y167 19).bind fun t229 => (if 1 ≤ (y167.length : Int) then ((sizarref07_Same.f kj13 t229 (y167.take 1)).bind fun t237 => (some t237)) else (none))) else (none))))) else (none))) else (none))) else (none))) = some r := by rw [if_neg (show ¬ (false = true) by decide)] at H; exact H
                          clear H
                          have H := H1
                          clear H1
                          replace H := Option.bind_eq_some_iff.mp H
                          obtain ⟨t213, A570, H⟩ := H
                          replace H : (if t213 = true then ((sizarref07_SameChanges.f kj13 t202 (([(⟨(⟨((rd_T28 y167 0).f0.f0), ((rd_T28 y167 0).f0.f1), ((rd_T28 y167 0).f0.f2)⟩ : S24), (([(⟨3, 4⟩ : S26)] : List (S26)))⟩ : S57)] : List (S57)))).bind fun t220 => (if t220 = true then ((facts_Alike.f kj13 y167 ([] : List (S54)) 1 2).bind fun t221 => (if t221 = true then ((facts_Alike.f kj13 y167 (([(⟨(⟨((rd_T28 y167 0).f0.f0), ((rd_T28 y167 0).f0.f1), ((rd_T28 y167 0).f0.f2)⟩ : S24), 0, 9⟩ : S54)] : List (S54))) 15 20).bind fun t225 => (if t225 = true then (none) else ((facts_Points.f y167 ((rd_T28 y167 0).f0.f0) ((rd_T28 y167 0).f0.f1) ((rd_T28 y167 0).f0.f2) 0 9 20).bind fun t226 => (if (t226.length : Int) = 3 then ((facts_Upto.f y167 19).bind fun t229 => (if 1 ≤ (y167.length : Int) then ((sizarref07_Same.f kj13 t229 (y167.take 1)).bind fun t237 => (some t237)) else (none))) else (none))))) else (none))) else (none))) else (none)) = some r := H
                          have A57 := Aside0.mk A570
                          clear A570
                          by_cases c58 : t213 = true
                          · subst c58
                            have H1 : ((sizarref07_SameChanges.f kj13 t202 (([(⟨(⟨((rd_T28 y167 0).f0.f0), ((rd_T28 y167 0).f0.f1), ((rd_T28 y167 0).f0.f2)⟩ : S24), (([(⟨3, 4⟩ : S26)] : List (S26)))⟩ : S57)] : List (S57)))).bind fun t220 => (if t220 = true then ((facts_Alike.f kj13 y167 ([] : List (S54)) 1 2).bind fun t221 => (if t221 = true then ((facts_Alike.f kj13 y167 (([(⟨(⟨((rd_T28 y167 0).f0.f0), ((rd_T28 y167 0).f0.f1), ((rd_T28 y167 0).f0.f2)⟩ : S24), 0, 9⟩ : S54)] : List (S54))) 15 20).bind fun t225 => (if t225 = true then (none) else ((facts_Points.f y167 ((rd_T28 y167 0).f0.f0) ((rd_T28 y167 0).f0.f1) ((rd_T28 y167 0).f0.f2) 0 9 20).bind fun t226 => (if (t226.length : Int) = 3 then ((facts_Upto.f y167 19).bind fun t229 => (if 1 ≤ (y167.length : Int) then ((sizarref07_Same.f kj13 t229 (y167.take 1)).bind fun t237 => (some t237)) else (none))) else (none))))) else (none))) else (none))) = some r := by rw [if_pos rfl] at H; exact H
                            clear H
                            have H := H1
                            clear H1
                            obtain ⟨y214, hy214⟩ : ∃ y_ : List (S26), y_ = (([(⟨3, 4⟩ : S26)] : List (S26))) := ⟨_, rfl⟩
                            replace H : ((sizarref07_SameChanges.f kj13 t202 (([(⟨(⟨((rd_T28 y167 0).f0.f0), ((rd_T28 y167 0).f0.f1), ((rd_T28 y167 0).f0.f2)⟩ : S24), y214⟩ : S57)] : List (S57)))).bind fun t220 => (if t220 = true then ((facts_Alike.f kj13 y167 ([] : List (S54)) 1 2).bind fun t221 => (if t221 = true then ((facts_Alike.f kj13 y167 (([(⟨(⟨((rd_T28 y167 0).f0.f0), ((rd_T28 y167 0).f0.f1), ((rd_T28 y167 0).f0.f2)⟩ : S24), 0, 9⟩ : S54)] : List (S54))) 15 20).bind fun t225 => (if t225 = true then (none) else ((facts_Points.f y167 ((rd_T28 y167 0).f0.f0) ((rd_T28 y167 0).f0.f1) ((rd_T28 y167 0).f0.f2) 0 9 20).bind fun t226 => (if (t226.length : Int) = 3 then ((facts_Upto.f y167 19).bind fun t229 => (if 1 ≤ (y167.length : Int) then ((sizarref07_Same.f kj13 t229 (y167.take 1)).bind fun t237 => (some t237)) else (none))) else (none))))) else (none))) else (none))) = some r := by first | (rw [hy214]; with_reducible exact H) | (have H2_ := (Option.bind_some _ _).symm.trans H; rw [hy214]; with_reducible exact H2_) | (have H2_ := (Option.bind_some _ _).symm.trans H; with_reducible exact H2_) | with_reducible exact H | (rw [hy214]; exact H) | exact H
                            have Ny214 := Aside0.mk hy214
                            clear hy214
                            obtain ⟨y217, hy217⟩ : ∃ y_ : List (S57), y_ = (([(⟨(⟨((rd_T28 y167 0).f0.f0), ((rd_T28 y167 0).f0.f1), ((rd_T28 y167 0).f0.f2)⟩ : S24), y214⟩ : S57)] : List (S57))) := ⟨_, rfl⟩
                            replace H : ((sizarref07_SameChanges.f kj13 t202 y217).bind fun t220 => (if t220 = true then ((facts_Alike.f kj13 y167 ([] : List (S54)) 1 2).bind fun t221 => (if t221 = true then ((facts_Alike.f kj13 y167 (([(⟨(⟨((rd_T28 y167 0).f0.f0), ((rd_T28 y167 0).f0.f1), ((rd_T28 y167 0).f0.f2)⟩ : S24), 0, 9⟩ : S54)] : List (S54))) 15 20).bind fun t225 => (if t225 = true then (none) else ((facts_Points.f y167 ((rd_T28 y167 0).f0.f0) ((rd_T28 y167 0).f0.f1) ((rd_T28 y167 0).f0.f2) 0 9 20).bind fun t226 => (if (t226.length : Int) = 3 then ((facts_Upto.f y167 19).bind fun t229 => (if 1 ≤ (y167.length : Int) then ((sizarref07_Same.f kj13 t229 (y167.take 1)).bind fun t237 => (some t237)) else (none))) else (none))))) else (none))) else (none))) = some r := by first | (rw [hy217]; with_reducible exact H) | (have H2_ := (Option.bind_some _ _).symm.trans H; rw [hy217]; with_reducible exact H2_) | (have H2_ := (Option.bind_some _ _).symm.trans H; with_reducible exact H2_) | with_reducible exact H | (rw [hy217]; exact H) | exact H
                            have Ny217 := Aside0.mk hy217
                            clear hy217
                            replace H := Option.bind_eq_some_iff.mp H
                            obtain ⟨t220, A590, H⟩ := H
                            replace H : (if t220 = true then ((facts_Alike.f kj13 y167 ([] : List (S54)) 1 2).bind fun t221 => (if t221 = true then ((facts_Alike.f kj13 y167 (([(⟨(⟨((rd_T28 y167 0).f0.f0), ((rd_T28 y167 0).f0.f1), ((rd_T28 y167 0).f0.f2)⟩ : S24), 0, 9⟩ : S54)] : List (S54))) 15 20).bind fun t225 => (if t225 = true then (none) else ((facts_Points.f y167 ((rd_T28 y167 0).f0.f0) ((rd_T28 y167 0).f0.f1) ((rd_T28 y167 0).f0.f2) 0 9 20).bind fun t226 => (if (t226.length : Int) = 3 then ((facts_Upto.f y167 19).bind fun t229 => (if 1 ≤ (y167.length : Int) then ((sizarref07_Same.f kj13 t229 (y167.take 1)).bind fun t237 => (some t237)) else (none))) else (none))))) else (none))) else (none)) = some r := H
                            have A59 := Aside0.mk A590
                            clear A590
                            by_cases c60 : t220 = true
                            · subst c60
                              have H1 : ((facts_Alike.f kj13 y167 ([] : List (S54)) 1 2).bind fun t221 => (if t221 = true then ((facts_Alike.f kj13 y167 (([(⟨(⟨((rd_T28 y167 0).f0.f0), ((rd_T28 y167 0).f0.f1), ((rd_T28 y167 0).f0.f2)⟩ : S24), 0, 9⟩ : S54)] : List (S54))) 15 20).bind fun t225 => (if t225 = true then (none) else ((facts_Points.f y167 ((rd_T28 y167 0).f0.f0) ((rd_T28 y167 0).f0.f1) ((rd_T28 y167 0).f0.f2) 0 9 20).bind fun t226 => (if (t226.length : Int) = 3 then ((facts_Upto.f y167 19).bind fun t229 => (if 1 ≤ (y167.length : Int) then ((sizarref07_Same.f kj13 t229 (y167.take 1)).bind fun t237 => (some t237)) else (none))) else (none))))) else (none))) = some r := by rw [if_pos rfl] at H; exact H
                              clear H
                              have H := H1
                              clear H1
                              replace H := Option.bind_eq_some_iff.mp H
                              obtain ⟨t221, A610, H⟩ := H
                              replace H : (if t221 = true then ((facts_Alike.f kj13 y167 (([(⟨(⟨((rd_T28 y167 0).f0.f0), ((rd_T28 y167 0).f0.f1), ((rd_T28 y167 0).f0.f2)⟩ : S24), 0, 9⟩ : S54)] : List (S54))) 15 20).bind fun t225 => (if t225 = true then (none) else ((facts_Points.f y167 ((rd_T28 y167 0).f0.f0) ((rd_T28 y167 0).f0.f1) ((rd_T28 y167 0).f0.f2) 0 9 20).bind fun t226 => (if (t226.length : Int) = 3 then ((facts_Upto.f y167 19).bind fun t229 => (if 1 ≤ (y167.length : Int) then ((sizarref07_Same.f kj13 t229 (y167.take 1)).bind fun t237 => (some t237)) else (none))) else (none))))) else (none)) = some r := H
                              have A61 := Aside0.mk A610
                              clear A610
                              by_cases c62 : t221 = true
                              · subst c62
                                have H1 : ((facts_Alike.f kj13 y167 (([(⟨(⟨((rd_T28 y167 0).f0.f0), ((rd_T28 y167 0).f0.f1), ((rd_T28 y167 0).f0.f2)⟩ : S24), 0, 9⟩ : S54)] : List (S54))) 15 20).bind fun t225 => (if t225 = true then (none) else ((facts_Points.f y167 ((rd_T28 y167 0).f0.f0) ((rd_T28 y167 0).f0.f1) ((rd_T28 y167 0).f0.f2) 0 9 20).bind fun t226 => (if (t226.length : Int) = 3 then ((facts_Upto.f y167 19).bind fun t229 => (if 1 ≤ (y167.length : Int) then ((sizarref07_Same.f kj13 t229 (y167.take 1)).bind fun t237 => (some t237)) else (none))) else (none))))) = some r := by rw [if_pos rfl] at H; exact H
                                clear H
                                have H := H1
                                clear H1
                                obtain ⟨y222, hy222⟩ : ∃ y_ : List (S54), y_ = (([(⟨(⟨((rd_T28 y167 0).f0.f0), ((rd_T28 y167 0).f0.f1), ((rd_T28 y167 0).f0.f2)⟩ : S24), 0, 9⟩ : S54)] : List (S54))) := ⟨_, rfl⟩
                                replace H : ((facts_Alike.f kj13 y167 y222 15 20).bind fun t225 => (if t225 = true then (none) else ((facts_Points.f y167 ((rd_T28 y167 0).f0.f0) ((rd_T28 y167 0).f0.f1) ((rd_T28 y167 0).f0.f2) 0 9 20).bind fun t226 => (if (t226.length : Int) = 3 then ((facts_Upto.f y167 19).bind fun t229 => (if 1 ≤ (y167.length : Int) then ((sizarref07_Same.f kj13 t229 (y167.take 1)).bind fun t237 => (some t237)) else (none))) else (none))))) = some r := by first | (rw [hy222]; with_reducible exact H) | (have H2_ := (Option.bind_some _ _).symm.trans H; rw [hy222]; with_reducible exact H2_) | (have H2_ := (Option.bind_some _ _).symm.trans H; with_reducible exact H2_) | with_reducible exact H | (rw [hy222]; exact H) | exact H
                                have Ny222 := Aside0.mk hy222
                                clear hy222
                                replace H := Option.bind_eq_some_iff.mp H
                                obtain ⟨t225, A630, H⟩ := H
                                replace H : (if t225 = true then (none) else ((facts_Points.f y167 ((rd_T28 y167 0).f0.f0) ((rd_T28 y167 0).f0.f1) ((rd_T28 y167 0).f0.f2) 0 9 20).bind fun t226 => (if (t226.length : Int) = 3 then ((facts_Upto.f y167 19).bind fun t229 => (if 1 ≤ (y167.length : Int) then ((sizarref07_Same.f kj13 t229 (y167.take 1)).bind fun t237 => (some t237)) else (none))) else (none)))) = some r := H
                                have A63 := Aside0.mk A630
                                clear A630
                                by_cases c64 : t225 = true
                                · subst c64
                                  have H1 : (none) = some r := by rw [if_pos rfl] at H; exact H
                                  clear H
                                  have H := H1
                                  clear H1
                                  exact absurd H (by simp)
                                · replace c64 := Bool.eq_false_iff.mpr c64
                                  subst c64
                                  have H1 : ((facts_Points.f y167 ((rd_T28 y167 0).f0.f0) ((rd_T28 y167 0).f0.f1) ((rd_T28 y167 0).f0.f2) 0 9 20).bind fun t226 => (if (t226.length : Int) = 3 then ((facts_Upto.f y167 19).bind fun t229 => (if 1 ≤ (y167.length : Int) then ((sizarref07_Same.f kj13 t229 (y167.take 1)).bind fun t237 => (some t237)) else (none))) else (none))) = some r := by rw [if_neg (show ¬ (false = true) by decide)] at H; exact H
                                  clear H
                                  have H := H1
                                  clear H1
                                  replace H := Option.bind_eq_some_iff.mp H
                                  obtain ⟨t226, A650, H⟩ := H
                                  replace H : (if (t226.length : Int) = 3 then ((facts_Upto.f y167 19).bind fun t229 => (if 1 ≤ (y167.length : Int) then ((sizarref07_Same.f kj13 t229 (y167.take 1)).bind fun t237 => (some t237)) else (none))) else (none)) = some r := H
                                  have A65 := Aside0.mk A650
                                  clear A650
                                  by_cases c66 : (t226.length : Int) = 3
                                  · rw [if_pos c66] at H
                                    have c66b0 : ((t226.length : Int) == 3) = true := beq_iff_eq.mpr c66
                                    have c66b1 : ((t226.length : Int) != 3) = false := bne_eq_false_iff_eq.mpr c66
                                    clear c66
                                    replace H := Option.bind_eq_some_iff.mp H
                                    obtain ⟨t229, A670, H⟩ := H
                                    replace H : (if 1 ≤ (y167.length : Int) then ((sizarref07_Same.f kj13 t229 (y167.take 1)).bind fun t237 => (some t237)) else (none)) = some r := H
                                    have A67 := Aside0.mk A670
                                    clear A670
                                    by_cases c68 : 1 ≤ (y167.length : Int)
                                    · rw [if_pos c68] at H
                                      have c68b0 := eq_true c68
                                      have c68b1 : decide (1 ≤ (y167.length : Int)) = true := decide_eq_true c68
                                      clear c68
                                      obtain ⟨y232, hy232⟩ : ∃ y_ : List (S28), y_ = (y167.take 1) := ⟨_, rfl⟩
                                      replace H : ((sizarref07_Same.f kj13 t229 y232).bind fun t237 => (some t237)) = some r := by first | (rw [hy232]; with_reducible exact H) | (have H2_ := (Option.bind_some _ _).symm.trans H; rw [hy232]; with_reducible exact H2_) | (have H2_ := (Option.bind_some _ _).symm.trans H; with_reducible exact H2_) | with_reducible exact H | (rw [hy232]; exact H) | exact H
                                      have Ny232 := Aside0.mk hy232
                                      clear hy232
                                      replace H := Option.bind_eq_some_iff.mp H
                                      obtain ⟨t237, A690, H⟩ := H
                                      replace H : (some t237) = some r := H
                                      have A69 := Aside0.mk A690
                                      clear A690
                                      obtain rfl := Option.some.inj H
                                      try go_wp2
                                      have n0_ := Aside0.mk (Kd.R_drew HO_1.out)
                                      have n1_ := Aside0.mk (Kd.R_drew HO_11.out)
                                      have n2_ := Aside0.mk (Kd.N_drew HO_15.out)
                                      have n3_ := Aside0.mk (blk_drew BK171.out)
                                      have n4_ := Aside0.mk (below_drew1 HB.out)
                                      clear HO_1
                                      clear HO_11
                                      clear HO_15
                                      clear BK171
                                      clear HB
                                      have HO_1 := n0_
                                      have HO_11 := n1_
                                      have HO_15 := n2_
                                      have BK171 := n3_
                                      have HB := n4_
                                      clear n0_ n1_ n2_ n3_ n4_
                                      obtain ⟨Ao71, co71, eo71⟩ := Kd.R_slice HO_11.out
                                      (first | subst eo71 | (injection eo71 with f1_ f2_ f3_; have f4_ := f1_.symm; have f5_ := f3_.symm; clear f1_ f2_ f3_; subst f4_; subst f5_))
                                      refine start_ (n := 61) (S := fun w' => w'.cell? ⟨gb171, 0, none⟩ = some (.int .i64 ((rd_T28 y167 0).f0.f0)) ∧ w'.cell? ⟨gb171, 1, none⟩ = some (.int .i64 ((rd_T28 y167 0).f0.f1)) ∧ w'.cell? ⟨gb171, 2, none⟩ = some (.int .i64 ((rd_T28 y167 0).f0.f2))) (ds := []) #[false, false, false, false, false, false, false, false, false, false, false, false, false, false, false, false, false, false, false, false, false, false, false, false, false, false, false, false, false, false, false, false, false, false, false, false, false, false, false, false, false, false, false, false, false, false, false, false, false, false, false, false, false, false, false, false, false, false, false, false, false] (by kernel_rfl) rfl rfl ⟨(blk_cell BK171.out 0).trans rfl, (blk_cell BK171.out 1).trans rfl, (blk_cell BK171.out 2).trans rfl⟩ (fun hHeld => ?_); refine with_tabW sizarlaw07_sane.tab12 sizarlaw07_sane.bits12 (fun HT_ HW_ => ?_)
                                      generalize wc.drew = w70 at HO_1 HO_11 HO_15 BK171 HB hHeld ⊢
                                      refine pure_ (i := 0) (N := some 87) (v := ?_) (a' := ?_) #[true, false, false, false, false, false, false, false, false, false, false, false, false, false, false, false, false, false, false, false, false, false, false, false, false, false, false, false, false, false, false, false, false, false, false, false, false, false, false, false, false, false, false, false, false, false, false, false, false, false, false, false, false, false, false, false, false, false, false, false, false] rfl rfl (any_of HT_.out (by kernel_rfl)) (fun _ _ _ h => h) (Or.inl ⟨by rfl, ?_⟩) ?_ ?_
                                      rotate_left
                                      · intro w'
                                        go_simp
                                        with_reducible rfl
                                      rotate_left
                                      · simp only [Act.put, List.setIfInBounds_toArray, List.set_cons_zero, List.set_cons_succ, i64_w, i32_w]
                                        rfl
                                      refine pure_ (i := 1) (N := some 88) (v := ?_) (a' := ?_) #[true, true, false, false, false, false, false, false, false, false, false, false, false, false, false, false, false, false, false, false, false, false, false, false, false, false, false, false, false, false, false, false, false, false, false, false, false, false, false, false, false, false, false, false, false, false, false, false, false, false, false, false, false, false, false, false, false, false, false, false, false] rfl rfl (any_of HT_.out (by kernel_rfl)) (fun _ _ _ h => h) (Or.inl ⟨by rfl, ?_⟩) ?_ ?_
                                      rotate_left
                                      · intro w'
                                        go_simp
                                        with_reducible rfl
                                      rotate_left
                                      · simp only [Act.put, List.setIfInBounds_toArray, List.set_cons_zero, List.set_cons_succ, i64_w, i32_w]
                                        rfl
                                      refine pure_ (i := 2) (N := some 89) (v := ?_) (a' := ?_) #[true, true, true, false, false, false, false, false, false, false, false, false, false, false, false, false, false, false, false, false, false, false, false, false, false, false, false, false, false, false, false, false, false, false, false, false, false, false, false, false, false, false, false, false, false, false, false, false, false, false, false, false, false, false, false, false, false, false, false, false, false] rfl rfl (any_of HT_.out (by kernel_rfl)) (fun _ _ _ h => h) (Or.inl ⟨by rfl, ?_⟩) ?_ ?_
                                      rotate_left
                                      · intro w'
                                        go_simp
                                        with_reducible rfl
                                      rotate_left
                                      · simp only [Act.put, List.setIfInBounds_toArray, List.set_cons_zero, List.set_cons_succ, i64_w, i32_w]
                                        rfl
                                      refine pure_ (i := 3) (N := some 90) (v := ?_) (a' := ?_) #[true, true, true, true, false, false, false, false, false, false, false, false, false, false, false, false, false, false, false, false, false, false, false, false, false, false, false, false, false, false, false, false, false, false, false, false, false, false, false, false, false, false, false, false, false, false, false, false, false, false, false, false, false, false, false, false, false, false, false, false, false] rfl rfl (any_of HT_.out (by kernel_rfl)) (fun _ _ _ h => h) (Or.inl ⟨by rfl, ?_⟩) ?_ ?_
                                      rotate_left
                                      · intro w'
                                        go_simp
                                        with_reducible rfl
                                      rotate_left
                                      · simp only [Act.put, List.setIfInBounds_toArray, List.set_cons_zero, List.set_cons_succ, i64_w, i32_w]
                                        rfl
                                      refine pure_ (i := 4) (N := some 91) (v := ?_) (a' := ?_) #[true, true, true, true, true, false, false, false, false, false, false, false, false, false, false, false, false, false, false, false, false, false, false, false, false, false, false, false, false, false, false, false, false, false, false, false, false, false, false, false, false, false, false, false, false, false, false, false, false, false, false, false, false, false, false, false, false, false, false, false, false] rfl rfl (any_of HT_.out (by kernel_rfl)) (fun _ _ _ h => h) (Or.inl ⟨by rfl, ?_⟩) ?_ ?_
                                      rotate_left
                                      · intro w'
                                        go_simp
                                        with_reducible rfl
                                      rotate_left
                                      · simp only [Act.put, List.setIfInBounds_toArray, List.set_cons_zero, List.set_cons_succ, i64_w, i32_w]
                                        rfl
                                      refine pure_ (i := 5) (N := some 92) (v := ?_) (a' := ?_) #[true, true, true, true, true, true, false, false, false, false, false, false, false, false, false, false, false, false, false, false, false, false, false, false, false, false, false, false, false, false, false, false, false, false, false, false, false, false, false, false, false, false, false, false, false, false, false, false, false, false, false, false, false, false, false, false, false, false, false, false, false] rfl rfl (any_of HT_.out (by kernel_rfl)) (fun _ _ _ h => h) (Or.inl ⟨by rfl, ?_⟩) ?_ ?_
                                      rotate_left
                                      · intro w'
                                        go_simp
                                        with_reducible rfl
                                      rotate_left
                                      · simp only [Act.put, List.setIfInBounds_toArray, List.set_cons_zero, List.set_cons_succ, i64_w, i32_w]
                                        rfl
                                      refine pure_ (i := 6) (N := some 93) (v := ?_) (a' := ?_) #[true, true, true, true, true, true, true, false, false, false, false, false, false, false, false, false, false, false, false, false, false, false, false, false, false, false, false, false, false, false, false, false, false, false, false, false, false, false, false, false, false, false, false, false, false, false, false, false, false, false, false, false, false, false, false, false, false, false, false, false, false] rfl rfl (any_of HT_.out (by kernel_rfl)) (fun _ _ _ h => h) (Or.inl ⟨by rfl, ?_⟩) ?_ ?_
                                      rotate_left
                                      · intro w'
                                        go_simp
                                        with_reducible rfl
                                      rotate_left
                                      · simp only [Act.put, List.setIfInBounds_toArray, List.set_cons_zero, List.set_cons_succ, i64_w, i32_w]
                                        rfl
                                      refine pure_ (i := 7) (N := some 94) (v := ?_) (a' := ?_) #[true, true, true, true, true, true, true, true, false, false, false, false, false, false, false, false, false, false, false, false, false, false, false, false, false, false, false, false, false, false, false, false, false, false, false, false, false, false, false, false, false, false, false, false, false, false, false, false, false, false, false, false, false, false, false, false, false, false, false, false, false] rfl rfl (any_of HT_.out (by kernel_rfl)) (fun _ _ _ h => h) (Or.inl ⟨by rfl, ?_⟩) ?_ ?_
                                      rotate_left
                                      · intro w'
                                        go_simp
                                        with_reducible rfl
                                      rotate_left
                                      · simp only [Act.put, List.setIfInBounds_toArray, List.set_cons_zero, List.set_cons_succ, i64_w, i32_w]
                                        rfl
                                      refine pure_ (i := 8) (N := some 95) (v := ?_) (a' := ?_) #[true, true, true, true, true, true, true, true, true, false, false, false, false, false, false, false, false, false, false, false, false, false, false, false, false, false, false, false, false, false, false, false, false, false, false, false, false, false, false, false, false, false, false, false, false, false, false, false, false, false, false, false, false, false, false, false, false, false, false, false, false] rfl rfl (any_of HT_.out (by kernel_rfl)) (fun _ _ _ h => h) (Or.inl ⟨by rfl, ?_⟩) ?_ ?_
                                      rotate_left
                                      · intro w'
                                        go_simp
                                        with_reducible rfl
                                      rotate_left
                                      · simp only [Act.put, List.setIfInBounds_toArray, List.set_cons_zero, List.set_cons_succ, i64_w, i32_w]
                                        rfl
                                      refine pure_ (i := 9) (N := some 96) (v := ?_) (a' := ?_) #[true, true, true, true, true, true, true, true, true, true, false, false, false, false, false, false, false, false, false, false, false, false, false, false, false, false, false, false, false, false, false, false, false, false, false, false, false, false, false, false, false, false, false, false, false, false, false, false, false, false, false, false, false, false, false, false, false, false, false, false, false] rfl rfl (any_of HT_.out (by kernel_rfl)) (fun _ _ _ h => h) (Or.inl ⟨by rfl, ?_⟩) ?_ ?_
                                      rotate_left
                                      · intro w'
                                        go_simp
                                        with_reducible rfl
                                      rotate_left
                                      · simp only [Act.put, List.setIfInBounds_toArray, List.set_cons_zero, List.set_cons_succ, i64_w, i32_w]
                                        rfl
                                      refine pure_ (i := 10) (N := some 97) (v := ?_) (a' := ?_) #[true, true, true, true, true, true, true, true, true, true, true, false, false, false, false, false, false, false, false, false, false, false, false, false, false, false, false, false, false, false, false, false, false, false, false, false, false, false, false, false, false, false, false, false, false, false, false, false, false, false, false, false, false, false, false, false, false, false, false, false, false] rfl rfl (any_of HT_.out (by kernel_rfl)) (fun _ _ _ h => h) (Or.inl ⟨by rfl, ?_⟩) ?_ ?_
                                      rotate_left
                                      · intro w'
                                        go_simp
                                        with_reducible rfl
                                      rotate_left
                                      · simp only [Act.put, List.setIfInBounds_toArray, List.set_cons_zero, List.set_cons_succ, i64_w, i32_w]
                                        rfl
                                      refine pure_ (i := 11) (N := some 98) (v := ?_) (a' := ?_) #[true, true, true, true, true, true, true, true, true, true, true, true, false, false, false, false, false, false, false, false, false, false, false, false, false, false, false, false, false, false, false, false, false, false, false, false, false, false, false, false, false, false, false, false, false, false, false, false, false, false, false, false, false, false, false, false, false, false, false, false, false] rfl rfl (any_of HT_.out (by kernel_rfl)) (fun _ _ _ h => h) (Or.inl ⟨by rfl, ?_⟩) ?_ ?_
                                      rotate_left
                                      · intro w'
                                        go_simp
                                        with_reducible rfl
                                      rotate_left
                                      · simp only [Act.put, List.setIfInBounds_toArray, List.set_cons_zero, List.set_cons_succ, i64_w, i32_w]
                                        rfl
                                      refine pure_ (i := 12) (N := some 99) (v := ?_) (a' := ?_) #[true, true, true, true, true, true, true, true, true, true, true, true, true, false, false, false, false, false, false, false, false, false, false, false, false, false, false, false, false, false, false, false, false, false, false, false, false, false, false, false, false, false, false, false, false, false, false, false, false, false, false, false, false, false, false, false, false, false, false, false, false] rfl rfl (any_of HT_.out (by kernel_rfl)) (fun _ _ _ h => h) (Or.inl ⟨by rfl, ?_⟩) ?_ ?_
                                      rotate_left
                                      · intro w'
                                        go_simp
                                        with_reducible rfl
                                      rotate_left
                                      · simp only [Act.put, List.setIfInBounds_toArray, List.set_cons_zero, List.set_cons_succ, i64_w, i32_w]
                                        rfl
                                      refine pure_ (i := 13) (N := some 100) (v := ?_) (a' := ?_) #[true, true, true, true, true, true, true, true, true, true, true, true, true, true, false, false, false, false, false, false, false, false, false, false, false, false, false, false, false, false, false, false, false, false, false, false, false, false, false, false, false, false, false, false, false, false, false, false, false, false, false, false, false, false, false, false, false, false, false, false, false] rfl rfl (any_of HT_.out (by kernel_rfl)) (fun _ _ _ h => h) (Or.inl ⟨by rfl, ?_⟩) ?_ ?_
                                      rotate_left
                                      · intro w'
                                        go_simp
                                        with_reducible rfl
                                      rotate_left
                                      · simp only [Act.put, List.setIfInBounds_toArray, List.set_cons_zero, List.set_cons_succ, i64_w, i32_w]
                                        rfl
                                      refine pure_ (i := 14) (N := some 101) (v := ?_) (a' := ?_) #[true, true, true, true, true, true, true, true, true, true, true, true, true, true, true, false, false, false, false, false, false, false, false, false, false, false, false, false, false, false, false, false, false, false, false, false, false, false, false, false, false, false, false, false, false, false, false, false, false, false, false, false, false, false, false, false, false, false, false, false, false] rfl rfl (any_of HT_.out (by kernel_rfl)) (fun _ _ _ h => h) (Or.inl ⟨by rfl, ?_⟩) ?_ ?_
                                      rotate_left
                                      · intro w'
                                        go_simp
                                        with_reducible rfl
                                      rotate_left
                                      · simp only [Act.put, List.setIfInBounds_toArray, List.set_cons_zero, List.set_cons_succ, i64_w, i32_w]
                                        rfl
                                      refine pure_ (i := 15) (N := some 102) (v := ?_) (a' := ?_) #[true, true, true, true, true, true, true, true, true, true, true, true, true, true, true, true, false, false, false, false, false, false, false, false, false, false, false, false, false, false, false, false, false, false, false, false, false, false, false, false, false, false, false, false, false, false, false, false, false, false, false, false, false, false, false, false, false, false, false, false, false] rfl rfl (any_of HT_.out (by kernel_rfl)) (fun _ _ _ h => h) (Or.inl ⟨by rfl, ?_⟩) ?_ ?_
                                      rotate_left
                                      · intro w'
                                        go_simp
                                        with_reducible rfl
                                      rotate_left
                                      · simp only [Act.put, List.setIfInBounds_toArray, List.set_cons_zero, List.set_cons_succ, i64_w, i32_w]
                                        rfl
                                      refine pure_ (i := 16) (N := some 103) (v := ?_) (a' := ?_) #[true, true, true, true, true, true, true, true, true, true, true, true, true, true, true, true, true, false, false, false, false, false, false, false, false, false, false, false, false, false, false, false, false, false, false, false, false, false, false, false, false, false, false, false, false, false, false, false, false, false, false, false, false, false, false, false, false, false, false, false, false] rfl rfl (any_of HT_.out (by kernel_rfl)) (fun _ _ _ h => h) (Or.inl ⟨by rfl, ?_⟩) ?_ ?_
                                      rotate_left
                                      · intro w'
                                        go_simp
                                        with_reducible rfl
                                      rotate_left
                                      · simp only [Act.put, List.setIfInBounds_toArray, List.set_cons_zero, List.set_cons_succ, i64_w, i32_w]
                                        rfl
                                      refine pure_ (i := 17) (N := some 104) (v := ?_) (a' := ?_) #[true, true, true, true, true, true, true, true, true, true, true, true, true, true, true, true, true, true, false, false, false, false, false, false, false, false, false, false, false, false, false, false, false, false, false, false, false, false, false, false, false, false, false, false, false, false, false, false, false, false, false, false, false, false, false, false, false, false, false, false, false] rfl rfl (any_of HT_.out (by kernel_rfl)) (fun _ _ _ h => h) (Or.inl ⟨by rfl, ?_⟩) ?_ ?_
                                      rotate_left
                                      · intro w'
                                        go_simp
                                        with_reducible rfl
                                      rotate_left
                                      · simp only [Act.put, List.setIfInBounds_toArray, List.set_cons_zero, List.set_cons_succ, i64_w, i32_w]
                                        rfl
                                      refine pure_ (i := 18) (N := some 105) (v := ?_) (a' := ?_) #[true, true, true, true, true, true, true, true, true, true, true, true, true, true, true, true, true, true, true, false, false, false, false, false, false, false, false, false, false, false, false, false, false, false, false, false, false, false, false, false, false, false, false, false, false, false, false, false, false, false, false, false, false, false, false, false, false, false, false, false, false] rfl rfl (any_of HT_.out (by kernel_rfl)) (fun _ _ _ h => h) (Or.inl ⟨by rfl, ?_⟩) ?_ ?_
                                      rotate_left
                                      · intro w'
                                        go_simp
                                        with_reducible rfl
                                      rotate_left
                                      · simp only [Act.put, List.setIfInBounds_toArray, List.set_cons_zero, List.set_cons_succ, i64_w, i32_w]
                                        rfl
                                      refine pure_ (i := 19) (N := some 106) (v := ?_) (a' := ?_) #[true, true, true, true, true, true, true, true, true, true, true, true, true, true, true, true, true, true, true, true, false, false, false, false, false, false, false, false, false, false, false, false, false, false, false, false, false, false, false, false, false, false, false, false, false, false, false, false, false, false, false, false, false, false, false, false, false, false, false, false, false] rfl rfl (any_of HT_.out (by kernel_rfl)) (fun _ _ _ h => h) (Or.inl ⟨by rfl, ?_⟩) ?_ ?_
                                      rotate_left
                                      · intro w'
                                        go_simp
                                        with_reducible rfl
                                      rotate_left
                                      · simp only [Act.put, List.setIfInBounds_toArray, List.set_cons_zero, List.set_cons_succ, i64_w, i32_w]
                                        rfl
                                      refine pure_ (i := 20) (N := some 107) (v := ?_) (a' := ?_) #[true, true, true, true, true, true, true, true, true, true, true, true, true, true, true, true, true, true, true, true, true, false, false, false, false, false, false, false, false, false, false, false, false, false, false, false, false, false, false, false, false, false, false, false, false, false, false, false, false, false, false, false, false, false, false, false, false, false, false, false, false] rfl rfl (any_of HT_.out (by kernel_rfl)) (fun _ _ _ h => h) (Or.inl ⟨by rfl, ?_⟩) ?_ ?_
                                      rotate_left
                                      · intro w'
                                        go_simp
                                        with_reducible rfl
                                      rotate_left
                                      · simp only [Act.put, List.setIfInBounds_toArray, List.set_cons_zero, List.set_cons_succ, i64_w, i32_w]
                                        rfl
                                      refine pure_ (i := 21) (N := some 108) (v := ?_) (a' := ?_) #[true, true, true, true, true, true, true, true, true, true, true, true, true, true, true, true, true, true, true, true, true, true, false, false, false, false, false, false, false, false, false, false, false, false, false, false, false, false, false, false, false, false, false, false, false, false, false, false, false, false, false, false, false, false, false, false, false, false, false, false, false] rfl rfl (any_of HT_.out (by kernel_rfl)) (fun _ _ _ h => h) (Or.inl ⟨by rfl, ?_⟩) ?_ ?_
                                      rotate_left
                                      · intro w'
                                        go_simp
                                        with_reducible rfl
                                      rotate_left
                                      · simp only [Act.put, List.setIfInBounds_toArray, List.set_cons_zero, List.set_cons_succ, i64_w, i32_w]
                                        rfl
                                      refine pure_ (i := 22) (N := some 109) (v := ?_) (a' := ?_) #[true, true, true, true, true, true, true, true, true, true, true, true, true, true, true, true, true, true, true, true, true, true, true, false, false, false, false, false, false, false, false, false, false, false, false, false, false, false, false, false, false, false, false, false, false, false, false, false, false, false, false, false, false, false, false, false, false, false, false, false, false] rfl rfl (any_of HT_.out (by kernel_rfl)) (fun _ _ _ h => h) (Or.inl ⟨by rfl, ?_⟩) ?_ ?_
                                      rotate_left
                                      · intro w'
                                        go_simp
                                        with_reducible rfl
                                      rotate_left
                                      · simp only [Act.put, List.setIfInBounds_toArray, List.set_cons_zero, List.set_cons_succ, i64_w, i32_w]
                                        rfl
                                      refine one_ (i := 23) (N := some 110) #[true, true, true, true, true, true, true, true, true, true, true, true, true, true, true, true, true, true, true, true, true, true, true, true, false, false, false, false, false, false, false, false, false, false, false, false, false, false, false, false, false, false, false, false, false, false, false, false, false, false, false, false, false, false, false, false, false, false, false, false, false] rfl rfl (one_of HT_.out (by kernel_rfl)) (by decide) (fun K hK => ?_)
                                      refine goes_ Try.func17 (by kernel_rfl) rfl #[.slice Ao71 t186.length co71, .slice (some ad170) y167.length co19] (by rfl) rfl rfl (by (try simp only [List.map_toArray, List.map_cons, List.map_nil]); first | done | rfl | (simp only [List.length_drop, List.length_take]; rfl)) ?_
                                      with_reducible refine (sizarref07_Same.calls kj13 _ _ t186 _ _ y167 true _ ?side1 ?side2 ?side3 ?side4 A57.out).mono ?_
                                      (case side1 => repeat (first | exact (Kd.R_reads' HO_11.out).2.2 | (with_reducible refine Kd.C_alloc ?_ _) | (with_reducible refine Kd.C_drewN ?_ _) | (with_reducible refine Kd.C_drew ?_)))
                                      (case side2 => exact (Kd.R_reads' HO_11.out).2.1)
                                      (case side3 => repeat (first | exact (Kd.R_reads' HO_1.out).2.2 | (with_reducible refine Kd.C_alloc ?_ _) | (with_reducible refine Kd.C_drewN ?_ _) | (with_reducible refine Kd.C_drew ?_)))
                                      (case side4 => exact (Kd.R_reads' HO_1.out).2.1)
                                      rintro e w' ⟨rfl, ⟨nd, rfl⟩⟩
                                      refine ⟨_, rfl, ?_⟩
                                      refine hK.out _ _ ⟨(blk_cell BK171.out 0).trans rfl, (blk_cell BK171.out 1).trans rfl, (blk_cell BK171.out 2).trans rfl⟩ (fun hHeld => ?_)
                                      clear hK K
                                      refine norm_ (a' := ?_) ?_ ?_
                                      rotate_left
                                      · show Act.put _ (some 110) _ = _
                                        simp only [Act.put, List.setIfInBounds_toArray, List.set_cons_zero, List.set_cons_succ, i64_w, i32_w]
                                        rfl
                                      refine pure_ (i := 24) (N := some 111) (v := ?_) (a' := ?_) #[true, true, true, true, true, true, true, true, true, true, true, true, true, true, true, true, true, true, true, true, true, true, true, true, true, false, false, false, false, false, false, false, false, false, false, false, false, false, false, false, false, false, false, false, false, false, false, false, false, false, false, false, false, false, false, false, false, false, false, false, false] rfl rfl (any_of HT_.out (by kernel_rfl)) (fun _ _ _ h => h) (Or.inl ⟨by rfl, ?_⟩) ?_ ?_
                                      rotate_left
                                      · intro w'
                                        go_simp
                                        with_reducible rfl
                                      rotate_left
                                      · simp only [Act.put, List.setIfInBounds_toArray, List.set_cons_zero, List.set_cons_succ, i64_w, i32_w]
                                        rfl
                                      refine pure_ (i := 25) (N := some 112) (v := ?_) (a' := ?_) #[true, true, true, true, true, true, true, true, true, true, true, true, true, true, true, true, true, true, true, true, true, true, true, true, true, true, false, false, false, false, false, false, false, false, false, false, false, false, false, false, false, false, false, false, false, false, false, false, false, false, false, false, false, false, false, false, false, false, false, false, false] rfl rfl (any_of HT_.out (by kernel_rfl)) (fun _ _ _ h => h) (Or.inl ⟨by rfl, ?_⟩) ?_ ?_
                                      rotate_left
                                      · intro w'
                                        go_simp
                                        with_reducible rfl
                                      rotate_left
                                      · simp only [Act.put, List.setIfInBounds_toArray, List.set_cons_zero, List.set_cons_succ, i64_w, i32_w]
                                        rfl
                                      refine pure_ (i := 26) (N := some 113) (v := ?_) (a' := ?_) #[true, true, true, true, true, true, true, true, true, true, true, true, true, true, true, true, true, true, true, true, true, true, true, true, true, true, true, false, false, false, false, false, false, false, false, false, false, false, false, false, false, false, false, false, false, false, false, false, false, false, false, false, false, false, false, false, false, false, false, false, false] rfl rfl (any_of HT_.out (by kernel_rfl)) (fun _ _ _ h => h) (Or.inl ⟨by rfl, ?_⟩) ?_ ?_
                                      rotate_left
                                      · intro w'
                                        go_simp
                                        with_reducible rfl
                                      rotate_left
                                      · simp only [Act.put, List.setIfInBounds_toArray, List.set_cons_zero, List.set_cons_succ, i64_w, i32_w]
                                        rfl
                                      refine pure_ (i := 28) (N := some 115) (v := ?_) (a' := ?_) #[true, true, true, true, true, true, true, true, true, true, true, true, true, true, true, true, true, true, true, true, true, true, true, true, true, true, true, false, true, false, false, false, false, false, false, false, false, false, false, false, false, false, false, false, false, false, false, false, false, false, false, false, false, false, false, false, false, false, false, false, false] rfl rfl (any_of HT_.out (by kernel_rfl)) (fun _ _ _ h => h) (Or.inl ⟨by rfl, ?_⟩) ?_ ?_
                                      rotate_left
                                      · intro w'
                                        go_simp
                                        with_reducible rfl
                                      rotate_left
                                      · simp only [Act.put, List.setIfInBounds_toArray, List.set_cons_zero, List.set_cons_succ, i64_w, i32_w]
                                        rfl
                                      refine take_ (i := 27) (N := some 114) (v := ?_) (a' := ?_) #[true, true, true, true, true, true, true, true, true, true, true, true, true, true, true, true, true, true, true, true, true, true, true, true, true, true, true, true, true, false, false, false, false, false, false, false, false, false, false, false, false, false, false, false, false, false, false, false, false, false, false, false, false, false, false, false, false, false, false, false, false] rfl rfl (take_ofW HT_.out HW_.out (by kernel_rfl)) (fun _ _ _ h => h) (Or.inl ⟨by rfl, ?_⟩) hHeld ?_ ?_
                                      rotate_left
                                      · rintro w' ⟨s0, s1, s2⟩
                                        go_simp
                                        with_reducible rfl
                                      rotate_left
                                      · simp only [Act.put, List.setIfInBounds_toArray, List.set_cons_zero, List.set_cons_succ, i64_w, i32_w]
                                        rfl
                                      refine one_ (i := 29) (N := some 116) #[true, true, true, true, true, true, true, true, true, true, true, true, true, true, true, true, true, true, true, true, true, true, true, true, true, true, true, true, true, true, false, false, false, false, false, false, false, false, false, false, false, false, false, false, false, false, false, false, false, false, false, false, false, false, false, false, false, false, false, false, false] rfl rfl (one_of HT_.out (by kernel_rfl)) (by decide) (fun K hK => ?_)
                                      refine Kd.R_lit_step k26 _ 26 ?hg (N := 116) ?hd (xs := ([(⟨3, 4⟩ : S26)] : List (S26))) (inner := [.int .i64 3, .int .i64 4]) (ok := fun _ => True) (okp := fun _ => True) ?hr ?hp (fun _ hk => hk) trivial (Below.refl _ _) (Nat.le_refl _) (by simp) ?_; (case hd => rfl); (case hg => rfl); (case hr => first | (go_simp; done) | (go_simp; rfl)); (case hp => exact (Reps.c2 (show Kd.M k26 _ _ _ (⟨3, 4⟩ : S26) [.int .i64 3, .int .i64 4] from (k26_mkM _ _ _ (⟨3, 4⟩ : S26) )) (Reps.none _ _)))
                                      intro v215 w72 ho73 hb hg_ hnew_
                                      clear hg_ hnew_
                                      (first | rw [← Ny214.out] at ho73 | (simp only [Int.reduceToNat] at ho73; rw [← Ny214.out] at ho73))
                                      have n0_ := Aside0.mk (Kd.R_below (by (with_reducible repeat (first | apply Kd.R_alloc | apply Kd.R_drewN | apply Kd.R_drew)); exact HO_1.out) hb)
                                      have n1_ := Aside0.mk (Kd.R_below (by (with_reducible repeat (first | apply Kd.R_alloc | apply Kd.R_drewN | apply Kd.R_drew)); exact HO_11.out) hb)
                                      have n2_ := Aside0.mk (Kd.N_elder' (by (with_reducible repeat (first | apply Kd.N_alloc | apply Kd.N_drewN | apply Kd.N_drew)); exact HO_15.out) (Kd.R_base ho73) hb)
                                      have n3_ := Aside0.mk (Kd.R_lower ho73 (below_size (by repeat (first | (with_reducible first | exact HB.out | apply below_alloc | apply pw_below_drewN | apply below_drew1 | refine below_set ?_ GE171.out) | exact HB.out))))
                                      have n4_ := Aside0.mk (blk_below (g := gb171) (o := .cells #[.int .i64 ((rd_T28 y167 0).f0.f0), .int .i64 ((rd_T28 y167 0).f0.f1), .int .i64 ((rd_T28 y167 0).f0.f2)] 24 (0, 0)) (by (with_reducible repeat (first | refine blk_drewN ?_ _ | refine blk_drew ?_ | refine blk_alloc ?_ _)); exact BK171.out) hb)
                                      have n5_ := Aside0.mk (below_step (by repeat (first | (with_reducible first | exact HB.out | apply below_alloc | apply pw_below_drewN | apply below_drew1 | refine below_set ?_ GE171.out) | exact HB.out)) hb)
                                      clear HO_1
                                      clear HO_11
                                      clear HO_15
                                      clear BK171
                                      clear HB
                                      have HO_1 := n0_
                                      have HO_11 := n1_
                                      have HO_15 := n2_
                                      have HO216 := n3_
                                      have BK171 := n4_
                                      have HB := n5_
                                      clear n0_ n1_ n2_ n3_ n4_ n5_
                                      clear hb ho73
                                      obtain ⟨Ao74, co74, eo74⟩ := Kd.R_slice HO216.out
                                      (first | subst eo74 | (injection eo74 with f1_ f2_ f3_; have f4_ := f1_.symm; have f5_ := f3_.symm; clear f1_ f2_ f3_; subst f4_; subst f5_))
                                      refine hK.out _ _ ⟨(blk_cell BK171.out 0).trans rfl, (blk_cell BK171.out 1).trans rfl, (blk_cell BK171.out 2).trans rfl⟩ (fun hHeld => ?_)
                                      clear hK K
                                      refine norm_ (a' := ?_) ?_ ?_
                                      rotate_left
                                      · show Act.put _ (some 116) _ = _
                                        simp only [Act.put, List.setIfInBounds_toArray, List.set_cons_zero, List.set_cons_succ, i64_w, i32_w]
                                        rfl
                                      refine pure_ (i := 30) (N := some 117) (v := ?_) (a' := ?_) #[true, true, true, true, true, true, true, true, true, true, true, true, true, true, true, true, true, true, true, true, true, true, true, true, true, true, true, true, true, true, true, false, false, false, false, false, false, false, false, false, false, false, false, false, false, false, false, false, false, false, false, false, false, false, false, false, false, false, false, false, false] rfl rfl (any_of HT_.out (by kernel_rfl)) (fun _ _ _ h => h) (Or.inl ⟨by rfl, ?_⟩) ?_ ?_
                                      rotate_left
                                      · intro w'
                                        go_simp
                                        with_reducible rfl
                                      rotate_left
                                      · simp only [Act.put, List.setIfInBounds_toArray, List.set_cons_zero, List.set_cons_succ, i64_w, i32_w]
                                        rfl
                                      refine one_ (i := 31) (N := some 118) #[true, true, true, true, true, true, true, true, true, true, true, true, true, true, true, true, true, true, true, true, true, true, true, true, true, true, true, true, true, true, true, true, false, false, false, false, false, false, false, false, false, false, false, false, false, false, false, false, false, false, false, false, false, false, false, false, false, false, false, false, false] rfl rfl (one_of HT_.out (by kernel_rfl)) (by decide) (fun K hK => ?_)
                                      refine Kd.N_lit_step k57 _ 57 ?hg (N' := 118) ?hd (xs := ([(⟨(⟨((rd_T28 y167 0).f0.f0), ((rd_T28 y167 0).f0.f1), ((rd_T28 y167 0).f0.f2)⟩ : S24), y214⟩ : S57)] : List (S57))) (inner := [.int .i64 ((rd_T28 y167 0).f0.f0), .int .i64 ((rd_T28 y167 0).f0.f1), .int .i64 ((rd_T28 y167 0).f0.f2), .slice Ao74 y214.length co74]) (ok := (fun k_ => some k_ ≠ (.slice (some ad170) y167.length co19 : Value).ownBlock ∧ some k_ ≠ (.slice Ao71 t186.length co71 : Value).ownBlock ∧ some k_ ≠ (v203 : Value).ownBlock ∧ k_ ≠ gb171)) (okp := (fun k_ => some k_ ≠ (.slice (some ad170) y167.length co19 : Value).ownBlock ∧ some k_ ≠ (.slice Ao71 t186.length co71 : Value).ownBlock ∧ some k_ ≠ (v203 : Value).ownBlock ∧ k_ ≠ gb171)) ?hr ?hp (fun _ hk => hk) ((show ∀ k_, w72.heap.size ≤ k_ → (fun k_ => some k_ ≠ (.slice (some ad170) y167.length co19 : Value).ownBlock ∧ some k_ ≠ (.slice Ao71 t186.length co71 : Value).ownBlock ∧ some k_ ≠ (v203 : Value).ownBlock ∧ k_ ≠ gb171) k_ from fun k_ hk => ⟨Kd.fresh' (Kd.R_lt (by (with_reducible repeat (first | apply Kd.R_alloc | apply Kd.R_drewN | apply Kd.R_drew)); exact HO_1.out)) k_ hk, Kd.fresh' (Kd.R_lt (by (with_reducible repeat (first | apply Kd.R_alloc | apply Kd.R_drewN | apply Kd.R_drew)); exact HO_11.out)) k_ hk, Kd.fresh' (Kd.N_lt (by (with_reducible repeat (first | apply Kd.N_alloc | apply Kd.N_drewN | apply Kd.N_drew)); exact HO_15.out)) k_ hk, Kd.freshB (g := gb171) (o := .cells #[.int .i64 ((rd_T28 y167 0).f0.f0), .int .i64 ((rd_T28 y167 0).f0.f1), .int .i64 ((rd_T28 y167 0).f0.f2)] 24 (0, 0)) (by (with_reducible repeat (first | refine blk_drewN ?_ _ | refine blk_drew ?_ | refine blk_alloc ?_ _)); exact BK171.out) k_ hk⟩) _ (Nat.le_refl _)) (Below.refl _ _) (Nat.le_refl _) (by simp) ?_; (case hd => rfl); (case hg => rfl); (case hr => first | (go_simp; done) | (go_simp; rfl)); (case hp => exact (Reps.c4 (show Kd.FK k57 _ _ (⟨(⟨((rd_T28 y167 0).f0.f0), ((rd_T28 y167 0).f0.f1), ((rd_T28 y167 0).f0.f2)⟩ : S24), y214⟩ : S57) [.int .i64 ((rd_T28 y167 0).f0.f0), .int .i64 ((rd_T28 y167 0).f0.f1), .int .i64 ((rd_T28 y167 0).f0.f2), .slice Ao74 y214.length co74] from (k57_mkF _ _ (⟨(⟨((rd_T28 y167 0).f0.f0), ((rd_T28 y167 0).f0.f1), ((rd_T28 y167 0).f0.f2)⟩ : S24), y214⟩ : S57) (Kd.R_reads' (Kd.R_mono (ok' := (fun k_ => some k_ ≠ (.slice (some ad170) y167.length co19 : Value).ownBlock ∧ some k_ ≠ (.slice Ao71 t186.length co71 : Value).ownBlock ∧ some k_ ≠ (v203 : Value).ownBlock ∧ k_ ≠ gb171)) (Kd.R_types (Kd.R_apart' (Kd.R_apart' (Kd.R_apart' (HO216.out) (Kd.R_typed HO_1.out) (by decide)) (Kd.R_typed HO_11.out) (by decide)) (Kd.N_typed HO_15.out) (by decide)) BK171.out (by decide)) (fun k_ hk => ⟨hk.1.1.1.2, ⟨hk.1.1.2, ⟨hk.1.2, hk.2⟩⟩⟩))).2.1 (Kd.R_F (Kd.R_mono (ok' := (fun k_ => some k_ ≠ (.slice (some ad170) y167.length co19 : Value).ownBlock ∧ some k_ ≠ (.slice Ao71 t186.length co71 : Value).ownBlock ∧ some k_ ≠ (v203 : Value).ownBlock ∧ k_ ≠ gb171)) (Kd.R_types (Kd.R_apart' (Kd.R_apart' (Kd.R_apart' (HO216.out) (Kd.R_typed HO_1.out) (by decide)) (Kd.R_typed HO_11.out) (by decide)) (Kd.N_typed HO_15.out) (by decide)) BK171.out (by decide)) (fun k_ hk => ⟨hk.1.1.1.2, ⟨hk.1.1.2, ⟨hk.1.2, hk.2⟩⟩⟩))))) (Reps.none _ _)))
                                      intro v218 w75 ho76 hb hg_ hnew_
                                      clear hg_ hnew_
                                      (first | rw [← Ny217.out] at ho76 | (simp only [Int.reduceToNat] at ho76; rw [← Ny217.out] at ho76))
                                      have n0_ := Aside0.mk (Kd.R_below (by (with_reducible repeat (first | apply Kd.R_alloc | apply Kd.R_drewN | apply Kd.R_drew)); exact HO_1.out) hb)
                                      have n1_ := Aside0.mk (Kd.R_below (by (with_reducible repeat (first | apply Kd.R_alloc | apply Kd.R_drewN | apply Kd.R_drew)); exact HO_11.out) hb)
                                      have n2_ := Aside0.mk (Kd.N_elder' (by (with_reducible repeat (first | apply Kd.N_alloc | apply Kd.N_drewN | apply Kd.N_drew)); exact HO_15.out) (Kd.N_base ho76) hb)
                                      have n3_ := Aside0.mk (Kd.N_lower ho76 (below_size (by repeat (first | (with_reducible first | exact HB.out | apply below_alloc | apply pw_below_drewN | apply below_drew1 | refine below_set ?_ GE171.out) | exact HB.out))))
                                      have n4_ := Aside0.mk (blk_below (g := gb171) (o := .cells #[.int .i64 ((rd_T28 y167 0).f0.f0), .int .i64 ((rd_T28 y167 0).f0.f1), .int .i64 ((rd_T28 y167 0).f0.f2)] 24 (0, 0)) (by (with_reducible repeat (first | refine blk_drewN ?_ _ | refine blk_drew ?_ | refine blk_alloc ?_ _)); exact BK171.out) hb)
                                      have n5_ := Aside0.mk (below_step (by repeat (first | (with_reducible first | exact HB.out | apply below_alloc | apply pw_below_drewN | apply below_drew1 | refine below_set ?_ GE171.out) | exact HB.out)) hb)
                                      clear HO_1
                                      clear HO_11
                                      clear HO_15
                                      clear BK171
                                      clear HB
                                      clear HO216
                                      have HO_1 := n0_
                                      have HO_11 := n1_
                                      have HO_15 := n2_
                                      have HO219 := n3_
                                      have BK171 := n4_
                                      have HB := n5_
                                      clear n0_ n1_ n2_ n3_ n4_ n5_
                                      clear hb ho76
                                      obtain ⟨Ao77, co77, eo77⟩ := Kd.N_slice HO_15.out
                                      (first | subst eo77 | (injection eo77 with f1_ f2_ f3_; have f4_ := f1_.symm; have f5_ := f3_.symm; clear f1_ f2_ f3_; subst f4_; subst f5_))
                                      obtain ⟨Ao78, co78, eo78⟩ := Kd.N_slice HO219.out
                                      (first | subst eo78 | (injection eo78 with f1_ f2_ f3_; have f4_ := f1_.symm; have f5_ := f3_.symm; clear f1_ f2_ f3_; subst f4_; subst f5_))
                                      refine hK.out _ _ ⟨(blk_cell BK171.out 0).trans rfl, (blk_cell BK171.out 1).trans rfl, (blk_cell BK171.out 2).trans rfl⟩ (fun hHeld => ?_)
                                      clear hK K
                                      refine norm_ (a' := ?_) ?_ ?_
                                      rotate_left
                                      · show Act.put _ (some 118) _ = _
                                        simp only [Act.put, List.setIfInBounds_toArray, List.set_cons_zero, List.set_cons_succ, i64_w, i32_w]
                                        rfl
                                      refine one_ (i := 32) (N := some 119) #[true, true, true, true, true, true, true, true, true, true, true, true, true, true, true, true, true, true, true, true, true, true, true, true, true, true, true, true, true, true, true, true, true, false, false, false, false, false, false, false, false, false, false, false, false, false, false, false, false, false, false, false, false, false, false, false, false, false, false, false, false] rfl rfl (one_of HT_.out (by kernel_rfl)) (by decide) (fun K hK => ?_)
                                      refine goes_ Try.func23 (by kernel_rfl) rfl #[.slice Ao77 t202.length co77, .slice Ao78 y217.length co78] (by rfl) rfl rfl (by (try simp only [List.map_toArray, List.map_cons, List.map_nil]); first | done | rfl | (simp only [List.length_drop, List.length_take]; rfl)) ?_
                                      with_reducible refine (sizarref07_SameChanges.calls kj13 _ _ t202 _ _ y217 true _ ?side1 ?side2 ?side3 ?side4 A59.out).mono ?_
                                      (case side1 => repeat (first | exact (Kd.N_reads' HO_15.out).2.2 | (with_reducible refine Kd.C_alloc ?_ _) | (with_reducible refine Kd.C_drewN ?_ _) | (with_reducible refine Kd.C_drew ?_)))
                                      (case side2 => exact (Kd.N_reads' HO_15.out).2.1)
                                      (case side3 => repeat (first | exact (Kd.N_reads' HO219.out).2.2 | (with_reducible refine Kd.C_alloc ?_ _) | (with_reducible refine Kd.C_drewN ?_ _) | (with_reducible refine Kd.C_drew ?_)))
                                      (case side4 => exact (Kd.N_reads' HO219.out).2.1)
                                      rintro e w' ⟨rfl, ⟨nd, rfl⟩⟩
                                      refine ⟨_, rfl, ?_⟩
                                      refine hK.out _ _ ⟨(blk_cell BK171.out 0).trans rfl, (blk_cell BK171.out 1).trans rfl, (blk_cell BK171.out 2).trans rfl⟩ (fun hHeld => ?_)
                                      clear hK K
                                      refine norm_ (a' := ?_) ?_ ?_
                                      rotate_left
                                      · show Act.put _ (some 119) _ = _
                                        simp only [Act.put, List.setIfInBounds_toArray, List.set_cons_zero, List.set_cons_succ, i64_w, i32_w]
                                        rfl
                                      refine pure_ (i := 33) (N := some 120) (v := ?_) (a' := ?_) #[true, true, true, true, true, true, true, true, true, true, true, true, true, true, true, true, true, true, true, true, true, true, true, true, true, true, true, true, true, true, true, true, true, true, false, false, false, false, false, false, false, false, false, false, false, false, false, false, false, false, false, false, false, false, false, false, false, false, false, false, false] rfl rfl (any_of HT_.out (by kernel_rfl)) (fun _ _ _ h => h) (Or.inl ⟨by rfl, ?_⟩) ?_ ?_
                                      rotate_left
                                      · intro w'
                                        go_simp
                                        with_reducible rfl
                                      rotate_left
                                      · simp only [Act.put, List.setIfInBounds_toArray, List.set_cons_zero, List.set_cons_succ, i64_w, i32_w]
                                        rfl
                                      refine pure_ (i := 34) (N := some 121) (v := ?_) (a' := ?_) #[true, true, true, true, true, true, true, true, true, true, true, true, true, true, true, true, true, true, true, true, true, true, true, true, true, true, true, true, true, true, true, true, true, true, true, false, false, false, false, false, false, false, false, false, false, false, false, false, false, false, false, false, false, false, false, false, false, false, false, false, false] rfl rfl (any_of HT_.out (by kernel_rfl)) (fun _ _ _ h => h) (Or.inl ⟨by rfl, ?_⟩) ?_ ?_
                                      rotate_left
                                      · intro w'
                                        go_simp
                                        with_reducible rfl
                                      rotate_left
                                      · simp only [Act.put, List.setIfInBounds_toArray, List.set_cons_zero, List.set_cons_succ, i64_w, i32_w]
                                        rfl
                                      refine pure_ (i := 35) (N := some 122) (v := ?_) (a' := ?_) #[true, true, true, true, true, true, true, true, true, true, true, true, true, true, true, true, true, true, true, true, true, true, true, true, true, true, true, true, true, true, true, true, true, true, true, true, false, false, false, false, false, false, false, false, false, false, false, false, false, false, false, false, false, false, false, false, false, false, false, false, false] rfl rfl (any_of HT_.out (by kernel_rfl)) (fun _ _ _ h => h) (Or.inl ⟨by rfl, ?_⟩) ?_ ?_
                                      rotate_left
                                      · intro w'
                                        go_simp
                                        with_reducible rfl
                                      rotate_left
                                      · simp only [Act.put, List.setIfInBounds_toArray, List.set_cons_zero, List.set_cons_succ, i64_w, i32_w]
                                        rfl
                                      refine one_ (i := 36) (N := some 123) #[true, true, true, true, true, true, true, true, true, true, true, true, true, true, true, true, true, true, true, true, true, true, true, true, true, true, true, true, true, true, true, true, true, true, true, true, true, false, false, false, false, false, false, false, false, false, false, false, false, false, false, false, false, false, false, false, false, false, false, false, false] rfl rfl (one_of HT_.out (by kernel_rfl)) (by decide) (fun K hK => ?_)
                                      refine goes_ Try.func26 (by kernel_rfl) rfl #[.slice (some ad170) y167.length co19, .slice none 0 0, .int .i64 1, .int .i64 2] (by rfl) rfl rfl (by (try simp only [List.map_toArray, List.map_cons, List.map_nil]); first | done | rfl | (simp only [List.length_drop, List.length_take]; rfl)) ?_
                                      refine (facts_Alike.calls kj13 _ _ y167 _ _ ([] : List (S54)) 1 2 true _ ?side1 ?side2 ?side3 ?side4 A61.out).mono ?_
                                      (case side1 => repeat (first | exact (Kd.R_reads' HO_1.out).2.2 | (with_reducible refine Kd.C_alloc ?_ _) | (with_reducible refine Kd.C_drewN ?_ _) | (with_reducible refine Kd.C_drew ?_)))
                                      (case side2 => exact (Kd.R_reads' HO_1.out).2.1)
                                      (case side3 => exact Kd.C_nil _ _)
                                      (case side4 => exact Nat.le_refl _)
                                      rintro e w79 ⟨rfl, hb⟩
                                      refine ⟨_, rfl, ?_⟩
                                      have n0_ := Aside0.mk (Kd.R_below (by (with_reducible repeat (first | apply Kd.R_alloc | apply Kd.R_drewN | apply Kd.R_drew)); exact HO_1.out) hb)
                                      have n1_ := Aside0.mk (Kd.R_below (by (with_reducible repeat (first | apply Kd.R_alloc | apply Kd.R_drewN | apply Kd.R_drew)); exact HO_11.out) hb)
                                      have n2_ := Aside0.mk (Kd.N_below (by (with_reducible repeat (first | apply Kd.N_alloc | apply Kd.N_drewN | apply Kd.N_drew)); exact HO_15.out) hb)
                                      have n3_ := Aside0.mk (Kd.N_below (by (with_reducible repeat (first | apply Kd.N_alloc | apply Kd.N_drewN | apply Kd.N_drew)); exact HO219.out) hb)
                                      have n4_ := Aside0.mk (blk_below (g := gb171) (o := .cells #[.int .i64 ((rd_T28 y167 0).f0.f0), .int .i64 ((rd_T28 y167 0).f0.f1), .int .i64 ((rd_T28 y167 0).f0.f2)] 24 (0, 0)) (by (with_reducible repeat (first | refine blk_drewN ?_ _ | refine blk_drew ?_ | refine blk_alloc ?_ _)); exact BK171.out) hb)
                                      have n5_ := Aside0.mk (below_step (by repeat (first | (with_reducible first | exact HB.out | apply below_alloc | apply pw_below_drewN | apply below_drew1 | refine below_set ?_ GE171.out) | exact HB.out)) hb)
                                      clear HO_1
                                      clear HO_11
                                      clear HO_15
                                      clear HO219
                                      clear BK171
                                      clear HB
                                      have HO_1 := n0_
                                      have HO_11 := n1_
                                      have HO_15 := n2_
                                      have HO219 := n3_
                                      have BK171 := n4_
                                      have HB := n5_
                                      clear n0_ n1_ n2_ n3_ n4_ n5_
                                      (try clear hb)
                                      (try clear hb2)
                                      (try clear hk)
                                      (try clear hi)
                                      refine hK.out _ _ ⟨(blk_cell BK171.out 0).trans rfl, (blk_cell BK171.out 1).trans rfl, (blk_cell BK171.out 2).trans rfl⟩ (fun hHeld => ?_)
                                      clear hK K
                                      refine norm_ (a' := ?_) ?_ ?_
                                      rotate_left
                                      · show Act.put _ (some 123) _ = _
                                        simp only [Act.put, List.setIfInBounds_toArray, List.set_cons_zero, List.set_cons_succ, i64_w, i32_w]
                                        rfl
                                      refine pure_ (i := 37) (N := some 124) (v := ?_) (a' := ?_) #[true, true, true, true, true, true, true, true, true, true, true, true, true, true, true, true, true, true, true, true, true, true, true, true, true, true, true, true, true, true, true, true, true, true, true, true, true, true, false, false, false, false, false, false, false, false, false, false, false, false, false, false, false, false, false, false, false, false, false, false, false] rfl rfl (any_of HT_.out (by kernel_rfl)) (fun _ _ _ h => h) (Or.inl ⟨by rfl, ?_⟩) ?_ ?_
                                      rotate_left
                                      · intro w'
                                        go_simp
                                        with_reducible rfl
                                      rotate_left
                                      · simp only [Act.put, List.setIfInBounds_toArray, List.set_cons_zero, List.set_cons_succ, i64_w, i32_w]
                                        rfl
                                      refine pure_ (i := 38) (N := some 125) (v := ?_) (a' := ?_) #[true, true, true, true, true, true, true, true, true, true, true, true, true, true, true, true, true, true, true, true, true, true, true, true, true, true, true, true, true, true, true, true, true, true, true, true, true, true, true, false, false, false, false, false, false, false, false, false, false, false, false, false, false, false, false, false, false, false, false, false, false] rfl rfl (any_of HT_.out (by kernel_rfl)) (fun _ _ _ h => h) (Or.inl ⟨by rfl, ?_⟩) ?_ ?_
                                      rotate_left
                                      · intro w'
                                        go_simp
                                        with_reducible rfl
                                      rotate_left
                                      · simp only [Act.put, List.setIfInBounds_toArray, List.set_cons_zero, List.set_cons_succ, i64_w, i32_w]
                                        rfl
                                      refine pure_ (i := 39) (N := some 126) (v := ?_) (a' := ?_) #[true, true, true, true, true, true, true, true, true, true, true, true, true, true, true, true, true, true, true, true, true, true, true, true, true, true, true, true, true, true, true, true, true, true, true, true, true, true, true, true, false, false, false, false, false, false, false, false, false, false, false, false, false, false, false, false, false, false, false, false, false] rfl rfl (any_of HT_.out (by kernel_rfl)) (fun _ _ _ h => h) (Or.inl ⟨by rfl, ?_⟩) ?_ ?_
                                      rotate_left
                                      · intro w'
                                        go_simp
                                        with_reducible rfl
                                      rotate_left
                                      · simp only [Act.put, List.setIfInBounds_toArray, List.set_cons_zero, List.set_cons_succ, i64_w, i32_w]
                                        rfl
                                      refine take_ (i := 40) (N := some 127) (v := ?_) (a' := ?_) #[true, true, true, true, true, true, true, true, true, true, true, true, true, true, true, true, true, true, true, true, true, true, true, true, true, true, true, true, true, true, true, true, true, true, true, true, true, true, true, true, true, false, false, false, false, false, false, false, false, false, false, false, false, false, false, false, false, false, false, false, false] rfl rfl (take_ofW HT_.out HW_.out (by kernel_rfl)) (fun _ _ _ h => h) (Or.inl ⟨by rfl, ?_⟩) hHeld ?_ ?_
                                      rotate_left
                                      · rintro w' ⟨s0, s1, s2⟩
                                        go_simp
                                        with_reducible rfl
                                      rotate_left
                                      · simp only [Act.put, List.setIfInBounds_toArray, List.set_cons_zero, List.set_cons_succ, i64_w, i32_w]
                                        rfl
                                      refine pure_ (i := 41) (N := some 128) (v := ?_) (a' := ?_) #[true, true, true, true, true, true, true, true, true, true, true, true, true, true, true, true, true, true, true, true, true, true, true, true, true, true, true, true, true, true, true, true, true, true, true, true, true, true, true, true, true, true, false, false, false, false, false, false, false, false, false, false, false, false, false, false, false, false, false, false, false] rfl rfl (any_of HT_.out (by kernel_rfl)) (fun _ _ _ h => h) (Or.inl ⟨by rfl, ?_⟩) ?_ ?_
                                      rotate_left
                                      · intro w'
                                        go_simp
                                        with_reducible rfl
                                      rotate_left
                                      · simp only [Act.put, List.setIfInBounds_toArray, List.set_cons_zero, List.set_cons_succ, i64_w, i32_w]
                                        rfl
                                      refine one_ (i := 42) (N := some 129) #[true, true, true, true, true, true, true, true, true, true, true, true, true, true, true, true, true, true, true, true, true, true, true, true, true, true, true, true, true, true, true, true, true, true, true, true, true, true, true, true, true, true, true, false, false, false, false, false, false, false, false, false, false, false, false, false, false, false, false, false, false] rfl rfl (one_of HT_.out (by kernel_rfl)) (by decide) (fun K hK => ?_)
                                      refine Kd.R_lit_step k54 _ 54 ?hg (N := 129) ?hd (xs := ([(⟨(⟨((rd_T28 y167 0).f0.f0), ((rd_T28 y167 0).f0.f1), ((rd_T28 y167 0).f0.f2)⟩ : S24), 0, 9⟩ : S54)] : List (S54))) (inner := [.int .i64 ((rd_T28 y167 0).f0.f0), .int .i64 ((rd_T28 y167 0).f0.f1), .int .i64 ((rd_T28 y167 0).f0.f2), .int .i64 0, .int .i64 9]) (ok := fun _ => True) (okp := fun _ => True) ?hr ?hp (fun _ hk => hk) trivial (Below.refl _ _) (Nat.le_refl _) (by simp) ?_; (case hd => rfl); (case hg => rfl); (case hr => first | (go_simp; done) | (go_simp; rfl)); (case hp => exact (Reps.c5 (show Kd.M k54 _ _ _ (⟨(⟨((rd_T28 y167 0).f0.f0), ((rd_T28 y167 0).f0.f1), ((rd_T28 y167 0).f0.f2)⟩ : S24), 0, 9⟩ : S54) [.int .i64 ((rd_T28 y167 0).f0.f0), .int .i64 ((rd_T28 y167 0).f0.f1), .int .i64 ((rd_T28 y167 0).f0.f2), .int .i64 0, .int .i64 9] from (k54_mkM _ _ _ (⟨(⟨((rd_T28 y167 0).f0.f0), ((rd_T28 y167 0).f0.f1), ((rd_T28 y167 0).f0.f2)⟩ : S24), 0, 9⟩ : S54) )) (Reps.none _ _)))
                                      intro v223 w80 ho81 hb hg_ hnew_
                                      clear hg_ hnew_
                                      (first | rw [← Ny222.out] at ho81 | (simp only [Int.reduceToNat] at ho81; rw [← Ny222.out] at ho81))
                                      have n0_ := Aside0.mk (Kd.R_below (by (with_reducible repeat (first | apply Kd.R_alloc | apply Kd.R_drewN | apply Kd.R_drew)); exact HO_1.out) hb)
                                      have n1_ := Aside0.mk (Kd.R_below (by (with_reducible repeat (first | apply Kd.R_alloc | apply Kd.R_drewN | apply Kd.R_drew)); exact HO_11.out) hb)
                                      have n2_ := Aside0.mk (Kd.N_elder' (by (with_reducible repeat (first | apply Kd.N_alloc | apply Kd.N_drewN | apply Kd.N_drew)); exact HO_15.out) (Kd.R_base ho81) hb)
                                      have n3_ := Aside0.mk (Kd.N_elder' (by (with_reducible repeat (first | apply Kd.N_alloc | apply Kd.N_drewN | apply Kd.N_drew)); exact HO219.out) (Kd.R_base ho81) hb)
                                      have n4_ := Aside0.mk (Kd.R_lower ho81 (below_size (by repeat (first | (with_reducible first | exact HB.out | apply below_alloc | apply pw_below_drewN | apply below_drew1 | refine below_set ?_ GE171.out) | exact HB.out))))
                                      have n5_ := Aside0.mk (blk_below (g := gb171) (o := .cells #[.int .i64 ((rd_T28 y167 0).f0.f0), .int .i64 ((rd_T28 y167 0).f0.f1), .int .i64 ((rd_T28 y167 0).f0.f2)] 24 (0, 0)) (by (with_reducible repeat (first | refine blk_drewN ?_ _ | refine blk_drew ?_ | refine blk_alloc ?_ _)); exact BK171.out) hb)
                                      have n6_ := Aside0.mk (below_step (by repeat (first | (with_reducible first | exact HB.out | apply below_alloc | apply pw_below_drewN | apply below_drew1 | refine below_set ?_ GE171.out) | exact HB.out)) hb)
                                      clear HO_1
                                      clear HO_11
                                      clear HO_15
                                      clear HO219
                                      clear BK171
                                      clear HB
                                      have HO_1 := n0_
                                      have HO_11 := n1_
                                      have HO_15 := n2_
                                      have HO219 := n3_
                                      have HO224 := n4_
                                      have BK171 := n5_
                                      have HB := n6_
                                      clear n0_ n1_ n2_ n3_ n4_ n5_ n6_
                                      clear hb ho81
                                      obtain ⟨Ao82, co82, eo82⟩ := Kd.R_slice HO224.out
                                      (first | subst eo82 | (injection eo82 with f1_ f2_ f3_; have f4_ := f1_.symm; have f5_ := f3_.symm; clear f1_ f2_ f3_; subst f4_; subst f5_))
                                      refine hK.out _ _ ⟨(blk_cell BK171.out 0).trans rfl, (blk_cell BK171.out 1).trans rfl, (blk_cell BK171.out 2).trans rfl⟩ (fun hHeld => ?_)
                                      clear hK K
                                      refine norm_ (a' := ?_) ?_ ?_
                                      rotate_left
                                      · show Act.put _ (some 129) _ = _
                                        simp only [Act.put, List.setIfInBounds_toArray, List.set_cons_zero, List.set_cons_succ, i64_w, i32_w]
                                        rfl
                                      refine one_ (i := 43) (N := some 130) #[true, true, true, true, true, true, true, true, true, true, true, true, true, true, true, true, true, true, true, true, true, true, true, true, true, true, true, true, true, true, true, true, true, true, true, true, true, true, true, true, true, true, true, true, false, false, false, false, false, false, false, false, false, false, false, false, false, false, false, false, false] rfl rfl (one_of HT_.out (by kernel_rfl)) (by decide) (fun K hK => ?_)
                                      refine goes_ Try.func26 (by kernel_rfl) rfl #[.slice (some ad170) y167.length co19, .slice Ao82 y222.length co82, .int .i64 15, .int .i64 20] (by rfl) rfl rfl (by (try simp only [List.map_toArray, List.map_cons, List.map_nil]); first | done | rfl | (simp only [List.length_drop, List.length_take]; rfl)) ?_
                                      with_reducible refine (facts_Alike.calls kj13 _ _ y167 _ _ y222 15 20 false _ ?side1 ?side2 ?side3 ?side4 A63.out).mono ?_
                                      (case side1 => repeat (first | exact (Kd.R_reads' HO_1.out).2.2 | (with_reducible refine Kd.C_alloc ?_ _) | (with_reducible refine Kd.C_drewN ?_ _) | (with_reducible refine Kd.C_drew ?_)))
                                      (case side2 => exact (Kd.R_reads' HO_1.out).2.1)
                                      (case side3 => repeat (first | exact (Kd.R_reads' HO224.out).2.2 | (with_reducible refine Kd.C_alloc ?_ _) | (with_reducible refine Kd.C_drewN ?_ _) | (with_reducible refine Kd.C_drew ?_)))
                                      (case side4 => exact (Kd.R_reads' HO224.out).2.1)
                                      rintro e w83 ⟨rfl, hb⟩
                                      refine ⟨_, rfl, ?_⟩
                                      have n0_ := Aside0.mk (Kd.R_below (by (with_reducible repeat (first | apply Kd.R_alloc | apply Kd.R_drewN | apply Kd.R_drew)); exact HO_1.out) hb)
                                      have n1_ := Aside0.mk (Kd.R_below (by (with_reducible repeat (first | apply Kd.R_alloc | apply Kd.R_drewN | apply Kd.R_drew)); exact HO_11.out) hb)
                                      have n2_ := Aside0.mk (Kd.N_below (by (with_reducible repeat (first | apply Kd.N_alloc | apply Kd.N_drewN | apply Kd.N_drew)); exact HO_15.out) hb)
                                      have n3_ := Aside0.mk (Kd.N_below (by (with_reducible repeat (first | apply Kd.N_alloc | apply Kd.N_drewN | apply Kd.N_drew)); exact HO219.out) hb)
                                      have n4_ := Aside0.mk (Kd.R_below (by (with_reducible repeat (first | apply Kd.R_alloc | apply Kd.R_drewN | apply Kd.R_drew)); exact HO224.out) hb)
                                      have n5_ := Aside0.mk (blk_below (g := gb171) (o := .cells #[.int .i64 ((rd_T28 y167 0).f0.f0), .int .i64 ((rd_T28 y167 0).f0.f1), .int .i64 ((rd_T28 y167 0).f0.f2)] 24 (0, 0)) (by (with_reducible repeat (first | refine blk_drewN ?_ _ | refine blk_drew ?_ | refine blk_alloc ?_ _)); exact BK171.out) hb)
                                      have n6_ := Aside0.mk (below_step (by repeat (first | (with_reducible first | exact HB.out | apply below_alloc | apply pw_below_drewN | apply below_drew1 | refine below_set ?_ GE171.out) | exact HB.out)) hb)
                                      clear HO_1
                                      clear HO_11
                                      clear HO_15
                                      clear HO219
                                      clear HO224
                                      clear BK171
                                      clear HB
                                      have HO_1 := n0_
                                      have HO_11 := n1_
                                      have HO_15 := n2_
                                      have HO219 := n3_
                                      have HO224 := n4_
                                      have BK171 := n5_
                                      have HB := n6_
                                      clear n0_ n1_ n2_ n3_ n4_ n5_ n6_
                                      (try clear hb)
                                      (try clear hb2)
                                      (try clear hk)
                                      (try clear hi)
                                      refine hK.out _ _ ⟨(blk_cell BK171.out 0).trans rfl, (blk_cell BK171.out 1).trans rfl, (blk_cell BK171.out 2).trans rfl⟩ (fun hHeld => ?_)
                                      clear hK K
                                      refine norm_ (a' := ?_) ?_ ?_
                                      rotate_left
                                      · show Act.put _ (some 130) _ = _
                                        simp only [Act.put, List.setIfInBounds_toArray, List.set_cons_zero, List.set_cons_succ, i64_w, i32_w]
                                        rfl
                                      refine pure_ (i := 44) (N := some 131) (v := ?_) (a' := ?_) #[true, true, true, true, true, true, true, true, true, true, true, true, true, true, true, true, true, true, true, true, true, true, true, true, true, true, true, true, true, true, true, true, true, true, true, true, true, true, true, true, true, true, true, true, true, false, false, false, false, false, false, false, false, false, false, false, false, false, false, false, false] rfl rfl (any_of HT_.out (by kernel_rfl)) (fun _ _ _ h => h) (Or.inl ⟨by rfl, ?_⟩) ?_ ?_
                                      rotate_left
                                      · intro w'
                                        go_simp
                                        with_reducible rfl
                                      rotate_left
                                      · simp only [Act.put, List.setIfInBounds_toArray, List.set_cons_zero, List.set_cons_succ, i64_w, i32_w]
                                        rfl
                                      refine pure_ (i := 45) (N := some 132) (v := ?_) (a' := ?_) #[true, true, true, true, true, true, true, true, true, true, true, true, true, true, true, true, true, true, true, true, true, true, true, true, true, true, true, true, true, true, true, true, true, true, true, true, true, true, true, true, true, true, true, true, true, true, false, false, false, false, false, false, false, false, false, false, false, false, false, false, false] rfl rfl (any_of HT_.out (by kernel_rfl)) (fun _ _ _ h => h) (Or.inl ⟨by rfl, ?_⟩) ?_ ?_
                                      rotate_left
                                      · intro w'
                                        go_simp
                                        with_reducible rfl
                                      rotate_left
                                      · simp only [Act.put, List.setIfInBounds_toArray, List.set_cons_zero, List.set_cons_succ, i64_w, i32_w]
                                        rfl
                                      refine pure_ (i := 46) (N := some 133) (v := ?_) (a' := ?_) #[true, true, true, true, true, true, true, true, true, true, true, true, true, true, true, true, true, true, true, true, true, true, true, true, true, true, true, true, true, true, true, true, true, true, true, true, true, true, true, true, true, true, true, true, true, true, true, false, false, false, false, false, false, false, false, false, false, false, false, false, false] rfl rfl (any_of HT_.out (by kernel_rfl)) (fun _ _ _ h => h) (Or.inl ⟨by rfl, ?_⟩) ?_ ?_
                                      rotate_left
                                      · intro w'
                                        go_simp
                                        with_reducible rfl
                                      rotate_left
                                      · simp only [Act.put, List.setIfInBounds_toArray, List.set_cons_zero, List.set_cons_succ, i64_w, i32_w]
                                        rfl
                                      refine pure_ (i := 47) (N := some 134) (v := ?_) (a' := ?_) #[true, true, true, true, true, true, true, true, true, true, true, true, true, true, true, true, true, true, true, true, true, true, true, true, true, true, true, true, true, true, true, true, true, true, true, true, true, true, true, true, true, true, true, true, true, true, true, true, false, false, false, false, false, false, false, false, false, false, false, false, false] rfl rfl (any_of HT_.out (by kernel_rfl)) (fun _ _ _ h => h) (Or.inl ⟨by rfl, ?_⟩) ?_ ?_
                                      rotate_left
                                      · intro w'
                                        go_simp
                                        with_reducible rfl
                                      rotate_left
                                      · simp only [Act.put, List.setIfInBounds_toArray, List.set_cons_zero, List.set_cons_succ, i64_w, i32_w]
                                        rfl
                                      refine take_ (i := 48) (N := some 135) (v := ?_) (a' := ?_) #[true, true, true, true, true, true, true, true, true, true, true, true, true, true, true, true, true, true, true, true, true, true, true, true, true, true, true, true, true, true, true, true, true, true, true, true, true, true, true, true, true, true, true, true, true, true, true, true, true, false, false, false, false, false, false, false, false, false, false, false, false] rfl rfl (take_ofW HT_.out HW_.out (by kernel_rfl)) (fun _ _ _ h => h) (Or.inl ⟨by rfl, ?_⟩) hHeld ?_ ?_
                                      rotate_left
                                      · rintro w' ⟨s0, s1, s2⟩
                                        go_simp
                                        with_reducible rfl
                                      rotate_left
                                      · simp only [Act.put, List.setIfInBounds_toArray, List.set_cons_zero, List.set_cons_succ, i64_w, i32_w]
                                        rfl
                                      refine one_ (i := 49) (N := some 136) #[true, true, true, true, true, true, true, true, true, true, true, true, true, true, true, true, true, true, true, true, true, true, true, true, true, true, true, true, true, true, true, true, true, true, true, true, true, true, true, true, true, true, true, true, true, true, true, true, true, true, false, false, false, false, false, false, false, false, false, false, false] rfl rfl (one_of HT_.out (by kernel_rfl)) (by decide) (fun K hK => ?_)
                                      refine goes_ Try.func21 (by kernel_rfl) rfl #[.slice (some ad170) y167.length co19, .agg #[.int .i64 ((rd_T28 y167 0).f0.f0), .int .i64 ((rd_T28 y167 0).f0.f1), .int .i64 ((rd_T28 y167 0).f0.f2)], .int .i64 0, .int .i64 9, .int .i64 20] (by rfl) rfl rfl (by (try simp only [List.map_toArray, List.map_cons, List.map_nil]); first | done | rfl | (simp only [List.length_drop, List.length_take]; rfl)) ?_
                                      with_reducible refine (facts_Points.calls _ _ y167 ((rd_T28 y167 0).f0.f0) ((rd_T28 y167 0).f0.f1) ((rd_T28 y167 0).f0.f2) 0 9 20 t226 _ ?side1 ?side2 A65.out).mono ?_
                                      (case side1 => repeat (first | exact (Kd.R_reads' HO_1.out).2.2 | (with_reducible refine Kd.C_alloc ?_ _) | (with_reducible refine Kd.C_drewN ?_ _) | (with_reducible refine Kd.C_drew ?_)))
                                      (case side2 => exact (Kd.R_reads' HO_1.out).2.1)
                                      rintro e w84 ⟨v227, rfl, ho0, hb⟩
                                      refine ⟨_, rfl, ?_⟩
                                      have n0_ := Aside0.mk (Kd.R_below (by (with_reducible repeat (first | apply Kd.R_alloc | apply Kd.R_drewN | apply Kd.R_drew)); exact HO_1.out) hb)
                                      have n1_ := Aside0.mk (Kd.R_below (by (with_reducible repeat (first | apply Kd.R_alloc | apply Kd.R_drewN | apply Kd.R_drew)); exact HO_11.out) hb)
                                      have n2_ := Aside0.mk (Kd.N_elder' (by (with_reducible repeat (first | apply Kd.N_alloc | apply Kd.N_drewN | apply Kd.N_drew)); exact HO_15.out) (Kd.R_base ho0) hb)
                                      have n3_ := Aside0.mk (Kd.N_elder' (by (with_reducible repeat (first | apply Kd.N_alloc | apply Kd.N_drewN | apply Kd.N_drew)); exact HO219.out) (Kd.R_base ho0) hb)
                                      have n4_ := Aside0.mk (Kd.R_below (by (with_reducible repeat (first | apply Kd.R_alloc | apply Kd.R_drewN | apply Kd.R_drew)); exact HO224.out) hb)
                                      have n5_ := Aside0.mk (Kd.R_lower ho0 (below_size (by repeat (first | (with_reducible first | exact HB.out | apply below_alloc | apply pw_below_drewN | apply below_drew1 | refine below_set ?_ GE171.out) | exact HB.out))))
                                      have n6_ := Aside0.mk (blk_below (g := gb171) (o := .cells #[.int .i64 ((rd_T28 y167 0).f0.f0), .int .i64 ((rd_T28 y167 0).f0.f1), .int .i64 ((rd_T28 y167 0).f0.f2)] 24 (0, 0)) (by (with_reducible repeat (first | refine blk_drewN ?_ _ | refine blk_drew ?_ | refine blk_alloc ?_ _)); exact BK171.out) hb)
                                      have n7_ := Aside0.mk (below_step (by repeat (first | (with_reducible first | exact HB.out | apply below_alloc | apply pw_below_drewN | apply below_drew1 | refine below_set ?_ GE171.out) | exact HB.out)) hb)
                                      clear HO_1
                                      clear HO_11
                                      clear HO_15
                                      clear HO219
                                      clear HO224
                                      clear BK171
                                      clear HB
                                      have HO_1 := n0_
                                      have HO_11 := n1_
                                      have HO_15 := n2_
                                      have HO219 := n3_
                                      have HO224 := n4_
                                      have HO228 := n5_
                                      have BK171 := n6_
                                      have HB := n7_
                                      clear n0_ n1_ n2_ n3_ n4_ n5_ n6_ n7_
                                      (try clear hb)
                                      (try clear hb2)
                                      (try clear hk)
                                      (try clear hi)
                                      (try clear ho0)
                                      obtain ⟨Ao85, co85, eo85⟩ := Kd.R_slice HO228.out
                                      (first | subst eo85 | (injection eo85 with f1_ f2_ f3_; have f4_ := f1_.symm; have f5_ := f3_.symm; clear f1_ f2_ f3_; subst f4_; subst f5_))
                                      refine hK.out _ _ ⟨(blk_cell BK171.out 0).trans rfl, (blk_cell BK171.out 1).trans rfl, (blk_cell BK171.out 2).trans rfl⟩ (fun hHeld => ?_)
                                      clear hK K
                                      refine norm_ (a' := ?_) ?_ ?_
                                      rotate_left
                                      · show Act.put _ (some 136) _ = _
                                        simp only [Act.put, List.setIfInBounds_toArray, List.set_cons_zero, List.set_cons_succ, i64_w, i32_w]
                                        rfl
                                      refine pure_ (i := 50) (N := some 137) (v := ?_) (a' := ?_) #[true, true, true, true, true, true, true, true, true, true, true, true, true, true, true, true, true, true, true, true, true, true, true, true, true, true, true, true, true, true, true, true, true, true, true, true, true, true, true, true, true, true, true, true, true, true, true, true, true, true, true, false, false, false, false, false, false, false, false, false, false] rfl rfl (any_of HT_.out (by kernel_rfl)) (fun _ _ _ h => h) (Or.inl ⟨by rfl, ?_⟩) ?_ ?_
                                      rotate_left
                                      · intro w'
                                        go_simp
                                        with_reducible rfl
                                      rotate_left
                                      · simp only [Act.put, List.setIfInBounds_toArray, List.set_cons_zero, List.set_cons_succ, i64_w, i32_w]
                                        rfl
                                      refine pure_ (i := 51) (N := some 138) (v := ?_) (a' := ?_) #[true, true, true, true, true, true, true, true, true, true, true, true, true, true, true, true, true, true, true, true, true, true, true, true, true, true, true, true, true, true, true, true, true, true, true, true, true, true, true, true, true, true, true, true, true, true, true, true, true, true, true, true, false, false, false, false, false, false, false, false, false] rfl rfl (any_of HT_.out (by kernel_rfl)) (fun _ _ _ h => h) (Or.inl ⟨by rfl, ?_⟩) ?_ ?_
                                      rotate_left
                                      · intro w'
                                        go_simp
                                        with_reducible rfl
                                      rotate_left
                                      · simp only [Act.put, List.setIfInBounds_toArray, List.set_cons_zero, List.set_cons_succ, i64_w, i32_w]
                                        rfl
                                      refine pure_ (i := 52) (N := some 139) (v := ?_) (a' := ?_) #[true, true, true, true, true, true, true, true, true, true, true, true, true, true, true, true, true, true, true, true, true, true, true, true, true, true, true, true, true, true, true, true, true, true, true, true, true, true, true, true, true, true, true, true, true, true, true, true, true, true, true, true, true, false, false, false, false, false, false, false, false] rfl rfl (any_of HT_.out (by kernel_rfl)) (fun _ _ _ h => h) (Or.inl ⟨by rfl, ?_⟩) ?_ ?_
                                      rotate_left
                                      · intro w'
                                        go_simp
                                        with_reducible rfl
                                      rotate_left
                                      · simp only [Act.put, List.setIfInBounds_toArray, List.set_cons_zero, List.set_cons_succ, i64_w, i32_w]
                                        rfl
                                      refine pure_ (i := 53) (N := some 140) (v := ?_) (a' := ?_) #[true, true, true, true, true, true, true, true, true, true, true, true, true, true, true, true, true, true, true, true, true, true, true, true, true, true, true, true, true, true, true, true, true, true, true, true, true, true, true, true, true, true, true, true, true, true, true, true, true, true, true, true, true, true, false, false, false, false, false, false, false] rfl rfl (any_of HT_.out (by kernel_rfl)) (fun _ _ _ h => h) (Or.inl ⟨by rfl, ?_⟩) ?_ ?_
                                      rotate_left
                                      · intro w'
                                        go_simp
                                        with_reducible rfl
                                      rotate_left
                                      · simp only [Act.put, List.setIfInBounds_toArray, List.set_cons_zero, List.set_cons_succ, i64_w, i32_w]
                                        rfl
                                      refine pure_ (i := 54) (N := some 141) (v := ?_) (a' := ?_) #[true, true, true, true, true, true, true, true, true, true, true, true, true, true, true, true, true, true, true, true, true, true, true, true, true, true, true, true, true, true, true, true, true, true, true, true, true, true, true, true, true, true, true, true, true, true, true, true, true, true, true, true, true, true, true, false, false, false, false, false, false] rfl rfl (any_of HT_.out (by kernel_rfl)) (fun _ _ _ h => h) (Or.inl ⟨by rfl, ?_⟩) ?_ ?_
                                      rotate_left
                                      · intro w'
                                        go_simp
                                        with_reducible rfl
                                      rotate_left
                                      · simp only [Act.put, List.setIfInBounds_toArray, List.set_cons_zero, List.set_cons_succ, i64_w, i32_w]
                                        rfl
                                      refine pure_ (i := 56) (N := some 143) (v := ?_) (a' := ?_) #[true, true, true, true, true, true, true, true, true, true, true, true, true, true, true, true, true, true, true, true, true, true, true, true, true, true, true, true, true, true, true, true, true, true, true, true, true, true, true, true, true, true, true, true, true, true, true, true, true, true, true, true, true, true, true, false, true, false, false, false, false] rfl rfl (any_of HT_.out (by kernel_rfl)) (fun _ _ _ h => h) (Or.inl ⟨by rfl, ?_⟩) ?_ ?_
                                      rotate_left
                                      · intro w'
                                        go_simp
                                        with_reducible rfl
                                      rotate_left
                                      · simp only [Act.put, List.setIfInBounds_toArray, List.set_cons_zero, List.set_cons_succ, i64_w, i32_w]
                                        rfl
                                      refine pure_ (i := 57) (N := some 144) (v := ?_) (a' := ?_) #[true, true, true, true, true, true, true, true, true, true, true, true, true, true, true, true, true, true, true, true, true, true, true, true, true, true, true, true, true, true, true, true, true, true, true, true, true, true, true, true, true, true, true, true, true, true, true, true, true, true, true, true, true, true, true, false, true, true, false, false, false] rfl rfl (any_of HT_.out (by kernel_rfl)) (fun _ _ _ h => h) (Or.inl ⟨by rfl, ?_⟩) ?_ ?_
                                      rotate_left
                                      · intro w'
                                        go_simp
                                        with_reducible rfl
                                      rotate_left
                                      · simp only [Act.put, List.setIfInBounds_toArray, List.set_cons_zero, List.set_cons_succ, i64_w, i32_w]
                                        rfl
                                      refine one_ (i := 55) (N := some 142) #[true, true, true, true, true, true, true, true, true, true, true, true, true, true, true, true, true, true, true, true, true, true, true, true, true, true, true, true, true, true, true, true, true, true, true, true, true, true, true, true, true, true, true, true, true, true, true, true, true, true, true, true, true, true, true, true, true, true, false, false, false] rfl rfl (one_of HT_.out (by kernel_rfl)) (by decide) (fun K hK => ?_)
                                      refine goes_ Try.func28 (by kernel_rfl) rfl #[.slice (some ad170) y167.length co19, .int .i64 19] (by rfl) rfl rfl (by (try simp only [List.map_toArray, List.map_cons, List.map_nil]); first | done | rfl | (simp only [List.length_drop, List.length_take]; rfl)) ?_
                                      with_reducible refine (facts_Upto.calls _ _ y167 19 t229 _ ?side1 ?side2 A67.out).mono ?_
                                      (case side1 => repeat (first | exact (Kd.R_reads' HO_1.out).2.2 | (with_reducible refine Kd.C_alloc ?_ _) | (with_reducible refine Kd.C_drewN ?_ _) | (with_reducible refine Kd.C_drew ?_)))
                                      (case side2 => exact (Kd.R_reads' HO_1.out).2.1)
                                      rintro e w86 ⟨v230, rfl, ho0, hb⟩
                                      refine ⟨_, rfl, ?_⟩
                                      have n0_ := Aside0.mk (Kd.R_elder' (by (with_reducible repeat (first | apply Kd.R_alloc | apply Kd.R_drewN | apply Kd.R_drew)); exact HO_1.out) (Kd.R_base ho0) hb)
                                      have n1_ := Aside0.mk (Kd.R_elder' (by (with_reducible repeat (first | apply Kd.R_alloc | apply Kd.R_drewN | apply Kd.R_drew)); exact HO_11.out) (Kd.R_base ho0) hb)
                                      have n2_ := Aside0.mk (Kd.N_elder' (by (with_reducible repeat (first | apply Kd.N_alloc | apply Kd.N_drewN | apply Kd.N_drew)); exact HO_15.out) (Kd.R_base ho0) hb)
                                      have n3_ := Aside0.mk (Kd.N_elder' (by (with_reducible repeat (first | apply Kd.N_alloc | apply Kd.N_drewN | apply Kd.N_drew)); exact HO219.out) (Kd.R_base ho0) hb)
                                      have n4_ := Aside0.mk (Kd.R_below (by (with_reducible repeat (first | apply Kd.R_alloc | apply Kd.R_drewN | apply Kd.R_drew)); exact HO224.out) hb)
                                      have n5_ := Aside0.mk (Kd.R_below (by (with_reducible repeat (first | apply Kd.R_alloc | apply Kd.R_drewN | apply Kd.R_drew)); exact HO228.out) hb)
                                      have n6_ := Aside0.mk (Kd.R_lower (Kd.R_new' (Kd.R_new' ho0 (Kd.R_lt (by (with_reducible repeat (first | apply Kd.R_alloc | apply Kd.R_drewN | apply Kd.R_drew)); exact HO_1.out))) (Kd.R_lt (by (with_reducible repeat (first | apply Kd.R_alloc | apply Kd.R_drewN | apply Kd.R_drew)); exact HO_11.out))) (below_size (by repeat (first | (with_reducible first | exact HB.out | apply below_alloc | apply pw_below_drewN | apply below_drew1 | refine below_set ?_ GE171.out) | exact HB.out))))
                                      have n7_ := Aside0.mk (blk_below (g := gb171) (o := .cells #[.int .i64 ((rd_T28 y167 0).f0.f0), .int .i64 ((rd_T28 y167 0).f0.f1), .int .i64 ((rd_T28 y167 0).f0.f2)] 24 (0, 0)) (by (with_reducible repeat (first | refine blk_drewN ?_ _ | refine blk_drew ?_ | refine blk_alloc ?_ _)); exact BK171.out) hb)
                                      have n8_ := Aside0.mk (below_step (by repeat (first | (with_reducible first | exact HB.out | apply below_alloc | apply pw_below_drewN | apply below_drew1 | refine below_set ?_ GE171.out) | exact HB.out)) hb)
                                      clear HO_1
                                      clear HO_11
                                      clear HO_15
                                      clear HO219
                                      clear HO224
                                      clear HO228
                                      clear BK171
                                      clear HB
                                      have HO_1 := n0_
                                      have HO_11 := n1_
                                      have HO_15 := n2_
                                      have HO219 := n3_
                                      have HO224 := n4_
                                      have HO228 := n5_
                                      have HO231 := n6_
                                      have BK171 := n7_
                                      have HB := n8_
                                      clear n0_ n1_ n2_ n3_ n4_ n5_ n6_ n7_ n8_
                                      (try clear hb)
                                      (try clear hb2)
                                      (try clear hk)
                                      (try clear hi)
                                      (try clear ho0)
                                      have q87 : (1 : Int) ≤ ((y167.length : Int) : Int) := of_decide_eq_true (by first | (with_reducible assumption) | assumption)
                                      obtain ⟨i087, hi087, _, hsz87, _⟩ := info_parts info28
                                      have hroom87 : y167.length ≤ co19 := (Kd.R_reads' HO_1.out).2.1
                                      have hC87 : Kd.F k28 _ _ (some ad170) y167.length y167 := (Kd.V_at (base := w.heap.size) (Kd.R_V (Kd.R_types (Kd.R_apart' (Kd.R_apart' (Kd.R_apart' (Kd.R_apart' (HO_1.out) (Kd.N_typed HO_15.out) (by decide)) (Kd.N_typed HO219.out) (by decide)) (Kd.R_typed HO224.out) (by decide)) (Kd.R_typed HO228.out) (by decide)) BK171.out (by decide)))).2.2
                                      have hcut87 := cut_to (P := Try.prog) 22 28 .i64 Try.underlying22 hi087 (some ad170) y167.length co19 1 (by omega) q87 hroom87
                                      have hr87 := Kd.F_take (m := 1) hC87 (by omega)
                                      have hy87 : y232.length = (1 : Int).toNat := (by rw [Ny232.out, List.length_take]; omega)
                                      rw [← Ny232.out] at hr87
                                      rw [← hy87] at hcut87
                                      have HO236 := Aside0.mk (show Kd.V k28 28 _ w.heap.size _ (.slice (some ad170) y232.length co19) y232 from Kd.V_mk (by omega) hr87)
                                      have HC236 := Aside0.mk (show y232.length ≤ co19 from by omega)
                                      clear hr87 hC87 hroom87 hi087 hsz87
                                      have KY87 := Aside0.mk hy87
                                      clear hy87
                                      replace q87 := eq_true q87
                                      obtain ⟨Ao88, co88, eo88⟩ := Kd.R_slice HO231.out
                                      (first | subst eo88 | (injection eo88 with f1_ f2_ f3_; have f4_ := f1_.symm; have f5_ := f3_.symm; clear f1_ f2_ f3_; subst f4_; subst f5_))
                                      refine hK.out _ _ ⟨(blk_cell BK171.out 0).trans rfl, (blk_cell BK171.out 1).trans rfl, (blk_cell BK171.out 2).trans rfl⟩ (fun hHeld => ?_)
                                      clear hK K
                                      refine norm_ (a' := ?_) ?_ ?_
                                      rotate_left
                                      · show Act.put _ (some 142) _ = _
                                        simp only [Act.put, List.setIfInBounds_toArray, List.set_cons_zero, List.set_cons_succ, i64_w, i32_w]
                                        rfl
                                      refine one_ (i := 58) (N := some 145) #[true, true, true, true, true, true, true, true, true, true, true, true, true, true, true, true, true, true, true, true, true, true, true, true, true, true, true, true, true, true, true, true, true, true, true, true, true, true, true, true, true, true, true, true, true, true, true, true, true, true, true, true, true, true, true, true, true, true, true, false, false] rfl rfl (one_of HT_.out (by kernel_rfl)) (by decide) (fun K hK => ?_)
                                      refine goes_ Try.func17 (by kernel_rfl) rfl #[.slice Ao88 t229.length co88, .slice (some ad170) y232.length co19] (by rfl) rfl rfl (by (try simp only [List.map_toArray, List.map_cons, List.map_nil]); have e1_ := KY30.out; have e2_ := KY87.out; have e3_ : y232.length = y180.length := e2_.trans e1_.symm; rw [e3_]; with_unfolding_all rfl) ?_
                                      with_reducible refine (sizarref07_Same.calls kj13 _ _ t229 _ _ y232 t237 _ ?side1 ?side2 ?side3 ?side4 A69.out).mono ?_
                                      (case side1 => repeat (first | exact (Kd.R_reads' HO231.out).2.2 | (with_reducible refine Kd.C_alloc ?_ _) | (with_reducible refine Kd.C_drewN ?_ _) | (with_reducible refine Kd.C_drew ?_)))
                                      (case side2 => exact (Kd.R_reads' HO231.out).2.1)
                                      (case side3 => repeat (first | exact (Kd.V_reads' HO236.out).2.2 | (with_reducible refine Kd.C_alloc ?_ _) | (with_reducible refine Kd.C_drewN ?_ _) | (with_reducible refine Kd.C_drew ?_)))
                                      (case side4 => exact (Kd.V_reads' HO236.out).2.1)
                                      rintro e w' ⟨rfl, ⟨nd, rfl⟩⟩
                                      refine ⟨_, rfl, ?_⟩
                                      refine hK.out _ _ ⟨(blk_cell BK171.out 0).trans rfl, (blk_cell BK171.out 1).trans rfl, (blk_cell BK171.out 2).trans rfl⟩ (fun hHeld => ?_)
                                      clear hK K
                                      refine norm_ (a' := ?_) ?_ ?_
                                      rotate_left
                                      · show Act.put _ (some 145) _ = _
                                        simp only [Act.put, List.setIfInBounds_toArray, List.set_cons_zero, List.set_cons_succ, i64_w, i32_w]
                                        rfl
                                      refine pure_ (i := 59) (N := some 146) (v := ?_) (a' := ?_) #[true, true, true, true, true, true, true, true, true, true, true, true, true, true, true, true, true, true, true, true, true, true, true, true, true, true, true, true, true, true, true, true, true, true, true, true, true, true, true, true, true, true, true, true, true, true, true, true, true, true, true, true, true, true, true, true, true, true, true, true, false] rfl rfl (any_of HT_.out (by kernel_rfl)) (fun _ _ _ h => h) (Or.inl ⟨by rfl, ?_⟩) ?_ ?_
                                      rotate_left
                                      · intro w'
                                        go_simp
                                        with_reducible rfl
                                      rotate_left
                                      · simp only [Act.put, List.setIfInBounds_toArray, List.set_cons_zero, List.set_cons_succ, i64_w, i32_w]
                                        rfl
                                      refine pure_ (i := 60) (N := some 0) (v := ?_) (a' := ?_) #[true, true, true, true, true, true, true, true, true, true, true, true, true, true, true, true, true, true, true, true, true, true, true, true, true, true, true, true, true, true, true, true, true, true, true, true, true, true, true, true, true, true, true, true, true, true, true, true, true, true, true, true, true, true, true, true, true, true, true, true, true] rfl rfl (any_of HT_.out (by kernel_rfl)) (fun _ _ _ h => h) (Or.inl ⟨by rfl, ?_⟩) ?_ ?_
                                      rotate_left
                                      · intro w'
                                        go_simp
                                        with_reducible rfl
                                      rotate_left
                                      · simp only [Act.put, List.setIfInBounds_toArray, List.set_cons_zero, List.set_cons_succ, i64_w, i32_w]
                                        rfl
                                      refine done_ (done_of HT_.out (by kernel_rfl)) ?_
                                      try go_wp2
                                      go_ret
                                      exact ⟨by first | rfl | (simp [errW_none, errW_some] <;> rfl) | (simp [*, errW_none, errW_some] <;> rfl), by repeat (first | (with_reducible first | exact HB.out | apply below_alloc | apply pw_below_drewN | apply below_drew1 | refine below_set ?_ GE171.out) | exact HB.out)⟩
                                    · rw [if_neg c68] at H
                                      exact absurd H (by simp)
                                  · rw [if_neg c66] at H
                                    have c66b0 : ((t226.length : Int) == 3) = false := beq_eq_false_iff_ne.mpr c66
                                    have c66b1 : ((t226.length : Int) != 3) = true := bne_iff_ne.mpr c66
                                    exact absurd H (by simp)
                              · replace c62 := Bool.eq_false_iff.mpr c62
                                subst c62
                                have H1 : (none) = some r := by rw [if_neg (show ¬ (false = true) by decide)] at H; exact H
                                clear H
                                have H := H1
                                clear H1
                                exact absurd H (by simp)
                            · replace c60 := Bool.eq_false_iff.mpr c60
                              subst c60
                              have H1 : (none) = some r := by rw [if_neg (show ¬ (false = true) by decide)] at H; exact H
                              clear H
                              have H := H1
                              clear H1
                              exact absurd H (by simp)
                          · replace c58 := Bool.eq_false_iff.mpr c58
                            subst c58
                            have H1 : (none) = some r := by rw [if_neg (show ¬ (false = true) by decide)] at H; exact H
                            clear H
                            have H := H1
                            clear H1
                            exact absurd H (by simp)
                      · replace c55 := Bool.eq_false_iff.mpr c55
                        subst c55
                        have H1 : (none) = some r := by rw [if_neg (show ¬ (false = true) by decide)] at H; exact H
                        clear H
                        have H := H1
                        clear H1
                        exact absurd H (by simp)
                    · rw [if_neg c54] at H
                      have c54b0 : (t176 == 7) = false := beq_eq_false_iff_ne.mpr c54
                      have c54b1 : (t176 != 7) = true := bne_iff_ne.mpr c54
                      exact absurd H (by simp)
                · replace c52 := Bool.eq_false_iff.mpr c52
                  subst c52
                  have H1 : (none) = some r := by rw [if_neg (show ¬ (false = true) by decide)] at H; exact H
                  clear H
                  have H := H1
                  clear H1
                  exact absurd H (by simp)
              · rw [if_neg c51] at H
                have c51b0 : (t172 == 7) = false := beq_eq_false_iff_ne.mpr c51
                have c51b1 : (t172 != 7) = true := bne_iff_ne.mpr c51
                exact absurd H (by simp)
      · rw [if_neg c9] at H
        exact absurd H (by simp)
    · rw [if_neg c8] at H
      exact absurd H (by simp)
  · rw [if_neg c3] at H
    exact absurd H (by simp)
end Go.Proofs.Ytamajnhdibcpiaa.G
namespace Go.Proofs.Ytamajnhdibcpiaa.G
open Go.RowKit Go.Proofs.YtamajnhdibcpiaaW.PrintWords Go.Proofs.YtamajnhdibcpiaaW.PrintLast Go.Proofs.YtamajnhdibcpiaaW.PrintMore
attribute [local go_sem] max2_int min2_int max_two min_two max_three min_three max_four min_four   -- for this text's walks alone
set_option linter.unusedVariables false
set_option linter.unusedSimpArgs false
def sizarref07_Few.f (l0 : List (S28)) : Option (Bool) := some (decide ((l0.length : Int) ≤ 30))
set_option maxHeartbeats 8000000 in
set_option maxRecDepth 100000 in
theorem sizarref07_Few.calls (A0 : Option Addr) (c0 : Nat) (l0 : List (S28)) (r : Bool) (w : World) (hr0 : Kd.C k28 w A0 l0.length l0) (hc0 : l0.length ≤ c0) (h : sizarref07_Few.f l0 = some r) :
    Calls Try.prog 12 #[.slice A0 l0.length c0] w fun e w' => e = .returned (.bool r) ∧ Drawn0 w w' := by
  have HR0 := Aside0.mk hr0
  have HC0 := Aside0.mk hc0
  clear hr0 hc0
  have H : (some (decide ((l0.length : Int) ≤ 30))) = some r := h
  clear h
  obtain rfl := Option.some.inj H
  go_enter Try.func12, Try.ntmps12
  go_wp2
  go_ret
  exact ⟨by first | rfl | (simp; done) | (simp [*]; done), by repeat (first | exact Drawn0.refl _ | apply Drawn0.step)⟩
end Go.Proofs.Ytamajnhdibcpiaa.G
namespace Go.Proofs.Ytamajnhdibcpiaa.G
open Go.RowKit Go.Proofs.YtamajnhdibcpiaaW.PrintWords Go.Proofs.YtamajnhdibcpiaaW.PrintLast Go.Proofs.YtamajnhdibcpiaaW.PrintMore
attribute [local go_sem] max2_int min2_int max_two min_two max_three min_three max_four min_four   -- for this text's walks alone
set_option linter.unusedVariables false
set_option linter.unusedSimpArgs false
end Go.Proofs.Ytamajnhdibcpiaa.G
namespace Go.Proofs.Ytamajnhdibcpiaa.G
open Go.RowKit Go.Proofs.YtamajnhdibcpiaaW.PrintWords Go.Proofs.YtamajnhdibcpiaaW.PrintLast Go.Proofs.YtamajnhdibcpiaaW.PrintMore
attribute [local go_sem] max2_int min2_int max_two min_two max_three min_three max_four min_four   -- for this text's walks alone
set_option linter.unusedVariables false
set_option linter.unusedSimpArgs false
end Go.Proofs.Ytamajnhdibcpiaa.G
namespace Go.Proofs.Ytamajnhdibcpiaa.G
open Go.RowKit Go.Proofs.YtamajnhdibcpiaaW.PrintWords Go.Proofs.YtamajnhdibcpiaaW.PrintLast Go.Proofs.YtamajnhdibcpiaaW.PrintMore
attribute [local go_sem] max2_int min2_int max_two min_two max_three min_three max_four min_four   -- for this text's walks alone
set_option linter.unusedVariables false
set_option linter.unusedSimpArgs false
end Go.Proofs.Ytamajnhdibcpiaa.G
namespace Go.Proofs.Ytamajnhdibcpiaa.G
open Go.RowKit Go.Proofs.YtamajnhdibcpiaaW.PrintWords Go.Proofs.YtamajnhdibcpiaaW.PrintLast Go.Proofs.YtamajnhdibcpiaaW.PrintMore
attribute [local go_sem] max2_int min2_int max_two min_two max_three min_three max_four min_four   -- for this text's walks alone
set_option linter.unusedVariables false
set_option linter.unusedSimpArgs false
attribute [local go_sem high] eqA60
def sizarref07_SamePoints.l0 : Nat → List (S60) → List (S60) → Int → Option (Bool)
  | 0, _, _, _ => none
  | k + 1, x0, x1, x5 => if x5 < (x0.length : Int) then (if 0 ≤ x5 then (if x5 < (x1.length : Int) then (if (!(((rd_T60 x0 x5).f0) == ((rd_T60 x1 x5).f0)) || (!(((rd_T60 x0 x5).f1) == ((rd_T60 x1 x5).f1)))) = true then (some false) else (sizarref07_SamePoints.l0 k x0 x1 (wrap64 (x5 + 1)))) else (none)) else (none)) else (some true)
def sizarref07_SamePoints.f (k : Nat) (l0 : List (S60)) (l1 : List (S60)) : Option (Bool) := if (l0.length : Int) = (l1.length : Int) then (sizarref07_SamePoints.l0 k l0 l1 0) else (some false)
theorem sizarref07_SamePoints.mono_l : ∀ k, (∀ y0 y1 y2, LeO (sizarref07_SamePoints.l0 k y0 y1 y2) (sizarref07_SamePoints.l0 (k + 1) y0 y1 y2))
  | 0 => fun _ _ _ r h => by simp [sizarref07_SamePoints.l0] at h
  | k + 1 => by
    have ih0 := sizarref07_SamePoints.mono_l k
    · intro y0 y1 y2
      unfold sizarref07_SamePoints.l0
      repeat' first
      | (with_reducible exact ih0 _ _ _)
      | (with_reducible exact LeO.refl _)
      | (with_reducible exact LeO.none _)
      | (with_reducible refine LeO.ite ?_ ?_)
      | (with_reducible refine LeO.bind ?_ (fun _ => ?_))
      | exact ih0 _ _ _
      | exact LeO.none _
      | refine LeO.ite ?_ ?_
      | refine LeO.bind ?_ (fun _ => ?_)
theorem sizarref07_SamePoints.mono : ∀ a0 a1 k, LeO (sizarref07_SamePoints.f k a0 a1) (sizarref07_SamePoints.f (k + 1) a0 a1) := by
  intro a0 a1 k
  have ih0 := sizarref07_SamePoints.mono_l k
  unfold sizarref07_SamePoints.f
  repeat' first
      | (with_reducible exact ih0 _ _ _)
      | (with_reducible exact LeO.refl _)
      | (with_reducible exact LeO.none _)
      | (with_reducible refine LeO.ite ?_ ?_)
      | (with_reducible refine LeO.bind ?_ (fun _ => ?_))
      | exact ih0 _ _ _
      | exact LeO.none _
      | refine LeO.ite ?_ ?_
      | refine LeO.bind ?_ (fun _ => ?_)
set_option maxHeartbeats 8000000 in
set_option maxRecDepth 100000 in
theorem sizarref07_SamePoints.calls (k : Nat) (A0 : Option Addr) (c0 : Nat) (l0 : List (S60)) (A1 : Option Addr) (c1 : Nat) (l1 : List (S60)) (r : Bool) (w : World) (hr0 : Kd.C k60 w A0 l0.length l0) (hc0 : l0.length ≤ c0) (hr1 : Kd.C k60 w A1 l1.length l1) (hc1 : l1.length ≤ c1) (h : sizarref07_SamePoints.f k l0 l1 = some r) :
    Calls Try.prog 20 #[.slice A0 l0.length c0, .slice A1 l1.length c1] w fun e w' => e = .returned (.bool r) ∧ Drawn0 w w' := by
  have hu60 := Try.underlying60
  have HR0 := Aside0.mk hr0
  have HC0 := Aside0.mk hc0
  clear hr0 hc0
  have HR1 := Aside0.mk hr1
  have HC1 := Aside0.mk hc1
  clear hr1 hc1
  have H : (if (l0.length : Int) = (l1.length : Int) then (sizarref07_SamePoints.l0 k l0 l1 0) else (some false)) = some r := h
  clear h
  by_cases c3 : (l0.length : Int) = (l1.length : Int)
  · rw [if_pos c3] at H
    have c3b0 : ((l0.length : Int) == (l1.length : Int)) = true := beq_iff_eq.mpr c3
    have c3b1 : ((l0.length : Int) != (l1.length : Int)) = false := bne_eq_false_iff_eq.mpr c3
    have c3b2 : (l0.length == l1.length) = true := by first | simpa using c3 | (simp at c3 ⊢; omega)
    clear c3
    have H' := Aside0.mk H
    clear H
    go_enter Try.func20, Try.ntmps20
    go_wp2
    repeat (go_quiet (fail); try go_wp2)
    go_loopg [5] k (fun kq v5 w' => ∃ (x5_1 : Int), v5 = .int .i64 x5_1 ∧ Aside0 (sizarref07_SamePoints.l0 kq l0 l1 x5_1 = some r) ∧ Aside0 (kq ≤ k) ∧ Drawn0 w w')
    case atStart => exact ⟨(0), (by first | rfl | (simp; done) | (simp [*]; done)), H', ⟨Nat.le_refl _⟩, by repeat (first | exact Drawn0.refl _ | apply Drawn0.step)⟩
    case round =>
      clear H'
      try clear c1
      try clear c2
      try clear p2
      try clear c3
      try clear c3b0
      try clear c3b1
      try clear c3b2
      obtain ⟨x5_1, rfl, HA, HK1, ⟨m1, rfl⟩⟩ := hrel
      cases gk with
      | zero => exact absurd HA.out (by simp [sizarref07_SamePoints.l0])
      | succ k1 =>
        have H := HA.out
        clear HA
        simp only [sizarref07_SamePoints.l0] at H
        by_cases c4 : x5_1 < (l0.length : Int)
        · rw [if_pos c4] at H
          have c4b0 : decide (x5_1 < (l0.length : Int)) = true := decide_eq_true c4
          clear c4
          by_cases c5 : 0 ≤ x5_1
          · rw [if_pos c5] at H
            have c5b0 : decide (0 ≤ x5_1) = true := decide_eq_true c5
            clear c5
            by_cases c6 : x5_1 < (l1.length : Int)
            · rw [if_pos c6] at H
              have c6b0 : decide (x5_1 < (l1.length : Int)) = true := decide_eq_true c6
              clear c6
              by_cases c7 : (!(((rd_T60 l0 x5_1).f0) == ((rd_T60 l1 x5_1).f0)) || (!(((rd_T60 l0 x5_1).f1) == ((rd_T60 l1 x5_1).f1)))) = true
              · rw [if_pos c7] at H
                have c7b0 : (!(((rd_T60 l0 x5_1).f0) == ((rd_T60 l1 x5_1).f0)) || (!(((rd_T60 l0 x5_1).f1) == ((rd_T60 l1 x5_1).f1)))) = true := c7
                clear c7
                obtain rfl := Option.some.inj H
                have p281 : 0 ≤ (x5_1 : Int) := of_decide_eq_true (by first | (with_reducible assumption) | assumption)
                have q281 : x5_1 < (l0.length : Int) := of_decide_eq_true (by first | (with_reducible assumption) | assumption)
                obtain ⟨ad281, e281, hx281_0, hx281_1⟩ := at_T60 HR0.out x5_1 p281 q281
                cases e281
                replace p281 := eq_true p281
                replace q281 := eq_true q281
                have p282 : 0 ≤ (x5_1 : Int) := of_decide_eq_true (by first | (with_reducible assumption) | assumption)
                have q282 : x5_1 < (l1.length : Int) := of_decide_eq_true (by first | (with_reducible assumption) | assumption)
                obtain ⟨ad282, e282, hx282_0, hx282_1⟩ := at_T60 HR1.out x5_1 p282 q282
                cases e282
                replace p282 := eq_true p282
                replace q282 := eq_true q282
                go_wp2
                repeat (go_quiet (fail); try go_wp2)
                go_ret
                exact ⟨by first | rfl | (simp; done) | (simp [*]; done), by repeat (first | exact Drawn0.refl _ | apply Drawn0.step)⟩
              · rw [if_neg c7] at H
                have c7b0 : (!(((rd_T60 l0 x5_1).f0) == ((rd_T60 l1 x5_1).f0)) || (!(((rd_T60 l0 x5_1).f1) == ((rd_T60 l1 x5_1).f1)))) = false := by simpa using c7
                clear c7
                have H' := Aside0.mk H
                clear H
                have p281 : 0 ≤ (x5_1 : Int) := of_decide_eq_true (by first | (with_reducible assumption) | assumption)
                have q281 : x5_1 < (l0.length : Int) := of_decide_eq_true (by first | (with_reducible assumption) | assumption)
                obtain ⟨ad281, e281, hx281_0, hx281_1⟩ := at_T60 HR0.out x5_1 p281 q281
                cases e281
                replace p281 := eq_true p281
                replace q281 := eq_true q281
                have p282 : 0 ≤ (x5_1 : Int) := of_decide_eq_true (by first | (with_reducible assumption) | assumption)
                have q282 : x5_1 < (l1.length : Int) := of_decide_eq_true (by first | (with_reducible assumption) | assumption)
                obtain ⟨ad282, e282, hx282_0, hx282_1⟩ := at_T60 HR1.out x5_1 p282 q282
                cases e282
                replace p282 := eq_true p282
                replace q282 := eq_true q282
                go_wp2
                repeat (go_quiet (fail); try go_wp2)
                go_roundg k1
                case measure => have := HK1.out; omega
                case rel => exact ⟨(wrap64 (x5_1 + 1)), (by first | rfl | (simp; done) | (simp [*]; done)), H', ⟨by have := HK1.out; omega⟩, by repeat (first | exact Drawn0.refl _ | apply Drawn0.step)⟩
            · rw [if_neg c6] at H
              exact absurd H (by simp)
          · rw [if_neg c5] at H
            exact absurd H (by simp)
        · rw [if_neg c4] at H
          have c4b0 : decide (x5_1 < (l0.length : Int)) = false := decide_eq_false c4
          clear c4
          obtain rfl := Option.some.inj H
          go_wp2
          repeat (go_quiet (fail); try go_wp2)
          go_ret
          exact ⟨by first | rfl | (simp; done) | (simp [*]; done), by repeat (first | exact Drawn0.refl _ | apply Drawn0.step)⟩
  · rw [if_neg c3] at H
    have c3b0 : ((l0.length : Int) == (l1.length : Int)) = false := beq_eq_false_iff_ne.mpr c3
    have c3b1 : ((l0.length : Int) != (l1.length : Int)) = true := bne_iff_ne.mpr c3
    have c3b2 : (l0.length == l1.length) = false := by first | simpa using c3 | (simp at c3 ⊢; omega)
    obtain rfl := Option.some.inj H
    go_enter Try.func20, Try.ntmps20
    go_wp2
    repeat (go_quiet (fail); try go_wp2)
    go_ret
    exact ⟨by first | rfl | (simp; done) | (simp [*]; done), by repeat (first | exact Drawn0.refl _ | apply Drawn0.step)⟩
end Go.Proofs.Ytamajnhdibcpiaa.G
