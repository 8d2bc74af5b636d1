/- slices.SortFunc of meetings by where they begin: the library's contract laid at this program, the comparison's own contract, and what the sorted row reads as. -/
import Derived.Shelf.SlSortCmp.WholeK
import Derived.Test.YtlcckkimbkfjpaaGcheck
namespace Go.Proofs
open Go.Shelf
def Try.sortM_ren : Go.Shelf.Ren := ⟨fun | 6 => 24 | 15 => 36 | 14 => 35 | 28 => 47 | 29 => 48 | 20 => 39 | 21 => 40 | 22 => 41 | 23 => 42 | 24 => 43 | 25 => 44 | 26 => 45 | 27 => 46 | 46 => 49 | 47 => 50 | 48 => 51 | 49 => 52 | 50 => 53 | 57 => 54 | n => n, fun | 22 => 22 | 24 => 38 | 25 => 51 | 3 => 3 | 39 => 62 | 0 => 0 | 53 => 73 | 55 => 75 | 4 => 4 | 46 => 66 | 45 => 65 | 50 => 70 | 5 => 5 | 9 => 9 | 66 => 76 | 70 => 80 | 76 => 82 | 77 => 83 | n => n, fun | n => n⟩
theorem Try.sortM : Go.Proofs.SlLaysF0.n6 Try.prog Try.sortM_ren := {
  mixed := by kernel_rfl
  f6 := ⟨Try.f24.name, by decide, Try.func24.trans (congrArg some (by kernel_rfl))⟩
  f14 := ⟨Try.f35.name, by decide, Try.func35.trans (congrArg some (by kernel_rfl))⟩
  f15 := Try.func36.trans (congrArg some (by kernel_rfl))
  f20 := ⟨Try.f39.name, by decide, Try.func39.trans (congrArg some (by kernel_rfl))⟩
  f21 := ⟨Try.f40.name, by decide, Try.func40.trans (congrArg some (by kernel_rfl))⟩
  f22 := ⟨Try.f41.name, by decide, Try.func41.trans (congrArg some (by kernel_rfl))⟩
  f23 := ⟨Try.f42.name, by decide, Try.func42.trans (congrArg some (by kernel_rfl))⟩
  f24 := ⟨Try.f43.name, by decide, Try.func43.trans (congrArg some (by kernel_rfl))⟩
  f25 := ⟨Try.f44.name, by decide, Try.func44.trans (congrArg some (by kernel_rfl))⟩
  f26 := ⟨Try.f45.name, by decide, Try.func45.trans (congrArg some (by kernel_rfl))⟩
  f27 := ⟨Try.f46.name, by decide, Try.func46.trans (congrArg some (by kernel_rfl))⟩
  f28 := Try.func47.trans (congrArg some (by kernel_rfl))
  f29 := Try.func48.trans (congrArg some (by kernel_rfl))
  f46 := ⟨Try.f49.name, by decide, Try.func49.trans (congrArg some (by kernel_rfl))⟩
  f47 := Try.func50.trans (congrArg some (by kernel_rfl))
  f48 := Try.func51.trans (congrArg some (by kernel_rfl))
  f49 := ⟨Try.f52.name, by decide, Try.func52.trans (congrArg some (by kernel_rfl))⟩
  f50 := ⟨Try.f53.name, by decide, Try.func53.trans (congrArg some (by kernel_rfl))⟩
  f57 := ⟨Try.f54.name, by decide, Try.func54.trans (congrArg some (by kernel_rfl))⟩
  t0 := Try.underlying0
  a0 := Try.isAgg0
  z0 := Try.sizeOf0
  v0 := Try.zeroValue0
  t3 := Try.underlying3
  a3 := Try.isAgg3
  z3 := Try.sizeOf3
  v3 := Try.zeroValue3
  t4 := Try.underlying4
  a4 := Try.isAgg4
  z4 := Try.sizeOf4
  v4 := Try.zeroValue4
  t5 := Try.underlying5
  a5 := Try.isAgg5
  z5 := Try.sizeOf5
  v5 := Try.zeroValue5
  t9 := Try.underlying9
  a9 := Try.isAgg9
  z9 := Try.sizeOf9
  v9 := Try.zeroValue9
  t22 := Try.underlying22
  a22 := Try.isAgg22
  z22 := Try.sizeOf22
  v22 := Try.zeroValue22
  t25 := Try.underlying51
  a25 := Try.isAgg51
  z25 := Try.sizeOf51
  v25 := Try.zeroValue51
  t39 := Try.underlying62
  a39 := Try.isAgg62
  z39 := Try.sizeOf62
  v39 := Try.zeroValue62
  t45 := Try.underlying65
  a45 := Try.isAgg65
  z45 := Try.sizeOf65
  v45 := Try.zeroValue65
  t46 := Try.underlying66
  a46 := Try.isAgg66
  z46 := Try.sizeOf66
  v46 := Try.zeroValue66
  t50 := Try.underlying70
  a50 := Try.isAgg70
  z50 := Try.sizeOf70
  v50 := Try.zeroValue70
  t53 := Try.underlying73
  a53 := Try.isAgg73
  z53 := Try.sizeOf73
  v53 := Try.zeroValue73
  t55 := Try.underlying75
  a55 := Try.isAgg75
  z55 := Try.sizeOf75
  v55 := Try.zeroValue75
  t66 := Try.underlying76
  a66 := Try.isAgg76
  z66 := Try.sizeOf76
  v66 := Try.zeroValue76
  t70 := Try.underlying80
  a70 := Try.isAgg80
  z70 := Try.sizeOf80
  v70 := Try.zeroValue80
  t76 := Try.underlying82
  a76 := Try.isAgg82
  z76 := Try.sizeOf82
  v76 := Try.zeroValue82
  t77 := Try.underlying83
  a77 := Try.isAgg83
  z77 := Try.sizeOf83
  v77 := Try.zeroValue83 }
end Go.Proofs
namespace Go.Proofs.Ytlcckkimbkfjpaa.G
open Go.RowKit Go.Shelf Go.Proofs.YtlcckkimbkfjpaaW.PrintWords Go.Proofs.YtlcckkimbkfjpaaW.PrintLast Go.Proofs.YtlcckkimbkfjpaaW.PrintMore
open Go.Sort hiding Below
set_option linter.unusedVariables false
instance : Inhabited S38 := ⟨z38⟩
def enc38 (x : S38) : List Value := [.int .i64 x.f0, .int .i64 x.f1, .int .i64 x.f2, .int .i64 x.f3, .int .i64 x.f4]
theorem compare_f (a b : Int) : cmp_Compare_int.f a b = some (Lib.compareInt a b) := by
  unfold cmp_Compare_int.f cmp_isNaN_int.f Lib.compareInt
  simp
  split <;> (try rfl)
  split <;> rfl
set_option maxHeartbeats 1000000 in
theorem closure25 (x y : S38) (W : World) : Calls Try.prog 25 #[.agg #[.int .i64 x.f0, .int .i64 x.f1, .int .i64 x.f2, .int .i64 x.f3, .int .i64 x.f4], .agg #[.int .i64 y.f0, .int .i64 y.f1, .int .i64 y.f2, .int .i64 y.f3, .int .i64 y.f4]] W fun e w' => e = .returned (.int .i64 (Lib.compareInt x.f1 y.f1)) ∧ ∃ q os', w' = Go.Sort.grow (W.drewN q) os' := by
  have hcon := fun W' => cmp_Compare_int.calls x.f1 y.f1 _ W' (compare_f x.f1 y.f1)
  generalize Lib.compareInt x.f1 y.f1 = r at hcon ⊢
  have hu38 := Try.underlying38
  have HC := Aside0.mk hcon
  clear hcon
  go_enter Try.func25, Try.ntmps25
  go_wp2_with (go_at_call 26; refine (HC.out _).mono ?_; rintro e w' ⟨rfl, ⟨nd, rfl⟩⟩)
  go_ret
  exact ⟨rfl, nd, #[.cells #[.int .i64 x.f0, .int .i64 x.f1, .int .i64 x.f2, .int .i64 x.f3, .int .i64 x.f4] 38, .cells #[.int .i64 y.f0, .int .i64 y.f1, .int .i64 y.f2, .int .i64 y.f3, .int .i64 y.f4] 38], by rw [Go.Sort.alloc_eq_grow, Go.Sort.alloc_eq_grow, Go.Sort.grow_grow]; rfl⟩
theorem ltFrom (x y : S38) : ltOf (fun x y : S38 => Lib.compareInt x.f1 y.f1) x y = decide (x.f1 < y.f1) := by
  unfold ltOf Lib.compareInt
  by_cases h1 : x.f1 < y.f1
  · simp [h1]
  · by_cases h2 : y.f1 < x.f1 <;> simp [h1, h2]
theorem swoFrom : Go.Sort.SWO (ltOf fun x y : S38 => Lib.compareInt x.f1 y.f1) where
  irrefl x := by rw [ltFrom]; simp
  trans x y z h1 h2 := by rw [ltFrom] at *; simp at *; omega
  ntrans x y z h1 h2 := by rw [ltFrom] at *; simp at *; omega
/-- The sorted list. -/
def sortM (l : List S38) : List S38 := (Go.Sort.pdq (ltOf fun x y : S38 => Lib.compareInt x.f1 y.f1) l.toArray 0 l.length (Lib.bitLen l.length) true true).toList
theorem sortM_spec (l : List S38) : (sortM l).Perm l ∧ (sortM l).Pairwise (fun x y => x.f1 ≤ y.f1) := by
  have h := Go.Sort.pdq_sorts (ltOf fun x y : S38 => Lib.compareInt x.f1 y.f1) swoFrom l.toArray 0 l.length (Lib.bitLen l.length) true true (Nat.zero_le _) (by simp) (Or.inl rfl)
  obtain ⟨h1, h2, h3⟩ := h.1
  have hs : (Go.Sort.pdq (ltOf fun x y : S38 => Lib.compareInt x.f1 y.f1) l.toArray 0 l.length (Lib.bitLen l.length) true true).size = l.length := by rw [h1]; simp
  refine ⟨?_, ?_⟩
  · unfold sortM
    have e : ∀ d : Array S38, d.size = l.length → d.extract 0 l.length = d := fun d hd => by rw [← hd]; simp
    rw [e _ hs, e _ (by simp)] at h3
    simpa using h3
  · have h4 := h.2
    unfold sortM
    rw [List.pairwise_iff_getElem]
    intro i j hi hj hij
    rw [Array.length_toList, hs] at hi hj
    have := h4 i j (Nat.zero_le _) hij hj
    rw [ltFrom, getElem!_pos _ i (by rw [hs]; exact hi), getElem!_pos _ j (by rw [hs]; exact hj)] at this
    simp at this ⊢
    omega
theorem sortM_length (l : List S38) : (sortM l).length = l.length := (sortM_spec l).1.length_eq

/-- A row of one's own, as the sort takes it. -/
theorem holds38 {w : World} {base g cap : Nat} {xs : List S38} (h : Kd.R k38 38 w base (fun _ => True) (.slice (some ⟨g, 0, none⟩) xs.length cap) xs) : HoldsK enc38 5 w g 0 xs.toArray := by
  obtain ⟨cur, hh⟩ : ∃ cur, w.heap[g]? = some (.cells cur 38 (0, 0)) := by
    obtain ⟨_, inner, hown, _⟩ := h
    rcases hown.2 with ⟨e, _⟩ | ⟨g', cap', cur, e, h1, h2, _⟩
    · cases e
    · cases e; exact ⟨cur, h2⟩
  intro t ht
  simp only [size_flatK, List.size_toArray] at ht
  have hq : t / 5 < xs.length := by omega
  obtain ⟨ad, had, e0, e1, e2, e3, e4⟩ := at38 (Kd.R_reads' h).2.2 hq
  cases had
  simp only [add_plain] at e0 e1 e2 e3 e4
  refine ⟨?_, blk_frozen hh _⟩
  rw [get_flatK _ _ _ _ (by simpa using ht)]
  have hx : (xs.toArray)[t / 5]! = xs.getD (t / 5) z38 := by
    rw [getElem!_pos _ _ (by simpa using hq)]; simp [hq]
  rw [hx]
  obtain ⟨r, hr, hr5⟩ : ∃ r, t % 5 = r ∧ r < 5 := ⟨_, rfl, by omega⟩
  rw [hr]
  have ht' : 0 + t = t / 5 * 5 + r := by omega
  rw [ht']
  match r, hr5 with
  | 0, _ => exact e0
  | 1, _ => exact e1
  | 2, _ => exact e2
  | 3, _ => exact e3
  | 4, _ => exact e4
/-- What the sort leaves reads as the sorted list. -/
theorem reads_of_holds {w : World} {g : Nat} {xs : List S38} (h : HoldsK enc38 5 w g 0 xs.toArray) (hn : xs.length ≤ 9223372036854775807) : Kd.C k38 w (some ⟨g, 0, none⟩) xs.length xs := by
  refine ⟨rfl, hn, fun _ => ⟨_, rfl, fun j p hj => ⟨enc38 p, rfl, k38_mk w p, fun i u hu => ?_⟩⟩⟩
  obtain ⟨hl, hp⟩ := List.getElem?_eq_some_iff.1 hj
  have hi : i < 5 := by have := (List.getElem?_eq_some_iff.1 hu).1; simpa [enc38] using this
  have hs : k38.sz = 5 := rfl
  have := (h (j * 5 + i) (by simp only [size_flatK, List.size_toArray]; omega)).1
  rw [get_flatK _ _ _ _ (by simp only [List.size_toArray]; omega), show (j * 5 + i) / 5 = j by omega, show (j * 5 + i) % 5 = i by omega] at this
  rw [getElem!_pos xs.toArray j (by simpa using hl)] at this
  simp only [List.getElem_toArray, hp, Nat.zero_add, id] at this
  rw [hs, add_plain, this]
  obtain ⟨h1, h2⟩ := List.getElem?_eq_some_iff.1 hu
  rw [getElem!_pos (enc38 p) i h1, h2]
theorem below_sorted (w : World) (g m : Nat) (d : Array S38) (os : Array Obj) (base : Nat) (hg : base ≤ g) (hb : base ≤ w.heap.size) : Below base w (sortWorldK enc38 5 w g 0 m d os) := by
  refine ⟨rfl, rfl, rfl, ?_, fun k hk => ?_⟩
  · show w.heap.size ≤ ((w.heap.modify g _) ++ os).size
    simp
  · show ((w.heap.modify g _) ++ os)[k]? = w.heap[k]?
    rw [Array.getElem?_append_left (by simp; omega), Array.getElem?_modify, if_neg (by omega)]
end Go.Proofs.Ytlcckkimbkfjpaa.G
