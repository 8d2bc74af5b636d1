/- Part 27 of the proof of the claim; the conditions are the statement's own. Own texts and printed texts, merged by pack.py (ours). -/
import Derived.Test.YtamajnhdibcpiaaRows
import Derived.WalkKit
import Derived.ProofKit
import Derived.OpenShut
import Derived.ShutString
import Derived.ChangeOld
import Derived.Below
import Derived.SizedLaws
import Derived.Test.YtamajnhdibcpiaaKD4
namespace Go.Proofs.Ytamajnhdibcpiaa.G
open Go.RowKit Go.Proofs.YtamajnhdibcpiaaW.PrintWords Go.Proofs.YtamajnhdibcpiaaW.PrintLast Go.Proofs.YtamajnhdibcpiaaW.PrintMore
set_option linter.unusedVariables false
set_option linter.unusedSimpArgs false
theorem getD_set26 (l : List S26) (i j : Nat) (a d : S26) (hi : i < l.length) : (l.set i a).getD j d = if i = j then a else l.getD j d := by
  simp only [List.getD_eq_getElem?_getD, List.getElem?_set]
  split
  · rename_i h; subst h; simp [hi]
  · rfl
theorem getD_app26 (l : List S26) (j : Nat) (a d : S26) : (l ++ [a]).getD j d = if j < l.length then l.getD j d else if j = l.length then a else d := by
  simp only [List.getD_eq_getElem?_getD, List.getElem?_append]
  split
  · rfl
  · split
    · rename_i h; subst h; simp
    · rename_i h1 h2
      have : [a][j - l.length]? = none := by simp; omega
      rw [this]; rfl
def RangeOk (f g : Nat → Int) (n : Nat) (l : List S26) (j : Nat) : Prop :=
  0 ≤ (l.getD j z26).f0 ∧ (l.getD j z26).f0 < (l.getD j z26).f1 ∧ (l.getD j z26).f1 ≤ (n : Int) ∧ (∀ t : Nat, (l.getD j z26).f0 ≤ (t : Int) → (t : Int) < (l.getD j z26).f1 → f t ≠ g t) ∧ (0 < j → (l.getD (j - 1) z26).f1 < (l.getD j z26).f0)
theorem terms_ok (f g : Nat → Int) : ∀ n, (∀ j, j < (termsTo f g n).length → RangeOk f g n (termsTo f g n) j) ∧ (∀ t : Nat, t < n → f t ≠ g t → ∃ j, j < (termsTo f g n).length ∧ ((termsTo f g n).getD j z26).f0 ≤ (t : Int) ∧ (t : Int) < ((termsTo f g n).getD j z26).f1)
  | 0 => ⟨fun j hj => by simp [termsTo] at hj, fun t ht => by omega⟩
  | n + 1 => by
    obtain ⟨ih1, ih2⟩ := terms_ok f g n
    rw [termsTo_succ]
    generalize termsTo f g n = acc at ih1 ih2
    unfold stepT
    split
    · rename_i he
      refine ⟨fun j hj => ?_, fun t ht hne => ?_⟩
      · obtain ⟨a1, a2, a3, a4, a5⟩ := ih1 j hj
        exact ⟨a1, a2, by omega, a4, a5⟩
      · refine ih2 t ?_ hne
        have : t ≠ n := fun e => hne (by rw [e]; exact he)
        omega
    · rename_i hne0
      split
      · rename_i hl
        obtain ⟨hpos, hlast⟩ := hl
        refine ⟨fun j hj => ?_, fun t ht hne => ?_⟩
        · rw [List.length_set] at hj
          unfold RangeOk
          rw [getD_set26 _ _ _ _ _ (by omega), getD_set26 _ _ _ _ _ (by omega)]
          obtain ⟨a1, a2, a3, a4, a5⟩ := ih1 j hj
          by_cases e : acc.length - 1 = j
          · subst e
            rw [if_pos rfl]
            refine ⟨a1, by show (acc.getD (acc.length - 1) z26).f0 < (n : Int) + 1; rw [hlast] at a2; omega, by show (n : Int) + 1 ≤ ((n + 1 : Nat) : Int); omega, fun t h1 h2 => ?_, fun h => by rw [if_neg (by omega)]; exact a5 h⟩
            have h2 : (t : Int) < (n : Int) + 1 := h2
            by_cases e2 : t = n
            · rw [e2]; exact hne0
            · exact a4 t h1 (by omega)
          · rw [if_neg e, if_neg (by omega)]
            exact ⟨a1, a2, by omega, a4, a5⟩
        · by_cases e2 : t = n
          · refine ⟨acc.length - 1, by rw [List.length_set]; omega, ?_⟩
            obtain ⟨a1, a2, a3, a4, a5⟩ := ih1 (acc.length - 1) (by omega)
            rw [getD_set26 _ _ _ _ _ (by omega), if_pos rfl]
            exact ⟨by show (acc.getD (acc.length - 1) z26).f0 ≤ (t : Int); omega, by show (t : Int) < (n : Int) + 1; omega⟩
          · obtain ⟨j, hj, h1, h2⟩ := ih2 t (by omega) hne
            refine ⟨j, by rw [List.length_set]; exact hj, ?_⟩
            rw [getD_set26 _ _ _ _ _ (by omega)]
            by_cases e : acc.length - 1 = j
            · subst e
              rw [if_pos rfl]
              exact ⟨h1, by show (t : Int) < (n : Int) + 1; omega⟩
            · rw [if_neg e]; exact ⟨h1, h2⟩
      · rename_i hl
        refine ⟨fun j hj => ?_, fun t ht hne => ?_⟩
        · rw [List.length_append, List.length_singleton] at hj
          unfold RangeOk
          rw [getD_app26, getD_app26]
          by_cases e : j < acc.length
          · obtain ⟨a1, a2, a3, a4, a5⟩ := ih1 j e
            rw [if_pos e, if_pos (by omega)]
            exact ⟨a1, a2, by omega, a4, a5⟩
          · obtain rfl : j = acc.length := by omega
            rw [if_neg e, if_pos rfl]
            refine ⟨by show (0 : Int) ≤ (n : Int); omega, by show (n : Int) < (n : Int) + 1; omega, by show (n : Int) + 1 ≤ ((n + 1 : Nat) : Int); omega, fun t h1 h2 => ?_, fun h => ?_⟩
            · have h1 : (n : Int) ≤ (t : Int) := h1
              have h2 : (t : Int) < (n : Int) + 1 := h2
              obtain rfl : t = n := by omega
              exact hne0
            · rw [if_pos (by omega)]
              obtain ⟨a1, a2, a3, a4, a5⟩ := ih1 (acc.length - 1) (by omega)
              show (acc.getD (acc.length - 1) z26).f1 < (n : Int)
              have : (acc.getD (acc.length - 1) z26).f1 ≠ (n : Int) := fun h2 => hl ⟨h, h2⟩
              omega
        · by_cases e2 : t = n
          · refine ⟨acc.length, by simp, ?_⟩
            rw [getD_app26, if_neg (by omega), if_pos rfl]
            exact ⟨by show (n : Int) ≤ (t : Int); omega, by show (t : Int) < (n : Int) + 1; omega⟩
          · obtain ⟨j, hj, h1, h2⟩ := ih2 t (by omega) hne
            refine ⟨j, by simp; omega, ?_⟩
            rw [getD_app26, if_pos hj]
            exact ⟨h1, h2⟩
theorem valM_ge (l : List S28) (key : S24) (known t : Int) : -1 ≤ valM l key known t := by
  unfold valM
  split <;> omega
theorem ptsTo_congr {f g : Nat → Int} {frm upt : Int} : ∀ c : Nat, (∀ t : Nat, t < c → frm ≤ (t : Int) → (t : Int) < upt → f t = g t) → ptsTo f frm upt c = ptsTo g frm upt c
  | 0, _ => rfl
  | c + 1, h => by
    rw [ptsTo_succ, ptsTo_succ, ptsTo_congr c fun t ht => h t (by omega)]
    by_cases hr : frm ≤ (c : Int) ∧ (c : Int) < upt
    · rw [h c (by omega) hr.1 hr.2]
    · rw [if_neg (fun h2 => hr ⟨h2.1, h2.2.1⟩), if_neg (fun h2 => hr ⟨h2.1, h2.2.1⟩)]
theorem mem_ptsTo {f : Nat → Int} {frm upt : Int} {c : Nat} {x : S60} : x ∈ ptsTo f frm upt c ↔ ∃ t : Nat, t < c ∧ (frm ≤ (t : Int) ∧ (t : Int) < upt ∧ 0 ≤ f t) ∧ x = ⟨(t : Int), f t⟩ := by
  unfold ptsTo
  simp only [List.mem_map, List.mem_filter, List.mem_range, decide_eq_true_eq]
  constructor
  · rintro ⟨t, ⟨h1, h2⟩, h3⟩; exact ⟨t, h1, h2, h3.symm⟩
  · rintro ⟨t, h1, h2, h3⟩; exact ⟨t, ⟨h1, h2⟩, h3.symm⟩
theorem ptsTo_inj {f g : Nat → Int} {frm upt : Int} {c : Nat} (hf : ∀ t, -1 ≤ f t) (hg : ∀ t, -1 ≤ g t) (h : ptsTo f frm upt c = ptsTo g frm upt c) (t : Nat) (ht : t < c) (h1 : frm ≤ (t : Int)) (h2 : (t : Int) < upt) : f t = g t := by
  by_cases hp : 0 ≤ f t
  · have : (⟨(t : Int), f t⟩ : S60) ∈ ptsTo g frm upt c := by rw [← h]; exact mem_ptsTo.2 ⟨t, ht, ⟨h1, h2, hp⟩, rfl⟩
    obtain ⟨s, _, _, e⟩ := mem_ptsTo.1 this
    injection e with e1 e2
    have : t = s := by omega
    subst this; exact e2
  · by_cases hq : 0 ≤ g t
    · have : (⟨(t : Int), g t⟩ : S60) ∈ ptsTo f frm upt c := by rw [h]; exact mem_ptsTo.2 ⟨t, ht, ⟨h1, h2, hq⟩, rfl⟩
      obtain ⟨s, _, _, e⟩ := mem_ptsTo.1 this
      injection e with e1 e2
      have : t = s := by omega
      subst this; exact e2.symm
    · have := hf t; have := hg t; omega
theorem apiPts_same_from (a : List S60) (hn : a.length ≤ 1000000) : ∀ (d i : Nat), a.length - i = d → i ≤ a.length → Evt (fun k => api_Point.l0 k a a (a.length : Int) (i : Int)) true := by
  intro d
  induction d with
  | zero =>
    intro i hd hi
    exact ⟨1, fun k hk => by
      obtain ⟨m, rfl⟩ : ∃ m, k = m + 1 := ⟨k - 1, by omega⟩
      simp only [api_Point.l0]; rw [if_neg (by omega)]⟩
  | succ d ih =>
    intro i hd hi
    refine (ih (i + 1) (by omega) (by omega)).succ fun k => ?_
    simp only [api_Point.l0]
    rw [if_pos (by omega), if_pos (by omega), if_pos (by omega), if_pos (by omega), if_neg (by simp), w64 (by omega) (by omega)]
    rfl
theorem apiPts_same (a : List S60) (hn : a.length ≤ 1000000) : Evt (fun k => api_Point.f k a a) true := by
  refine (apiPts_same_from a hn a.length 0 (by omega) (by omega)).congr fun k => ?_
  unfold api_Point.f
  rw [if_pos rfl]; rfl
theorem apiPts_other_from (a b : List S60) (hn : a.length ≤ 1000000) (he : a.length = b.length) : ∀ (d i : Nat), a.length - i = d → i ≤ a.length → (∃ j, i ≤ j ∧ j < a.length ∧ a.getD j z60 ≠ b.getD j z60) → Evt (fun k => api_Point.l0 k a b (a.length : Int) (i : Int)) false := by
  intro d
  induction d with
  | zero =>
    intro i hd hi hj
    obtain ⟨j, h1, h2, _⟩ := hj
    omega
  | succ d ih =>
    intro i hd hi hj
    by_cases hs : a.getD i z60 = b.getD i z60
    · obtain ⟨j, h1, h2, h3⟩ := hj
      have : i ≠ j := fun e => h3 (e ▸ hs)
      refine (ih (i + 1) (by omega) (by omega) ⟨j, by omega, h2, h3⟩).succ fun k => ?_
      simp only [api_Point.l0, rd_T60, Int.toNat_natCast, hs]
      rw [if_pos (by omega), if_pos (by omega), if_pos (by omega), if_pos (by omega), if_neg (by simp), w64 (by omega) (by omega)]
      rfl
    · refine (Evt.of (g := fun _ => some false) (r := false) fun _ => rfl).succ fun k => ?_
      simp only [api_Point.l0, rd_T60, Int.toNat_natCast]
      rw [if_pos (by omega), if_pos (by omega), if_pos (by omega), if_pos (by omega)]
      refine if_pos ?_
      rw [Bool.or_eq_true]
      by_cases h0 : (a.getD i z60).f0 = (b.getD i z60).f0
      · right
        have : (a.getD i z60).f1 ≠ (b.getD i z60).f1 := fun h1 => hs (by cases hA : a.getD i z60; cases hB : b.getD i z60; rw [hA, hB] at h0 h1; simp_all)
        simpa using this
      · left; simpa using h0
theorem apiPts_other (a b : List S60) (hn : a.length ≤ 1000000) (hne : a ≠ b) : Evt (fun k => api_Point.f k a b) false := by
  by_cases he : a.length = b.length
  · refine (apiPts_other_from a b hn he a.length 0 (by omega) (by omega) ?_).congr fun k => ?_
    · refine Classical.byContradiction fun hno => hne ?_
      refine List.ext_getElem he fun j h1 h2 => ?_
      refine Classical.byContradiction fun h3 => hno ⟨j, by omega, h1, ?_⟩
      simpa [h1, h2] using h3
    · unfold api_Point.f
      rw [if_pos (by omega)]; rfl
  · refine Evt.of fun k => ?_
    unfold api_Point.f
    rw [if_neg (by omega)]
theorem pointsM_len (l : List S28) (key : S24) (frm upt known : Int) : (pointsM l key frm upt known).length ≤ 1000000 := by
  have := ptsTo_length (fun t : Nat => valM l key known (t : Int)) frm upt 1024
  unfold pointsM; omega
def Differs (l : List S28) (q : S54) (b a : Int) : Prop := ∃ t : Nat, t < 1024 ∧ q.f1 ≤ (t : Int) ∧ (t : Int) < q.f2 ∧ valM l q.f0 b (t : Int) ≠ valM l q.f0 a (t : Int)
theorem points_alike (l : List S28) (q : S54) (b a : Int) : pointsM l q.f0 q.f1 q.f2 b = pointsM l q.f0 q.f1 q.f2 a ↔ ¬ Differs l q b a := by
  constructor
  · rintro h ⟨t, ht, h1, h2, h3⟩
    exact h3 (ptsTo_inj (fun t => valM_ge _ _ _ _) (fun t => valM_ge _ _ _ _) h t ht h1 h2)
  · intro h
    exact ptsTo_congr 1024 fun t ht h1 h2 => Classical.byContradiction fun h3 => h ⟨t, ht, h1, h2, h3⟩
theorem alike_one (l : List S28) (q : S54) (b a : Int) (r : Bool) (h : r = true ↔ ¬ Differs l q b a) : Evt (fun k => facts_Alike.f k l [q] b a) r := by
  have h2 : Evt (fun k => (api_Point.f k (pointsM l q.f0 q.f1 q.f2 b) (pointsM l q.f0 q.f1 q.f2 a)).bind fun t138 => (if t138 = true then (facts_Alike.l0 k l b a [q] 1 1) else (some false))) r := by
    cases r with
    | true =>
      rw [(points_alike l q b a).2 (h.1 rfl)]
      refine (apiPts_same _ (pointsM_len _ _ _ _ _)).bind ?_
      simp only [if_true]
      exact (Evt.of (g := fun _ => some true) (r := true) fun _ => rfl).succ fun k => by
        simp only [facts_Alike.l0]; rw [if_neg (by omega)]
    | false =>
      refine (apiPts_other _ _ (pointsM_len _ _ _ _ _) (fun e => ?_)).bind ?_
      · have := h.2 ((points_alike l q b a).1 e); cases this
      · exact Evt.of fun _ => rfl
  refine h2.succ fun k => ?_
  simp only [facts_Alike.f, facts_Alike.l0, facts_Points.f, Option.bind_some]
  rw [if_pos (by simp), if_pos (by omega), if_pos (by simp), show wrap64 (0 + 1) = 1 from w64 (by omega) (by omega), show rd_T54 [q] 0 = q from rfl]
  rfl
def Hits (l : List S28) (q : S54) (b a : Int) (chg : List S57) (i j : Nat) : Prop :=
  i < chg.length ∧ j < (chg.getD i z57).f1.length ∧ (chg.getD i z57).f0 = q.f0 ∧ mx q.f1 (((chg.getD i z57).f1.getD j z26).f0) < mn q.f2 (((chg.getD i z57).f1.getD j z26).f1)
theorem changed_at (l : List S28) (b a : Int) (i : Nat) (hi : i < (changedM l b a).length) :
    ((changedM l b a).getD i z57).f0 ∈ keysM l ∧ ((changedM l b a).getD i z57).f1 = termsTo (fun t : Nat => valM l ((changedM l b a).getD i z57).f0 b (t : Int)) (fun t : Nat => valM l ((changedM l b a).getD i z57).f0 a (t : Int)) 1024 := by
  have hm : (changedM l b a).getD i z57 ∈ changedM l b a := by simp [hi]
  generalize (changedM l b a).getD i z57 = y at hm
  obtain ⟨k, hk, hy⟩ := List.mem_filterMap.1 hm
  unfold chgOne at hy
  split at hy
  · cases hy
  · cases hy
    refine ⟨hk, ?_⟩
    dsimp only
theorem changed_has (l : List S28) (b a : Int) (k : S24) (hk : k ∈ keysM l) (hne : termsTo (fun t : Nat => valM l k b (t : Int)) (fun t : Nat => valM l k a (t : Int)) 1024 ≠ []) : ∃ i, i < (changedM l b a).length ∧ ((changedM l b a).getD i z57).f0 = k := by
  have hm : (⟨k, termsTo (fun t : Nat => valM l k b (t : Int)) (fun t : Nat => valM l k a (t : Int)) 1024⟩ : S57) ∈ changedM l b a := by
    unfold changedM
    rw [List.mem_filterMap]
    exact ⟨k, hk, by unfold chgOne; rw [if_neg hne]⟩
  obtain ⟨i, hi, e⟩ := List.getElem_of_mem hm
  refine ⟨i, hi, ?_⟩
  have : (changedM l b a).getD i z57 = (changedM l b a)[i] := by simp [hi]
  rw [this, e]
theorem hits_differs (l : List S28) (q : S54) (b a : Int) : (∃ i j, Hits l q b a (changedM l b a) i j) ↔ Differs l q b a := by
  constructor
  · rintro ⟨i, j, hi, hj, hk, hm⟩
    obtain ⟨_, ht⟩ := changed_at l b a i hi
    rw [ht] at hj hm
    rw [hk] at hj hm
    obtain ⟨a1, a2, a3, a4, a5⟩ := (terms_ok (fun t : Nat => valM l q.f0 b (t : Int)) (fun t : Nat => valM l q.f0 a (t : Int)) 1024).1 j hj
    generalize (termsTo (fun t : Nat => valM l q.f0 b (t : Int)) (fun t : Nat => valM l q.f0 a (t : Int)) 1024).getD j z26 = r at *
    have hx : q.f1 ≤ mx q.f1 r.f0 ∧ r.f0 ≤ mx q.f1 r.f0 := by unfold mx; split <;> omega
    have hn : mn q.f2 r.f1 ≤ q.f2 ∧ mn q.f2 r.f1 ≤ r.f1 := by unfold mn; split <;> omega
    refine ⟨(mx q.f1 r.f0).toNat, by omega, by omega, by omega, ?_⟩
    exact a4 (mx q.f1 r.f0).toNat (by omega) (by omega)
  · rintro ⟨t, ht, h1, h2, h3⟩
    have hkey : q.f0 ∈ keysM l := by
      refine Classical.byContradiction fun hno => h3 ?_
      have : ∀ x ∈ l, x.f0 ≠ q.f0 := fun x hx e => hno ((mem_keysM _ _).2 ⟨x, hx, e⟩)
      rw [valM_none this, valM_none this]
    obtain ⟨j, hj, h4, h5⟩ := (terms_ok (fun t : Nat => valM l q.f0 b (t : Int)) (fun t : Nat => valM l q.f0 a (t : Int)) 1024).2 t ht h3
    obtain ⟨i, hi, hik⟩ := changed_has l b a q.f0 hkey (fun e => by rw [e] at hj; simp at hj)
    obtain ⟨_, htt⟩ := changed_at l b a i hi
    rw [hik] at htt
    refine ⟨i, j, hi, by rw [htt]; exact hj, hik, ?_⟩
    rw [htt]
    generalize (termsTo (fun t : Nat => valM l q.f0 b (t : Int)) (fun t : Nat => valM l q.f0 a (t : Int)) 1024).getD j z26 = r at *
    unfold mx mn
    split <;> split <;> omega
/-- The rounds, from one change, and one of its ranges, on. -/
def Inv (l : List S28) (q : S54) (b a : Int) (i j : Nat) (hit : Bool) : Prop :=
  (hit = true → Differs l q b a) ∧ (Differs l q b a → hit = true ∨ ∃ i0 j0, Hits l q b a (changedM l b a) i0 j0 ∧ (i < i0 ∨ (i = i0 ∧ j ≤ j0)))
theorem at_differ {l : List S28} {key : S24} {t b a : Int} (h : valM l key b t ≠ valM l key a t) : (((atM l key t b).2 == (atM l key t a).2) = true → ((atM l key t b).1 == (atM l key t a).1) = false) := by
  have h1 := valM_ge l key b t
  have h2 := valM_ge l key a t
  rw [at_val, at_val]
  simp only [beq_iff_eq, decide_eq_decide, beq_eq_false_iff_ne]
  intro e he
  split at he <;> split at he <;> omega
theorem read_end (l : List S28) (q : S54) (b a : Int) (hit : Bool) (j : Nat) (hI : Inv l q b a (changedM l b a).length j hit) : Evt (fun k => (facts_Alike.f k l [q] b a).bind fun t484 => some (t484 == (!hit))) true := by
  have hh : hit = true ↔ Differs l q b a := by
    refine ⟨hI.1, fun h => ?_⟩
    rcases hI.2 h with h | ⟨i0, j0, ⟨h1, _⟩, h2⟩
    · exact h
    · omega
  refine (alike_one l q b a (!hit) ?_).bind (Evt.of fun _ => by simp)
  cases hit with
  | true => simp only [Bool.not_true, Bool.false_eq_true, false_iff, Classical.not_not]; exact hh.1 rfl
  | false => simp only [Bool.not_false, true_iff]; exact fun h => absurd (hh.2 h) (by simp)
theorem key_beq (x y : S24) : ((x.f0 == y.f0) && ((x.f1 == y.f1) && (x.f2 == y.f2))) = decide (x = y) := by
  cases x; cases y
  rw [Bool.eq_iff_iff]
  simp
theorem read_l1 (l : List S28) (q : S54) (b a : Int) (i : Nat) (hi : i < (changedM l b a).length) (hlen : (changedM l b a).length ≤ 1000000)
    (hnext : ∀ hit, Inv l q b a (i + 1) 0 hit → Evt (fun k => sizarlaw07_FactsRead.l0 k l b a (changedM l b a) hit ((i + 1 : Nat) : Int) q.f0.f0 q.f0.f1 q.f0.f2 q.f1 q.f2) true) :
    ∀ (d j : Nat), ((changedM l b a).getD i z57).f1.length - j = d → j ≤ ((changedM l b a).getD i z57).f1.length → ∀ hit, Inv l q b a i j hit → Evt (fun k => sizarlaw07_FactsRead.l1 k l b a (changedM l b a) hit (i : Int) (j : Int) q.f0.f0 q.f0.f1 q.f0.f2 q.f1 q.f2) true := by
  have hrd : rd_T57 (changedM l b a) (i : Int) = (changedM l b a).getD i z57 := by simp [rd_T57]
  obtain ⟨hk, ht⟩ := changed_at l b a i hi
  have hok := (terms_ok (fun t : Nat => valM l ((changedM l b a).getD i z57).f0 b (t : Int)) (fun t : Nat => valM l ((changedM l b a).getD i z57).f0 a (t : Int)) 1024).1
  have hln := termsTo_length (fun t : Nat => valM l ((changedM l b a).getD i z57).f0 b (t : Int)) (fun t : Nat => valM l ((changedM l b a).getD i z57).f0 a (t : Int)) 1024
  rw [← ht] at hok hln
  intro d
  induction d with
  | zero =>
    intro j hd hj hit hI
    refine (hnext hit ⟨hI.1, fun h => ?_⟩).succ fun k => ?_
    · rcases hI.2 h with h | ⟨i0, j0, hh, h2⟩
      · exact .inl h
      · refine .inr ⟨i0, j0, hh, ?_⟩
        obtain ⟨h3, h4, _⟩ := hh
        rcases h2 with h2 | ⟨rfl, h2⟩ <;> omega
    · simp only [sizarlaw07_FactsRead.l1, hrd]
      rw [if_pos (by omega), if_pos (by omega), if_neg (by omega), w64 (by omega) (by omega)]
      rfl
  | succ d ih =>
    intro j hd hj hit hI
    obtain ⟨a1, a2, a3, a4, a5⟩ := hok j (by omega)
    have hr26 : rd_T26 ((changedM l b a).getD i z57).f1 (j : Int) = ((changedM l b a).getD i z57).f1.getD j z26 := by simp [rd_T26]
    have hr26p : 0 < j → rd_T26 ((changedM l b a).getD i z57).f1 (wrap64 ((j : Int) - 1)) = ((changedM l b a).getD i z57).f1.getD (j - 1) z26 := fun h => by
      rw [w64 (by omega) (by omega)]
      unfold rd_T26
      congr 1
      omega
    generalize hr : ((changedM l b a).getD i z57).f1.getD j z26 = r at a1 a2 a3 a4 a5 hr26
    generalize hp : ((changedM l b a).getD i z57).f1.getD (j - 1) z26 = p at a5 hr26p
    -- the new hit
    have hnew : ∀ hit2 : Bool, (hit2 = true → Differs l q b a) → (hit = true → hit2 = true) → (Hits l q b a (changedM l b a) i j → hit2 = true) → Inv l q b a i (j + 1) hit2 := by
      intro hit2 h1 h2 h3
      refine ⟨h1, fun h => ?_⟩
      rcases hI.2 h with h4 | ⟨i0, j0, hh, h5⟩
      · exact .inl (h2 h4)
      · by_cases e : i = i0 ∧ j = j0
        · obtain ⟨rfl, rfl⟩ := e
          exact .inl (h3 hh)
        · exact .inr ⟨i0, j0, hh, by omega⟩
    have hhit : Hits l q b a (changedM l b a) i j ↔ ((changedM l b a).getD i z57).f0 = q.f0 ∧ mx q.f1 r.f0 < mn q.f2 r.f1 := by
      unfold Hits
      rw [hr]
      exact ⟨fun h => ⟨h.2.2.1, h.2.2.2⟩, fun h => ⟨hi, by omega, h.1, h.2⟩⟩
    have h3 : Evt (fun k => sizarlaw07_FactsRead.j3 k l b a (changedM l b a) hit (i : Int) (j : Int) false q.f0.f0 q.f0.f1 q.f0.f2 q.f1 q.f2 r.f0 r.f1) true := by
      by_cases hkq : ((changedM l b a).getD i z57).f0 = q.f0
      · by_cases hmm : mx q.f1 r.f0 < mn q.f2 r.f1
        · refine (ih (j + 1) (by omega) (by omega) true (hnew true (fun _ => (hits_differs l q b a).1 ⟨i, j, hhit.2 ⟨hkq, hmm⟩⟩) (fun _ => rfl) (fun _ => rfl))).succ fun k => ?_
          simp only [sizarlaw07_FactsRead.j3, hrd, key_beq]
          rw [if_neg (by simp), if_pos (by omega), if_pos (by omega), if_pos (by simpa using hkq), if_pos hmm, w64 (by omega) (by omega)]
          rfl
        · refine (ih (j + 1) (by omega) (by omega) hit (hnew hit hI.1 id (fun h => absurd (hhit.1 h).2 hmm))).succ fun k => ?_
          simp only [sizarlaw07_FactsRead.j3, hrd, key_beq]
          rw [if_neg (by simp), if_pos (by omega), if_pos (by omega), if_pos (by simpa using hkq), if_neg hmm, w64 (by omega) (by omega)]
          rfl
      · refine (ih (j + 1) (by omega) (by omega) hit (hnew hit hI.1 id (fun h => absurd (hhit.1 h).1 hkq))).succ fun k => ?_
        simp only [sizarlaw07_FactsRead.j3, hrd, key_beq]
        rw [if_neg (by simp), if_pos (by omega), if_pos (by omega), if_neg (by simpa using hkq), w64 (by omega) (by omega)]
        rfl
    have hdif : valM l ((changedM l b a).getD i z57).f0 b r.f0 ≠ valM l ((changedM l b a).getD i z57).f0 a r.f0 := by
      have : valM l ((changedM l b a).getD i z57).f0 b ((r.f0.toNat : Nat) : Int) ≠ valM l ((changedM l b a).getD i z57).f0 a ((r.f0.toNat : Nat) : Int) := a4 r.f0.toNat (by omega) (by omega)
      rwa [Int.toNat_of_nonneg a1] at this
    have h2 : Evt (fun k => sizarlaw07_FactsRead.j2 k l b a (changedM l b a) hit (i : Int) (j : Int) false q.f0.f0 q.f0.f1 q.f0.f2 q.f1 q.f2 r.f0 r.f1) true := h3.succ fun k => by
      simp only [sizarlaw07_FactsRead.j2, hrd, facts_At.f, Option.bind_some]
      rw [if_neg (by simp), if_pos (by omega), if_pos (by omega)]
      by_cases he : ((atM l ((changedM l b a).getD i z57).f0 r.f0 b).2 == (atM l ((changedM l b a).getD i z57).f0 r.f0 a).2) = true
      · rw [if_pos he, at_differ hdif he]
      · rw [if_neg he]
    refine h2.succ fun k => ?_
    simp only [sizarlaw07_FactsRead.l1, hrd, hr26]
    rw [if_pos (by omega), if_pos (by omega), if_pos (by omega), if_pos (by omega), if_neg (by omega), if_neg (by omega), if_neg (by omega)]
    by_cases hj0 : (j : Int) > 0
    · rw [if_pos hj0, hr26p (by omega), if_pos (by rw [w64 (by omega) (by omega)]; omega), if_pos (by rw [w64 (by omega) (by omega)]; omega)]
      have := a5 (by omega)
      rw [show decide (p.f1 ≥ r.f0) = false from decide_eq_false (by omega)]
    · rw [if_neg hj0]
theorem read_l0 (l : List S28) (q : S54) (b a : Int) (hlen : (changedM l b a).length ≤ 1000000) :
    ∀ (d i : Nat), (changedM l b a).length - i = d → i ≤ (changedM l b a).length → ∀ hit, Inv l q b a i 0 hit → Evt (fun k => sizarlaw07_FactsRead.l0 k l b a (changedM l b a) hit (i : Int) q.f0.f0 q.f0.f1 q.f0.f2 q.f1 q.f2) true := by
  intro d
  induction d with
  | zero =>
    intro i hd hi hit hI
    obtain rfl : i = (changedM l b a).length := by omega
    refine (read_end l q b a hit 0 hI).succ fun k => ?_
    simp only [sizarlaw07_FactsRead.l0]
    rw [if_neg (by omega)]
  | succ d ih =>
    intro i hd hi hit hI
    refine (read_l1 l q b a i (by omega) hlen (ih (i + 1) (by omega) (by omega)) _ 0 rfl (by omega) hit hI).succ fun k => ?_
    simp only [sizarlaw07_FactsRead.l0]
    rw [if_pos (by omega)]
    rfl
theorem read_law (l0 : List S28) (a0 a1 a2 a3 a4 b a : Int) (w0 : ∀ x ∈ l0, wf28 x = true) : ∃ k, sizarlaw07_FactsRead.f k l0 a0 a1 a2 a3 a4 b a = some true := by
  refine Evt.ex (r := true) ?_
  unfold sizarlaw07_FactsRead.f
  refine sane_all.bind ?_
  simp only [if_true]
  by_cases h0 : (l0.length : Int) > 10
  · simp only [if_pos h0]; exact Evt.of fun _ => rfl
  · have hc : facts_Changed.f l0 b a = some (changedM l0 b a) := by
      unfold facts_Changed.f
      rw [if_pos ⟨by omega, List.all_eq_true.2 fun x hx => by
        have := w0 x hx
        simp only [wf28, Bool.and_eq_true] at this
        exact this.1⟩]
    have hcl : (changedM l0 b a).length ≤ 1000000 := by
      have h1 : (changedM l0 b a).length ≤ (keysM l0).length := List.length_filterMap_le _ _
      have h2 := keysM_length l0
      omega
    simp only [if_neg h0, hc, Option.bind_some]
    refine read_l0 l0 ⟨⟨a0, a1, a2⟩, a3, a4⟩ b a hcl _ 0 rfl (by omega) false ⟨by simp, fun h => ?_⟩
    obtain ⟨i, j, hh⟩ := (hits_differs l0 ⟨⟨a0, a1, a2⟩, a3, a4⟩ b a).2 h
    exact .inr ⟨i, j, hh, by omega⟩
end Go.Proofs.Ytamajnhdibcpiaa.G
namespace Go.Proofs.Ytamajnhdibcpiaa.factsRead
open Go.ChangeShapes Go.WideShapes Go.ChangeAt Go.RowKit Go.Proofs.Ytamajnhdibcpiaa.G
set_option linter.unusedVariables false
set_option maxRecDepth 100000 in
theorem lifted (os : Os) (started : os.Started) (H : Type) (enc : TypeId × Value → H) :
    ReturnsInHanded {} Try.checked os 9 .any (Rows.factsReadSpec.pre6 enc Try.prog Try.f9 Rows.factsReadRow.domain false) (Rows.factsReadSpec.post enc Try.prog Try.f9 false true false false) := by
  refine returnsInHanded_of_change_sized (C := Try.checked) own started (by kernel_rfl) Try.func9
    (ChangeSpec.witness6 (enc := enc) (C := Try.checked) false ⟨#[], #[.slice none 0 0, .agg #[.int .i64 0, .int .i64 0, .int .i64 0, .int .i64 0, .int .i64 0], .int .i64 0, .int .i64 0], []⟩ 8 (by kernel_rfl) (by kernel_rfl) (by kernel_rfl) (by kernel_rfl)) ?_
  intro W base args ds gs before hval0 hW hcnd hsz0 _
  have hval : ∀ (j : Nat) t v, Try.f9.params[j]? = some t → args[j]? = some v → Value.okWide Try.prog W .any base t v := hval0
  have hW' := hW
  obtain ⟨p, q, hA0, hV, rfl, hfz, hnd⟩ := hW
  have hA : DataW.TrodAll enc Try.prog W 0 (fun _ => true) true Try.f9.params.toList args.toList ds p := hA0
  rw [Try.params9] at hA hval
  obtain ⟨v0, vs0, d0, ds0, p0, q0, hargs, rfl, rfl, h0, r0⟩ := trodAll_cons hA
  obtain ⟨v1, vs1, d1, ds1, p1, q1, rfl, rfl, rfl, h1, r1⟩ := trodAll_cons r0
  obtain ⟨v2, vs2, d2, ds2, p2, q2, rfl, rfl, rfl, h2, r2⟩ := trodAll_cons r1
  obtain ⟨v3, vs3, d3, ds3, p3, q3, rfl, rfl, rfl, h3, r3⟩ := trodAll_cons r2
  obtain ⟨rfl, rfl, rfl⟩ := trodAll_nil r3
  obtain rfl : args = #[v0, v1, v2, v3] := by cases args; simp_all
  obtain ⟨rfl, rfl⟩ := trodVars_none hV
  obtain ⟨a0, len0, cap0, rfl⟩ := okWide_slice Try.underlying22 (hval 0 22 v0 rfl rfl)
  have k0 := h0
  have lt0 : ∀ x ∈ p0, x.block < W.heap.size := by obtain ⟨m, hm⟩ := k0; exact DataW.trod_lt m _ _ _ hm
  obtain ⟨z0, rfl, w0, y0, f0⟩ := open28 h0
  have k1 := h1
  have lt1 : ∀ x ∈ p1, x.block < W.heap.size := by obtain ⟨m, hm⟩ := k1; exact DataW.trod_lt m _ _ _ hm
  obtain ⟨a1_0, a1_1, a1_2, a1_3, a1_4, rfl, f1⟩ := open54s (hval 1 54 v1 rfl rfl) h1
  obtain ⟨a2, rfl, rfl, rfl, w2⟩ := open_int Try.underlying3 (hval 2 3 v2 rfl rfl) h2
  obtain ⟨a3, rfl, rfl, rfl, w3⟩ := open_int Try.underlying3 (hval 3 3 v3 rfl rfl) h3
  clear hA0 hval0
  obtain ⟨k, hk⟩ := read_law z0 a1_0 a1_1 a1_2 a1_3 a1_4 a2 a3 f0
  refine (G.sizarlaw07_FactsRead.calls k a0 cap0 z0 a1_0 a1_1 a1_2 a1_3 a1_4 a2 a3 true W w0 y0 hk).mono fun e W' ⟨he, bel⟩ => ?_
  subst he
  exact ⟨_, rfl, _, _, _, [], _, [], hW', trodAll_mk1 (shut_bool Try.underlying4 _), (trodAll_cons_mk (Below.trod laidOut (by kernel_rfl) (of_decide_eq_true (by kernel_rfl)) k0 bel lt0) (trodAll_cons_mk (Below.trod laidOut (by kernel_rfl) (of_decide_eq_true (by kernel_rfl)) k1 bel lt1) (trodAll_cons_mk (shut_int Try.underlying3 w2) (trodAll_cons_mk (shut_int Try.underlying3 w3) trodAll_mk0)))), rfl, bel.frame _, fun h => by cases h⟩
theorem over : Rows.factsReadRow.holds Try.pinned (OpenSpec.ofChange Rows.factsReadSpec) :=
  OpenClaim.holds_of_wide 9 Try.f9 rfl rfl rfl rfl rfl rfl rfl ⟨rfl, rfl, rfl, rfl, rfl⟩ rfl rfl rfl rfl rfl (by kernel_rfl) Try.func9 (by kernel_rfl)
    (of_decide_eq_true (by kernel_rfl)) (by unfold Func.isWrapper; first | (rw [if_pos (by decide +kernel)]; kernel_rfl) | (rw [if_neg (by decide +kernel)]; exact ⟨rfl, rfl⟩))
    (fun os started H enc _ => lifted os started H enc)
theorem proved : Rows.FactsReadSaid := over
end Go.Proofs.Ytamajnhdibcpiaa.factsRead
namespace Go.Proofs.Ytamajnhdibcpiaa
/-- The row, under a short name, for the claim. -/
theorem factsRead_holds : Rows.FactsReadSaid := factsRead.proved
end Go.Proofs.Ytamajnhdibcpiaa
