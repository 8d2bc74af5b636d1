/-
  No cell of these rows narrows 'for every input' (looked for: loops, veiled, ifaces, maps, wideKeys, modest, calm, conditions, laid).
  DERIVED. THE GIVEN ROWS OF THIS SEAT. 6 by the template 'for every input the law returns true; each argument reads behind the call as it read before'; 0 by the template 'total and deterministic' (their statements: YtlcckkimbkfjpaaTotals.lean).
  GIVEN WITH THE SEED: the statements are not yours to turn. If you find one false, say at which input.
  Laid BY PROGRAM, IN A SANDBOX (cutbox-rows.mjs): the forced cells as the released guide's own fill.sh prints them over the translation a1c33f7a83e23a2e… (all of the seat's roots in one cut). By AI agents, Wed Nov 11 2026. No macro, syntax, notation, axiom, sorry.
-/
import Derived.Test.YtlcckkimbkfjpaaChecked
import GoSem.Claim
import GoSem.ClaimJoined
import GoSem.ClaimMapViews
import Derived.JoinedTies
import Derived.KernelRfl
namespace Go.Proofs.Ytlcckkimbkfjpaa
/- THE CELL 'sum', in the pinned program and in every row, IS THE sha256 OF THE DUMP (.gsa) THAT YtlcckkimbkfjpaaProg.lean LOADS. Nothing in Lean hashes anything: it is a label: what it is worth is what the hold of that sum in a sandbox is worth. -/
noncomputable def Try.pinned : Pinned := { name := "ytlcckkimbkfjpaa", sum := "a1c33f7a83e23a2e90f14e5fab7aee82b67f4530b5f9b667e2684858d828eed1", checked := Try.checked }
namespace Rows
def none {H : Type} : Left H := { results := [], args := [] }

/-- 'sizarlaw22.MeetingFreeSpec': WHATEVER THE INPUT: true; the input reads as it did. -/
def meetingFreeSpecSpec : ChangeSpec := { name := "meetingFreeSpec", fn := fun _ => fun
  | [d1, d2, d3] => { results := [.lit (.bool true)], args := [d1, d2, d3] }
  | _ => none }
def meetingFreeSpecRow : OpenClaim := { program := "ytlcckkimbkfjpaa", sum := "a1c33f7a83e23a2e90f14e5fab7aee82b67f4530b5f9b667e2684858d828eed1", func := "sizar/sizarlaw22.MeetingFreeSpec", spec := "meetingFreeSpec", unfollowed := true, recurses := true, apart := false }
def MeetingFreeSpecSaid : Prop := meetingFreeSpecRow.holds Try.pinned (OpenSpec.ofChange meetingFreeSpecSpec)

/-- ITS FALSE NEIGHBOUR: 'it returns false'. Refute it at one input. -/
def meetingFreeSpecWrong : ChangeSpec := { name := "meetingFreeSpec", fn := fun _ => fun
  | [d1, d2, d3] => { results := [.lit (.bool false)], args := [d1, d2, d3] }
  | _ => none }
def MeetingFreeSpecWrongFalsely : Prop := meetingFreeSpecRow.holds Try.pinned (OpenSpec.ofChange meetingFreeSpecWrong)

/-- 'sizarlaw22.MeetingMoments': WHATEVER THE INPUT: true; the input reads as it did. -/
def meetingMomentsSpec : ChangeSpec := { name := "meetingMoments", fn := fun _ => fun
  | [d1, d2, d3, d4, d5] => { results := [.lit (.bool true)], args := [d1, d2, d3, d4, d5] }
  | _ => none }
def meetingMomentsRow : OpenClaim := { program := "ytlcckkimbkfjpaa", sum := "a1c33f7a83e23a2e90f14e5fab7aee82b67f4530b5f9b667e2684858d828eed1", func := "sizar/sizarlaw22.MeetingMoments", spec := "meetingMoments", unfollowed := true, recurses := true, apart := false }
def MeetingMomentsSaid : Prop := meetingMomentsRow.holds Try.pinned (OpenSpec.ofChange meetingMomentsSpec)

/-- ITS FALSE NEIGHBOUR: 'it returns false'. Refute it at one input. -/
def meetingMomentsWrong : ChangeSpec := { name := "meetingMoments", fn := fun _ => fun
  | [d1, d2, d3, d4, d5] => { results := [.lit (.bool false)], args := [d1, d2, d3, d4, d5] }
  | _ => none }
def MeetingMomentsWrongFalsely : Prop := meetingMomentsRow.holds Try.pinned (OpenSpec.ofChange meetingMomentsWrong)

/-- 'sizarlaw22.MeetingApart': WHATEVER THE INPUT: true; the input reads as it did. -/
def meetingApartSpec : ChangeSpec := { name := "meetingApart", fn := fun _ => fun
  | [d1, d2] => { results := [.lit (.bool true)], args := [d1, d2] }
  | _ => none }
def meetingApartRow : OpenClaim := { program := "ytlcckkimbkfjpaa", sum := "a1c33f7a83e23a2e90f14e5fab7aee82b67f4530b5f9b667e2684858d828eed1", func := "sizar/sizarlaw22.MeetingApart", spec := "meetingApart", unfollowed := true, recurses := true, apart := false }
def MeetingApartSaid : Prop := meetingApartRow.holds Try.pinned (OpenSpec.ofChange meetingApartSpec)

/-- ITS FALSE NEIGHBOUR: 'it returns false'. Refute it at one input. -/
def meetingApartWrong : ChangeSpec := { name := "meetingApart", fn := fun _ => fun
  | [d1, d2] => { results := [.lit (.bool false)], args := [d1, d2] }
  | _ => none }
def MeetingApartWrongFalsely : Prop := meetingApartRow.holds Try.pinned (OpenSpec.ofChange meetingApartWrong)

/-- 'sizarlaw22.MeetingFrees': WHATEVER THE INPUT: true; the input reads as it did. -/
def meetingFreesSpec : ChangeSpec := { name := "meetingFrees", fn := fun _ => fun
  | [d1, d2, d3] => { results := [.lit (.bool true)], args := [d1, d2, d3] }
  | _ => none }
def meetingFreesRow : OpenClaim := { program := "ytlcckkimbkfjpaa", sum := "a1c33f7a83e23a2e90f14e5fab7aee82b67f4530b5f9b667e2684858d828eed1", func := "sizar/sizarlaw22.MeetingFrees", spec := "meetingFrees", unfollowed := true, recurses := true, apart := false }
def MeetingFreesSaid : Prop := meetingFreesRow.holds Try.pinned (OpenSpec.ofChange meetingFreesSpec)

/-- ITS FALSE NEIGHBOUR: 'it returns false'. Refute it at one input. -/
def meetingFreesWrong : ChangeSpec := { name := "meetingFrees", fn := fun _ => fun
  | [d1, d2, d3] => { results := [.lit (.bool false)], args := [d1, d2, d3] }
  | _ => none }
def MeetingFreesWrongFalsely : Prop := meetingFreesRow.holds Try.pinned (OpenSpec.ofChange meetingFreesWrong)

/-- 'sizarlaw22.MeetingTotal': WHATEVER THE INPUT: true; the input reads as it did. -/
def meetingTotalSpec : ChangeSpec := { name := "meetingTotal", fn := fun _ => fun
  | [d] => { results := [.lit (.bool true)], args := [d] }
  | _ => none }
def meetingTotalRow : OpenClaim := { program := "ytlcckkimbkfjpaa", sum := "a1c33f7a83e23a2e90f14e5fab7aee82b67f4530b5f9b667e2684858d828eed1", func := "sizar/sizarlaw22.MeetingTotal", spec := "meetingTotal", unfollowed := true, recurses := true, apart := false }
def MeetingTotalSaid : Prop := meetingTotalRow.holds Try.pinned (OpenSpec.ofChange meetingTotalSpec)

/-- ITS FALSE NEIGHBOUR: 'it returns false'. Refute it at one input. -/
def meetingTotalWrong : ChangeSpec := { name := "meetingTotal", fn := fun _ => fun
  | [d] => { results := [.lit (.bool false)], args := [d] }
  | _ => none }
def MeetingTotalWrongFalsely : Prop := meetingTotalRow.holds Try.pinned (OpenSpec.ofChange meetingTotalWrong)

/-- 'sizarlaw22.MeetingAdd': WHATEVER THE INPUT: true; the input reads as it did. -/
def meetingAddSpec : ChangeSpec := { name := "meetingAdd", fn := fun _ => fun
  | [d1, d2] => { results := [.lit (.bool true)], args := [d1, d2] }
  | _ => none }
def meetingAddRow : OpenClaim := { program := "ytlcckkimbkfjpaa", sum := "a1c33f7a83e23a2e90f14e5fab7aee82b67f4530b5f9b667e2684858d828eed1", func := "sizar/sizarlaw22.MeetingAdd", spec := "meetingAdd", unfollowed := true, recurses := true, apart := false }
def MeetingAddSaid : Prop := meetingAddRow.holds Try.pinned (OpenSpec.ofChange meetingAddSpec)

/-- ITS FALSE NEIGHBOUR: 'it returns false'. Refute it at one input. -/
def meetingAddWrong : ChangeSpec := { name := "meetingAdd", fn := fun _ => fun
  | [d1, d2] => { results := [.lit (.bool false)], args := [d1, d2] }
  | _ => none }
def MeetingAddWrongFalsely : Prop := meetingAddRow.holds Try.pinned (OpenSpec.ofChange meetingAddWrong)

/- THE SECOND FORM. 'bulk': how many values and letters a reading holds, each counted each time it is reached (what is shared counts as often as it is met; a slice's spare places count too). A statement '..UptoSaid' is the law's where the arguments, and the package variables that the reading takes, are together of bulk at most 1048576: NARROWER than '..Said'. Prove '..Said' where nothing that the law and all that it calls make is longer than what came in: it says more and counts as full. Else prove '..UptoSaid'. A law counts once. -/
mutual
def uptoBulk {H : Type} : DataW H → Nat
  | .lit (.string bytes) => bytes.length + 1
  | .lit _ => 1
  | .nil => 1
  | .ptr d => uptoBulk d + 1
  | .slice elems spare => uptoBulkAll elems + uptoBulkAll spare + 1
  | .agg parts => uptoBulkAll parts + 1
  | .iface _ d => uptoBulk d + 1
  | .map entries => uptoBulkEntries entries + 1
  | .held _ => 1
def uptoBulkAll {H : Type} : List (DataW H) → Nat
  | [] => 0
  | d :: r => uptoBulk d + uptoBulkAll r
def uptoBulkEntries {H : Type} : List (Lit × DataW H) → Nat
  | [] => 0
  | x :: r => uptoBulkEntry x + uptoBulkEntries r
def uptoBulkEntry {H : Type} : Lit × DataW H → Nat
  | (.string bytes, d) => bytes.length + uptoBulk d + 1
  | (_, d) => uptoBulk d + 1
 end
def uptoSmall : (H : Type) → List (DataW H) → Bool := fun _ ds => decide (uptoBulkAll ds ≤ 1048576)
def OpenSpec.upto (s : _root_.Go.ChangeSpec) : _root_.Go.OpenSpec := { _root_.Go.OpenSpec.ofChange s with cond := some uptoSmall }

/-- 'sizarlaw22.MeetingFreeSpec', WHERE WHAT IT READS IS OF BULK AT MOST 1048576: true; the input reads as it did. -/
def meetingFreeSpecUptoRow : OpenClaim := { program := "ytlcckkimbkfjpaa", sum := "a1c33f7a83e23a2e90f14e5fab7aee82b67f4530b5f9b667e2684858d828eed1", func := "sizar/sizarlaw22.MeetingFreeSpec", spec := "meetingFreeSpec", unfollowed := true, recurses := true, apart := false, narrowed := true }
def MeetingFreeSpecUptoSaid : Prop := meetingFreeSpecUptoRow.holds Try.pinned (OpenSpec.upto meetingFreeSpecSpec)

/-- 'sizarlaw22.MeetingMoments', WHERE WHAT IT READS IS OF BULK AT MOST 1048576: true; the input reads as it did. -/
def meetingMomentsUptoRow : OpenClaim := { program := "ytlcckkimbkfjpaa", sum := "a1c33f7a83e23a2e90f14e5fab7aee82b67f4530b5f9b667e2684858d828eed1", func := "sizar/sizarlaw22.MeetingMoments", spec := "meetingMoments", unfollowed := true, recurses := true, apart := false, narrowed := true }
def MeetingMomentsUptoSaid : Prop := meetingMomentsUptoRow.holds Try.pinned (OpenSpec.upto meetingMomentsSpec)

/-- 'sizarlaw22.MeetingApart', WHERE WHAT IT READS IS OF BULK AT MOST 1048576: true; the input reads as it did. -/
def meetingApartUptoRow : OpenClaim := { program := "ytlcckkimbkfjpaa", sum := "a1c33f7a83e23a2e90f14e5fab7aee82b67f4530b5f9b667e2684858d828eed1", func := "sizar/sizarlaw22.MeetingApart", spec := "meetingApart", unfollowed := true, recurses := true, apart := false, narrowed := true }
def MeetingApartUptoSaid : Prop := meetingApartUptoRow.holds Try.pinned (OpenSpec.upto meetingApartSpec)

/-- 'sizarlaw22.MeetingFrees', WHERE WHAT IT READS IS OF BULK AT MOST 1048576: true; the input reads as it did. -/
def meetingFreesUptoRow : OpenClaim := { program := "ytlcckkimbkfjpaa", sum := "a1c33f7a83e23a2e90f14e5fab7aee82b67f4530b5f9b667e2684858d828eed1", func := "sizar/sizarlaw22.MeetingFrees", spec := "meetingFrees", unfollowed := true, recurses := true, apart := false, narrowed := true }
def MeetingFreesUptoSaid : Prop := meetingFreesUptoRow.holds Try.pinned (OpenSpec.upto meetingFreesSpec)

/-- 'sizarlaw22.MeetingTotal', WHERE WHAT IT READS IS OF BULK AT MOST 1048576: true; the input reads as it did. -/
def meetingTotalUptoRow : OpenClaim := { program := "ytlcckkimbkfjpaa", sum := "a1c33f7a83e23a2e90f14e5fab7aee82b67f4530b5f9b667e2684858d828eed1", func := "sizar/sizarlaw22.MeetingTotal", spec := "meetingTotal", unfollowed := true, recurses := true, apart := false, narrowed := true }
def MeetingTotalUptoSaid : Prop := meetingTotalUptoRow.holds Try.pinned (OpenSpec.upto meetingTotalSpec)

/-- 'sizarlaw22.MeetingAdd', WHERE WHAT IT READS IS OF BULK AT MOST 1048576: true; the input reads as it did. -/
def meetingAddUptoRow : OpenClaim := { program := "ytlcckkimbkfjpaa", sum := "a1c33f7a83e23a2e90f14e5fab7aee82b67f4530b5f9b667e2684858d828eed1", func := "sizar/sizarlaw22.MeetingAdd", spec := "meetingAdd", unfollowed := true, recurses := true, apart := false, narrowed := true }
def MeetingAddUptoSaid : Prop := meetingAddUptoRow.holds Try.pinned (OpenSpec.upto meetingAddSpec)

end Rows
end Go.Proofs.Ytlcckkimbkfjpaa
