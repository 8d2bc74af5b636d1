/- Part 18 of the proof of the claim; the conditions are the statement's own. Own texts and printed texts, merged by pack.py (ours). -/
import Derived.Test.YtamajnhdibcpiaaKFWInv
import Derived.Test.YtamajnhdibcpiaaKFWFootNe
namespace Go.Proofs.YtamajnhdibcpiaaW.PrintWords
open Go.RowKit
end Go.Proofs.YtamajnhdibcpiaaW.PrintWords
namespace Go.Proofs.YtamajnhdibcpiaaW.PrintLast
section
variable {ops : Array Oper} {a : Act} {o og : Oper} {g : Nat} {t : Tmp} {u : Bool}
/-- An operand out of its slot. -/
theorem eval_of {v : Value} (h : a.tmps[t]? = some v) : a.eval (.tmp t) = v := by simp [Act.eval, h]
end
end Go.Proofs.YtamajnhdibcpiaaW.PrintLast
