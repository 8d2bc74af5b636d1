/- Words for the claim's proof, cut down. -/
import Derived.Test.YtamajnhdibcpiaaKIWInv
import Derived.Test.YtamajnhdibcpiaaKIWFootNe
set_option linter.unusedVariables false
set_option linter.unusedSimpArgs false
namespace Go.Proofs.YtamajnhdibcpiaaW.PrintWords
open Go.RowKit
end Go.Proofs.YtamajnhdibcpiaaW.PrintWords
namespace Go.Proofs.YtamajnhdibcpiaaW.PrintLast
section
variable {ops : Array Oper} {a : Act} {o og : Oper} {g : Nat} {t : Tmp} {u : Bool}
theorem eval_of {v : Value} (h : a.tmps[t]? = some v) : a.eval (.tmp t) = v := by simp [Act.eval, h]
end
end Go.Proofs.YtamajnhdibcpiaaW.PrintLast
