/- Each call comes to what is said, given the calls that it makes: part 4. -/
import Derived.Test.YtohmnikaeoaacaaGreatE1
set_option maxRecDepth 1000000
namespace Go.Vm.T
def t164 : FTree (List Ent) := .node 111005 (.leaf 27005 [e163]) (.node 112005 (.leaf 111005 [e2]) (.leaf 112005 [e4, e5, e6, e7, e8, e3, e11, e14, e16]))
theorem h164 : entX PP t164 100000 e164 = true := by decide +kernel
end Go.Vm.T
