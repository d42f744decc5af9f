/- Each call comes to what is said, given the calls that it makes: part 13. -/
import Derived.Test.YtohmnikaeoaacaaGreatE1
set_option maxRecDepth 1000000
namespace Go.Vm.T
def t1672 : FTree (List Ent) := .leaf 0 []
theorem h1672 : entX PP t1672 100000 e1672 = true := by decide +kernel
def t1229 : FTree (List Ent) := .node 114005 (.leaf 87005 [e140, e147, e132]) (.leaf 114005 [e1188])
theorem h1229 : entX PP t1229 100000 e1229 = true := by decide +kernel
end Go.Vm.T
