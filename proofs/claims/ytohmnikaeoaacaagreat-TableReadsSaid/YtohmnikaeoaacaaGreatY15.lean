/- Each call comes to what is said, given the calls that it makes: part 15. -/
import Derived.Test.YtohmnikaeoaacaaGreatE1
set_option maxRecDepth 1000000
namespace Go.Vm.T
def t2207 : FTree (List Ent) := .node 77005 (.node 19005 (.leaf 18005 [e2198]) (.leaf 19005 [e1406])) (.node 78005 (.leaf 77005 [e164]) (.node 79005 (.leaf 78005 [e1229]) (.leaf 79005 [e1726])))
theorem h2207 : entX PP t2207 100000 e2207 = true := by decide +kernel
def t1816 : FTree (List Ent) := .leaf 0 []
theorem h1816 : entX PP t1816 100000 e1816 = true := by decide +kernel
def t1267 : FTree (List Ent) := .node 125005005 (.leaf 124005 [e1232]) (.node 83005006000 (.leaf 125005005 [e1233]) (.leaf 83005006000 [e1245]))
theorem h1267 : entX PP t1267 100000 e1267 = true := by decide +kernel
def t1297 : FTree (List Ent) := .node 125005005 (.leaf 124005 [e1232]) (.node 83005005001 (.leaf 125005005 [e1233]) (.leaf 83005005001 [e1285]))
theorem h1297 : entX PP t1297 100000 e1297 = true := by decide +kernel
end Go.Vm.T
