/- Each call comes to what is said, given the calls that it makes: part 2. -/
import Derived.Test.YtohmnikaeoaacaaGreatE1
set_option maxRecDepth 1000000
namespace Go.Vm.T
def t1673 : FTree (List Ent) := .leaf 85005 [e1672]
theorem h1673 : entX PP t1673 100000 e1673 = true := by decide +kernel
end Go.Vm.T
