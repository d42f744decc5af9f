/- Each call comes to what is said, given the calls that it makes: part 7. -/
import Derived.Test.YtohmnikaeoaacaaGreatE1
set_option maxRecDepth 1000000
namespace Go.Vm.T
def t1685 : FTree (List Ent) := .leaf 0 []
theorem h1685 : entX PP t1685 100000 e1685 = true := by decide +kernel
end Go.Vm.T
