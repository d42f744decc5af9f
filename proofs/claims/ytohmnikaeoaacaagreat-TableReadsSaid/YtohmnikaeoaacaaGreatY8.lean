/- Each call comes to what is said, given the calls that it makes: part 8. -/
import Derived.Test.YtohmnikaeoaacaaGreatE1
set_option maxRecDepth 1000000
namespace Go.Vm.T
def t1701 : FTree (List Ent) := .leaf 0 []
theorem h1701 : entX PP t1701 100000 e1701 = true := by decide +kernel
end Go.Vm.T
