/- Each call comes to what is said, given the calls that it makes: part 10. -/
import Derived.Test.YtohmnikaeoaacaaGreatE1
set_option maxRecDepth 1000000
namespace Go.Vm.T
def t1677 : FTree (List Ent) := .leaf 0 []
theorem h1677 : entX PP t1677 100000 e1677 = true := by decide +kernel
end Go.Vm.T
