/- Each call comes to what is said, given the calls that it makes: part 11. -/
import Derived.Test.YtohmnikaeoaacaaGreatE1
set_option maxRecDepth 1000000
namespace Go.Vm.T
def t1693 : FTree (List Ent) := .leaf 0 []
theorem h1693 : entX PP t1693 100000 e1693 = true := by decide +kernel
end Go.Vm.T
