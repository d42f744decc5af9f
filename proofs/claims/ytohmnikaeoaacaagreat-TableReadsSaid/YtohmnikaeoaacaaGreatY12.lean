/- Each call comes to what is said, given the calls that it makes: part 12. -/
import Derived.Test.YtohmnikaeoaacaaGreatE1
set_option maxRecDepth 1000000
namespace Go.Vm.T
def t1696 : FTree (List Ent) := .leaf 0 []
theorem h1696 : entX PP t1696 100000 e1696 = true := by decide +kernel
end Go.Vm.T
