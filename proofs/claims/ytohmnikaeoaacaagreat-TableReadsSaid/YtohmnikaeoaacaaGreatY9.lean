/- Each call comes to what is said, given the calls that it makes: part 9. -/
import Derived.Test.YtohmnikaeoaacaaGreatE1
set_option maxRecDepth 1000000
namespace Go.Vm.T
def t1704 : FTree (List Ent) := .leaf 0 []
theorem h1704 : entX PP t1704 100000 e1704 = true := by decide +kernel
end Go.Vm.T
