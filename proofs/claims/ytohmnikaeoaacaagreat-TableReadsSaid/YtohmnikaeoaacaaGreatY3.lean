/- Each call comes to what is said, given the calls that it makes: part 3. -/
import Derived.Test.YtohmnikaeoaacaaGreatE1
set_option maxRecDepth 1000000
namespace Go.Vm.T
def t1391 : FTree (List Ent) := .node 41005005000 (.node 125005005 (.leaf 124005 [e1232]) (.leaf 125005005 [e1233])) (.node 41005005001 (.leaf 41005005000 [e1332, e1307, e1278]) (.node 41005005005 (.leaf 41005005001 [e1315, e1337]) (.leaf 41005005005 [e1304, e1353, e1327, e1330, e1331, e1298, e1267, e1303, e1368])))
theorem h1391 : entX PP t1391 100000 e1391 = true := by decide +kernel
end Go.Vm.T
