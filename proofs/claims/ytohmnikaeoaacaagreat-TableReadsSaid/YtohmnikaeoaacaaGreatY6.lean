/- Each call comes to what is said, given the calls that it makes: part 6. -/
import Derived.Test.YtohmnikaeoaacaaGreatE1
set_option maxRecDepth 1000000
namespace Go.Vm.T
def t1406 : FTree (List Ent) := .node 41005005000 (.node 42005005 (.leaf 24005 [e1391]) (.leaf 42005005 [e1396])) (.node 41005005001 (.leaf 41005005000 [e1332, e1307, e1278]) (.node 41005005005 (.leaf 41005005001 [e1315, e1337]) (.leaf 41005005005 [e1304, e1353, e1327, e1330, e1331, e1298, e1303, e1368, e1267])))
theorem h1406 : entX PP t1406 100000 e1406 = true := by decide +kernel
end Go.Vm.T
