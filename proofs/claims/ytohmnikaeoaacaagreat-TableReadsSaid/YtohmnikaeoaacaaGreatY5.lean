/- Each call comes to what is said, given the calls that it makes: part 5. -/
import Derived.Test.YtohmnikaeoaacaaGreatE1
set_option maxRecDepth 1000000
namespace Go.Vm.T
def t2096 : FTree (List Ent) := .node 33005005 (.node 62005 (.leaf 29005 [e1870]) (.node 31005005 (.leaf 62005 [e1816]) (.leaf 31005005 [e1882]))) (.node 32005005001 (.node 32005005000 (.leaf 33005005 [e2054, e2082, e2026]) (.leaf 32005005000 [e1924, e2056, e2084, e2089, e2094, e1961, e1993, e2002, e2030])) (.node 32005005005 (.leaf 32005005001 [e2057, e1931, e2085, e2090, e2095, e1977, e1994, e2012, e2031]) (.leaf 32005005005 [e2055, e2058, e2064, e1945, e2083, e2086, e2087, e2088, e2091, e2092, e2093, e1990, e1991, e1992, e1995, e2000, e2001, e1954, e2027, e2028, e2029, e2032, e1955, e1906, e2038, e1917, e1918])))
theorem h2096 : entX PP t2096 100000 e2096 = true := by decide +kernel
end Go.Vm.T
