/- Each call comes to what is said, given the calls that it makes: part 14. -/
import Derived.Test.YtohmnikaeoaacaaGreatE1
set_option maxRecDepth 1000000
namespace Go.Vm.T
def t2198 : FTree (List Ent) := .node 32005005000 (.node 29005 (.leaf 13005 [e2096]) (.node 73005005 (.leaf 29005 [e1870]) (.leaf 73005005 [e2103, e2113, e2123, e2118, e2129, e2137, e2146, e2156, e2167]))) (.node 32005005001 (.leaf 32005005000 [e1924, e2056, e2084, e2089, e2094, e1961, e1993, e2002, e2030]) (.node 32005005005 (.leaf 32005005001 [e2057, e1931, e2085, e2090, e2095, e1977, e1994, e2012, e2031]) (.leaf 32005005005 [e2055, e2058, e2064, e1945, e1954, e2083, e2086, e2087, e2088, e2091, e2092, e2093, e1990, e1991, e1992, e1995, e2000, e2001, e2027, e2029, e2032, e2028, e1955, e1906, e2038, e1917, e1918])))
theorem h2198 : entX PP t2198 100000 e2198 = true := by decide +kernel
def t1415 : FTree (List Ent) := .node 124005 (.leaf 87005 [e132, e140, e147]) (.node 125005005 (.leaf 124005 [e1232]) (.leaf 125005005 [e1409, e1233]))
theorem h1415 : entX PP t1415 100000 e1415 = true := by decide +kernel
end Go.Vm.T
