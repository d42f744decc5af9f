/- Each call comes to what is said, given the calls that it makes: part 24. -/
import Derived.Test.YtohmnikaeoaacaaGreatE1
set_option maxRecDepth 1000000
namespace Go.Vm.T
def t1712 : FTree (List Ent) := .node 171005005001005 (.leaf 171005005000005 [e1697]) (.leaf 171005005001005 [e1711])
theorem h1712 : entX PP t1712 100000 e1712 = true := by decide +kernel
def t1720 : FTree (List Ent) := .node 171005005001005 (.leaf 171005005000005 [e1706, e1719]) (.leaf 171005005001005 [e1715])
theorem h1720 : entX PP t1720 100000 e1720 = true := by decide +kernel
def t2054 : FTree (List Ent) := .leaf 0 []
theorem h2054 : entX PP t2054 100000 e2054 = true := by decide +kernel
def t1711 : FTree (List Ent) := .leaf 172005005 [e1696, e1693]
theorem h1711 : entX PP t1711 100000 e1711 = true := by decide +kernel
def t1245 : FTree (List Ent) := .node 125005005 (.leaf 124005 [e1232]) (.leaf 125005005 [e1233])
theorem h1245 : entX PP t1245 100000 e1245 = true := by decide +kernel
def t1285 : FTree (List Ent) := .node 125005005 (.leaf 124005 [e1232]) (.leaf 125005005 [e1233])
theorem h1285 : entX PP t1285 100000 e1285 = true := by decide +kernel
def t295 : FTree (List Ent) := .leaf 0 []
theorem h295 : entX PP t295 100000 e295 = true := by decide +kernel
def t1954 : FTree (List Ent) := .leaf 0 []
theorem h1954 : entX PP t1954 100000 e1954 = true := by decide +kernel
def t1955 : FTree (List Ent) := .leaf 0 []
theorem h1955 : entX PP t1955 100000 e1955 = true := by decide +kernel
def t2000 : FTree (List Ent) := .leaf 0 []
theorem h2000 : entX PP t2000 100000 e2000 = true := by decide +kernel
def t2001 : FTree (List Ent) := .leaf 0 []
theorem h2001 : entX PP t2001 100000 e2001 = true := by decide +kernel
def t2137 : FTree (List Ent) := .leaf 0 []
theorem h2137 : entX PP t2137 100000 e2137 = true := by decide +kernel
def t1688 : FTree (List Ent) := .leaf 172005005 [e1685]
theorem h1688 : entX PP t1688 100000 e1688 = true := by decide +kernel
def t1865 : FTree (List Ent) := .leaf 0 []
theorem h1865 : entX PP t1865 100000 e1865 = true := by decide +kernel
def t1924 : FTree (List Ent) := .leaf 0 []
theorem h1924 : entX PP t1924 100000 e1924 = true := by decide +kernel
def t1278 : FTree (List Ent) := .leaf 0 []
theorem h1278 : entX PP t1278 100000 e1278 = true := by decide +kernel
def t2123 : FTree (List Ent) := .leaf 0 []
theorem h2123 : entX PP t2123 100000 e2123 = true := by decide +kernel
def t1298 : FTree (List Ent) := .leaf 48005005 [e1297]
theorem h1298 : entX PP t1298 100000 e1298 = true := by decide +kernel
def t1327 : FTree (List Ent) := .leaf 48005005 [e1297]
theorem h1327 : entX PP t1327 100000 e1327 = true := by decide +kernel
def t2026 : FTree (List Ent) := .leaf 0 []
theorem h2026 : entX PP t2026 100000 e2026 = true := by decide +kernel
def t14 : FTree (List Ent) := .leaf 0 []
theorem h14 : entX PP t14 100000 e14 = true := by decide +kernel
def t1303 : FTree (List Ent) := .leaf 0 []
theorem h1303 : entX PP t1303 100000 e1303 = true := by decide +kernel
def t1304 : FTree (List Ent) := .leaf 0 []
theorem h1304 : entX PP t1304 100000 e1304 = true := by decide +kernel
def t1330 : FTree (List Ent) := .leaf 0 []
theorem h1330 : entX PP t1330 100000 e1330 = true := by decide +kernel
def t1331 : FTree (List Ent) := .leaf 0 []
theorem h1331 : entX PP t1331 100000 e1331 = true := by decide +kernel
def t1682 : FTree (List Ent) := .leaf 172005005 [e1677]
theorem h1682 : entX PP t1682 100000 e1682 = true := by decide +kernel
def t2038 : FTree (List Ent) := .leaf 0 []
theorem h2038 : entX PP t2038 100000 e2038 = true := by decide +kernel
def t2064 : FTree (List Ent) := .leaf 0 []
theorem h2064 : entX PP t2064 100000 e2064 = true := by decide +kernel
def t1396 : FTree (List Ent) := .leaf 0 []
theorem h1396 : entX PP t1396 100000 e1396 = true := by decide +kernel
def t2129 : FTree (List Ent) := .leaf 0 []
theorem h2129 : entX PP t2129 100000 e2129 = true := by decide +kernel
def t1353 : FTree (List Ent) := .leaf 0 []
theorem h1353 : entX PP t1353 100000 e1353 = true := by decide +kernel
def t1368 : FTree (List Ent) := .leaf 0 []
theorem h1368 : entX PP t1368 100000 e1368 = true := by decide +kernel
def t1945 : FTree (List Ent) := .leaf 31005005 [e1944]
theorem h1945 : entX PP t1945 100000 e1945 = true := by decide +kernel
def t1995 : FTree (List Ent) := .leaf 31005005 [e1944]
theorem h1995 : entX PP t1995 100000 e1995 = true := by decide +kernel
def t2113 : FTree (List Ent) := .leaf 0 []
theorem h2113 : entX PP t2113 100000 e2113 = true := by decide +kernel
def t1917 : FTree (List Ent) := .leaf 0 []
theorem h1917 : entX PP t1917 100000 e1917 = true := by decide +kernel
def t1918 : FTree (List Ent) := .leaf 0 []
theorem h1918 : entX PP t1918 100000 e1918 = true := by decide +kernel
def t1931 : FTree (List Ent) := .leaf 0 []
theorem h1931 : entX PP t1931 100000 e1931 = true := by decide +kernel
def t557 : FTree (List Ent) := .leaf 0 []
theorem h557 : entX PP t557 100000 e557 = true := by decide +kernel
def t558 : FTree (List Ent) := .leaf 0 []
theorem h558 : entX PP t558 100000 e558 = true := by decide +kernel
def t2103 : FTree (List Ent) := .leaf 0 []
theorem h2103 : entX PP t2103 100000 e2103 = true := by decide +kernel
def t2032 : FTree (List Ent) := .leaf 0 []
theorem h2032 : entX PP t2032 100000 e2032 = true := by decide +kernel
def t2055 : FTree (List Ent) := .leaf 0 []
theorem h2055 : entX PP t2055 100000 e2055 = true := by decide +kernel
def t2056 : FTree (List Ent) := .leaf 0 []
theorem h2056 : entX PP t2056 100000 e2056 = true := by decide +kernel
def t2057 : FTree (List Ent) := .leaf 0 []
theorem h2057 : entX PP t2057 100000 e2057 = true := by decide +kernel
def t2058 : FTree (List Ent) := .leaf 0 []
theorem h2058 : entX PP t2058 100000 e2058 = true := by decide +kernel
def t2083 : FTree (List Ent) := .leaf 0 []
theorem h2083 : entX PP t2083 100000 e2083 = true := by decide +kernel
def t2084 : FTree (List Ent) := .leaf 0 []
theorem h2084 : entX PP t2084 100000 e2084 = true := by decide +kernel
def t2085 : FTree (List Ent) := .leaf 0 []
theorem h2085 : entX PP t2085 100000 e2085 = true := by decide +kernel
def t2027 : FTree (List Ent) := .leaf 0 []
theorem h2027 : entX PP t2027 100000 e2027 = true := by decide +kernel
def t2028 : FTree (List Ent) := .leaf 0 []
theorem h2028 : entX PP t2028 100000 e2028 = true := by decide +kernel
def t2029 : FTree (List Ent) := .leaf 0 []
theorem h2029 : entX PP t2029 100000 e2029 = true := by decide +kernel
def t2030 : FTree (List Ent) := .leaf 0 []
theorem h2030 : entX PP t2030 100000 e2030 = true := by decide +kernel
def t2031 : FTree (List Ent) := .leaf 0 []
theorem h2031 : entX PP t2031 100000 e2031 = true := by decide +kernel
def t2086 : FTree (List Ent) := .leaf 0 []
theorem h2086 : entX PP t2086 100000 e2086 = true := by decide +kernel
def t2087 : FTree (List Ent) := .leaf 0 []
theorem h2087 : entX PP t2087 100000 e2087 = true := by decide +kernel
def t2088 : FTree (List Ent) := .leaf 0 []
theorem h2088 : entX PP t2088 100000 e2088 = true := by decide +kernel
def t2089 : FTree (List Ent) := .leaf 0 []
theorem h2089 : entX PP t2089 100000 e2089 = true := by decide +kernel
def t2090 : FTree (List Ent) := .leaf 0 []
theorem h2090 : entX PP t2090 100000 e2090 = true := by decide +kernel
def t2091 : FTree (List Ent) := .leaf 0 []
theorem h2091 : entX PP t2091 100000 e2091 = true := by decide +kernel
def t2092 : FTree (List Ent) := .leaf 0 []
theorem h2092 : entX PP t2092 100000 e2092 = true := by decide +kernel
end Go.Vm.T
