/- Each call comes to what is said, given the calls that it makes: part 17. -/
import Derived.Test.YtohmnikaeoaacaaGreatE1
set_option maxRecDepth 1000000
namespace Go.Vm.T
def t5 : FTree (List Ent) := .leaf 0 []
theorem h5 : entX PP t5 100000 e5 = true := by decide +kernel
def t6 : FTree (List Ent) := .leaf 0 []
theorem h6 : entX PP t6 100000 e6 = true := by decide +kernel
def t7 : FTree (List Ent) := .leaf 0 []
theorem h7 : entX PP t7 100000 e7 = true := by decide +kernel
def t1706 : FTree (List Ent) := .leaf 172005005 [e1704, e1701, e1685]
theorem h1706 : entX PP t1706 100000 e1706 = true := by decide +kernel
def t1724 : FTree (List Ent) := .leaf 172005005 [e1704, e1701]
theorem h1724 : entX PP t1724 100000 e1724 = true := by decide +kernel
def t1715 : FTree (List Ent) := .leaf 172005005 [e1704, e1701]
theorem h1715 : entX PP t1715 100000 e1715 = true := by decide +kernel
def t2167 : FTree (List Ent) := .leaf 0 []
theorem h2167 : entX PP t2167 100000 e2167 = true := by decide +kernel
def t1882 : FTree (List Ent) := .leaf 0 []
theorem h1882 : entX PP t1882 100000 e1882 = true := by decide +kernel
def t1232 : FTree (List Ent) := .leaf 0 []
theorem h1232 : entX PP t1232 100000 e1232 = true := by decide +kernel
def t2156 : FTree (List Ent) := .leaf 0 []
theorem h2156 : entX PP t2156 100000 e2156 = true := by decide +kernel
def t1315 : FTree (List Ent) := .leaf 0 []
theorem h1315 : entX PP t1315 100000 e1315 = true := by decide +kernel
def t1337 : FTree (List Ent) := .leaf 0 []
theorem h1337 : entX PP t1337 100000 e1337 = true := by decide +kernel
def t1977 : FTree (List Ent) := .leaf 0 []
theorem h1977 : entX PP t1977 100000 e1977 = true := by decide +kernel
def t2012 : FTree (List Ent) := .leaf 0 []
theorem h2012 : entX PP t2012 100000 e2012 = true := by decide +kernel
def t1307 : FTree (List Ent) := .leaf 0 []
theorem h1307 : entX PP t1307 100000 e1307 = true := by decide +kernel
def t1332 : FTree (List Ent) := .leaf 0 []
theorem h1332 : entX PP t1332 100000 e1332 = true := by decide +kernel
def t1961 : FTree (List Ent) := .leaf 0 []
theorem h1961 : entX PP t1961 100000 e1961 = true := by decide +kernel
def t2002 : FTree (List Ent) := .leaf 0 []
theorem h2002 : entX PP t2002 100000 e2002 = true := by decide +kernel
def t1836 : FTree (List Ent) := .leaf 62005 [e1816]
theorem h1836 : entX PP t1836 100000 e1836 = true := by decide +kernel
def t16 : FTree (List Ent) := .leaf 0 []
theorem h16 : entX PP t16 100000 e16 = true := by decide +kernel
def t2082 : FTree (List Ent) := .leaf 0 []
theorem h2082 : entX PP t2082 100000 e2082 = true := by decide +kernel
def t1697 : FTree (List Ent) := .leaf 172005005 [e1696, e1693, e1677]
theorem h1697 : entX PP t1697 100000 e1697 = true := by decide +kernel
def t3 : FTree (List Ent) := .leaf 0 []
theorem h3 : entX PP t3 100000 e3 = true := by decide +kernel
def t4 : FTree (List Ent) := .leaf 0 []
theorem h4 : entX PP t4 100000 e4 = true := by decide +kernel
def t2146 : FTree (List Ent) := .leaf 0 []
theorem h2146 : entX PP t2146 100000 e2146 = true := by decide +kernel
def t132 : FTree (List Ent) := .leaf 0 []
theorem h132 : entX PP t132 100000 e132 = true := by decide +kernel
def t140 : FTree (List Ent) := .leaf 0 []
theorem h140 : entX PP t140 100000 e140 = true := by decide +kernel
def t147 : FTree (List Ent) := .leaf 0 []
theorem h147 : entX PP t147 100000 e147 = true := by decide +kernel
def t171 : FTree (List Ent) := .leaf 0 []
theorem h171 : entX PP t171 100000 e171 = true := by decide +kernel
def t175 : FTree (List Ent) := .leaf 0 []
theorem h175 : entX PP t175 100000 e175 = true := by decide +kernel
def t179 : FTree (List Ent) := .leaf 0 []
theorem h179 : entX PP t179 100000 e179 = true := by decide +kernel
def t183 : FTree (List Ent) := .leaf 0 []
theorem h183 : entX PP t183 100000 e183 = true := by decide +kernel
def t187 : FTree (List Ent) := .leaf 0 []
theorem h187 : entX PP t187 100000 e187 = true := by decide +kernel
def t191 : FTree (List Ent) := .leaf 0 []
theorem h191 : entX PP t191 100000 e191 = true := by decide +kernel
end Go.Vm.T
