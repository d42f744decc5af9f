/- Each call comes to what is said, given the calls that it makes: part 16. -/
import Derived.Test.YtohmnikaeoaacaaGreatE1
set_option maxRecDepth 1000000
namespace Go.Vm.T
def t163 : FTree (List Ent) := .leaf 87005 [e132, e147, e140]
theorem h163 : entX PP t163 100000 e163 = true := by decide +kernel
def t1870 : FTree (List Ent) := .node 66005 (.leaf 62005 [e1816]) (.node 148005005 (.leaf 66005 [e1836]) (.leaf 148005005 [e1865]))
theorem h1870 : entX PP t1870 100000 e1870 = true := by decide +kernel
def t2 : FTree (List Ent) := .leaf 0 []
theorem h2 : entX PP t2 100000 e2 = true := by decide +kernel
def t1906 : FTree (List Ent) := .leaf 0 []
theorem h1906 : entX PP t1906 100000 e1906 = true := by decide +kernel
def t1944 : FTree (List Ent) := .leaf 0 []
theorem h1944 : entX PP t1944 100000 e1944 = true := by decide +kernel
def t1409 : FTree (List Ent) := .leaf 124005 [e1232]
theorem h1409 : entX PP t1409 100000 e1409 = true := by decide +kernel
def t1233 : FTree (List Ent) := .leaf 124005 [e1232]
theorem h1233 : entX PP t1233 100000 e1233 = true := by decide +kernel
def t8 : FTree (List Ent) := .leaf 0 []
theorem h8 : entX PP t8 100000 e8 = true := by decide +kernel
def t1721 : FTree (List Ent) := .node 171005005001005 (.leaf 171005005000005 [e1697]) (.leaf 171005005001005 [e1711])
theorem h1721 : entX PP t1721 100000 e1721 = true := by decide +kernel
def t1725 : FTree (List Ent) := .node 171005005001005 (.leaf 171005005000005 [e1706, e1719]) (.leaf 171005005001005 [e1724, e1715])
theorem h1725 : entX PP t1725 100000 e1725 = true := by decide +kernel
def t1719 : FTree (List Ent) := .leaf 172005005 [e1704, e1701, e1685]
theorem h1719 : entX PP t1719 100000 e1719 = true := by decide +kernel
def t11 : FTree (List Ent) := .leaf 0 []
theorem h11 : entX PP t11 100000 e11 = true := by decide +kernel
end Go.Vm.T
