/- Each call comes to what is said, given the calls that it makes: part 25. -/
import Derived.Test.YtohmnikaeoaacaaGreatE1
set_option maxRecDepth 1000000
namespace Go.Vm.T
def t2093 : FTree (List Ent) := .leaf 0 []
theorem h2093 : entX PP t2093 100000 e2093 = true := by decide +kernel
def t2094 : FTree (List Ent) := .leaf 0 []
theorem h2094 : entX PP t2094 100000 e2094 = true := by decide +kernel
def t2095 : FTree (List Ent) := .leaf 0 []
theorem h2095 : entX PP t2095 100000 e2095 = true := by decide +kernel
def t1990 : FTree (List Ent) := .leaf 0 []
theorem h1990 : entX PP t1990 100000 e1990 = true := by decide +kernel
def t1991 : FTree (List Ent) := .leaf 0 []
theorem h1991 : entX PP t1991 100000 e1991 = true := by decide +kernel
def t1992 : FTree (List Ent) := .leaf 0 []
theorem h1992 : entX PP t1992 100000 e1992 = true := by decide +kernel
def t1993 : FTree (List Ent) := .leaf 0 []
theorem h1993 : entX PP t1993 100000 e1993 = true := by decide +kernel
def t1994 : FTree (List Ent) := .leaf 0 []
theorem h1994 : entX PP t1994 100000 e1994 = true := by decide +kernel
def t2118 : FTree (List Ent) := .leaf 0 []
theorem h2118 : entX PP t2118 100000 e2118 = true := by decide +kernel
def t1698 : FTree (List Ent) := .leaf 171005005000005 [e1697]
theorem h1698 : entX PP t1698 100000 e1698 = true := by decide +kernel
def t1707 : FTree (List Ent) := .leaf 171005005000005 [e1706]
theorem h1707 : entX PP t1707 100000 e1707 = true := by decide +kernel
def t553 : FTree (List Ent) := .leaf 0 []
theorem h553 : entX PP t553 100000 e553 = true := by decide +kernel
def t554 : FTree (List Ent) := .leaf 0 []
theorem h554 : entX PP t554 100000 e554 = true := by decide +kernel
def t559 : FTree (List Ent) := .leaf 0 []
theorem h559 : entX PP t559 100000 e559 = true := by decide +kernel
end Go.Vm.T
