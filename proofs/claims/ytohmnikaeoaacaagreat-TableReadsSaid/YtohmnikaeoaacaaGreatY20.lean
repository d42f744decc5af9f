/- Each call comes to what is said, given the calls that it makes: part 20. -/
import Derived.Test.YtohmnikaeoaacaaGreatE1
set_option maxRecDepth 1000000
namespace Go.Vm.T
def t527 : FTree (List Ent) := .leaf 0 []
theorem h527 : entX PP t527 100000 e527 = true := by decide +kernel
def t531 : FTree (List Ent) := .leaf 0 []
theorem h531 : entX PP t531 100000 e531 = true := by decide +kernel
def t535 : FTree (List Ent) := .leaf 0 []
theorem h535 : entX PP t535 100000 e535 = true := by decide +kernel
def t539 : FTree (List Ent) := .leaf 0 []
theorem h539 : entX PP t539 100000 e539 = true := by decide +kernel
def t543 : FTree (List Ent) := .leaf 0 []
theorem h543 : entX PP t543 100000 e543 = true := by decide +kernel
def t547 : FTree (List Ent) := .leaf 0 []
theorem h547 : entX PP t547 100000 e547 = true := by decide +kernel
def t551 : FTree (List Ent) := .leaf 0 []
theorem h551 : entX PP t551 100000 e551 = true := by decide +kernel
def t563 : FTree (List Ent) := .leaf 0 []
theorem h563 : entX PP t563 100000 e563 = true := by decide +kernel
def t567 : FTree (List Ent) := .leaf 0 []
theorem h567 : entX PP t567 100000 e567 = true := by decide +kernel
def t571 : FTree (List Ent) := .leaf 0 []
theorem h571 : entX PP t571 100000 e571 = true := by decide +kernel
def t575 : FTree (List Ent) := .leaf 0 []
theorem h575 : entX PP t575 100000 e575 = true := by decide +kernel
def t579 : FTree (List Ent) := .leaf 0 []
theorem h579 : entX PP t579 100000 e579 = true := by decide +kernel
def t583 : FTree (List Ent) := .leaf 0 []
theorem h583 : entX PP t583 100000 e583 = true := by decide +kernel
def t587 : FTree (List Ent) := .leaf 0 []
theorem h587 : entX PP t587 100000 e587 = true := by decide +kernel
def t591 : FTree (List Ent) := .leaf 0 []
theorem h591 : entX PP t591 100000 e591 = true := by decide +kernel
def t595 : FTree (List Ent) := .leaf 0 []
theorem h595 : entX PP t595 100000 e595 = true := by decide +kernel
def t599 : FTree (List Ent) := .leaf 0 []
theorem h599 : entX PP t599 100000 e599 = true := by decide +kernel
def t603 : FTree (List Ent) := .leaf 0 []
theorem h603 : entX PP t603 100000 e603 = true := by decide +kernel
def t607 : FTree (List Ent) := .leaf 0 []
theorem h607 : entX PP t607 100000 e607 = true := by decide +kernel
def t611 : FTree (List Ent) := .leaf 0 []
theorem h611 : entX PP t611 100000 e611 = true := by decide +kernel
def t615 : FTree (List Ent) := .leaf 0 []
theorem h615 : entX PP t615 100000 e615 = true := by decide +kernel
def t619 : FTree (List Ent) := .leaf 0 []
theorem h619 : entX PP t619 100000 e619 = true := by decide +kernel
def t623 : FTree (List Ent) := .leaf 0 []
theorem h623 : entX PP t623 100000 e623 = true := by decide +kernel
def t627 : FTree (List Ent) := .leaf 0 []
theorem h627 : entX PP t627 100000 e627 = true := by decide +kernel
def t631 : FTree (List Ent) := .leaf 0 []
theorem h631 : entX PP t631 100000 e631 = true := by decide +kernel
def t635 : FTree (List Ent) := .leaf 0 []
theorem h635 : entX PP t635 100000 e635 = true := by decide +kernel
def t639 : FTree (List Ent) := .leaf 0 []
theorem h639 : entX PP t639 100000 e639 = true := by decide +kernel
def t643 : FTree (List Ent) := .leaf 0 []
theorem h643 : entX PP t643 100000 e643 = true := by decide +kernel
def t647 : FTree (List Ent) := .leaf 0 []
theorem h647 : entX PP t647 100000 e647 = true := by decide +kernel
def t651 : FTree (List Ent) := .leaf 0 []
theorem h651 : entX PP t651 100000 e651 = true := by decide +kernel
def t655 : FTree (List Ent) := .leaf 0 []
theorem h655 : entX PP t655 100000 e655 = true := by decide +kernel
def t659 : FTree (List Ent) := .leaf 0 []
theorem h659 : entX PP t659 100000 e659 = true := by decide +kernel
def t663 : FTree (List Ent) := .leaf 0 []
theorem h663 : entX PP t663 100000 e663 = true := by decide +kernel
def t667 : FTree (List Ent) := .leaf 0 []
theorem h667 : entX PP t667 100000 e667 = true := by decide +kernel
def t671 : FTree (List Ent) := .leaf 0 []
theorem h671 : entX PP t671 100000 e671 = true := by decide +kernel
def t675 : FTree (List Ent) := .leaf 0 []
theorem h675 : entX PP t675 100000 e675 = true := by decide +kernel
def t679 : FTree (List Ent) := .leaf 0 []
theorem h679 : entX PP t679 100000 e679 = true := by decide +kernel
def t683 : FTree (List Ent) := .leaf 0 []
theorem h683 : entX PP t683 100000 e683 = true := by decide +kernel
def t687 : FTree (List Ent) := .leaf 0 []
theorem h687 : entX PP t687 100000 e687 = true := by decide +kernel
def t691 : FTree (List Ent) := .leaf 0 []
theorem h691 : entX PP t691 100000 e691 = true := by decide +kernel
def t695 : FTree (List Ent) := .leaf 0 []
theorem h695 : entX PP t695 100000 e695 = true := by decide +kernel
end Go.Vm.T
