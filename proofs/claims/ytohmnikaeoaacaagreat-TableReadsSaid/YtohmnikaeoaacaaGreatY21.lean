/- Each call comes to what is said, given the calls that it makes: part 21. -/
import Derived.Test.YtohmnikaeoaacaaGreatE1
set_option maxRecDepth 1000000
namespace Go.Vm.T
def t699 : FTree (List Ent) := .leaf 0 []
theorem h699 : entX PP t699 100000 e699 = true := by decide +kernel
def t703 : FTree (List Ent) := .leaf 0 []
theorem h703 : entX PP t703 100000 e703 = true := by decide +kernel
def t707 : FTree (List Ent) := .leaf 0 []
theorem h707 : entX PP t707 100000 e707 = true := by decide +kernel
def t711 : FTree (List Ent) := .leaf 0 []
theorem h711 : entX PP t711 100000 e711 = true := by decide +kernel
def t715 : FTree (List Ent) := .leaf 0 []
theorem h715 : entX PP t715 100000 e715 = true := by decide +kernel
def t719 : FTree (List Ent) := .leaf 0 []
theorem h719 : entX PP t719 100000 e719 = true := by decide +kernel
def t723 : FTree (List Ent) := .leaf 0 []
theorem h723 : entX PP t723 100000 e723 = true := by decide +kernel
def t727 : FTree (List Ent) := .leaf 0 []
theorem h727 : entX PP t727 100000 e727 = true := by decide +kernel
def t731 : FTree (List Ent) := .leaf 0 []
theorem h731 : entX PP t731 100000 e731 = true := by decide +kernel
def t735 : FTree (List Ent) := .leaf 0 []
theorem h735 : entX PP t735 100000 e735 = true := by decide +kernel
def t739 : FTree (List Ent) := .leaf 0 []
theorem h739 : entX PP t739 100000 e739 = true := by decide +kernel
def t743 : FTree (List Ent) := .leaf 0 []
theorem h743 : entX PP t743 100000 e743 = true := by decide +kernel
def t747 : FTree (List Ent) := .leaf 0 []
theorem h747 : entX PP t747 100000 e747 = true := by decide +kernel
def t751 : FTree (List Ent) := .leaf 0 []
theorem h751 : entX PP t751 100000 e751 = true := by decide +kernel
def t755 : FTree (List Ent) := .leaf 0 []
theorem h755 : entX PP t755 100000 e755 = true := by decide +kernel
def t759 : FTree (List Ent) := .leaf 0 []
theorem h759 : entX PP t759 100000 e759 = true := by decide +kernel
def t763 : FTree (List Ent) := .leaf 0 []
theorem h763 : entX PP t763 100000 e763 = true := by decide +kernel
def t767 : FTree (List Ent) := .leaf 0 []
theorem h767 : entX PP t767 100000 e767 = true := by decide +kernel
def t771 : FTree (List Ent) := .leaf 0 []
theorem h771 : entX PP t771 100000 e771 = true := by decide +kernel
def t775 : FTree (List Ent) := .leaf 0 []
theorem h775 : entX PP t775 100000 e775 = true := by decide +kernel
def t779 : FTree (List Ent) := .leaf 0 []
theorem h779 : entX PP t779 100000 e779 = true := by decide +kernel
def t783 : FTree (List Ent) := .leaf 0 []
theorem h783 : entX PP t783 100000 e783 = true := by decide +kernel
def t787 : FTree (List Ent) := .leaf 0 []
theorem h787 : entX PP t787 100000 e787 = true := by decide +kernel
def t791 : FTree (List Ent) := .leaf 0 []
theorem h791 : entX PP t791 100000 e791 = true := by decide +kernel
def t795 : FTree (List Ent) := .leaf 0 []
theorem h795 : entX PP t795 100000 e795 = true := by decide +kernel
def t799 : FTree (List Ent) := .leaf 0 []
theorem h799 : entX PP t799 100000 e799 = true := by decide +kernel
def t803 : FTree (List Ent) := .leaf 0 []
theorem h803 : entX PP t803 100000 e803 = true := by decide +kernel
def t807 : FTree (List Ent) := .leaf 0 []
theorem h807 : entX PP t807 100000 e807 = true := by decide +kernel
def t811 : FTree (List Ent) := .leaf 0 []
theorem h811 : entX PP t811 100000 e811 = true := by decide +kernel
def t815 : FTree (List Ent) := .leaf 0 []
theorem h815 : entX PP t815 100000 e815 = true := by decide +kernel
def t819 : FTree (List Ent) := .leaf 0 []
theorem h819 : entX PP t819 100000 e819 = true := by decide +kernel
def t823 : FTree (List Ent) := .leaf 0 []
theorem h823 : entX PP t823 100000 e823 = true := by decide +kernel
def t827 : FTree (List Ent) := .leaf 0 []
theorem h827 : entX PP t827 100000 e827 = true := by decide +kernel
def t831 : FTree (List Ent) := .leaf 0 []
theorem h831 : entX PP t831 100000 e831 = true := by decide +kernel
def t835 : FTree (List Ent) := .leaf 0 []
theorem h835 : entX PP t835 100000 e835 = true := by decide +kernel
def t839 : FTree (List Ent) := .leaf 0 []
theorem h839 : entX PP t839 100000 e839 = true := by decide +kernel
def t843 : FTree (List Ent) := .leaf 0 []
theorem h843 : entX PP t843 100000 e843 = true := by decide +kernel
def t847 : FTree (List Ent) := .leaf 0 []
theorem h847 : entX PP t847 100000 e847 = true := by decide +kernel
def t851 : FTree (List Ent) := .leaf 0 []
theorem h851 : entX PP t851 100000 e851 = true := by decide +kernel
def t855 : FTree (List Ent) := .leaf 0 []
theorem h855 : entX PP t855 100000 e855 = true := by decide +kernel
def t859 : FTree (List Ent) := .leaf 0 []
theorem h859 : entX PP t859 100000 e859 = true := by decide +kernel
end Go.Vm.T
