/- Each call comes to what is said, given the calls that it makes: part 22. -/
import Derived.Test.YtohmnikaeoaacaaGreatE1
set_option maxRecDepth 1000000
namespace Go.Vm.T
def t863 : FTree (List Ent) := .leaf 0 []
theorem h863 : entX PP t863 100000 e863 = true := by decide +kernel
def t867 : FTree (List Ent) := .leaf 0 []
theorem h867 : entX PP t867 100000 e867 = true := by decide +kernel
def t871 : FTree (List Ent) := .leaf 0 []
theorem h871 : entX PP t871 100000 e871 = true := by decide +kernel
def t875 : FTree (List Ent) := .leaf 0 []
theorem h875 : entX PP t875 100000 e875 = true := by decide +kernel
def t879 : FTree (List Ent) := .leaf 0 []
theorem h879 : entX PP t879 100000 e879 = true := by decide +kernel
def t883 : FTree (List Ent) := .leaf 0 []
theorem h883 : entX PP t883 100000 e883 = true := by decide +kernel
def t887 : FTree (List Ent) := .leaf 0 []
theorem h887 : entX PP t887 100000 e887 = true := by decide +kernel
def t891 : FTree (List Ent) := .leaf 0 []
theorem h891 : entX PP t891 100000 e891 = true := by decide +kernel
def t895 : FTree (List Ent) := .leaf 0 []
theorem h895 : entX PP t895 100000 e895 = true := by decide +kernel
def t899 : FTree (List Ent) := .leaf 0 []
theorem h899 : entX PP t899 100000 e899 = true := by decide +kernel
def t903 : FTree (List Ent) := .leaf 0 []
theorem h903 : entX PP t903 100000 e903 = true := by decide +kernel
def t907 : FTree (List Ent) := .leaf 0 []
theorem h907 : entX PP t907 100000 e907 = true := by decide +kernel
def t911 : FTree (List Ent) := .leaf 0 []
theorem h911 : entX PP t911 100000 e911 = true := by decide +kernel
def t915 : FTree (List Ent) := .leaf 0 []
theorem h915 : entX PP t915 100000 e915 = true := by decide +kernel
def t919 : FTree (List Ent) := .leaf 0 []
theorem h919 : entX PP t919 100000 e919 = true := by decide +kernel
def t923 : FTree (List Ent) := .leaf 0 []
theorem h923 : entX PP t923 100000 e923 = true := by decide +kernel
def t927 : FTree (List Ent) := .leaf 0 []
theorem h927 : entX PP t927 100000 e927 = true := by decide +kernel
def t931 : FTree (List Ent) := .leaf 0 []
theorem h931 : entX PP t931 100000 e931 = true := by decide +kernel
def t935 : FTree (List Ent) := .leaf 0 []
theorem h935 : entX PP t935 100000 e935 = true := by decide +kernel
def t939 : FTree (List Ent) := .leaf 0 []
theorem h939 : entX PP t939 100000 e939 = true := by decide +kernel
def t943 : FTree (List Ent) := .leaf 0 []
theorem h943 : entX PP t943 100000 e943 = true := by decide +kernel
def t947 : FTree (List Ent) := .leaf 0 []
theorem h947 : entX PP t947 100000 e947 = true := by decide +kernel
def t951 : FTree (List Ent) := .leaf 0 []
theorem h951 : entX PP t951 100000 e951 = true := by decide +kernel
def t955 : FTree (List Ent) := .leaf 0 []
theorem h955 : entX PP t955 100000 e955 = true := by decide +kernel
def t959 : FTree (List Ent) := .leaf 0 []
theorem h959 : entX PP t959 100000 e959 = true := by decide +kernel
def t963 : FTree (List Ent) := .leaf 0 []
theorem h963 : entX PP t963 100000 e963 = true := by decide +kernel
def t967 : FTree (List Ent) := .leaf 0 []
theorem h967 : entX PP t967 100000 e967 = true := by decide +kernel
def t971 : FTree (List Ent) := .leaf 0 []
theorem h971 : entX PP t971 100000 e971 = true := by decide +kernel
def t975 : FTree (List Ent) := .leaf 0 []
theorem h975 : entX PP t975 100000 e975 = true := by decide +kernel
def t979 : FTree (List Ent) := .leaf 0 []
theorem h979 : entX PP t979 100000 e979 = true := by decide +kernel
def t983 : FTree (List Ent) := .leaf 0 []
theorem h983 : entX PP t983 100000 e983 = true := by decide +kernel
def t987 : FTree (List Ent) := .leaf 0 []
theorem h987 : entX PP t987 100000 e987 = true := by decide +kernel
def t991 : FTree (List Ent) := .leaf 0 []
theorem h991 : entX PP t991 100000 e991 = true := by decide +kernel
def t995 : FTree (List Ent) := .leaf 0 []
theorem h995 : entX PP t995 100000 e995 = true := by decide +kernel
def t999 : FTree (List Ent) := .leaf 0 []
theorem h999 : entX PP t999 100000 e999 = true := by decide +kernel
def t1003 : FTree (List Ent) := .leaf 0 []
theorem h1003 : entX PP t1003 100000 e1003 = true := by decide +kernel
def t1007 : FTree (List Ent) := .leaf 0 []
theorem h1007 : entX PP t1007 100000 e1007 = true := by decide +kernel
def t1011 : FTree (List Ent) := .leaf 0 []
theorem h1011 : entX PP t1011 100000 e1011 = true := by decide +kernel
def t1015 : FTree (List Ent) := .leaf 0 []
theorem h1015 : entX PP t1015 100000 e1015 = true := by decide +kernel
def t1019 : FTree (List Ent) := .leaf 0 []
theorem h1019 : entX PP t1019 100000 e1019 = true := by decide +kernel
def t1023 : FTree (List Ent) := .leaf 0 []
theorem h1023 : entX PP t1023 100000 e1023 = true := by decide +kernel
end Go.Vm.T
