/- Each call comes to what is said, given the calls that it makes: part 23. -/
import Derived.Test.YtohmnikaeoaacaaGreatE1
set_option maxRecDepth 1000000
namespace Go.Vm.T
def t1027 : FTree (List Ent) := .leaf 0 []
theorem h1027 : entX PP t1027 100000 e1027 = true := by decide +kernel
def t1031 : FTree (List Ent) := .leaf 0 []
theorem h1031 : entX PP t1031 100000 e1031 = true := by decide +kernel
def t1035 : FTree (List Ent) := .leaf 0 []
theorem h1035 : entX PP t1035 100000 e1035 = true := by decide +kernel
def t1039 : FTree (List Ent) := .leaf 0 []
theorem h1039 : entX PP t1039 100000 e1039 = true := by decide +kernel
def t1043 : FTree (List Ent) := .leaf 0 []
theorem h1043 : entX PP t1043 100000 e1043 = true := by decide +kernel
def t1047 : FTree (List Ent) := .leaf 0 []
theorem h1047 : entX PP t1047 100000 e1047 = true := by decide +kernel
def t1051 : FTree (List Ent) := .leaf 0 []
theorem h1051 : entX PP t1051 100000 e1051 = true := by decide +kernel
def t1055 : FTree (List Ent) := .leaf 0 []
theorem h1055 : entX PP t1055 100000 e1055 = true := by decide +kernel
def t1059 : FTree (List Ent) := .leaf 0 []
theorem h1059 : entX PP t1059 100000 e1059 = true := by decide +kernel
def t1063 : FTree (List Ent) := .leaf 0 []
theorem h1063 : entX PP t1063 100000 e1063 = true := by decide +kernel
def t1067 : FTree (List Ent) := .leaf 0 []
theorem h1067 : entX PP t1067 100000 e1067 = true := by decide +kernel
def t1071 : FTree (List Ent) := .leaf 0 []
theorem h1071 : entX PP t1071 100000 e1071 = true := by decide +kernel
def t1075 : FTree (List Ent) := .leaf 0 []
theorem h1075 : entX PP t1075 100000 e1075 = true := by decide +kernel
def t1079 : FTree (List Ent) := .leaf 0 []
theorem h1079 : entX PP t1079 100000 e1079 = true := by decide +kernel
def t1083 : FTree (List Ent) := .leaf 0 []
theorem h1083 : entX PP t1083 100000 e1083 = true := by decide +kernel
def t1087 : FTree (List Ent) := .leaf 0 []
theorem h1087 : entX PP t1087 100000 e1087 = true := by decide +kernel
def t1091 : FTree (List Ent) := .leaf 0 []
theorem h1091 : entX PP t1091 100000 e1091 = true := by decide +kernel
def t1095 : FTree (List Ent) := .leaf 0 []
theorem h1095 : entX PP t1095 100000 e1095 = true := by decide +kernel
def t1099 : FTree (List Ent) := .leaf 0 []
theorem h1099 : entX PP t1099 100000 e1099 = true := by decide +kernel
def t1103 : FTree (List Ent) := .leaf 0 []
theorem h1103 : entX PP t1103 100000 e1103 = true := by decide +kernel
def t1107 : FTree (List Ent) := .leaf 0 []
theorem h1107 : entX PP t1107 100000 e1107 = true := by decide +kernel
def t1111 : FTree (List Ent) := .leaf 0 []
theorem h1111 : entX PP t1111 100000 e1111 = true := by decide +kernel
def t1115 : FTree (List Ent) := .leaf 0 []
theorem h1115 : entX PP t1115 100000 e1115 = true := by decide +kernel
def t1119 : FTree (List Ent) := .leaf 0 []
theorem h1119 : entX PP t1119 100000 e1119 = true := by decide +kernel
def t1123 : FTree (List Ent) := .leaf 0 []
theorem h1123 : entX PP t1123 100000 e1123 = true := by decide +kernel
def t1127 : FTree (List Ent) := .leaf 0 []
theorem h1127 : entX PP t1127 100000 e1127 = true := by decide +kernel
def t1131 : FTree (List Ent) := .leaf 0 []
theorem h1131 : entX PP t1131 100000 e1131 = true := by decide +kernel
def t1135 : FTree (List Ent) := .leaf 0 []
theorem h1135 : entX PP t1135 100000 e1135 = true := by decide +kernel
def t1139 : FTree (List Ent) := .leaf 0 []
theorem h1139 : entX PP t1139 100000 e1139 = true := by decide +kernel
def t1143 : FTree (List Ent) := .leaf 0 []
theorem h1143 : entX PP t1143 100000 e1143 = true := by decide +kernel
def t1147 : FTree (List Ent) := .leaf 0 []
theorem h1147 : entX PP t1147 100000 e1147 = true := by decide +kernel
def t1151 : FTree (List Ent) := .leaf 0 []
theorem h1151 : entX PP t1151 100000 e1151 = true := by decide +kernel
def t1155 : FTree (List Ent) := .leaf 0 []
theorem h1155 : entX PP t1155 100000 e1155 = true := by decide +kernel
def t1159 : FTree (List Ent) := .leaf 0 []
theorem h1159 : entX PP t1159 100000 e1159 = true := by decide +kernel
def t1163 : FTree (List Ent) := .leaf 0 []
theorem h1163 : entX PP t1163 100000 e1163 = true := by decide +kernel
def t1167 : FTree (List Ent) := .leaf 0 []
theorem h1167 : entX PP t1167 100000 e1167 = true := by decide +kernel
def t1171 : FTree (List Ent) := .leaf 0 []
theorem h1171 : entX PP t1171 100000 e1171 = true := by decide +kernel
def t1175 : FTree (List Ent) := .leaf 0 []
theorem h1175 : entX PP t1175 100000 e1175 = true := by decide +kernel
def t1179 : FTree (List Ent) := .leaf 0 []
theorem h1179 : entX PP t1179 100000 e1179 = true := by decide +kernel
def t1183 : FTree (List Ent) := .leaf 0 []
theorem h1183 : entX PP t1183 100000 e1183 = true := by decide +kernel
def t1187 : FTree (List Ent) := .leaf 0 []
theorem h1187 : entX PP t1187 100000 e1187 = true := by decide +kernel
end Go.Vm.T
