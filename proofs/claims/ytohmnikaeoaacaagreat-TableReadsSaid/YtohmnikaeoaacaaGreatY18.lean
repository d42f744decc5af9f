/- Each call comes to what is said, given the calls that it makes: part 18. -/
import Derived.Test.YtohmnikaeoaacaaGreatE1
set_option maxRecDepth 1000000
namespace Go.Vm.T
def t195 : FTree (List Ent) := .leaf 0 []
theorem h195 : entX PP t195 100000 e195 = true := by decide +kernel
def t199 : FTree (List Ent) := .leaf 0 []
theorem h199 : entX PP t199 100000 e199 = true := by decide +kernel
def t203 : FTree (List Ent) := .leaf 0 []
theorem h203 : entX PP t203 100000 e203 = true := by decide +kernel
def t207 : FTree (List Ent) := .leaf 0 []
theorem h207 : entX PP t207 100000 e207 = true := by decide +kernel
def t211 : FTree (List Ent) := .leaf 0 []
theorem h211 : entX PP t211 100000 e211 = true := by decide +kernel
def t215 : FTree (List Ent) := .leaf 0 []
theorem h215 : entX PP t215 100000 e215 = true := by decide +kernel
def t219 : FTree (List Ent) := .leaf 0 []
theorem h219 : entX PP t219 100000 e219 = true := by decide +kernel
def t223 : FTree (List Ent) := .leaf 0 []
theorem h223 : entX PP t223 100000 e223 = true := by decide +kernel
def t227 : FTree (List Ent) := .leaf 0 []
theorem h227 : entX PP t227 100000 e227 = true := by decide +kernel
def t231 : FTree (List Ent) := .leaf 0 []
theorem h231 : entX PP t231 100000 e231 = true := by decide +kernel
def t235 : FTree (List Ent) := .leaf 0 []
theorem h235 : entX PP t235 100000 e235 = true := by decide +kernel
def t239 : FTree (List Ent) := .leaf 0 []
theorem h239 : entX PP t239 100000 e239 = true := by decide +kernel
def t243 : FTree (List Ent) := .leaf 0 []
theorem h243 : entX PP t243 100000 e243 = true := by decide +kernel
def t247 : FTree (List Ent) := .leaf 0 []
theorem h247 : entX PP t247 100000 e247 = true := by decide +kernel
def t251 : FTree (List Ent) := .leaf 0 []
theorem h251 : entX PP t251 100000 e251 = true := by decide +kernel
def t255 : FTree (List Ent) := .leaf 0 []
theorem h255 : entX PP t255 100000 e255 = true := by decide +kernel
def t259 : FTree (List Ent) := .leaf 0 []
theorem h259 : entX PP t259 100000 e259 = true := by decide +kernel
def t263 : FTree (List Ent) := .leaf 0 []
theorem h263 : entX PP t263 100000 e263 = true := by decide +kernel
def t267 : FTree (List Ent) := .leaf 0 []
theorem h267 : entX PP t267 100000 e267 = true := by decide +kernel
def t271 : FTree (List Ent) := .leaf 0 []
theorem h271 : entX PP t271 100000 e271 = true := by decide +kernel
def t275 : FTree (List Ent) := .leaf 0 []
theorem h275 : entX PP t275 100000 e275 = true := by decide +kernel
def t279 : FTree (List Ent) := .leaf 0 []
theorem h279 : entX PP t279 100000 e279 = true := by decide +kernel
def t283 : FTree (List Ent) := .leaf 0 []
theorem h283 : entX PP t283 100000 e283 = true := by decide +kernel
def t287 : FTree (List Ent) := .leaf 0 []
theorem h287 : entX PP t287 100000 e287 = true := by decide +kernel
def t291 : FTree (List Ent) := .leaf 0 []
theorem h291 : entX PP t291 100000 e291 = true := by decide +kernel
def t299 : FTree (List Ent) := .leaf 0 []
theorem h299 : entX PP t299 100000 e299 = true := by decide +kernel
def t303 : FTree (List Ent) := .leaf 0 []
theorem h303 : entX PP t303 100000 e303 = true := by decide +kernel
def t307 : FTree (List Ent) := .leaf 0 []
theorem h307 : entX PP t307 100000 e307 = true := by decide +kernel
def t311 : FTree (List Ent) := .leaf 0 []
theorem h311 : entX PP t311 100000 e311 = true := by decide +kernel
def t315 : FTree (List Ent) := .leaf 0 []
theorem h315 : entX PP t315 100000 e315 = true := by decide +kernel
def t319 : FTree (List Ent) := .leaf 0 []
theorem h319 : entX PP t319 100000 e319 = true := by decide +kernel
def t323 : FTree (List Ent) := .leaf 0 []
theorem h323 : entX PP t323 100000 e323 = true := by decide +kernel
def t327 : FTree (List Ent) := .leaf 0 []
theorem h327 : entX PP t327 100000 e327 = true := by decide +kernel
def t331 : FTree (List Ent) := .leaf 0 []
theorem h331 : entX PP t331 100000 e331 = true := by decide +kernel
def t335 : FTree (List Ent) := .leaf 0 []
theorem h335 : entX PP t335 100000 e335 = true := by decide +kernel
def t339 : FTree (List Ent) := .leaf 0 []
theorem h339 : entX PP t339 100000 e339 = true := by decide +kernel
def t343 : FTree (List Ent) := .leaf 0 []
theorem h343 : entX PP t343 100000 e343 = true := by decide +kernel
def t347 : FTree (List Ent) := .leaf 0 []
theorem h347 : entX PP t347 100000 e347 = true := by decide +kernel
def t351 : FTree (List Ent) := .leaf 0 []
theorem h351 : entX PP t351 100000 e351 = true := by decide +kernel
def t355 : FTree (List Ent) := .leaf 0 []
theorem h355 : entX PP t355 100000 e355 = true := by decide +kernel
def t359 : FTree (List Ent) := .leaf 0 []
theorem h359 : entX PP t359 100000 e359 = true := by decide +kernel
end Go.Vm.T
