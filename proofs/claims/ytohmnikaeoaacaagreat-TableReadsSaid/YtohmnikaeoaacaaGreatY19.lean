/- Each call comes to what is said, given the calls that it makes: part 19. -/
import Derived.Test.YtohmnikaeoaacaaGreatE1
set_option maxRecDepth 1000000
namespace Go.Vm.T
def t363 : FTree (List Ent) := .leaf 0 []
theorem h363 : entX PP t363 100000 e363 = true := by decide +kernel
def t367 : FTree (List Ent) := .leaf 0 []
theorem h367 : entX PP t367 100000 e367 = true := by decide +kernel
def t371 : FTree (List Ent) := .leaf 0 []
theorem h371 : entX PP t371 100000 e371 = true := by decide +kernel
def t375 : FTree (List Ent) := .leaf 0 []
theorem h375 : entX PP t375 100000 e375 = true := by decide +kernel
def t379 : FTree (List Ent) := .leaf 0 []
theorem h379 : entX PP t379 100000 e379 = true := by decide +kernel
def t383 : FTree (List Ent) := .leaf 0 []
theorem h383 : entX PP t383 100000 e383 = true := by decide +kernel
def t387 : FTree (List Ent) := .leaf 0 []
theorem h387 : entX PP t387 100000 e387 = true := by decide +kernel
def t391 : FTree (List Ent) := .leaf 0 []
theorem h391 : entX PP t391 100000 e391 = true := by decide +kernel
def t395 : FTree (List Ent) := .leaf 0 []
theorem h395 : entX PP t395 100000 e395 = true := by decide +kernel
def t399 : FTree (List Ent) := .leaf 0 []
theorem h399 : entX PP t399 100000 e399 = true := by decide +kernel
def t403 : FTree (List Ent) := .leaf 0 []
theorem h403 : entX PP t403 100000 e403 = true := by decide +kernel
def t407 : FTree (List Ent) := .leaf 0 []
theorem h407 : entX PP t407 100000 e407 = true := by decide +kernel
def t411 : FTree (List Ent) := .leaf 0 []
theorem h411 : entX PP t411 100000 e411 = true := by decide +kernel
def t415 : FTree (List Ent) := .leaf 0 []
theorem h415 : entX PP t415 100000 e415 = true := by decide +kernel
def t419 : FTree (List Ent) := .leaf 0 []
theorem h419 : entX PP t419 100000 e419 = true := by decide +kernel
def t423 : FTree (List Ent) := .leaf 0 []
theorem h423 : entX PP t423 100000 e423 = true := by decide +kernel
def t427 : FTree (List Ent) := .leaf 0 []
theorem h427 : entX PP t427 100000 e427 = true := by decide +kernel
def t431 : FTree (List Ent) := .leaf 0 []
theorem h431 : entX PP t431 100000 e431 = true := by decide +kernel
def t435 : FTree (List Ent) := .leaf 0 []
theorem h435 : entX PP t435 100000 e435 = true := by decide +kernel
def t439 : FTree (List Ent) := .leaf 0 []
theorem h439 : entX PP t439 100000 e439 = true := by decide +kernel
def t443 : FTree (List Ent) := .leaf 0 []
theorem h443 : entX PP t443 100000 e443 = true := by decide +kernel
def t447 : FTree (List Ent) := .leaf 0 []
theorem h447 : entX PP t447 100000 e447 = true := by decide +kernel
def t451 : FTree (List Ent) := .leaf 0 []
theorem h451 : entX PP t451 100000 e451 = true := by decide +kernel
def t455 : FTree (List Ent) := .leaf 0 []
theorem h455 : entX PP t455 100000 e455 = true := by decide +kernel
def t459 : FTree (List Ent) := .leaf 0 []
theorem h459 : entX PP t459 100000 e459 = true := by decide +kernel
def t463 : FTree (List Ent) := .leaf 0 []
theorem h463 : entX PP t463 100000 e463 = true := by decide +kernel
def t467 : FTree (List Ent) := .leaf 0 []
theorem h467 : entX PP t467 100000 e467 = true := by decide +kernel
def t471 : FTree (List Ent) := .leaf 0 []
theorem h471 : entX PP t471 100000 e471 = true := by decide +kernel
def t475 : FTree (List Ent) := .leaf 0 []
theorem h475 : entX PP t475 100000 e475 = true := by decide +kernel
def t479 : FTree (List Ent) := .leaf 0 []
theorem h479 : entX PP t479 100000 e479 = true := by decide +kernel
def t483 : FTree (List Ent) := .leaf 0 []
theorem h483 : entX PP t483 100000 e483 = true := by decide +kernel
def t487 : FTree (List Ent) := .leaf 0 []
theorem h487 : entX PP t487 100000 e487 = true := by decide +kernel
def t491 : FTree (List Ent) := .leaf 0 []
theorem h491 : entX PP t491 100000 e491 = true := by decide +kernel
def t495 : FTree (List Ent) := .leaf 0 []
theorem h495 : entX PP t495 100000 e495 = true := by decide +kernel
def t499 : FTree (List Ent) := .leaf 0 []
theorem h499 : entX PP t499 100000 e499 = true := by decide +kernel
def t503 : FTree (List Ent) := .leaf 0 []
theorem h503 : entX PP t503 100000 e503 = true := by decide +kernel
def t507 : FTree (List Ent) := .leaf 0 []
theorem h507 : entX PP t507 100000 e507 = true := by decide +kernel
def t511 : FTree (List Ent) := .leaf 0 []
theorem h511 : entX PP t511 100000 e511 = true := by decide +kernel
def t515 : FTree (List Ent) := .leaf 0 []
theorem h515 : entX PP t515 100000 e515 = true := by decide +kernel
def t519 : FTree (List Ent) := .leaf 0 []
theorem h519 : entX PP t519 100000 e519 = true := by decide +kernel
def t523 : FTree (List Ent) := .leaf 0 []
theorem h523 : entX PP t523 100000 e523 = true := by decide +kernel
end Go.Vm.T
