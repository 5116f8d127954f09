/- Places, one behind the other, plainly. No condition beside those that each theorem names. -/
import Derived.Test.YthcmcekjgecnhacFtE
namespace Go.Proofs.Ythcmcekjgecnhac.Sr
open Go.RowKit Go.Proofs.YthcmcekjgecnhacM.Mach
set_option linter.unusedVariables false
set_option linter.unusedSimpArgs false
def cmpF (a b : Int) : Int := if a < b then -1 else if b < a then 1 else 0
def ltP (x y : P3) : Bool := decide (x.1 < y.1 ∨ (x.1 = y.1 ∧ (x.2.1 < y.2.1 ∨ (x.2.1 = y.2.1 ∧ x.2.2 < y.2.2))))
def ordF (x y : P3) : Int := if ltP x y then -1 else if ltP y x then 1 else 0
end Go.Proofs.Ythcmcekjgecnhac.Sr
