/- Places, one behind the other. No condition beside those that each theorem names. -/
import Derived.Test.YthcmcekjgecnhacFtG0
import Derived.Test.YthcmcekjgecnhacFdA
namespace Go.Proofs.Ythcmcekjgecnhac.Sr
open Go.RowKit Go.Proofs.YthcmcekjgecnhacM.Mach
set_option linter.unusedVariables false
set_option linter.unusedSimpArgs false
theorem order_is (x0 x1 x2 y0 y1 y2 : Int) (w : World) : Calls Try.prog 54 #[.agg #[.int .i64 x0, .int .i64 x1, .int .i64 x2], .agg #[.int .i64 y0, .int .i64 y1, .int .i64 y2]] w fun e w' => e = .returned (.int .i64 (ordF (x0, x1, x2) (y0, y1, y2))) ∧ Below w.heap.size w w' :=
  (Go.Proofs.Ythcmcekjgecnhac.Sd.order_is x0 x1 x2 y0 y1 y2 w).mono fun e w' h => ⟨h.1, h.2.below⟩
end Go.Proofs.Ythcmcekjgecnhac.Sr
