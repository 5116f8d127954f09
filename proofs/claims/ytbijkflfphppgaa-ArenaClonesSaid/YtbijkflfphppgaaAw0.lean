/- Cells. No condition beside those that each theorem names. -/
import Derived.Test.YtbijkflfphppgaaArA
import Derived.Test.YtbijkflfphppgaaMachC
namespace Go.Proofs.Ytbijkflfphppgaa.Sr
open Go.RowKit Go.Proofs.YtbijkflfphppgaaM.Mach
set_option linter.unusedVariables false
set_option linter.unusedSimpArgs false
abbrev C10 := Int × Int × Int × Int × Int × Int × Int × Int × Int × Int
abbrev H12 := Int × Int × Int × Int × Int × Int × Int × Int × Int × Int × Int × (Option Addr × Nat × Nat)
end Go.Proofs.Ytbijkflfphppgaa.Sr
