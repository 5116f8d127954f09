-- Written by print2.py (this session's driver of the kit's printer), hand-proved functions among the printed ones.
import Derived.Test.YthllggfimndklacProg
import Derived.Below
import Derived.Deep.Draws
import Derived.Deep.AppendLies
import Derived.Maps.AppendAt
import Derived.OwnWalk
import Derived.Laws.BytesArg
import Derived.Laws.MakeOwn
import Derived.Laws.OwnMore
import Derived.Deep.OwnRows
import Derived.Tactics
import Derived.Lib.ConvBytes
import Derived.Laws.Slices
import Derived.WalkKit
import Derived.KernelRfl
import Derived.RowKit3
import Derived.Deep.LoopGhost
import Derived.Deep.QuietTactic
import Derived.BigQuiet
import Derived.WideLaws
import Derived.Deep.DeepCutAuto
import Derived.Deep.CutBlock
import Derived.Deep.RegionHeld3
import Derived.Laws.Rows
import Derived.Lib.AppendStr
import Derived.ArgAppend
import Derived.Laws.IdiomCopy
import Derived.OrdersHeld
import Derived.Laws.BitsLemmas
import Derived.RowKit
import Derived.Test.YthllggfimndklacWWords
import Derived.Test.YthllggfimndklacWLast
import Derived.Test.YthllggfimndklacWTab
import Derived.Test.YthllggfimndklacWFour
import Derived.Test.YthllggfimndklacWQPut
import Derived.Test.YthllggfimndklacWApart
import Derived.Test.YthllggfimndklacWArr
import Derived.Test.YthllggfimndklacWZeros
import Derived.Test.YthllggfimndklacWFoot
import Derived.Test.YthllggfimndklacWKept
import Derived.Test.YthllggfimndklacWShare
import Derived.Test.YthllggfimndklacWN
import Derived.Test.YthllggfimndklacWFootNe
import Derived.Test.YthllggfimndklacWAt
import Derived.Test.YthllggfimndklacWEqStruct
import Derived.Test.YthllggfimndklacWRepsOne
import Derived.Test.YthllggfimndklacWInv
import Derived.Test.YthllggfimndklacWInvWords
import Derived.Test.YthllggfimndklacWGuard
import Derived.Test.YthllggfimndklacWNEv
import Derived.Test.YthllggfimndklacWMore
import Derived.Test.YthllggfimndklacHWords
import Derived.Deep.RegionLawGrows
namespace Go.Proofs.Ythllggfimndklac.QOctetReads
open Go.RowKit Go.Proofs.YthllggfimndklacW.PrintWords Go.Proofs.YthllggfimndklacW.PrintLast Go.Proofs.YthllggfimndklacW.PrintMore
attribute [local go_sem] max2_int min2_int max_two min_two max_three min_three max_four min_four   -- for this text's walks alone
open Go.Proofs.YthllggfimndklacW.HWords
set_option linter.unusedVariables false
set_option linter.unusedSimpArgs false



def errW : Option Int → Value
  | none => .nilIface
  | some c => .iface 0 (.int .i64 c)
theorem errW_none : errW none = .nilIface := rfl
theorem errW_some (c : Int) : errW (some c) = .iface 0 (.int .i64 c) := rfl

theorem info5 : (Try.prog.info? 5).map (fun i => (i.zero, i.size, i.bytes)) = some (some (.int .u8 0), 1, 1) := by kernel_rfl
-- the values' own types

end Go.Proofs.Ythllggfimndklac.QOctetReads
