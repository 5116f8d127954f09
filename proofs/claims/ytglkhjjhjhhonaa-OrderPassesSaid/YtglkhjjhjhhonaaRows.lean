/-
  No cell of these rows narrows 'for every input' (looked for: loops, veiled, ifaces, maps, wideKeys, modest, calm, conditions, laid).
  DERIVED. THE GIVEN ROWS OF THIS SEAT. 4 by the template 'for every input the law returns true; each argument reads behind the call as it read before'; 0 by the template 'total and deterministic' (their statements: YtglkhjjhjhhonaaTotals.lean).
  GIVEN WITH THE SEED: the statements are not yours to turn. If you find one false, say at which input.
  Laid BY PROGRAM, IN A SANDBOX (cutbox-rows.mjs): the forced cells as the released guide's own fill.sh prints them over the translation cdde816a8513c82d… (all of the seat's roots in one cut). By AI agents, Wed Nov 11 2026. No macro, syntax, notation, axiom, sorry.
-/
import Derived.Test.YtglkhjjhjhhonaaChecked
import GoSem.Claim
import GoSem.ClaimJoined
import GoSem.ClaimMapViews
import Derived.JoinedTies
import Derived.KernelRfl
namespace Go.Proofs.Ytglkhjjhjhhonaa
/- THE CELL 'sum', in the pinned program and in every row, IS THE sha256 OF THE DUMP (.gsa) THAT YtglkhjjhjhhonaaProg.lean LOADS. Nothing in Lean hashes anything: it is a label: what it is worth is what the hold of that sum in a sandbox is worth. -/
noncomputable def Try.pinned : Pinned := { name := "ytglkhjjhjhhonaa", sum := "cdde816a8513c82dcea1dc5d10f0cdb085c8d93cc183cc4bd335635427b6ea99", checked := Try.checked }
namespace Rows
def none {H : Type} : Left H := { results := [], args := [] }

/-- 'warrenerlaw34.OrderPasses': WHATEVER THE INPUT: true; the input reads as it did. -/
def orderPassesSpec : ChangeSpec := { name := "orderPasses", fn := fun _ => fun
  | [d1, d2, d3, d4, d5] => { results := [.lit (.bool true)], args := [d1, d2, d3, d4, d5] }
  | _ => none }
def orderPassesRow : OpenClaim := { program := "ytglkhjjhjhhonaa", sum := "cdde816a8513c82dcea1dc5d10f0cdb085c8d93cc183cc4bd335635427b6ea99", func := "warrener/warrenerlaw34.OrderPasses", spec := "orderPasses", unfollowed := true, recurses := true, apart := false }
def OrderPassesSaid : Prop := orderPassesRow.holds Try.pinned (OpenSpec.ofChange orderPassesSpec)

/-- ITS FALSE NEIGHBOUR: 'it returns false'. Refute it at one input. -/
def orderPassesWrong : ChangeSpec := { name := "orderPasses", fn := fun _ => fun
  | [d1, d2, d3, d4, d5] => { results := [.lit (.bool false)], args := [d1, d2, d3, d4, d5] }
  | _ => none }
def OrderPassesWrongFalsely : Prop := orderPassesRow.holds Try.pinned (OpenSpec.ofChange orderPassesWrong)

/-- 'warrenerlaw34.OrderRuns': WHATEVER THE INPUT: true; the input reads as it did. -/
def orderRunsSpec : ChangeSpec := { name := "orderRuns", fn := fun _ => fun
  | [d1, d2, d3, d4] => { results := [.lit (.bool true)], args := [d1, d2, d3, d4] }
  | _ => none }
def orderRunsRow : OpenClaim := { program := "ytglkhjjhjhhonaa", sum := "cdde816a8513c82dcea1dc5d10f0cdb085c8d93cc183cc4bd335635427b6ea99", func := "warrener/warrenerlaw34.OrderRuns", spec := "orderRuns", unfollowed := true, recurses := true, apart := false }
def OrderRunsSaid : Prop := orderRunsRow.holds Try.pinned (OpenSpec.ofChange orderRunsSpec)

/-- ITS FALSE NEIGHBOUR: 'it returns false'. Refute it at one input. -/
def orderRunsWrong : ChangeSpec := { name := "orderRuns", fn := fun _ => fun
  | [d1, d2, d3, d4] => { results := [.lit (.bool false)], args := [d1, d2, d3, d4] }
  | _ => none }
def OrderRunsWrongFalsely : Prop := orderRunsRow.holds Try.pinned (OpenSpec.ofChange orderRunsWrong)

/-- 'warrenerlaw34.OrderFirsts': WHATEVER THE INPUT: true; the input reads as it did. -/
def orderFirstsSpec : ChangeSpec := { name := "orderFirsts", fn := fun _ => fun
  | [d1, d2, d3, d4] => { results := [.lit (.bool true)], args := [d1, d2, d3, d4] }
  | _ => none }
def orderFirstsRow : OpenClaim := { program := "ytglkhjjhjhhonaa", sum := "cdde816a8513c82dcea1dc5d10f0cdb085c8d93cc183cc4bd335635427b6ea99", func := "warrener/warrenerlaw34.OrderFirsts", spec := "orderFirsts", unfollowed := true, recurses := true, apart := false }
def OrderFirstsSaid : Prop := orderFirstsRow.holds Try.pinned (OpenSpec.ofChange orderFirstsSpec)

/-- ITS FALSE NEIGHBOUR: 'it returns false'. Refute it at one input. -/
def orderFirstsWrong : ChangeSpec := { name := "orderFirsts", fn := fun _ => fun
  | [d1, d2, d3, d4] => { results := [.lit (.bool false)], args := [d1, d2, d3, d4] }
  | _ => none }
def OrderFirstsWrongFalsely : Prop := orderFirstsRow.holds Try.pinned (OpenSpec.ofChange orderFirstsWrong)

/-- 'warrenerlaw34.OrderNobody': WHATEVER THE INPUT: true; the input reads as it did. -/
def orderNobodySpec : ChangeSpec := { name := "orderNobody", fn := fun _ => fun
  | [d1, d2] => { results := [.lit (.bool true)], args := [d1, d2] }
  | _ => none }
def orderNobodyRow : OpenClaim := { program := "ytglkhjjhjhhonaa", sum := "cdde816a8513c82dcea1dc5d10f0cdb085c8d93cc183cc4bd335635427b6ea99", func := "warrener/warrenerlaw34.OrderNobody", spec := "orderNobody", unfollowed := true, recurses := true, apart := false }
def OrderNobodySaid : Prop := orderNobodyRow.holds Try.pinned (OpenSpec.ofChange orderNobodySpec)

/-- ITS FALSE NEIGHBOUR: 'it returns false'. Refute it at one input. -/
def orderNobodyWrong : ChangeSpec := { name := "orderNobody", fn := fun _ => fun
  | [d1, d2] => { results := [.lit (.bool false)], args := [d1, d2] }
  | _ => none }
def OrderNobodyWrongFalsely : Prop := orderNobodyRow.holds Try.pinned (OpenSpec.ofChange orderNobodyWrong)

/- THE SECOND FORM. 'bulk': how many values and letters a reading holds, each counted each time it is reached (what is shared counts as often as it is met; a slice's spare places count too). A statement '..UptoSaid' is the law's where the arguments, and the package variables that the reading takes, are together of bulk at most 1048576: NARROWER than '..Said'. Prove '..Said' where nothing that the law and all that it calls make is longer than what came in: it says more and counts as full. Else prove '..UptoSaid'. A law counts once. -/
mutual
def uptoBulk {H : Type} : DataW H → Nat
  | .lit (.string bytes) => bytes.length + 1
  | .lit _ => 1
  | .nil => 1
  | .ptr d => uptoBulk d + 1
  | .slice elems spare => uptoBulkAll elems + uptoBulkAll spare + 1
  | .agg parts => uptoBulkAll parts + 1
  | .iface _ d => uptoBulk d + 1
  | .map entries => uptoBulkEntries entries + 1
  | .held _ => 1
def uptoBulkAll {H : Type} : List (DataW H) → Nat
  | [] => 0
  | d :: r => uptoBulk d + uptoBulkAll r
def uptoBulkEntries {H : Type} : List (Lit × DataW H) → Nat
  | [] => 0
  | x :: r => uptoBulkEntry x + uptoBulkEntries r
def uptoBulkEntry {H : Type} : Lit × DataW H → Nat
  | (.string bytes, d) => bytes.length + uptoBulk d + 1
  | (_, d) => uptoBulk d + 1
 end
def uptoSmall : (H : Type) → List (DataW H) → Bool := fun _ ds => decide (uptoBulkAll ds ≤ 1048576)
def OpenSpec.upto (s : _root_.Go.ChangeSpec) : _root_.Go.OpenSpec := { _root_.Go.OpenSpec.ofChange s with cond := some uptoSmall }

/-- 'warrenerlaw34.OrderPasses', WHERE WHAT IT READS IS OF BULK AT MOST 1048576: true; the input reads as it did. -/
def orderPassesUptoRow : OpenClaim := { program := "ytglkhjjhjhhonaa", sum := "cdde816a8513c82dcea1dc5d10f0cdb085c8d93cc183cc4bd335635427b6ea99", func := "warrener/warrenerlaw34.OrderPasses", spec := "orderPasses", unfollowed := true, recurses := true, apart := false, narrowed := true }
def OrderPassesUptoSaid : Prop := orderPassesUptoRow.holds Try.pinned (OpenSpec.upto orderPassesSpec)

/-- 'warrenerlaw34.OrderRuns', WHERE WHAT IT READS IS OF BULK AT MOST 1048576: true; the input reads as it did. -/
def orderRunsUptoRow : OpenClaim := { program := "ytglkhjjhjhhonaa", sum := "cdde816a8513c82dcea1dc5d10f0cdb085c8d93cc183cc4bd335635427b6ea99", func := "warrener/warrenerlaw34.OrderRuns", spec := "orderRuns", unfollowed := true, recurses := true, apart := false, narrowed := true }
def OrderRunsUptoSaid : Prop := orderRunsUptoRow.holds Try.pinned (OpenSpec.upto orderRunsSpec)

/-- 'warrenerlaw34.OrderFirsts', WHERE WHAT IT READS IS OF BULK AT MOST 1048576: true; the input reads as it did. -/
def orderFirstsUptoRow : OpenClaim := { program := "ytglkhjjhjhhonaa", sum := "cdde816a8513c82dcea1dc5d10f0cdb085c8d93cc183cc4bd335635427b6ea99", func := "warrener/warrenerlaw34.OrderFirsts", spec := "orderFirsts", unfollowed := true, recurses := true, apart := false, narrowed := true }
def OrderFirstsUptoSaid : Prop := orderFirstsUptoRow.holds Try.pinned (OpenSpec.upto orderFirstsSpec)

/-- 'warrenerlaw34.OrderNobody', WHERE WHAT IT READS IS OF BULK AT MOST 1048576: true; the input reads as it did. -/
def orderNobodyUptoRow : OpenClaim := { program := "ytglkhjjhjhhonaa", sum := "cdde816a8513c82dcea1dc5d10f0cdb085c8d93cc183cc4bd335635427b6ea99", func := "warrener/warrenerlaw34.OrderNobody", spec := "orderNobody", unfollowed := true, recurses := true, apart := false, narrowed := true }
def OrderNobodyUptoSaid : Prop := orderNobodyUptoRow.holds Try.pinned (OpenSpec.upto orderNobodySpec)

end Rows
end Go.Proofs.Ytglkhjjhjhhonaa
