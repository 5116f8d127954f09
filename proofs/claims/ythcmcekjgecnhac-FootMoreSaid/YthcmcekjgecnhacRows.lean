/-
  No cell of these rows narrows 'for every input' (looked for: loops, veiled, ifaces, maps, wideKeys, modest, calm, conditions, laid).
  DERIVED. THE GIVEN ROWS OF THIS SEAT. 6 by the template 'for every input the law returns true; each argument reads behind the call as it read before'; 0 by the template 'total and deterministic' (their statements: YthcmcekjgecnhacTotals.lean).
  GIVEN WITH THE SEED: the statements are not yours to turn. If you find one false, say at which input.
  Laid BY PROGRAM, IN A SANDBOX (cutbox-rows.mjs): the forced cells as the released guide's own fill.sh prints them over the translation 6109268b056ed87b… (all of the seat's roots in one cut). By AI agents, Wed Nov 11 2026. No macro, syntax, notation, axiom, sorry.
-/
import Derived.Test.YthcmcekjgecnhacChecked
import GoSem.Claim
import GoSem.ClaimJoined
import GoSem.ClaimMapViews
import Derived.JoinedTies
import Derived.KernelRfl
namespace Go.Proofs.Ythcmcekjgecnhac
/- THE CELL 'sum', in the pinned program and in every row, IS THE sha256 OF THE DUMP (.gsa) THAT YthcmcekjgecnhacProg.lean LOADS. Nothing in Lean hashes anything: it is a label: what it is worth is what the hold of that sum in a sandbox is worth. -/
noncomputable def Try.pinned : Pinned := { name := "ythcmcekjgecnhac", sum := "6109268b056ed87b1e9dffe818ddfb370983d7da0505ae86cc86832ecdb3e8e6", checked := Try.checked }
namespace Rows
def none {H : Type} : Left H := { results := [], args := [] }

/-- 'warrenerlaw19.FootMakes': WHATEVER THE INPUT: true; the input reads as it did. -/
def footMakesSpec : ChangeSpec := { name := "footMakes", fn := fun _ => fun
  | [d1, d2] => { results := [.lit (.bool true)], args := [d1, d2] }
  | _ => none }
def footMakesRow : OpenClaim := { program := "ythcmcekjgecnhac", sum := "6109268b056ed87b1e9dffe818ddfb370983d7da0505ae86cc86832ecdb3e8e6", func := "warrener/warrenerlaw19.FootMakes", spec := "footMakes", unfollowed := true, recurses := true, apart := false }
def FootMakesSaid : Prop := footMakesRow.holds Try.pinned (OpenSpec.ofChange footMakesSpec)

/-- ITS FALSE NEIGHBOUR: 'it returns false'. Refute it at one input. -/
def footMakesWrong : ChangeSpec := { name := "footMakes", fn := fun _ => fun
  | [d1, d2] => { results := [.lit (.bool false)], args := [d1, d2] }
  | _ => none }
def FootMakesWrongFalsely : Prop := footMakesRow.holds Try.pinned (OpenSpec.ofChange footMakesWrong)

/-- 'warrenerlaw19.FootClashes': WHATEVER THE INPUT: true; the input reads as it did. -/
def footClashesSpec : ChangeSpec := { name := "footClashes", fn := fun _ => fun
  | [d1, d2] => { results := [.lit (.bool true)], args := [d1, d2] }
  | _ => none }
def footClashesRow : OpenClaim := { program := "ythcmcekjgecnhac", sum := "6109268b056ed87b1e9dffe818ddfb370983d7da0505ae86cc86832ecdb3e8e6", func := "warrener/warrenerlaw19.FootClashes", spec := "footClashes", unfollowed := true, recurses := true, apart := false }
def FootClashesSaid : Prop := footClashesRow.holds Try.pinned (OpenSpec.ofChange footClashesSpec)

/-- ITS FALSE NEIGHBOUR: 'it returns false'. Refute it at one input. -/
def footClashesWrong : ChangeSpec := { name := "footClashes", fn := fun _ => fun
  | [d1, d2] => { results := [.lit (.bool false)], args := [d1, d2] }
  | _ => none }
def FootClashesWrongFalsely : Prop := footClashesRow.holds Try.pinned (OpenSpec.ofChange footClashesWrong)

/-- 'warrenerlaw19.FootMore': WHATEVER THE INPUT: true; the input reads as it did. -/
def footMoreSpec : ChangeSpec := { name := "footMore", fn := fun _ => fun
  | [d1, d2, d3] => { results := [.lit (.bool true)], args := [d1, d2, d3] }
  | _ => none }
def footMoreRow : OpenClaim := { program := "ythcmcekjgecnhac", sum := "6109268b056ed87b1e9dffe818ddfb370983d7da0505ae86cc86832ecdb3e8e6", func := "warrener/warrenerlaw19.FootMore", spec := "footMore", unfollowed := true, recurses := true, apart := false }
def FootMoreSaid : Prop := footMoreRow.holds Try.pinned (OpenSpec.ofChange footMoreSpec)

/-- ITS FALSE NEIGHBOUR: 'it returns false'. Refute it at one input. -/
def footMoreWrong : ChangeSpec := { name := "footMore", fn := fun _ => fun
  | [d1, d2, d3] => { results := [.lit (.bool false)], args := [d1, d2, d3] }
  | _ => none }
def FootMoreWrongFalsely : Prop := footMoreRow.holds Try.pinned (OpenSpec.ofChange footMoreWrong)

/-- 'warrenerlaw19.FootSame': WHATEVER THE INPUT: true; the input reads as it did. -/
def footSameSpec : ChangeSpec := { name := "footSame", fn := fun _ => fun
  | [d1, d2] => { results := [.lit (.bool true)], args := [d1, d2] }
  | _ => none }
def footSameRow : OpenClaim := { program := "ythcmcekjgecnhac", sum := "6109268b056ed87b1e9dffe818ddfb370983d7da0505ae86cc86832ecdb3e8e6", func := "warrener/warrenerlaw19.FootSame", spec := "footSame", unfollowed := true, recurses := true, apart := false }
def FootSameSaid : Prop := footSameRow.holds Try.pinned (OpenSpec.ofChange footSameSpec)

/-- ITS FALSE NEIGHBOUR: 'it returns false'. Refute it at one input. -/
def footSameWrong : ChangeSpec := { name := "footSame", fn := fun _ => fun
  | [d1, d2] => { results := [.lit (.bool false)], args := [d1, d2] }
  | _ => none }
def FootSameWrongFalsely : Prop := footSameRow.holds Try.pinned (OpenSpec.ofChange footSameWrong)

/-- 'warrenerlaw27.ActOf': WHATEVER THE INPUT: true; the input reads as it did. -/
def actOfSpec : ChangeSpec := { name := "actOf", fn := fun _ => fun
  | [d1, d2, d3, d4] => { results := [.lit (.bool true)], args := [d1, d2, d3, d4] }
  | _ => none }
def actOfRow : OpenClaim := { program := "ythcmcekjgecnhac", sum := "6109268b056ed87b1e9dffe818ddfb370983d7da0505ae86cc86832ecdb3e8e6", func := "warrener/warrenerlaw27.ActOf", spec := "actOf", unfollowed := true, recurses := true, apart := false }
def ActOfSaid : Prop := actOfRow.holds Try.pinned (OpenSpec.ofChange actOfSpec)

/-- ITS FALSE NEIGHBOUR: 'it returns false'. Refute it at one input. -/
def actOfWrong : ChangeSpec := { name := "actOf", fn := fun _ => fun
  | [d1, d2, d3, d4] => { results := [.lit (.bool false)], args := [d1, d2, d3, d4] }
  | _ => none }
def ActOfWrongFalsely : Prop := actOfRow.holds Try.pinned (OpenSpec.ofChange actOfWrong)

/-- 'warrenerlaw27.ActNeeds': WHATEVER THE INPUT: true; the input reads as it did. -/
def actNeedsSpec : ChangeSpec := { name := "actNeeds", fn := fun _ => fun
  | [d1, d2] => { results := [.lit (.bool true)], args := [d1, d2] }
  | _ => none }
def actNeedsRow : OpenClaim := { program := "ythcmcekjgecnhac", sum := "6109268b056ed87b1e9dffe818ddfb370983d7da0505ae86cc86832ecdb3e8e6", func := "warrener/warrenerlaw27.ActNeeds", spec := "actNeeds", unfollowed := true, recurses := true, apart := false }
def ActNeedsSaid : Prop := actNeedsRow.holds Try.pinned (OpenSpec.ofChange actNeedsSpec)

/-- ITS FALSE NEIGHBOUR: 'it returns false'. Refute it at one input. -/
def actNeedsWrong : ChangeSpec := { name := "actNeeds", fn := fun _ => fun
  | [d1, d2] => { results := [.lit (.bool false)], args := [d1, d2] }
  | _ => none }
def ActNeedsWrongFalsely : Prop := actNeedsRow.holds Try.pinned (OpenSpec.ofChange actNeedsWrong)

/- THE SECOND FORM. 'bulk': how many values and letters a reading holds, each counted each time it is reached (what is shared counts as often as it is met; a slice's spare places count too). A statement '..UptoSaid' is the law's where the arguments, and the package variables that the reading takes, are together of bulk at most 1048576: NARROWER than '..Said'. Prove '..Said' where nothing that the law and all that it calls make is longer than what came in: it says more and counts as full. Else prove '..UptoSaid'. A law counts once. -/
mutual
def uptoBulk {H : Type} : DataW H → Nat
  | .lit (.string bytes) => bytes.length + 1
  | .lit _ => 1
  | .nil => 1
  | .ptr d => uptoBulk d + 1
  | .slice elems spare => uptoBulkAll elems + uptoBulkAll spare + 1
  | .agg parts => uptoBulkAll parts + 1
  | .iface _ d => uptoBulk d + 1
  | .map entries => uptoBulkEntries entries + 1
  | .held _ => 1
def uptoBulkAll {H : Type} : List (DataW H) → Nat
  | [] => 0
  | d :: r => uptoBulk d + uptoBulkAll r
def uptoBulkEntries {H : Type} : List (Lit × DataW H) → Nat
  | [] => 0
  | x :: r => uptoBulkEntry x + uptoBulkEntries r
def uptoBulkEntry {H : Type} : Lit × DataW H → Nat
  | (.string bytes, d) => bytes.length + uptoBulk d + 1
  | (_, d) => uptoBulk d + 1
 end
def uptoSmall : (H : Type) → List (DataW H) → Bool := fun _ ds => decide (uptoBulkAll ds ≤ 1048576)
def OpenSpec.upto (s : _root_.Go.ChangeSpec) : _root_.Go.OpenSpec := { _root_.Go.OpenSpec.ofChange s with cond := some uptoSmall }

/-- 'warrenerlaw19.FootMakes', WHERE WHAT IT READS IS OF BULK AT MOST 1048576: true; the input reads as it did. -/
def footMakesUptoRow : OpenClaim := { program := "ythcmcekjgecnhac", sum := "6109268b056ed87b1e9dffe818ddfb370983d7da0505ae86cc86832ecdb3e8e6", func := "warrener/warrenerlaw19.FootMakes", spec := "footMakes", unfollowed := true, recurses := true, apart := false, narrowed := true }
def FootMakesUptoSaid : Prop := footMakesUptoRow.holds Try.pinned (OpenSpec.upto footMakesSpec)

/-- 'warrenerlaw19.FootClashes', WHERE WHAT IT READS IS OF BULK AT MOST 1048576: true; the input reads as it did. -/
def footClashesUptoRow : OpenClaim := { program := "ythcmcekjgecnhac", sum := "6109268b056ed87b1e9dffe818ddfb370983d7da0505ae86cc86832ecdb3e8e6", func := "warrener/warrenerlaw19.FootClashes", spec := "footClashes", unfollowed := true, recurses := true, apart := false, narrowed := true }
def FootClashesUptoSaid : Prop := footClashesUptoRow.holds Try.pinned (OpenSpec.upto footClashesSpec)

/-- 'warrenerlaw19.FootMore', WHERE WHAT IT READS IS OF BULK AT MOST 1048576: true; the input reads as it did. -/
def footMoreUptoRow : OpenClaim := { program := "ythcmcekjgecnhac", sum := "6109268b056ed87b1e9dffe818ddfb370983d7da0505ae86cc86832ecdb3e8e6", func := "warrener/warrenerlaw19.FootMore", spec := "footMore", unfollowed := true, recurses := true, apart := false, narrowed := true }
def FootMoreUptoSaid : Prop := footMoreUptoRow.holds Try.pinned (OpenSpec.upto footMoreSpec)

/-- 'warrenerlaw19.FootSame', WHERE WHAT IT READS IS OF BULK AT MOST 1048576: true; the input reads as it did. -/
def footSameUptoRow : OpenClaim := { program := "ythcmcekjgecnhac", sum := "6109268b056ed87b1e9dffe818ddfb370983d7da0505ae86cc86832ecdb3e8e6", func := "warrener/warrenerlaw19.FootSame", spec := "footSame", unfollowed := true, recurses := true, apart := false, narrowed := true }
def FootSameUptoSaid : Prop := footSameUptoRow.holds Try.pinned (OpenSpec.upto footSameSpec)

/-- 'warrenerlaw27.ActOf', WHERE WHAT IT READS IS OF BULK AT MOST 1048576: true; the input reads as it did. -/
def actOfUptoRow : OpenClaim := { program := "ythcmcekjgecnhac", sum := "6109268b056ed87b1e9dffe818ddfb370983d7da0505ae86cc86832ecdb3e8e6", func := "warrener/warrenerlaw27.ActOf", spec := "actOf", unfollowed := true, recurses := true, apart := false, narrowed := true }
def ActOfUptoSaid : Prop := actOfUptoRow.holds Try.pinned (OpenSpec.upto actOfSpec)

/-- 'warrenerlaw27.ActNeeds', WHERE WHAT IT READS IS OF BULK AT MOST 1048576: true; the input reads as it did. -/
def actNeedsUptoRow : OpenClaim := { program := "ythcmcekjgecnhac", sum := "6109268b056ed87b1e9dffe818ddfb370983d7da0505ae86cc86832ecdb3e8e6", func := "warrener/warrenerlaw27.ActNeeds", spec := "actNeeds", unfollowed := true, recurses := true, apart := false, narrowed := true }
def ActNeedsUptoSaid : Prop := actNeedsUptoRow.holds Try.pinned (OpenSpec.upto actNeedsSpec)

end Rows
end Go.Proofs.Ythcmcekjgecnhac
