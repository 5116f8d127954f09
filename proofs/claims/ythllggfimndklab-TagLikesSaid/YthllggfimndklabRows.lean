/-
  No cell of these rows narrows 'for every input' (looked for: loops, veiled, ifaces, maps, wideKeys, modest, calm, conditions, laid).
  DERIVED. THE GIVEN ROWS OF THIS SEAT. 6 by the template 'for every input the law returns true; each argument reads behind the call as it read before'; 0 by the template 'total and deterministic' (their statements: YthllggfimndklabTotals.lean).
  GIVEN WITH THE SEED: the statements are not yours to turn. If you find one false, say at which input.
  Laid BY PROGRAM, IN A SANDBOX (cutbox-rows.mjs): the forced cells as the released guide's own fill.sh prints them over the translation 2f947820a57d1ab9… (all of the seat's roots in one cut). By AI agents, Wed Nov 11 2026. No macro, syntax, notation, axiom, sorry.
-/
import Derived.Test.YthllggfimndklabChecked
import GoSem.Claim
import GoSem.ClaimJoined
import GoSem.ClaimMapViews
import Derived.JoinedTies
import Derived.KernelRfl
namespace Go.Proofs.Ythllggfimndklab
/- THE CELL 'sum', in the pinned program and in every row, IS THE sha256 OF THE DUMP (.gsa) THAT YthllggfimndklabProg.lean LOADS. Nothing in Lean hashes anything: it is a label: what it is worth is what the hold of that sum in a sandbox is worth. -/
noncomputable def Try.pinned : Pinned := { name := "ythllggfimndklab", sum := "2f947820a57d1ab92de0ce43d64ce1361a8c35bf33c3a6192f8e531dda22a801", checked := Try.checked }
namespace Rows
def none {H : Type} : Left H := { results := [], args := [] }

/-- 'warrenerlaw23.QuietTells': WHATEVER THE INPUT: true; the input reads as it did. -/
def quietTellsSpec : ChangeSpec := { name := "quietTells", fn := fun _ => fun
  | [d1, d2, d3, d4, d5] => { results := [.lit (.bool true)], args := [d1, d2, d3, d4, d5] }
  | _ => none }
def quietTellsRow : OpenClaim := { program := "ythllggfimndklab", sum := "2f947820a57d1ab92de0ce43d64ce1361a8c35bf33c3a6192f8e531dda22a801", func := "warrener/warrenerlaw23.QuietTells", spec := "quietTells", apart := false }
def QuietTellsSaid : Prop := quietTellsRow.holds Try.pinned (OpenSpec.ofChange quietTellsSpec)

/-- ITS FALSE NEIGHBOUR: 'it returns false'. Refute it at one input. -/
def quietTellsWrong : ChangeSpec := { name := "quietTells", fn := fun _ => fun
  | [d1, d2, d3, d4, d5] => { results := [.lit (.bool false)], args := [d1, d2, d3, d4, d5] }
  | _ => none }
def QuietTellsWrongFalsely : Prop := quietTellsRow.holds Try.pinned (OpenSpec.ofChange quietTellsWrong)

/-- 'warrenerlaw23.QuietSplits': WHATEVER THE INPUT: true; the input reads as it did. -/
def quietSplitsSpec : ChangeSpec := { name := "quietSplits", fn := fun _ => fun
  | [d1, d2] => { results := [.lit (.bool true)], args := [d1, d2] }
  | _ => none }
def quietSplitsRow : OpenClaim := { program := "ythllggfimndklab", sum := "2f947820a57d1ab92de0ce43d64ce1361a8c35bf33c3a6192f8e531dda22a801", func := "warrener/warrenerlaw23.QuietSplits", spec := "quietSplits", apart := false }
def QuietSplitsSaid : Prop := quietSplitsRow.holds Try.pinned (OpenSpec.ofChange quietSplitsSpec)

/-- ITS FALSE NEIGHBOUR: 'it returns false'. Refute it at one input. -/
def quietSplitsWrong : ChangeSpec := { name := "quietSplits", fn := fun _ => fun
  | [d1, d2] => { results := [.lit (.bool false)], args := [d1, d2] }
  | _ => none }
def QuietSplitsWrongFalsely : Prop := quietSplitsRow.holds Try.pinned (OpenSpec.ofChange quietSplitsWrong)

/-- 'warrenerlaw15.TagWords': WHATEVER THE INPUT: true; the input reads as it did. -/
def tagWordsSpec : ChangeSpec := { name := "tagWords", fn := fun _ => fun
  | [d1, d2, d3] => { results := [.lit (.bool true)], args := [d1, d2, d3] }
  | _ => none }
def tagWordsRow : OpenClaim := { program := "ythllggfimndklab", sum := "2f947820a57d1ab92de0ce43d64ce1361a8c35bf33c3a6192f8e531dda22a801", func := "warrener/warrenerlaw15.TagWords", spec := "tagWords", unfollowed := true, recurses := true, apart := false }
def TagWordsSaid : Prop := tagWordsRow.holds Try.pinned (OpenSpec.ofChange tagWordsSpec)

/-- ITS FALSE NEIGHBOUR: 'it returns false'. Refute it at one input. -/
def tagWordsWrong : ChangeSpec := { name := "tagWords", fn := fun _ => fun
  | [d1, d2, d3] => { results := [.lit (.bool false)], args := [d1, d2, d3] }
  | _ => none }
def TagWordsWrongFalsely : Prop := tagWordsRow.holds Try.pinned (OpenSpec.ofChange tagWordsWrong)

/-- 'warrenerlaw15.TagLikes': WHATEVER THE INPUT: true; the input reads as it did. -/
def tagLikesSpec : ChangeSpec := { name := "tagLikes", fn := fun _ => fun
  | [d1, d2] => { results := [.lit (.bool true)], args := [d1, d2] }
  | _ => none }
def tagLikesRow : OpenClaim := { program := "ythllggfimndklab", sum := "2f947820a57d1ab92de0ce43d64ce1361a8c35bf33c3a6192f8e531dda22a801", func := "warrener/warrenerlaw15.TagLikes", spec := "tagLikes", unfollowed := true, recurses := true, apart := false }
def TagLikesSaid : Prop := tagLikesRow.holds Try.pinned (OpenSpec.ofChange tagLikesSpec)

/-- ITS FALSE NEIGHBOUR: 'it returns false'. Refute it at one input. -/
def tagLikesWrong : ChangeSpec := { name := "tagLikes", fn := fun _ => fun
  | [d1, d2] => { results := [.lit (.bool false)], args := [d1, d2] }
  | _ => none }
def TagLikesWrongFalsely : Prop := tagLikesRow.holds Try.pinned (OpenSpec.ofChange tagLikesWrong)

/-- 'warrenerlaw15.TagAriths': WHATEVER THE INPUT: true; the input reads as it did. -/
def tagArithsSpec : ChangeSpec := { name := "tagAriths", fn := fun _ => fun
  | [d1, d2, d3] => { results := [.lit (.bool true)], args := [d1, d2, d3] }
  | _ => none }
def tagArithsRow : OpenClaim := { program := "ythllggfimndklab", sum := "2f947820a57d1ab92de0ce43d64ce1361a8c35bf33c3a6192f8e531dda22a801", func := "warrener/warrenerlaw15.TagAriths", spec := "tagAriths", unfollowed := true, recurses := true, apart := false }
def TagArithsSaid : Prop := tagArithsRow.holds Try.pinned (OpenSpec.ofChange tagArithsSpec)

/-- ITS FALSE NEIGHBOUR: 'it returns false'. Refute it at one input. -/
def tagArithsWrong : ChangeSpec := { name := "tagAriths", fn := fun _ => fun
  | [d1, d2, d3] => { results := [.lit (.bool false)], args := [d1, d2, d3] }
  | _ => none }
def TagArithsWrongFalsely : Prop := tagArithsRow.holds Try.pinned (OpenSpec.ofChange tagArithsWrong)

/-- 'warrenerlaw21.HazardSlots': WHATEVER THE INPUT: true; the input reads as it did. -/
def hazardSlotsSpec : ChangeSpec := { name := "hazardSlots", fn := fun _ => fun
  | [d1, d2, d3] => { results := [.lit (.bool true)], args := [d1, d2, d3] }
  | _ => none }
def hazardSlotsRow : OpenClaim := { program := "ythllggfimndklab", sum := "2f947820a57d1ab92de0ce43d64ce1361a8c35bf33c3a6192f8e531dda22a801", func := "warrener/warrenerlaw21.HazardSlots", spec := "hazardSlots", apart := false }
def HazardSlotsSaid : Prop := hazardSlotsRow.holds Try.pinned (OpenSpec.ofChange hazardSlotsSpec)

/-- ITS FALSE NEIGHBOUR: 'it returns false'. Refute it at one input. -/
def hazardSlotsWrong : ChangeSpec := { name := "hazardSlots", fn := fun _ => fun
  | [d1, d2, d3] => { results := [.lit (.bool false)], args := [d1, d2, d3] }
  | _ => none }
def HazardSlotsWrongFalsely : Prop := hazardSlotsRow.holds Try.pinned (OpenSpec.ofChange hazardSlotsWrong)

/- THE SECOND FORM. 'bulk': how many values and letters a reading holds, each counted each time it is reached (what is shared counts as often as it is met; a slice's spare places count too). A statement '..UptoSaid' is the law's where the arguments, and the package variables that the reading takes, are together of bulk at most 1048576: NARROWER than '..Said'. Prove '..Said' where nothing that the law and all that it calls make is longer than what came in: it says more and counts as full. Else prove '..UptoSaid'. A law counts once. -/
mutual
def uptoBulk {H : Type} : DataW H → Nat
  | .lit (.string bytes) => bytes.length + 1
  | .lit _ => 1
  | .nil => 1
  | .ptr d => uptoBulk d + 1
  | .slice elems spare => uptoBulkAll elems + uptoBulkAll spare + 1
  | .agg parts => uptoBulkAll parts + 1
  | .iface _ d => uptoBulk d + 1
  | .map entries => uptoBulkEntries entries + 1
  | .held _ => 1
def uptoBulkAll {H : Type} : List (DataW H) → Nat
  | [] => 0
  | d :: r => uptoBulk d + uptoBulkAll r
def uptoBulkEntries {H : Type} : List (Lit × DataW H) → Nat
  | [] => 0
  | x :: r => uptoBulkEntry x + uptoBulkEntries r
def uptoBulkEntry {H : Type} : Lit × DataW H → Nat
  | (.string bytes, d) => bytes.length + uptoBulk d + 1
  | (_, d) => uptoBulk d + 1
 end
def uptoSmall : (H : Type) → List (DataW H) → Bool := fun _ ds => decide (uptoBulkAll ds ≤ 1048576)
def OpenSpec.upto (s : _root_.Go.ChangeSpec) : _root_.Go.OpenSpec := { _root_.Go.OpenSpec.ofChange s with cond := some uptoSmall }

/-- 'warrenerlaw23.QuietTells', WHERE WHAT IT READS IS OF BULK AT MOST 1048576: true; the input reads as it did. -/
def quietTellsUptoRow : OpenClaim := { program := "ythllggfimndklab", sum := "2f947820a57d1ab92de0ce43d64ce1361a8c35bf33c3a6192f8e531dda22a801", func := "warrener/warrenerlaw23.QuietTells", spec := "quietTells", apart := false, narrowed := true }
def QuietTellsUptoSaid : Prop := quietTellsUptoRow.holds Try.pinned (OpenSpec.upto quietTellsSpec)

/-- 'warrenerlaw23.QuietSplits', WHERE WHAT IT READS IS OF BULK AT MOST 1048576: true; the input reads as it did. -/
def quietSplitsUptoRow : OpenClaim := { program := "ythllggfimndklab", sum := "2f947820a57d1ab92de0ce43d64ce1361a8c35bf33c3a6192f8e531dda22a801", func := "warrener/warrenerlaw23.QuietSplits", spec := "quietSplits", apart := false, narrowed := true }
def QuietSplitsUptoSaid : Prop := quietSplitsUptoRow.holds Try.pinned (OpenSpec.upto quietSplitsSpec)

/-- 'warrenerlaw15.TagWords', WHERE WHAT IT READS IS OF BULK AT MOST 1048576: true; the input reads as it did. -/
def tagWordsUptoRow : OpenClaim := { program := "ythllggfimndklab", sum := "2f947820a57d1ab92de0ce43d64ce1361a8c35bf33c3a6192f8e531dda22a801", func := "warrener/warrenerlaw15.TagWords", spec := "tagWords", unfollowed := true, recurses := true, apart := false, narrowed := true }
def TagWordsUptoSaid : Prop := tagWordsUptoRow.holds Try.pinned (OpenSpec.upto tagWordsSpec)

/-- 'warrenerlaw15.TagLikes', WHERE WHAT IT READS IS OF BULK AT MOST 1048576: true; the input reads as it did. -/
def tagLikesUptoRow : OpenClaim := { program := "ythllggfimndklab", sum := "2f947820a57d1ab92de0ce43d64ce1361a8c35bf33c3a6192f8e531dda22a801", func := "warrener/warrenerlaw15.TagLikes", spec := "tagLikes", unfollowed := true, recurses := true, apart := false, narrowed := true }
def TagLikesUptoSaid : Prop := tagLikesUptoRow.holds Try.pinned (OpenSpec.upto tagLikesSpec)

/-- 'warrenerlaw15.TagAriths', WHERE WHAT IT READS IS OF BULK AT MOST 1048576: true; the input reads as it did. -/
def tagArithsUptoRow : OpenClaim := { program := "ythllggfimndklab", sum := "2f947820a57d1ab92de0ce43d64ce1361a8c35bf33c3a6192f8e531dda22a801", func := "warrener/warrenerlaw15.TagAriths", spec := "tagAriths", unfollowed := true, recurses := true, apart := false, narrowed := true }
def TagArithsUptoSaid : Prop := tagArithsUptoRow.holds Try.pinned (OpenSpec.upto tagArithsSpec)

/-- 'warrenerlaw21.HazardSlots', WHERE WHAT IT READS IS OF BULK AT MOST 1048576: true; the input reads as it did. -/
def hazardSlotsUptoRow : OpenClaim := { program := "ythllggfimndklab", sum := "2f947820a57d1ab92de0ce43d64ce1361a8c35bf33c3a6192f8e531dda22a801", func := "warrener/warrenerlaw21.HazardSlots", spec := "hazardSlots", apart := false, narrowed := true }
def HazardSlotsUptoSaid : Prop := hazardSlotsUptoRow.holds Try.pinned (OpenSpec.upto hazardSlotsSpec)

end Rows
end Go.Proofs.Ythllggfimndklab
