/-
  No cell of these rows narrows 'for every input' (looked for: loops, veiled, ifaces, maps, wideKeys, modest, calm, conditions, laid).
  DERIVED. THE GIVEN ROWS OF THIS SEAT. 6 by the template 'for every input the law returns true; each argument reads behind the call as it read before'; 0 by the template 'total and deterministic' (their statements: YthllggfimndklaaTotals.lean).
  GIVEN WITH THE SEED: the statements are not yours to turn. If you find one false, say at which input.
  Laid BY PROGRAM, IN A SANDBOX (cutbox-rows.mjs): the forced cells as the released guide's own fill.sh prints them over the translation 9b69879342ea71bc… (all of the seat's roots in one cut). By AI agents, Wed Nov 11 2026. No macro, syntax, notation, axiom, sorry.
-/
import Derived.Test.YthllggfimndklaaChecked
import GoSem.Claim
import GoSem.ClaimJoined
import GoSem.ClaimMapViews
import Derived.JoinedTies
import Derived.KernelRfl
namespace Go.Proofs.Ythllggfimndklaa
/- THE CELL 'sum', in the pinned program and in every row, IS THE sha256 OF THE DUMP (.gsa) THAT YthllggfimndklaaProg.lean LOADS. Nothing in Lean hashes anything: it is a label: what it is worth is what the hold of that sum in a sandbox is worth. -/
noncomputable def Try.pinned : Pinned := { name := "ythllggfimndklaa", sum := "9b69879342ea71bcb27b5397b8b4170a40a9b631e02529a29b6ab4cd8c5a3663", checked := Try.checked }
namespace Rows
def none {H : Type} : Left H := { results := [], args := [] }

/-- 'warrenerlaw01.NumGoes': WHATEVER THE INPUT: true; the input reads as it did. -/
def numGoesSpec : ChangeSpec := { name := "numGoes", fn := fun _ => fun
  | [d1, d2] => { results := [.lit (.bool true)], args := [d1, d2] }
  | _ => none }
def numGoesRow : OpenClaim := { program := "ythllggfimndklaa", sum := "9b69879342ea71bcb27b5397b8b4170a40a9b631e02529a29b6ab4cd8c5a3663", func := "warrener/warrenerlaw01.NumGoes", spec := "numGoes", apart := false }
def NumGoesSaid : Prop := numGoesRow.holds Try.pinned (OpenSpec.ofChange numGoesSpec)

/-- ITS FALSE NEIGHBOUR: 'it returns false'. Refute it at one input. -/
def numGoesWrong : ChangeSpec := { name := "numGoes", fn := fun _ => fun
  | [d1, d2] => { results := [.lit (.bool false)], args := [d1, d2] }
  | _ => none }
def NumGoesWrongFalsely : Prop := numGoesRow.holds Try.pinned (OpenSpec.ofChange numGoesWrong)

/-- 'warrenerlaw01.NumDivides': WHATEVER THE INPUT: true; the input reads as it did. -/
def numDividesSpec : ChangeSpec := { name := "numDivides", fn := fun _ => fun
  | [d1, d2] => { results := [.lit (.bool true)], args := [d1, d2] }
  | _ => none }
def numDividesRow : OpenClaim := { program := "ythllggfimndklaa", sum := "9b69879342ea71bcb27b5397b8b4170a40a9b631e02529a29b6ab4cd8c5a3663", func := "warrener/warrenerlaw01.NumDivides", spec := "numDivides", apart := false }
def NumDividesSaid : Prop := numDividesRow.holds Try.pinned (OpenSpec.ofChange numDividesSpec)

/-- ITS FALSE NEIGHBOUR: 'it returns false'. Refute it at one input. -/
def numDividesWrong : ChangeSpec := { name := "numDivides", fn := fun _ => fun
  | [d1, d2] => { results := [.lit (.bool false)], args := [d1, d2] }
  | _ => none }
def NumDividesWrongFalsely : Prop := numDividesRow.holds Try.pinned (OpenSpec.ofChange numDividesWrong)

/-- 'warrenerlaw01.NumBounds': WHATEVER THE INPUT: true; the input reads as it did. -/
def numBoundsSpec : ChangeSpec := { name := "numBounds", fn := fun _ => fun
  | [d1, d2, d3] => { results := [.lit (.bool true)], args := [d1, d2, d3] }
  | _ => none }
def numBoundsRow : OpenClaim := { program := "ythllggfimndklaa", sum := "9b69879342ea71bcb27b5397b8b4170a40a9b631e02529a29b6ab4cd8c5a3663", func := "warrener/warrenerlaw01.NumBounds", spec := "numBounds", apart := false }
def NumBoundsSaid : Prop := numBoundsRow.holds Try.pinned (OpenSpec.ofChange numBoundsSpec)

/-- ITS FALSE NEIGHBOUR: 'it returns false'. Refute it at one input. -/
def numBoundsWrong : ChangeSpec := { name := "numBounds", fn := fun _ => fun
  | [d1, d2, d3] => { results := [.lit (.bool false)], args := [d1, d2, d3] }
  | _ => none }
def NumBoundsWrongFalsely : Prop := numBoundsRow.holds Try.pinned (OpenSpec.ofChange numBoundsWrong)

/-- 'warrenerlaw01.NumBack': WHATEVER THE INPUT: true; the input reads as it did. -/
def numBackSpec : ChangeSpec := { name := "numBack", fn := fun _ => fun
  | [d1, d2] => { results := [.lit (.bool true)], args := [d1, d2] }
  | _ => none }
def numBackRow : OpenClaim := { program := "ythllggfimndklaa", sum := "9b69879342ea71bcb27b5397b8b4170a40a9b631e02529a29b6ab4cd8c5a3663", func := "warrener/warrenerlaw01.NumBack", spec := "numBack", apart := false }
def NumBackSaid : Prop := numBackRow.holds Try.pinned (OpenSpec.ofChange numBackSpec)

/-- ITS FALSE NEIGHBOUR: 'it returns false'. Refute it at one input. -/
def numBackWrong : ChangeSpec := { name := "numBack", fn := fun _ => fun
  | [d1, d2] => { results := [.lit (.bool false)], args := [d1, d2] }
  | _ => none }
def NumBackWrongFalsely : Prop := numBackRow.holds Try.pinned (OpenSpec.ofChange numBackWrong)

/-- 'warrenerlaw22.EraMarks': WHATEVER THE INPUT: true; the input reads as it did. -/
def eraMarksSpec : ChangeSpec := { name := "eraMarks", fn := fun _ => fun
  | [d1, d2] => { results := [.lit (.bool true)], args := [d1, d2] }
  | _ => none }
def eraMarksRow : OpenClaim := { program := "ythllggfimndklaa", sum := "9b69879342ea71bcb27b5397b8b4170a40a9b631e02529a29b6ab4cd8c5a3663", func := "warrener/warrenerlaw22.EraMarks", spec := "eraMarks", apart := false }
def EraMarksSaid : Prop := eraMarksRow.holds Try.pinned (OpenSpec.ofChange eraMarksSpec)

/-- ITS FALSE NEIGHBOUR: 'it returns false'. Refute it at one input. -/
def eraMarksWrong : ChangeSpec := { name := "eraMarks", fn := fun _ => fun
  | [d1, d2] => { results := [.lit (.bool false)], args := [d1, d2] }
  | _ => none }
def EraMarksWrongFalsely : Prop := eraMarksRow.holds Try.pinned (OpenSpec.ofChange eraMarksWrong)

/-- 'warrenerlaw22.EraSplits': WHATEVER THE INPUT: true; the input reads as it did. -/
def eraSplitsSpec : ChangeSpec := { name := "eraSplits", fn := fun _ => fun
  | [d1, d2, d3] => { results := [.lit (.bool true)], args := [d1, d2, d3] }
  | _ => none }
def eraSplitsRow : OpenClaim := { program := "ythllggfimndklaa", sum := "9b69879342ea71bcb27b5397b8b4170a40a9b631e02529a29b6ab4cd8c5a3663", func := "warrener/warrenerlaw22.EraSplits", spec := "eraSplits", apart := false }
def EraSplitsSaid : Prop := eraSplitsRow.holds Try.pinned (OpenSpec.ofChange eraSplitsSpec)

/-- ITS FALSE NEIGHBOUR: 'it returns false'. Refute it at one input. -/
def eraSplitsWrong : ChangeSpec := { name := "eraSplits", fn := fun _ => fun
  | [d1, d2, d3] => { results := [.lit (.bool false)], args := [d1, d2, d3] }
  | _ => none }
def EraSplitsWrongFalsely : Prop := eraSplitsRow.holds Try.pinned (OpenSpec.ofChange eraSplitsWrong)

/- THE SECOND FORM. 'bulk': how many values and letters a reading holds, each counted each time it is reached (what is shared counts as often as it is met; a slice's spare places count too). A statement '..UptoSaid' is the law's where the arguments, and the package variables that the reading takes, are together of bulk at most 1048576: NARROWER than '..Said'. Prove '..Said' where nothing that the law and all that it calls make is longer than what came in: it says more and counts as full. Else prove '..UptoSaid'. A law counts once. -/
mutual
def uptoBulk {H : Type} : DataW H → Nat
  | .lit (.string bytes) => bytes.length + 1
  | .lit _ => 1
  | .nil => 1
  | .ptr d => uptoBulk d + 1
  | .slice elems spare => uptoBulkAll elems + uptoBulkAll spare + 1
  | .agg parts => uptoBulkAll parts + 1
  | .iface _ d => uptoBulk d + 1
  | .map entries => uptoBulkEntries entries + 1
  | .held _ => 1
def uptoBulkAll {H : Type} : List (DataW H) → Nat
  | [] => 0
  | d :: r => uptoBulk d + uptoBulkAll r
def uptoBulkEntries {H : Type} : List (Lit × DataW H) → Nat
  | [] => 0
  | x :: r => uptoBulkEntry x + uptoBulkEntries r
def uptoBulkEntry {H : Type} : Lit × DataW H → Nat
  | (.string bytes, d) => bytes.length + uptoBulk d + 1
  | (_, d) => uptoBulk d + 1
 end
def uptoSmall : (H : Type) → List (DataW H) → Bool := fun _ ds => decide (uptoBulkAll ds ≤ 1048576)
def OpenSpec.upto (s : _root_.Go.ChangeSpec) : _root_.Go.OpenSpec := { _root_.Go.OpenSpec.ofChange s with cond := some uptoSmall }

/-- 'warrenerlaw01.NumGoes', WHERE WHAT IT READS IS OF BULK AT MOST 1048576: true; the input reads as it did. -/
def numGoesUptoRow : OpenClaim := { program := "ythllggfimndklaa", sum := "9b69879342ea71bcb27b5397b8b4170a40a9b631e02529a29b6ab4cd8c5a3663", func := "warrener/warrenerlaw01.NumGoes", spec := "numGoes", apart := false, narrowed := true }
def NumGoesUptoSaid : Prop := numGoesUptoRow.holds Try.pinned (OpenSpec.upto numGoesSpec)

/-- 'warrenerlaw01.NumDivides', WHERE WHAT IT READS IS OF BULK AT MOST 1048576: true; the input reads as it did. -/
def numDividesUptoRow : OpenClaim := { program := "ythllggfimndklaa", sum := "9b69879342ea71bcb27b5397b8b4170a40a9b631e02529a29b6ab4cd8c5a3663", func := "warrener/warrenerlaw01.NumDivides", spec := "numDivides", apart := false, narrowed := true }
def NumDividesUptoSaid : Prop := numDividesUptoRow.holds Try.pinned (OpenSpec.upto numDividesSpec)

/-- 'warrenerlaw01.NumBounds', WHERE WHAT IT READS IS OF BULK AT MOST 1048576: true; the input reads as it did. -/
def numBoundsUptoRow : OpenClaim := { program := "ythllggfimndklaa", sum := "9b69879342ea71bcb27b5397b8b4170a40a9b631e02529a29b6ab4cd8c5a3663", func := "warrener/warrenerlaw01.NumBounds", spec := "numBounds", apart := false, narrowed := true }
def NumBoundsUptoSaid : Prop := numBoundsUptoRow.holds Try.pinned (OpenSpec.upto numBoundsSpec)

/-- 'warrenerlaw01.NumBack', WHERE WHAT IT READS IS OF BULK AT MOST 1048576: true; the input reads as it did. -/
def numBackUptoRow : OpenClaim := { program := "ythllggfimndklaa", sum := "9b69879342ea71bcb27b5397b8b4170a40a9b631e02529a29b6ab4cd8c5a3663", func := "warrener/warrenerlaw01.NumBack", spec := "numBack", apart := false, narrowed := true }
def NumBackUptoSaid : Prop := numBackUptoRow.holds Try.pinned (OpenSpec.upto numBackSpec)

/-- 'warrenerlaw22.EraMarks', WHERE WHAT IT READS IS OF BULK AT MOST 1048576: true; the input reads as it did. -/
def eraMarksUptoRow : OpenClaim := { program := "ythllggfimndklaa", sum := "9b69879342ea71bcb27b5397b8b4170a40a9b631e02529a29b6ab4cd8c5a3663", func := "warrener/warrenerlaw22.EraMarks", spec := "eraMarks", apart := false, narrowed := true }
def EraMarksUptoSaid : Prop := eraMarksUptoRow.holds Try.pinned (OpenSpec.upto eraMarksSpec)

/-- 'warrenerlaw22.EraSplits', WHERE WHAT IT READS IS OF BULK AT MOST 1048576: true; the input reads as it did. -/
def eraSplitsUptoRow : OpenClaim := { program := "ythllggfimndklaa", sum := "9b69879342ea71bcb27b5397b8b4170a40a9b631e02529a29b6ab4cd8c5a3663", func := "warrener/warrenerlaw22.EraSplits", spec := "eraSplits", apart := false, narrowed := true }
def EraSplitsUptoSaid : Prop := eraSplitsUptoRow.holds Try.pinned (OpenSpec.upto eraSplitsSpec)

end Rows
end Go.Proofs.Ythllggfimndklaa
