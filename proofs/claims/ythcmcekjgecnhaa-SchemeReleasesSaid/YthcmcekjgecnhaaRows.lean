/-
  No cell of these rows narrows 'for every input' (looked for: loops, veiled, ifaces, maps, wideKeys, modest, calm, conditions, laid).
  DERIVED. THE GIVEN ROWS OF THIS SEAT. 6 by the template 'for every input the law returns true; each argument reads behind the call as it read before'; 0 by the template 'total and deterministic' (their statements: YthcmcekjgecnhaaTotals.lean).
  GIVEN WITH THE SEED: the statements are not yours to turn. If you find one false, say at which input.
  Laid BY PROGRAM, IN A SANDBOX (cutbox-rows.mjs): the forced cells as the released guide's own fill.sh prints them over the translation 4704da64135cc0db… (all of the seat's roots in one cut). By AI agents, Wed Nov 11 2026. No macro, syntax, notation, axiom, sorry.
-/
import Derived.Test.YthcmcekjgecnhaaChecked
import GoSem.Claim
import GoSem.ClaimJoined
import GoSem.ClaimMapViews
import Derived.JoinedTies
import Derived.KernelRfl
namespace Go.Proofs.Ythcmcekjgecnhaa
/- THE CELL 'sum', in the pinned program and in every row, IS THE sha256 OF THE DUMP (.gsa) THAT YthcmcekjgecnhaaProg.lean LOADS. Nothing in Lean hashes anything: it is a label: what it is worth is what the hold of that sum in a sandbox is worth. -/
noncomputable def Try.pinned : Pinned := { name := "ythcmcekjgecnhaa", sum := "4704da64135cc0db986a1ee584e98bc9cd7b3dedf59e5cf546cd00d99d60b69e", checked := Try.checked }
namespace Rows
def none {H : Type} : Left H := { results := [], args := [] }

/-- 'warrenerlaw25.ThreadBegins': WHATEVER THE INPUT: true; the input reads as it did. -/
def threadBeginsSpec : ChangeSpec := { name := "threadBegins", fn := fun _ => fun
  | [d1, d2] => { results := [.lit (.bool true)], args := [d1, d2] }
  | _ => none }
def threadBeginsRow : OpenClaim := { program := "ythcmcekjgecnhaa", sum := "4704da64135cc0db986a1ee584e98bc9cd7b3dedf59e5cf546cd00d99d60b69e", func := "warrener/warrenerlaw25.ThreadBegins", spec := "threadBegins", unfollowed := true, recurses := true, apart := false }
def ThreadBeginsSaid : Prop := threadBeginsRow.holds Try.pinned (OpenSpec.ofChange threadBeginsSpec)

/-- ITS FALSE NEIGHBOUR: 'it returns false'. Refute it at one input. -/
def threadBeginsWrong : ChangeSpec := { name := "threadBegins", fn := fun _ => fun
  | [d1, d2] => { results := [.lit (.bool false)], args := [d1, d2] }
  | _ => none }
def ThreadBeginsWrongFalsely : Prop := threadBeginsRow.holds Try.pinned (OpenSpec.ofChange threadBeginsWrong)

/-- 'warrenerlaw25.ThreadRegs': WHATEVER THE INPUT: true; the input reads as it did. -/
def threadRegsSpec : ChangeSpec := { name := "threadRegs", fn := fun _ => fun
  | [d1, d2, d3, d4] => { results := [.lit (.bool true)], args := [d1, d2, d3, d4] }
  | _ => none }
def threadRegsRow : OpenClaim := { program := "ythcmcekjgecnhaa", sum := "4704da64135cc0db986a1ee584e98bc9cd7b3dedf59e5cf546cd00d99d60b69e", func := "warrener/warrenerlaw25.ThreadRegs", spec := "threadRegs", unfollowed := true, recurses := true, apart := false }
def ThreadRegsSaid : Prop := threadRegsRow.holds Try.pinned (OpenSpec.ofChange threadRegsSpec)

/-- ITS FALSE NEIGHBOUR: 'it returns false'. Refute it at one input. -/
def threadRegsWrong : ChangeSpec := { name := "threadRegs", fn := fun _ => fun
  | [d1, d2, d3, d4] => { results := [.lit (.bool false)], args := [d1, d2, d3, d4] }
  | _ => none }
def ThreadRegsWrongFalsely : Prop := threadRegsRow.holds Try.pinned (OpenSpec.ofChange threadRegsWrong)

/-- 'warrenerlaw25.ThreadLocals': WHATEVER THE INPUT: true; the input reads as it did. -/
def threadLocalsSpec : ChangeSpec := { name := "threadLocals", fn := fun _ => fun
  | [d1, d2] => { results := [.lit (.bool true)], args := [d1, d2] }
  | _ => none }
def threadLocalsRow : OpenClaim := { program := "ythcmcekjgecnhaa", sum := "4704da64135cc0db986a1ee584e98bc9cd7b3dedf59e5cf546cd00d99d60b69e", func := "warrener/warrenerlaw25.ThreadLocals", spec := "threadLocals", unfollowed := true, recurses := true, apart := false }
def ThreadLocalsSaid : Prop := threadLocalsRow.holds Try.pinned (OpenSpec.ofChange threadLocalsSpec)

/-- ITS FALSE NEIGHBOUR: 'it returns false'. Refute it at one input. -/
def threadLocalsWrong : ChangeSpec := { name := "threadLocals", fn := fun _ => fun
  | [d1, d2] => { results := [.lit (.bool false)], args := [d1, d2] }
  | _ => none }
def ThreadLocalsWrongFalsely : Prop := threadLocalsRow.holds Try.pinned (OpenSpec.ofChange threadLocalsWrong)

/-- 'warrenerlaw25.ThreadDone': WHATEVER THE INPUT: true; the input reads as it did. -/
def threadDoneSpec : ChangeSpec := { name := "threadDone", fn := fun _ => fun
  | [d1, d2] => { results := [.lit (.bool true)], args := [d1, d2] }
  | _ => none }
def threadDoneRow : OpenClaim := { program := "ythcmcekjgecnhaa", sum := "4704da64135cc0db986a1ee584e98bc9cd7b3dedf59e5cf546cd00d99d60b69e", func := "warrener/warrenerlaw25.ThreadDone", spec := "threadDone", unfollowed := true, recurses := true, apart := false }
def ThreadDoneSaid : Prop := threadDoneRow.holds Try.pinned (OpenSpec.ofChange threadDoneSpec)

/-- ITS FALSE NEIGHBOUR: 'it returns false'. Refute it at one input. -/
def threadDoneWrong : ChangeSpec := { name := "threadDone", fn := fun _ => fun
  | [d1, d2] => { results := [.lit (.bool false)], args := [d1, d2] }
  | _ => none }
def ThreadDoneWrongFalsely : Prop := threadDoneRow.holds Try.pinned (OpenSpec.ofChange threadDoneWrong)

/-- 'warrenerlaw25.ThreadEnds': WHATEVER THE INPUT: true; the input reads as it did. -/
def threadEndsSpec : ChangeSpec := { name := "threadEnds", fn := fun _ => fun
  | [d1, d2] => { results := [.lit (.bool true)], args := [d1, d2] }
  | _ => none }
def threadEndsRow : OpenClaim := { program := "ythcmcekjgecnhaa", sum := "4704da64135cc0db986a1ee584e98bc9cd7b3dedf59e5cf546cd00d99d60b69e", func := "warrener/warrenerlaw25.ThreadEnds", spec := "threadEnds", unfollowed := true, recurses := true, apart := false }
def ThreadEndsSaid : Prop := threadEndsRow.holds Try.pinned (OpenSpec.ofChange threadEndsSpec)

/-- ITS FALSE NEIGHBOUR: 'it returns false'. Refute it at one input. -/
def threadEndsWrong : ChangeSpec := { name := "threadEnds", fn := fun _ => fun
  | [d1, d2] => { results := [.lit (.bool false)], args := [d1, d2] }
  | _ => none }
def ThreadEndsWrongFalsely : Prop := threadEndsRow.holds Try.pinned (OpenSpec.ofChange threadEndsWrong)

/-- 'warrenerlaw24.SchemeReleases': WHATEVER THE INPUT: true; the input reads as it did. -/
def schemeReleasesSpec : ChangeSpec := { name := "schemeReleases", fn := fun _ => fun
  | [d1, d2] => { results := [.lit (.bool true)], args := [d1, d2] }
  | _ => none }
def schemeReleasesRow : OpenClaim := { program := "ythcmcekjgecnhaa", sum := "4704da64135cc0db986a1ee584e98bc9cd7b3dedf59e5cf546cd00d99d60b69e", func := "warrener/warrenerlaw24.SchemeReleases", spec := "schemeReleases", apart := false }
def SchemeReleasesSaid : Prop := schemeReleasesRow.holds Try.pinned (OpenSpec.ofChange schemeReleasesSpec)

/-- ITS FALSE NEIGHBOUR: 'it returns false'. Refute it at one input. -/
def schemeReleasesWrong : ChangeSpec := { name := "schemeReleases", fn := fun _ => fun
  | [d1, d2] => { results := [.lit (.bool false)], args := [d1, d2] }
  | _ => none }
def SchemeReleasesWrongFalsely : Prop := schemeReleasesRow.holds Try.pinned (OpenSpec.ofChange schemeReleasesWrong)

/- THE SECOND FORM. 'bulk': how many values and letters a reading holds, each counted each time it is reached (what is shared counts as often as it is met; a slice's spare places count too). A statement '..UptoSaid' is the law's where the arguments, and the package variables that the reading takes, are together of bulk at most 1048576: NARROWER than '..Said'. Prove '..Said' where nothing that the law and all that it calls make is longer than what came in: it says more and counts as full. Else prove '..UptoSaid'. A law counts once. -/
mutual
def uptoBulk {H : Type} : DataW H → Nat
  | .lit (.string bytes) => bytes.length + 1
  | .lit _ => 1
  | .nil => 1
  | .ptr d => uptoBulk d + 1
  | .slice elems spare => uptoBulkAll elems + uptoBulkAll spare + 1
  | .agg parts => uptoBulkAll parts + 1
  | .iface _ d => uptoBulk d + 1
  | .map entries => uptoBulkEntries entries + 1
  | .held _ => 1
def uptoBulkAll {H : Type} : List (DataW H) → Nat
  | [] => 0
  | d :: r => uptoBulk d + uptoBulkAll r
def uptoBulkEntries {H : Type} : List (Lit × DataW H) → Nat
  | [] => 0
  | x :: r => uptoBulkEntry x + uptoBulkEntries r
def uptoBulkEntry {H : Type} : Lit × DataW H → Nat
  | (.string bytes, d) => bytes.length + uptoBulk d + 1
  | (_, d) => uptoBulk d + 1
 end
def uptoSmall : (H : Type) → List (DataW H) → Bool := fun _ ds => decide (uptoBulkAll ds ≤ 1048576)
def OpenSpec.upto (s : _root_.Go.ChangeSpec) : _root_.Go.OpenSpec := { _root_.Go.OpenSpec.ofChange s with cond := some uptoSmall }

/-- 'warrenerlaw25.ThreadBegins', WHERE WHAT IT READS IS OF BULK AT MOST 1048576: true; the input reads as it did. -/
def threadBeginsUptoRow : OpenClaim := { program := "ythcmcekjgecnhaa", sum := "4704da64135cc0db986a1ee584e98bc9cd7b3dedf59e5cf546cd00d99d60b69e", func := "warrener/warrenerlaw25.ThreadBegins", spec := "threadBegins", unfollowed := true, recurses := true, apart := false, narrowed := true }
def ThreadBeginsUptoSaid : Prop := threadBeginsUptoRow.holds Try.pinned (OpenSpec.upto threadBeginsSpec)

/-- 'warrenerlaw25.ThreadRegs', WHERE WHAT IT READS IS OF BULK AT MOST 1048576: true; the input reads as it did. -/
def threadRegsUptoRow : OpenClaim := { program := "ythcmcekjgecnhaa", sum := "4704da64135cc0db986a1ee584e98bc9cd7b3dedf59e5cf546cd00d99d60b69e", func := "warrener/warrenerlaw25.ThreadRegs", spec := "threadRegs", unfollowed := true, recurses := true, apart := false, narrowed := true }
def ThreadRegsUptoSaid : Prop := threadRegsUptoRow.holds Try.pinned (OpenSpec.upto threadRegsSpec)

/-- 'warrenerlaw25.ThreadLocals', WHERE WHAT IT READS IS OF BULK AT MOST 1048576: true; the input reads as it did. -/
def threadLocalsUptoRow : OpenClaim := { program := "ythcmcekjgecnhaa", sum := "4704da64135cc0db986a1ee584e98bc9cd7b3dedf59e5cf546cd00d99d60b69e", func := "warrener/warrenerlaw25.ThreadLocals", spec := "threadLocals", unfollowed := true, recurses := true, apart := false, narrowed := true }
def ThreadLocalsUptoSaid : Prop := threadLocalsUptoRow.holds Try.pinned (OpenSpec.upto threadLocalsSpec)

/-- 'warrenerlaw25.ThreadDone', WHERE WHAT IT READS IS OF BULK AT MOST 1048576: true; the input reads as it did. -/
def threadDoneUptoRow : OpenClaim := { program := "ythcmcekjgecnhaa", sum := "4704da64135cc0db986a1ee584e98bc9cd7b3dedf59e5cf546cd00d99d60b69e", func := "warrener/warrenerlaw25.ThreadDone", spec := "threadDone", unfollowed := true, recurses := true, apart := false, narrowed := true }
def ThreadDoneUptoSaid : Prop := threadDoneUptoRow.holds Try.pinned (OpenSpec.upto threadDoneSpec)

/-- 'warrenerlaw25.ThreadEnds', WHERE WHAT IT READS IS OF BULK AT MOST 1048576: true; the input reads as it did. -/
def threadEndsUptoRow : OpenClaim := { program := "ythcmcekjgecnhaa", sum := "4704da64135cc0db986a1ee584e98bc9cd7b3dedf59e5cf546cd00d99d60b69e", func := "warrener/warrenerlaw25.ThreadEnds", spec := "threadEnds", unfollowed := true, recurses := true, apart := false, narrowed := true }
def ThreadEndsUptoSaid : Prop := threadEndsUptoRow.holds Try.pinned (OpenSpec.upto threadEndsSpec)

/-- 'warrenerlaw24.SchemeReleases', WHERE WHAT IT READS IS OF BULK AT MOST 1048576: true; the input reads as it did. -/
def schemeReleasesUptoRow : OpenClaim := { program := "ythcmcekjgecnhaa", sum := "4704da64135cc0db986a1ee584e98bc9cd7b3dedf59e5cf546cd00d99d60b69e", func := "warrener/warrenerlaw24.SchemeReleases", spec := "schemeReleases", apart := false, narrowed := true }
def SchemeReleasesUptoSaid : Prop := schemeReleasesUptoRow.holds Try.pinned (OpenSpec.upto schemeReleasesSpec)

end Rows
end Go.Proofs.Ythcmcekjgecnhaa
