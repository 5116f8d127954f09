/-
  No cell of these rows narrows 'for every input' (looked for: loops, veiled, ifaces, maps, wideKeys, modest, calm, conditions, laid).
  DERIVED. THE GIVEN ROWS OF THIS SEAT. 6 by the template 'for every input the law returns true; each argument reads behind the call as it read before'; 0 by the template 'total and deterministic' (their statements: YthcmcekjgecnhabTotals.lean).
  GIVEN WITH THE SEED: the statements are not yours to turn. If you find one false, say at which input.
  Laid BY PROGRAM, IN A SANDBOX (cutbox-rows.mjs): the forced cells as the released guide's own fill.sh prints them over the translation 60db708a1c6c3bd6… (all of the seat's roots in one cut). By AI agents, Wed Nov 11 2026. No macro, syntax, notation, axiom, sorry.
-/
import Derived.Test.YthcmcekjgecnhabChecked
import GoSem.Claim
import GoSem.ClaimJoined
import GoSem.ClaimMapViews
import Derived.JoinedTies
import Derived.KernelRfl
namespace Go.Proofs.Ythcmcekjgecnhab
/- THE CELL 'sum', in the pinned program and in every row, IS THE sha256 OF THE DUMP (.gsa) THAT YthcmcekjgecnhabProg.lean LOADS. Nothing in Lean hashes anything: it is a label: what it is worth is what the hold of that sum in a sandbox is worth. -/
noncomputable def Try.pinned : Pinned := { name := "ythcmcekjgecnhab", sum := "60db708a1c6c3bd6ee798e88a7874574cf50a2e5462aeb1189e4188a65c80582", checked := Try.checked }
namespace Rows
def none {H : Type} : Left H := { results := [], args := [] }

/-- 'warrenerlaw17.ReachTells': WHATEVER THE INPUT: true; the input reads as it did. -/
def reachTellsSpec : ChangeSpec := { name := "reachTells", fn := fun _ => fun
  | [d1, d2] => { results := [.lit (.bool true)], args := [d1, d2] }
  | _ => none }
def reachTellsRow : OpenClaim := { program := "ythcmcekjgecnhab", sum := "60db708a1c6c3bd6ee798e88a7874574cf50a2e5462aeb1189e4188a65c80582", func := "warrener/warrenerlaw17.ReachTells", spec := "reachTells", unfollowed := true, recurses := true, apart := false }
def ReachTellsSaid : Prop := reachTellsRow.holds Try.pinned (OpenSpec.ofChange reachTellsSpec)

/-- ITS FALSE NEIGHBOUR: 'it returns false'. Refute it at one input. -/
def reachTellsWrong : ChangeSpec := { name := "reachTells", fn := fun _ => fun
  | [d1, d2] => { results := [.lit (.bool false)], args := [d1, d2] }
  | _ => none }
def ReachTellsWrongFalsely : Prop := reachTellsRow.holds Try.pinned (OpenSpec.ofChange reachTellsWrong)

/-- 'warrenerlaw17.ReachLeaks': WHATEVER THE INPUT: true; the input reads as it did. -/
def reachLeaksSpec : ChangeSpec := { name := "reachLeaks", fn := fun _ => fun
  | [d1, d2] => { results := [.lit (.bool true)], args := [d1, d2] }
  | _ => none }
def reachLeaksRow : OpenClaim := { program := "ythcmcekjgecnhab", sum := "60db708a1c6c3bd6ee798e88a7874574cf50a2e5462aeb1189e4188a65c80582", func := "warrener/warrenerlaw17.ReachLeaks", spec := "reachLeaks", unfollowed := true, recurses := true, apart := false }
def ReachLeaksSaid : Prop := reachLeaksRow.holds Try.pinned (OpenSpec.ofChange reachLeaksSpec)

/-- ITS FALSE NEIGHBOUR: 'it returns false'. Refute it at one input. -/
def reachLeaksWrong : ChangeSpec := { name := "reachLeaks", fn := fun _ => fun
  | [d1, d2] => { results := [.lit (.bool false)], args := [d1, d2] }
  | _ => none }
def ReachLeaksWrongFalsely : Prop := reachLeaksRow.holds Try.pinned (OpenSpec.ofChange reachLeaksWrong)

/-- 'warrenerlaw17.ReachMore': WHATEVER THE INPUT: true; the input reads as it did. -/
def reachMoreSpec : ChangeSpec := { name := "reachMore", fn := fun _ => fun
  | [d1, d2, d3] => { results := [.lit (.bool true)], args := [d1, d2, d3] }
  | _ => none }
def reachMoreRow : OpenClaim := { program := "ythcmcekjgecnhab", sum := "60db708a1c6c3bd6ee798e88a7874574cf50a2e5462aeb1189e4188a65c80582", func := "warrener/warrenerlaw17.ReachMore", spec := "reachMore", unfollowed := true, recurses := true, apart := false }
def ReachMoreSaid : Prop := reachMoreRow.holds Try.pinned (OpenSpec.ofChange reachMoreSpec)

/-- ITS FALSE NEIGHBOUR: 'it returns false'. Refute it at one input. -/
def reachMoreWrong : ChangeSpec := { name := "reachMore", fn := fun _ => fun
  | [d1, d2, d3] => { results := [.lit (.bool false)], args := [d1, d2, d3] }
  | _ => none }
def ReachMoreWrongFalsely : Prop := reachMoreRow.holds Try.pinned (OpenSpec.ofChange reachMoreWrong)

/-- 'warrenerlaw10.InstrOctets': WHATEVER THE INPUT: true; the input reads as it did. -/
def instrOctetsSpec : ChangeSpec := { name := "instrOctets", fn := fun _ => fun
  | [d1, d2] => { results := [.lit (.bool true)], args := [d1, d2] }
  | _ => none }
def instrOctetsRow : OpenClaim := { program := "ythcmcekjgecnhab", sum := "60db708a1c6c3bd6ee798e88a7874574cf50a2e5462aeb1189e4188a65c80582", func := "warrener/warrenerlaw10.InstrOctets", spec := "instrOctets", unfollowed := true, recurses := true, apart := false }
def InstrOctetsSaid : Prop := instrOctetsRow.holds Try.pinned (OpenSpec.ofChange instrOctetsSpec)

/-- ITS FALSE NEIGHBOUR: 'it returns false'. Refute it at one input. -/
def instrOctetsWrong : ChangeSpec := { name := "instrOctets", fn := fun _ => fun
  | [d1, d2] => { results := [.lit (.bool false)], args := [d1, d2] }
  | _ => none }
def InstrOctetsWrongFalsely : Prop := instrOctetsRow.holds Try.pinned (OpenSpec.ofChange instrOctetsWrong)

/-- 'warrenerlaw10.InstrBack': WHATEVER THE INPUT: true; the input reads as it did. -/
def instrBackSpec : ChangeSpec := { name := "instrBack", fn := fun _ => fun
  | [d1, d2] => { results := [.lit (.bool true)], args := [d1, d2] }
  | _ => none }
def instrBackRow : OpenClaim := { program := "ythcmcekjgecnhab", sum := "60db708a1c6c3bd6ee798e88a7874574cf50a2e5462aeb1189e4188a65c80582", func := "warrener/warrenerlaw10.InstrBack", spec := "instrBack", unfollowed := true, recurses := true, apart := false }
def InstrBackSaid : Prop := instrBackRow.holds Try.pinned (OpenSpec.ofChange instrBackSpec)

/-- ITS FALSE NEIGHBOUR: 'it returns false'. Refute it at one input. -/
def instrBackWrong : ChangeSpec := { name := "instrBack", fn := fun _ => fun
  | [d1, d2] => { results := [.lit (.bool false)], args := [d1, d2] }
  | _ => none }
def InstrBackWrongFalsely : Prop := instrBackRow.holds Try.pinned (OpenSpec.ofChange instrBackWrong)

/-- 'warrenerlaw24.SchemeBegins': WHATEVER THE INPUT: true; the input reads as it did. -/
def schemeBeginsSpec : ChangeSpec := { name := "schemeBegins", fn := fun _ => fun
  | [d1, d2, d3] => { results := [.lit (.bool true)], args := [d1, d2, d3] }
  | _ => none }
def schemeBeginsRow : OpenClaim := { program := "ythcmcekjgecnhab", sum := "60db708a1c6c3bd6ee798e88a7874574cf50a2e5462aeb1189e4188a65c80582", func := "warrener/warrenerlaw24.SchemeBegins", spec := "schemeBegins", apart := false }
def SchemeBeginsSaid : Prop := schemeBeginsRow.holds Try.pinned (OpenSpec.ofChange schemeBeginsSpec)

/-- ITS FALSE NEIGHBOUR: 'it returns false'. Refute it at one input. -/
def schemeBeginsWrong : ChangeSpec := { name := "schemeBegins", fn := fun _ => fun
  | [d1, d2, d3] => { results := [.lit (.bool false)], args := [d1, d2, d3] }
  | _ => none }
def SchemeBeginsWrongFalsely : Prop := schemeBeginsRow.holds Try.pinned (OpenSpec.ofChange schemeBeginsWrong)

/- THE SECOND FORM. 'bulk': how many values and letters a reading holds, each counted each time it is reached (what is shared counts as often as it is met; a slice's spare places count too). A statement '..UptoSaid' is the law's where the arguments, and the package variables that the reading takes, are together of bulk at most 1048576: NARROWER than '..Said'. Prove '..Said' where nothing that the law and all that it calls make is longer than what came in: it says more and counts as full. Else prove '..UptoSaid'. A law counts once. -/
mutual
def uptoBulk {H : Type} : DataW H → Nat
  | .lit (.string bytes) => bytes.length + 1
  | .lit _ => 1
  | .nil => 1
  | .ptr d => uptoBulk d + 1
  | .slice elems spare => uptoBulkAll elems + uptoBulkAll spare + 1
  | .agg parts => uptoBulkAll parts + 1
  | .iface _ d => uptoBulk d + 1
  | .map entries => uptoBulkEntries entries + 1
  | .held _ => 1
def uptoBulkAll {H : Type} : List (DataW H) → Nat
  | [] => 0
  | d :: r => uptoBulk d + uptoBulkAll r
def uptoBulkEntries {H : Type} : List (Lit × DataW H) → Nat
  | [] => 0
  | x :: r => uptoBulkEntry x + uptoBulkEntries r
def uptoBulkEntry {H : Type} : Lit × DataW H → Nat
  | (.string bytes, d) => bytes.length + uptoBulk d + 1
  | (_, d) => uptoBulk d + 1
 end
def uptoSmall : (H : Type) → List (DataW H) → Bool := fun _ ds => decide (uptoBulkAll ds ≤ 1048576)
def OpenSpec.upto (s : _root_.Go.ChangeSpec) : _root_.Go.OpenSpec := { _root_.Go.OpenSpec.ofChange s with cond := some uptoSmall }

/-- 'warrenerlaw17.ReachTells', WHERE WHAT IT READS IS OF BULK AT MOST 1048576: true; the input reads as it did. -/
def reachTellsUptoRow : OpenClaim := { program := "ythcmcekjgecnhab", sum := "60db708a1c6c3bd6ee798e88a7874574cf50a2e5462aeb1189e4188a65c80582", func := "warrener/warrenerlaw17.ReachTells", spec := "reachTells", unfollowed := true, recurses := true, apart := false, narrowed := true }
def ReachTellsUptoSaid : Prop := reachTellsUptoRow.holds Try.pinned (OpenSpec.upto reachTellsSpec)

/-- 'warrenerlaw17.ReachLeaks', WHERE WHAT IT READS IS OF BULK AT MOST 1048576: true; the input reads as it did. -/
def reachLeaksUptoRow : OpenClaim := { program := "ythcmcekjgecnhab", sum := "60db708a1c6c3bd6ee798e88a7874574cf50a2e5462aeb1189e4188a65c80582", func := "warrener/warrenerlaw17.ReachLeaks", spec := "reachLeaks", unfollowed := true, recurses := true, apart := false, narrowed := true }
def ReachLeaksUptoSaid : Prop := reachLeaksUptoRow.holds Try.pinned (OpenSpec.upto reachLeaksSpec)

/-- 'warrenerlaw17.ReachMore', WHERE WHAT IT READS IS OF BULK AT MOST 1048576: true; the input reads as it did. -/
def reachMoreUptoRow : OpenClaim := { program := "ythcmcekjgecnhab", sum := "60db708a1c6c3bd6ee798e88a7874574cf50a2e5462aeb1189e4188a65c80582", func := "warrener/warrenerlaw17.ReachMore", spec := "reachMore", unfollowed := true, recurses := true, apart := false, narrowed := true }
def ReachMoreUptoSaid : Prop := reachMoreUptoRow.holds Try.pinned (OpenSpec.upto reachMoreSpec)

/-- 'warrenerlaw10.InstrOctets', WHERE WHAT IT READS IS OF BULK AT MOST 1048576: true; the input reads as it did. -/
def instrOctetsUptoRow : OpenClaim := { program := "ythcmcekjgecnhab", sum := "60db708a1c6c3bd6ee798e88a7874574cf50a2e5462aeb1189e4188a65c80582", func := "warrener/warrenerlaw10.InstrOctets", spec := "instrOctets", unfollowed := true, recurses := true, apart := false, narrowed := true }
def InstrOctetsUptoSaid : Prop := instrOctetsUptoRow.holds Try.pinned (OpenSpec.upto instrOctetsSpec)

/-- 'warrenerlaw10.InstrBack', WHERE WHAT IT READS IS OF BULK AT MOST 1048576: true; the input reads as it did. -/
def instrBackUptoRow : OpenClaim := { program := "ythcmcekjgecnhab", sum := "60db708a1c6c3bd6ee798e88a7874574cf50a2e5462aeb1189e4188a65c80582", func := "warrener/warrenerlaw10.InstrBack", spec := "instrBack", unfollowed := true, recurses := true, apart := false, narrowed := true }
def InstrBackUptoSaid : Prop := instrBackUptoRow.holds Try.pinned (OpenSpec.upto instrBackSpec)

/-- 'warrenerlaw24.SchemeBegins', WHERE WHAT IT READS IS OF BULK AT MOST 1048576: true; the input reads as it did. -/
def schemeBeginsUptoRow : OpenClaim := { program := "ythcmcekjgecnhab", sum := "60db708a1c6c3bd6ee798e88a7874574cf50a2e5462aeb1189e4188a65c80582", func := "warrener/warrenerlaw24.SchemeBegins", spec := "schemeBegins", apart := false, narrowed := true }
def SchemeBeginsUptoSaid : Prop := schemeBeginsUptoRow.holds Try.pinned (OpenSpec.upto schemeBeginsSpec)

end Rows
end Go.Proofs.Ythcmcekjgecnhab
