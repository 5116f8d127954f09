/-
  No cell of these rows narrows 'for every input' (looked for: loops, veiled, ifaces, maps, wideKeys, modest, calm, conditions, laid).
  DERIVED. THE GIVEN ROWS OF THIS SEAT. 5 by the template 'for every input the law returns true; each argument reads behind the call as it read before'; 0 by the template 'total and deterministic' (their statements: YtbijkflfphppgaaTotals.lean).
  GIVEN WITH THE SEED: the statements are not yours to turn. If you find one false, say at which input.
  Laid BY PROGRAM, IN A SANDBOX (cutbox-rows.mjs): the forced cells as the released guide's own fill.sh prints them over the translation aec7a0bba9e22ee7… (all of the seat's roots in one cut). By AI agents, Wed Nov 11 2026. No macro, syntax, notation, axiom, sorry.
-/
import Derived.Test.YtbijkflfphppgaaChecked
import GoSem.Claim
import GoSem.ClaimJoined
import GoSem.ClaimMapViews
import Derived.JoinedTies
import Derived.KernelRfl
namespace Go.Proofs.Ytbijkflfphppgaa
/- THE CELL 'sum', in the pinned program and in every row, IS THE sha256 OF THE DUMP (.gsa) THAT YtbijkflfphppgaaProg.lean LOADS. Nothing in Lean hashes anything: it is a label: what it is worth is what the hold of that sum in a sandbox is worth. -/
noncomputable def Try.pinned : Pinned := { name := "ytbijkflfphppgaa", sum := "aec7a0bba9e22ee77153f114fbe725bc49e490d37e003a8bf9036224b1d5ec4b", checked := Try.checked }
namespace Rows
def none {H : Type} : Left H := { results := [], args := [] }

/-- 'warrenerlaw16.ArenaRows': WHATEVER THE INPUT: true; the input reads as it did. -/
def arenaRowsSpec : ChangeSpec := { name := "arenaRows", fn := fun _ => fun
  | [d1, d2] => { results := [.lit (.bool true)], args := [d1, d2] }
  | _ => none }
def arenaRowsRow : OpenClaim := { program := "ytbijkflfphppgaa", sum := "aec7a0bba9e22ee77153f114fbe725bc49e490d37e003a8bf9036224b1d5ec4b", func := "warrener/warrenerlaw16.ArenaRows", spec := "arenaRows", apart := false }
def ArenaRowsSaid : Prop := arenaRowsRow.holds Try.pinned (OpenSpec.ofChange arenaRowsSpec)

/-- ITS FALSE NEIGHBOUR: 'it returns false'. Refute it at one input. -/
def arenaRowsWrong : ChangeSpec := { name := "arenaRows", fn := fun _ => fun
  | [d1, d2] => { results := [.lit (.bool false)], args := [d1, d2] }
  | _ => none }
def ArenaRowsWrongFalsely : Prop := arenaRowsRow.holds Try.pinned (OpenSpec.ofChange arenaRowsWrong)

/-- 'warrenerlaw16.ArenaRuns': WHATEVER THE INPUT: true; the input reads as it did. -/
def arenaRunsSpec : ChangeSpec := { name := "arenaRuns", fn := fun _ => fun
  | [d1, d2, d3, d4] => { results := [.lit (.bool true)], args := [d1, d2, d3, d4] }
  | _ => none }
def arenaRunsRow : OpenClaim := { program := "ytbijkflfphppgaa", sum := "aec7a0bba9e22ee77153f114fbe725bc49e490d37e003a8bf9036224b1d5ec4b", func := "warrener/warrenerlaw16.ArenaRuns", spec := "arenaRuns", apart := false }
def ArenaRunsSaid : Prop := arenaRunsRow.holds Try.pinned (OpenSpec.ofChange arenaRunsSpec)

/-- ITS FALSE NEIGHBOUR: 'it returns false'. Refute it at one input. -/
def arenaRunsWrong : ChangeSpec := { name := "arenaRuns", fn := fun _ => fun
  | [d1, d2, d3, d4] => { results := [.lit (.bool false)], args := [d1, d2, d3, d4] }
  | _ => none }
def ArenaRunsWrongFalsely : Prop := arenaRunsRow.holds Try.pinned (OpenSpec.ofChange arenaRunsWrong)

/-- 'warrenerlaw16.ArenaUndoes': WHATEVER THE INPUT: true; the input reads as it did. -/
def arenaUndoesSpec : ChangeSpec := { name := "arenaUndoes", fn := fun _ => fun
  | [d1, d2, d3, d4] => { results := [.lit (.bool true)], args := [d1, d2, d3, d4] }
  | _ => none }
def arenaUndoesRow : OpenClaim := { program := "ytbijkflfphppgaa", sum := "aec7a0bba9e22ee77153f114fbe725bc49e490d37e003a8bf9036224b1d5ec4b", func := "warrener/warrenerlaw16.ArenaUndoes", spec := "arenaUndoes", apart := false }
def ArenaUndoesSaid : Prop := arenaUndoesRow.holds Try.pinned (OpenSpec.ofChange arenaUndoesSpec)

/-- ITS FALSE NEIGHBOUR: 'it returns false'. Refute it at one input. -/
def arenaUndoesWrong : ChangeSpec := { name := "arenaUndoes", fn := fun _ => fun
  | [d1, d2, d3, d4] => { results := [.lit (.bool false)], args := [d1, d2, d3, d4] }
  | _ => none }
def ArenaUndoesWrongFalsely : Prop := arenaUndoesRow.holds Try.pinned (OpenSpec.ofChange arenaUndoesWrong)

/-- 'warrenerlaw16.ArenaClones': WHATEVER THE INPUT: true; the input reads as it did. -/
def arenaClonesSpec : ChangeSpec := { name := "arenaClones", fn := fun _ => fun
  | [d1, d2, d3, d4] => { results := [.lit (.bool true)], args := [d1, d2, d3, d4] }
  | _ => none }
def arenaClonesRow : OpenClaim := { program := "ytbijkflfphppgaa", sum := "aec7a0bba9e22ee77153f114fbe725bc49e490d37e003a8bf9036224b1d5ec4b", func := "warrener/warrenerlaw16.ArenaClones", spec := "arenaClones", apart := false }
def ArenaClonesSaid : Prop := arenaClonesRow.holds Try.pinned (OpenSpec.ofChange arenaClonesSpec)

/-- ITS FALSE NEIGHBOUR: 'it returns false'. Refute it at one input. -/
def arenaClonesWrong : ChangeSpec := { name := "arenaClones", fn := fun _ => fun
  | [d1, d2, d3, d4] => { results := [.lit (.bool false)], args := [d1, d2, d3, d4] }
  | _ => none }
def ArenaClonesWrongFalsely : Prop := arenaClonesRow.holds Try.pinned (OpenSpec.ofChange arenaClonesWrong)

/-- 'warrenerlaw16.ArenaNobody': WHATEVER THE INPUT: true; the input reads as it did. -/
def arenaNobodySpec : ChangeSpec := { name := "arenaNobody", fn := fun _ => fun
  | [d1, d2, d3] => { results := [.lit (.bool true)], args := [d1, d2, d3] }
  | _ => none }
def arenaNobodyRow : OpenClaim := { program := "ytbijkflfphppgaa", sum := "aec7a0bba9e22ee77153f114fbe725bc49e490d37e003a8bf9036224b1d5ec4b", func := "warrener/warrenerlaw16.ArenaNobody", spec := "arenaNobody", apart := false }
def ArenaNobodySaid : Prop := arenaNobodyRow.holds Try.pinned (OpenSpec.ofChange arenaNobodySpec)

/-- ITS FALSE NEIGHBOUR: 'it returns false'. Refute it at one input. -/
def arenaNobodyWrong : ChangeSpec := { name := "arenaNobody", fn := fun _ => fun
  | [d1, d2, d3] => { results := [.lit (.bool false)], args := [d1, d2, d3] }
  | _ => none }
def ArenaNobodyWrongFalsely : Prop := arenaNobodyRow.holds Try.pinned (OpenSpec.ofChange arenaNobodyWrong)

/- THE SECOND FORM. 'bulk': how many values and letters a reading holds, each counted each time it is reached (what is shared counts as often as it is met; a slice's spare places count too). A statement '..UptoSaid' is the law's where the arguments, and the package variables that the reading takes, are together of bulk at most 1048576: NARROWER than '..Said'. Prove '..Said' where nothing that the law and all that it calls make is longer than what came in: it says more and counts as full. Else prove '..UptoSaid'. A law counts once. -/
mutual
def uptoBulk {H : Type} : DataW H → Nat
  | .lit (.string bytes) => bytes.length + 1
  | .lit _ => 1
  | .nil => 1
  | .ptr d => uptoBulk d + 1
  | .slice elems spare => uptoBulkAll elems + uptoBulkAll spare + 1
  | .agg parts => uptoBulkAll parts + 1
  | .iface _ d => uptoBulk d + 1
  | .map entries => uptoBulkEntries entries + 1
  | .held _ => 1
def uptoBulkAll {H : Type} : List (DataW H) → Nat
  | [] => 0
  | d :: r => uptoBulk d + uptoBulkAll r
def uptoBulkEntries {H : Type} : List (Lit × DataW H) → Nat
  | [] => 0
  | x :: r => uptoBulkEntry x + uptoBulkEntries r
def uptoBulkEntry {H : Type} : Lit × DataW H → Nat
  | (.string bytes, d) => bytes.length + uptoBulk d + 1
  | (_, d) => uptoBulk d + 1
 end
def uptoSmall : (H : Type) → List (DataW H) → Bool := fun _ ds => decide (uptoBulkAll ds ≤ 1048576)
def OpenSpec.upto (s : _root_.Go.ChangeSpec) : _root_.Go.OpenSpec := { _root_.Go.OpenSpec.ofChange s with cond := some uptoSmall }

/-- 'warrenerlaw16.ArenaRows', WHERE WHAT IT READS IS OF BULK AT MOST 1048576: true; the input reads as it did. -/
def arenaRowsUptoRow : OpenClaim := { program := "ytbijkflfphppgaa", sum := "aec7a0bba9e22ee77153f114fbe725bc49e490d37e003a8bf9036224b1d5ec4b", func := "warrener/warrenerlaw16.ArenaRows", spec := "arenaRows", apart := false, narrowed := true }
def ArenaRowsUptoSaid : Prop := arenaRowsUptoRow.holds Try.pinned (OpenSpec.upto arenaRowsSpec)

/-- 'warrenerlaw16.ArenaRuns', WHERE WHAT IT READS IS OF BULK AT MOST 1048576: true; the input reads as it did. -/
def arenaRunsUptoRow : OpenClaim := { program := "ytbijkflfphppgaa", sum := "aec7a0bba9e22ee77153f114fbe725bc49e490d37e003a8bf9036224b1d5ec4b", func := "warrener/warrenerlaw16.ArenaRuns", spec := "arenaRuns", apart := false, narrowed := true }
def ArenaRunsUptoSaid : Prop := arenaRunsUptoRow.holds Try.pinned (OpenSpec.upto arenaRunsSpec)

/-- 'warrenerlaw16.ArenaUndoes', WHERE WHAT IT READS IS OF BULK AT MOST 1048576: true; the input reads as it did. -/
def arenaUndoesUptoRow : OpenClaim := { program := "ytbijkflfphppgaa", sum := "aec7a0bba9e22ee77153f114fbe725bc49e490d37e003a8bf9036224b1d5ec4b", func := "warrener/warrenerlaw16.ArenaUndoes", spec := "arenaUndoes", apart := false, narrowed := true }
def ArenaUndoesUptoSaid : Prop := arenaUndoesUptoRow.holds Try.pinned (OpenSpec.upto arenaUndoesSpec)

/-- 'warrenerlaw16.ArenaClones', WHERE WHAT IT READS IS OF BULK AT MOST 1048576: true; the input reads as it did. -/
def arenaClonesUptoRow : OpenClaim := { program := "ytbijkflfphppgaa", sum := "aec7a0bba9e22ee77153f114fbe725bc49e490d37e003a8bf9036224b1d5ec4b", func := "warrener/warrenerlaw16.ArenaClones", spec := "arenaClones", apart := false, narrowed := true }
def ArenaClonesUptoSaid : Prop := arenaClonesUptoRow.holds Try.pinned (OpenSpec.upto arenaClonesSpec)

/-- 'warrenerlaw16.ArenaNobody', WHERE WHAT IT READS IS OF BULK AT MOST 1048576: true; the input reads as it did. -/
def arenaNobodyUptoRow : OpenClaim := { program := "ytbijkflfphppgaa", sum := "aec7a0bba9e22ee77153f114fbe725bc49e490d37e003a8bf9036224b1d5ec4b", func := "warrener/warrenerlaw16.ArenaNobody", spec := "arenaNobody", apart := false, narrowed := true }
def ArenaNobodyUptoSaid : Prop := arenaNobodyUptoRow.holds Try.pinned (OpenSpec.upto arenaNobodySpec)

end Rows
end Go.Proofs.Ytbijkflfphppgaa
