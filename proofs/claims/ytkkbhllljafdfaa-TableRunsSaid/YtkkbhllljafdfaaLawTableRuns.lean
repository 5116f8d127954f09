/- The row of the law TableRuns: whatever the arguments are it answers true, and they read as they did. No condition. -/
import Derived.Test.YtkkbhllljafdfaaRows
import Derived.Test.YtkkbhllljafdfaaOpen
import Derived.Test.YtkkbhllljafdfaaTbL
import Derived.WalkKit
import Derived.ProofKit
import Derived.OpenShut
import Derived.ShutString
import Derived.ChangeOld
import Derived.Below
import Derived.SizedLaws
namespace Go.Proofs.Ytkkbhllljafdfaa.tableRuns
open Go.ChangeShapes Go.WideShapes Go.ChangeAt Go.RowKit
open Go.ChangeMaps (open_string shut_string)
open Go.Proofs.YtkkbhllljafdfaaM.Mach Go.Proofs.YtkkbhllljafdfaaM.Open Go.Proofs.Ytkkbhllljafdfaa.Sr
set_option linter.unusedVariables false
set_option linter.unusedSimpArgs false
theorem opens27 : Opn Try.prog 27 1 (eI .u64) T1 := by
  have h := Opn.int1 Try.underlying27 (by kernel_rfl)
  exact h
theorem opens9 : Opn Try.prog 9 1 eS (fun _ s => s.size ≤ 140737488351232) := by
  have h := Opn.string Try.underlying9 (by kernel_rfl)
  exact h
theorem opens4 : Opn Try.prog 4 1 eB T1 := by
  have h := Opn.bool Try.underlying4 (by kernel_rfl)
  exact h
theorem opens29 : Opn Try.prog 29 3 (eP (eI .u64) (eP eS eB)) (gP T1 (gP (fun _ s => s.size ≤ 140737488351232) T1)) := by
  have h := Opn.struct Try.underlying29 (by kernel_rfl) (OpnAt.cons opens27 (OpnAt.cons opens9 (OpnAt.last opens4)))
  exact h
theorem opens22 : Opn Try.prog 22 1 eV (gV 32 3 (eP (eI .u64) (eP eS eB)) (gP T1 (gP (fun _ s => s.size ≤ 140737488351232) T1))) := by
  have h := Opn.slice (B := 32) opens29 (by decide) Try.underlying22 (by kernel_rfl) (by kernel_rfl)
  exact h
theorem law_is {w : World} {A : Option Addr} {c : Nat} {l : List RW} (h : Rd w (.slice A l.length c) 3 (eP (eI .u64) (eP eS eB)) l) : Calls Try.prog 3 #[.slice A l.length c] w fun e w' => e = .returned (.bool true) ∧ Below w.heap.size w w' := by
  have h2 : Rd w (.slice A l.length c) 3 encT29 l := h
  exact law_tab h2
theorem own : ownKnob Try.prog.godebug = none := by kernel_rfl
theorem laidOut : laidOutB Try.prog = true := by kernel_rfl
set_option maxRecDepth 100000 in
theorem lifted (os : Os) (started : os.Started) (H : Type) (enc : TypeId × Value → H) :
    ReturnsInHanded {} Try.checked os 3 .any (Rows.tableRunsSpec.pre6 enc Try.prog Try.f3 Rows.tableRunsRow.domain false) (Rows.tableRunsSpec.post enc Try.prog Try.f3 false true false false) := by
  refine returnsInHanded_of_change_sized (C := Try.checked) own started (by kernel_rfl) Try.func3
    (ChangeSpec.witness6 (enc := enc) (C := Try.checked) false ⟨#[], #[(.slice none 0 0)], []⟩ 8 (by kernel_rfl) (by kernel_rfl) (by kernel_rfl) (by kernel_rfl)) ?_
  intro W base args ds gs before hval0 hW hcnd hsz0 _
  have hsz : (DataW.weightsEach Try.prog (Try.f3.params.toList ++ Rows.tableRunsSpec.plain.varTypes Try.prog) (ds ++ gs)).all (· ≤ reachBytes) = true := hsz0
  have hval : ∀ (j : Nat) t v, Try.f3.params[j]? = some t → args[j]? = some v → Value.okWide Try.prog W .any base t v := hval0
  have hW' := hW
  obtain ⟨p, q, hA0, hV, rfl, hfz, hnd⟩ := hW
  have hA : DataW.TrodAll enc Try.prog W 0 (fun _ => true) true Try.f3.params.toList args.toList ds p := hA0
  rw [Try.params3] at hA hval hsz
  obtain ⟨v0, vs0, d0, ds0, p0, q0, hargs, rfl, rfl, h0, r0⟩ := trodAll_cons hA
  obtain ⟨rfl, rfl, rfl⟩ := trodAll_nil r0
  obtain rfl : args = #[v0] := by cases args; simp_all
  obtain ⟨rfl, rfl⟩ := trodVars_none hV
  obtain ⟨y0, K0, g0⟩ := opened opens22 hsz (j := 0) rfl rfl h0
  have k0 := h0
  have lt0 : ∀ x ∈ p0, x.block < W.heap.size := by obtain ⟨m, hm⟩ := k0; exact DataW.trod_lt m _ _ _ hm
  obtain ⟨a0, len0, cap0, rfl⟩ := okWide_slice Try.underlying22 (hval 0 22 v0 rfl rfl)
  obtain ⟨A90, n90, c90⟩ := y0
  obtain ⟨l90, e90, hs0, hw90, _⟩ := g0
  simp only at e90
  subst e90
  obtain ⟨rfl, rfl, rfl⟩ : a0 = A90 ∧ len0 = l90.length ∧ cap0 = c90 := by simpa [Value.cells, eV] using K0
  clear hA0 hval0 hsz0 hsz
  refine (law_is hs0).mono fun e W' ⟨he, bel⟩ => ?_
  subst he
  exact ⟨_, rfl, _, _, _, [], _, [], hW', trodAll_mk1 (shut_bool Try.underlying4 _), (trodAll_cons_mk (Below.trod laidOut (by kernel_rfl) (of_decide_eq_true (by kernel_rfl)) k0 bel lt0) trodAll_mk0), rfl, bel.frame _, fun h => by cases h⟩
theorem over : Rows.tableRunsRow.holds Try.pinned (OpenSpec.ofChange Rows.tableRunsSpec) :=
  OpenClaim.holds_of_wide 3 Try.f3 rfl rfl rfl rfl rfl rfl rfl ⟨rfl, rfl, rfl, rfl, rfl⟩ rfl rfl rfl rfl rfl (by kernel_rfl) Try.func3 (by kernel_rfl)
    (of_decide_eq_true (by kernel_rfl)) (by unfold Func.isWrapper; first | (rw [if_pos (by decide +kernel)]; kernel_rfl) | (rw [if_neg (by decide +kernel)]; exact ⟨rfl, rfl⟩))
    (fun os started H enc _ => lifted os started H enc)
theorem proved : Rows.TableRunsSaid := over
end Go.Proofs.Ytkkbhllljafdfaa.tableRuns
namespace Go.Proofs.Ytkkbhllljafdfaa
/-- The row, under a short name, for the claim. -/
theorem tableRuns_holds : Rows.TableRunsSaid := tableRuns.proved
end Go.Proofs.Ytkkbhllljafdfaa
