/- The row of the law ArenaUndoes: whatever the arguments are it answers true, and they read as they did. No condition. -/
import Derived.Test.YtbijkflfphppgaaRows
import Derived.Test.YtbijkflfphppgaaOpen
import Derived.Test.YtbijkflfphppgaaAyL2
import Derived.WalkKit
import Derived.ProofKit
import Derived.OpenShut
import Derived.ShutString
import Derived.ChangeOld
import Derived.Below
import Derived.SizedLaws
namespace Go.Proofs.Ytbijkflfphppgaa.arenaUndoes
open Go.ChangeShapes Go.WideShapes Go.ChangeAt Go.RowKit
open Go.ChangeMaps (open_string shut_string)
open Go.Proofs.YtbijkflfphppgaaM.Mach Go.Proofs.YtbijkflfphppgaaM.Open Go.Proofs.Ytbijkflfphppgaa.Sr
set_option linter.unusedVariables false
set_option linter.unusedSimpArgs false
theorem opens3 : Opn Try.prog 3 1 (eI .i64) T1 := by
  have h := Opn.int1 Try.underlying3 (by kernel_rfl)
  exact h
theorem opens2 : Opn Try.prog 2 1 (eI .i64) T1 := by
  have h := Opn.int1 Try.underlying2 (by kernel_rfl)
  exact h
theorem opens36 : Opn Try.prog 36 3 (eP (eI .i64) (eP (eI .i64) (eI .i64))) (gP T1 (gP T1 T1)) := by
  have h := Opn.struct Try.underlying36 (by kernel_rfl) (OpnAt.cons opens2 (OpnAt.cons opens3 (OpnAt.last opens3)))
  exact h
theorem opens38 : Opn Try.prog 38 8 (eP (eI .i64) (eP (eI .i64) (eP (eI .i64) (eP (eI .i64) (eP (eI .i64) (eP (eI .i64) (eP (eI .i64) (eI .i64)))))))) (gP T1 (gP T1 (gP T1 (gP T1 (gP T1 (gP T1 (gP T1 T1))))))) := by
  have h := Opn.struct Try.underlying38 (by kernel_rfl) (OpnAt.cons opens3 (OpnAt.cons opens3 (OpnAt.cons opens3 (OpnAt.cons opens3 (OpnAt.cons opens3 (OpnAt.last opens36))))))
  exact h
theorem opens22 : Opn Try.prog 22 1 eV (gV 64 8 (eP (eI .i64) (eP (eI .i64) (eP (eI .i64) (eP (eI .i64) (eP (eI .i64) (eP (eI .i64) (eP (eI .i64) (eI .i64)))))))) (gP T1 (gP T1 (gP T1 (gP T1 (gP T1 (gP T1 (gP T1 T1)))))))) := by
  have h := Opn.slice (B := 64) opens38 (by decide) Try.underlying22 (by kernel_rfl) (by kernel_rfl)
  exact h
theorem law_is (cells mkr : Int) {w : World} {A : Option Addr} {c : Nat} {l : List O8} {A2 : Option Addr} {c2 : Nat} {l2 : List O8} (h : Rd w (.slice A l.length c) 8 (eP (eI .i64) (eP (eI .i64) (eP (eI .i64) (eP (eI .i64) (eP (eI .i64) (eP (eI .i64) (eP (eI .i64) (eI .i64)))))))) l) (h2 : Rd w (.slice A2 l2.length c2) 8 (eP (eI .i64) (eP (eI .i64) (eP (eI .i64) (eP (eI .i64) (eP (eI .i64) (eP (eI .i64) (eP (eI .i64) (eI .i64)))))))) l2) : Calls Try.prog 5 #[.int .i64 cells, .slice A l.length c, .slice A2 l2.length c2, .int .i64 mkr] w fun e w' => e = .returned (.bool true) ∧ Below w.heap.size w w' := by
  have h3 : Rd w (.slice A l.length c) 8 encT38 l := h
  have h4 : Rd w (.slice A2 l2.length c2) 8 encT38 l2 := h2
  exact law_undoes cells mkr h3 h4
theorem own : ownKnob Try.prog.godebug = none := by kernel_rfl
theorem laidOut : laidOutB Try.prog = true := by kernel_rfl
set_option maxRecDepth 100000 in
theorem lifted (os : Os) (started : os.Started) (H : Type) (enc : TypeId × Value → H) :
    ReturnsInHanded {} Try.checked os 5 .any (Rows.arenaUndoesSpec.pre6 enc Try.prog Try.f5 Rows.arenaUndoesRow.domain false) (Rows.arenaUndoesSpec.post enc Try.prog Try.f5 false true false false) := by
  refine returnsInHanded_of_change_sized (C := Try.checked) own started (by kernel_rfl) Try.func5
    (ChangeSpec.witness6 (enc := enc) (C := Try.checked) false ⟨#[], #[(.int .i64 0), (.slice none 0 0), (.slice none 0 0), (.int .i64 0)], []⟩ 8 (by kernel_rfl) (by kernel_rfl) (by kernel_rfl) (by kernel_rfl)) ?_
  intro W base args ds gs before hval0 hW hcnd hsz0 _
  have hsz : (DataW.weightsEach Try.prog (Try.f5.params.toList ++ Rows.arenaUndoesSpec.plain.varTypes Try.prog) (ds ++ gs)).all (· ≤ reachBytes) = true := hsz0
  have hval : ∀ (j : Nat) t v, Try.f5.params[j]? = some t → args[j]? = some v → Value.okWide Try.prog W .any base t v := hval0
  have hW' := hW
  obtain ⟨p, q, hA0, hV, rfl, hfz, hnd⟩ := hW
  have hA : DataW.TrodAll enc Try.prog W 0 (fun _ => true) true Try.f5.params.toList args.toList ds p := hA0
  rw [Try.params5] at hA hval hsz
  obtain ⟨v0, vs0, d0, ds0, p0, q0, hargs, rfl, rfl, h0, r0⟩ := trodAll_cons hA
  obtain ⟨v1, vs1, d1, ds1, p1, q1, rfl, rfl, rfl, h1, r1⟩ := trodAll_cons r0
  obtain ⟨v2, vs2, d2, ds2, p2, q2, rfl, rfl, rfl, h2, r2⟩ := trodAll_cons r1
  obtain ⟨v3, vs3, d3, ds3, p3, q3, rfl, rfl, rfl, h3, r3⟩ := trodAll_cons r2
  obtain ⟨rfl, rfl, rfl⟩ := trodAll_nil r3
  obtain rfl : args = #[v0, v1, v2, v3] := by cases args; simp_all
  obtain ⟨rfl, rfl⟩ := trodVars_none hV
  obtain ⟨b0, rfl, rfl, rfl, z0⟩ := open_int Try.underlying3 (hval 0 3 v0 rfl rfl) h0
  obtain ⟨y1, K1, g1⟩ := opened opens22 hsz (j := 1) rfl rfl h1
  have k1 := h1
  have lt1 : ∀ x ∈ p1, x.block < W.heap.size := by obtain ⟨m, hm⟩ := k1; exact DataW.trod_lt m _ _ _ hm
  obtain ⟨a1, len1, cap1, rfl⟩ := okWide_slice Try.underlying22 (hval 1 22 v1 rfl rfl)
  obtain ⟨A91, n91, c91⟩ := y1
  obtain ⟨l91, e91, hs1, hw91, _⟩ := g1
  simp only at e91
  subst e91
  obtain ⟨rfl, rfl, rfl⟩ : a1 = A91 ∧ len1 = l91.length ∧ cap1 = c91 := by simpa [Value.cells, eV] using K1
  obtain ⟨y2, K2, g2⟩ := opened opens22 hsz (j := 2) rfl rfl h2
  have k2 := h2
  have lt2 : ∀ x ∈ p2, x.block < W.heap.size := by obtain ⟨m, hm⟩ := k2; exact DataW.trod_lt m _ _ _ hm
  obtain ⟨a2, len2, cap2, rfl⟩ := okWide_slice Try.underlying22 (hval 2 22 v2 rfl rfl)
  obtain ⟨A92, n92, c92⟩ := y2
  obtain ⟨l92, e92, hs2, hw92, _⟩ := g2
  simp only at e92
  subst e92
  obtain ⟨rfl, rfl, rfl⟩ : a2 = A92 ∧ len2 = l92.length ∧ cap2 = c92 := by simpa [Value.cells, eV] using K2
  obtain ⟨b3, rfl, rfl, rfl, z3⟩ := open_int Try.underlying3 (hval 3 3 v3 rfl rfl) h3
  clear hA0 hval0 hsz0 hsz
  refine (law_is _ _ hs1 hs2).mono fun e W' ⟨he, bel⟩ => ?_
  subst he
  exact ⟨_, rfl, _, _, _, [], _, [], hW', trodAll_mk1 (shut_bool Try.underlying4 _), (trodAll_cons_mk (shut_int Try.underlying3 z0) (trodAll_cons_mk (Below.trod laidOut (by kernel_rfl) (of_decide_eq_true (by kernel_rfl)) k1 bel lt1) (trodAll_cons_mk (Below.trod laidOut (by kernel_rfl) (of_decide_eq_true (by kernel_rfl)) k2 bel lt2) (trodAll_cons_mk (shut_int Try.underlying3 z3) trodAll_mk0)))), rfl, bel.frame _, fun h => by cases h⟩
theorem over : Rows.arenaUndoesRow.holds Try.pinned (OpenSpec.ofChange Rows.arenaUndoesSpec) :=
  OpenClaim.holds_of_wide 5 Try.f5 rfl rfl rfl rfl rfl rfl rfl ⟨rfl, rfl, rfl, rfl, rfl⟩ rfl rfl rfl rfl rfl (by kernel_rfl) Try.func5 (by kernel_rfl)
    (of_decide_eq_true (by kernel_rfl)) (by unfold Func.isWrapper; first | (rw [if_pos (by decide +kernel)]; kernel_rfl) | (rw [if_neg (by decide +kernel)]; exact ⟨rfl, rfl⟩))
    (fun os started H enc _ => lifted os started H enc)
theorem proved : Rows.ArenaUndoesSaid := over
end Go.Proofs.Ytbijkflfphppgaa.arenaUndoes
namespace Go.Proofs.Ytbijkflfphppgaa
/-- The row, under a short name, for the claim. -/
theorem arenaUndoes_holds : Rows.ArenaUndoesSaid := arenaUndoes.proved
end Go.Proofs.Ytbijkflfphppgaa
