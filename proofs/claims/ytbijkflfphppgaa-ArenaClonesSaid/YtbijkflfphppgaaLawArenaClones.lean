/- The row of the law ArenaClones: whatever the arguments are it answers true, and they read as they did. No condition. -/
import Derived.Test.YtbijkflfphppgaaRows
import Derived.Test.YtbijkflfphppgaaOpen
import Derived.Test.YtbijkflfphppgaaAyL3
import Derived.WalkKit
import Derived.ProofKit
import Derived.OpenShut
import Derived.ShutString
import Derived.ChangeOld
import Derived.Below
import Derived.SizedLaws
namespace Go.Proofs.Ytbijkflfphppgaa.arenaClones
open Go.ChangeShapes Go.WideShapes Go.ChangeAt Go.RowKit
open Go.ChangeMaps (open_string shut_string)
open Go.Proofs.YtbijkflfphppgaaM.Mach Go.Proofs.YtbijkflfphppgaaM.Open Go.Proofs.Ytbijkflfphppgaa.Sr
set_option linter.unusedVariables false
set_option linter.unusedSimpArgs false
theorem opens3 : Opn Try.prog 3 1 (eI .i64) T1 := by
  have h := Opn.int1 Try.underlying3 (by kernel_rfl)
  exact h
theorem opens2 : Opn Try.prog 2 1 (eI .i64) T1 := by
  have h := Opn.int1 Try.underlying2 (by kernel_rfl)
  exact h
theorem opens36 : Opn Try.prog 36 3 (eP (eI .i64) (eP (eI .i64) (eI .i64))) (gP T1 (gP T1 T1)) := by
  have h := Opn.struct Try.underlying36 (by kernel_rfl) (OpnAt.cons opens2 (OpnAt.cons opens3 (OpnAt.last opens3)))
  exact h
theorem opens38 : Opn Try.prog 38 8 (eP (eI .i64) (eP (eI .i64) (eP (eI .i64) (eP (eI .i64) (eP (eI .i64) (eP (eI .i64) (eP (eI .i64) (eI .i64)))))))) (gP T1 (gP T1 (gP T1 (gP T1 (gP T1 (gP T1 (gP T1 T1))))))) := by
  have h := Opn.struct Try.underlying38 (by kernel_rfl) (OpnAt.cons opens3 (OpnAt.cons opens3 (OpnAt.cons opens3 (OpnAt.cons opens3 (OpnAt.cons opens3 (OpnAt.last opens36))))))
  exact h
theorem opens22 : Opn Try.prog 22 1 eV (gV 64 8 (eP (eI .i64) (eP (eI .i64) (eP (eI .i64) (eP (eI .i64) (eP (eI .i64) (eP (eI .i64) (eP (eI .i64) (eI .i64)))))))) (gP T1 (gP T1 (gP T1 (gP T1 (gP T1 (gP T1 (gP T1 T1)))))))) := by
  have h := Opn.slice (B := 64) opens38 (by decide) Try.underlying22 (by kernel_rfl) (by kernel_rfl)
  exact h
theorem law_is (cells : Int) {w : World} {A : Option Addr} {c : Nat} {l : List O8} {A2 : Option Addr} {c2 : Nat} {l2 : List O8} {A3 : Option Addr} {c3 : Nat} {l3 : List O8} (h : Rd w (.slice A l.length c) 8 (eP (eI .i64) (eP (eI .i64) (eP (eI .i64) (eP (eI .i64) (eP (eI .i64) (eP (eI .i64) (eP (eI .i64) (eI .i64)))))))) l) (h2 : Rd w (.slice A2 l2.length c2) 8 (eP (eI .i64) (eP (eI .i64) (eP (eI .i64) (eP (eI .i64) (eP (eI .i64) (eP (eI .i64) (eP (eI .i64) (eI .i64)))))))) l2) (h3 : Rd w (.slice A3 l3.length c3) 8 (eP (eI .i64) (eP (eI .i64) (eP (eI .i64) (eP (eI .i64) (eP (eI .i64) (eP (eI .i64) (eP (eI .i64) (eI .i64)))))))) l3) : Calls Try.prog 6 #[.int .i64 cells, .slice A l.length c, .slice A2 l2.length c2, .slice A3 l3.length c3] w fun e w' => e = .returned (.bool true) ∧ Below w.heap.size w w' := by
  have g1 : Rd w (.slice A l.length c) 8 encT38 l := h
  have g2 : Rd w (.slice A2 l2.length c2) 8 encT38 l2 := h2
  have g3 : Rd w (.slice A3 l3.length c3) 8 encT38 l3 := h3
  exact law_clones cells g1 g2 g3
theorem own : ownKnob Try.prog.godebug = none := by kernel_rfl
theorem laidOut : laidOutB Try.prog = true := by kernel_rfl
set_option maxRecDepth 100000 in
theorem lifted (os : Os) (started : os.Started) (H : Type) (enc : TypeId × Value → H) :
    ReturnsInHanded {} Try.checked os 6 .any (Rows.arenaClonesSpec.pre6 enc Try.prog Try.f6 Rows.arenaClonesRow.domain false) (Rows.arenaClonesSpec.post enc Try.prog Try.f6 false true false false) := by
  refine returnsInHanded_of_change_sized (C := Try.checked) own started (by kernel_rfl) Try.func6
    (ChangeSpec.witness6 (enc := enc) (C := Try.checked) false ⟨#[], #[(.int .i64 0), (.slice none 0 0), (.slice none 0 0), (.slice none 0 0)], []⟩ 8 (by kernel_rfl) (by kernel_rfl) (by kernel_rfl) (by kernel_rfl)) ?_
  intro W base args ds gs before hval0 hW hcnd hsz0 _
  have hsz : (DataW.weightsEach Try.prog (Try.f6.params.toList ++ Rows.arenaClonesSpec.plain.varTypes Try.prog) (ds ++ gs)).all (· ≤ reachBytes) = true := hsz0
  have hval : ∀ (j : Nat) t v, Try.f6.params[j]? = some t → args[j]? = some v → Value.okWide Try.prog W .any base t v := hval0
  have hW' := hW
  obtain ⟨p, q, hA0, hV, rfl, hfz, hnd⟩ := hW
  have hA : DataW.TrodAll enc Try.prog W 0 (fun _ => true) true Try.f6.params.toList args.toList ds p := hA0
  rw [Try.params6] at hA hval hsz
  obtain ⟨v0, vs0, d0, ds0, p0, q0, hargs, rfl, rfl, h0, r0⟩ := trodAll_cons hA
  obtain ⟨v1, vs1, d1, ds1, p1, q1, rfl, rfl, rfl, h1, r1⟩ := trodAll_cons r0
  obtain ⟨v2, vs2, d2, ds2, p2, q2, rfl, rfl, rfl, h2, r2⟩ := trodAll_cons r1
  obtain ⟨v3, vs3, d3, ds3, p3, q3, rfl, rfl, rfl, h3, r3⟩ := trodAll_cons r2
  obtain ⟨rfl, rfl, rfl⟩ := trodAll_nil r3
  obtain rfl : args = #[v0, v1, v2, v3] := by cases args; simp_all
  obtain ⟨rfl, rfl⟩ := trodVars_none hV
  obtain ⟨b0, rfl, rfl, rfl, z0⟩ := open_int Try.underlying3 (hval 0 3 v0 rfl rfl) h0
  obtain ⟨y1, K1, g1⟩ := opened opens22 hsz (j := 1) rfl rfl h1
  have k1 := h1
  have lt1 : ∀ x ∈ p1, x.block < W.heap.size := by obtain ⟨m, hm⟩ := k1; exact DataW.trod_lt m _ _ _ hm
  obtain ⟨a1, len1, cap1, rfl⟩ := okWide_slice Try.underlying22 (hval 1 22 v1 rfl rfl)
  obtain ⟨A91, n91, c91⟩ := y1
  obtain ⟨l91, e91, hs1, hw91, _⟩ := g1
  simp only at e91
  subst e91
  obtain ⟨rfl, rfl, rfl⟩ : a1 = A91 ∧ len1 = l91.length ∧ cap1 = c91 := by simpa [Value.cells, eV] using K1
  obtain ⟨y2, K2, g2⟩ := opened opens22 hsz (j := 2) rfl rfl h2
  have k2 := h2
  have lt2 : ∀ x ∈ p2, x.block < W.heap.size := by obtain ⟨m, hm⟩ := k2; exact DataW.trod_lt m _ _ _ hm
  obtain ⟨a2, len2, cap2, rfl⟩ := okWide_slice Try.underlying22 (hval 2 22 v2 rfl rfl)
  obtain ⟨A92, n92, c92⟩ := y2
  obtain ⟨l92, e92, hs2, hw92, _⟩ := g2
  simp only at e92
  subst e92
  obtain ⟨rfl, rfl, rfl⟩ : a2 = A92 ∧ len2 = l92.length ∧ cap2 = c92 := by simpa [Value.cells, eV] using K2
  obtain ⟨y3, K3, g3⟩ := opened opens22 hsz (j := 3) rfl rfl h3
  have k3 := h3
  have lt3 : ∀ x ∈ p3, x.block < W.heap.size := by obtain ⟨m, hm⟩ := k3; exact DataW.trod_lt m _ _ _ hm
  obtain ⟨a3, len3, cap3, rfl⟩ := okWide_slice Try.underlying22 (hval 3 22 v3 rfl rfl)
  obtain ⟨A93, n93, c93⟩ := y3
  obtain ⟨l93, e93, hs3, hw93, _⟩ := g3
  simp only at e93
  subst e93
  obtain ⟨rfl, rfl, rfl⟩ : a3 = A93 ∧ len3 = l93.length ∧ cap3 = c93 := by simpa [Value.cells, eV] using K3
  clear hA0 hval0 hsz0 hsz
  refine (law_is _ hs1 hs2 hs3).mono fun e W' ⟨he, bel⟩ => ?_
  subst he
  exact ⟨_, rfl, _, _, _, [], _, [], hW', trodAll_mk1 (shut_bool Try.underlying4 _), (trodAll_cons_mk (shut_int Try.underlying3 z0) (trodAll_cons_mk (Below.trod laidOut (by kernel_rfl) (of_decide_eq_true (by kernel_rfl)) k1 bel lt1) (trodAll_cons_mk (Below.trod laidOut (by kernel_rfl) (of_decide_eq_true (by kernel_rfl)) k2 bel lt2) (trodAll_cons_mk (Below.trod laidOut (by kernel_rfl) (of_decide_eq_true (by kernel_rfl)) k3 bel lt3) trodAll_mk0)))), rfl, bel.frame _, fun h => by cases h⟩
theorem over : Rows.arenaClonesRow.holds Try.pinned (OpenSpec.ofChange Rows.arenaClonesSpec) :=
  OpenClaim.holds_of_wide 6 Try.f6 rfl rfl rfl rfl rfl rfl rfl ⟨rfl, rfl, rfl, rfl, rfl⟩ rfl rfl rfl rfl rfl (by kernel_rfl) Try.func6 (by kernel_rfl)
    (of_decide_eq_true (by kernel_rfl)) (by unfold Func.isWrapper; first | (rw [if_pos (by decide +kernel)]; kernel_rfl) | (rw [if_neg (by decide +kernel)]; exact ⟨rfl, rfl⟩))
    (fun os started H enc _ => lifted os started H enc)
theorem proved : Rows.ArenaClonesSaid := over
end Go.Proofs.Ytbijkflfphppgaa.arenaClones
namespace Go.Proofs.Ytbijkflfphppgaa
/-- The row, under a short name, for the claim. -/
theorem arenaClones_holds : Rows.ArenaClonesSaid := arenaClones.proved
end Go.Proofs.Ytbijkflfphppgaa
