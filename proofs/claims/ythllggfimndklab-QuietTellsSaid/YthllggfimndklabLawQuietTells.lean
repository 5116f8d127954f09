-- Written by print2.py (this session's own): the row of the law warrenerlaw23_QuietTells.
import Derived.Test.YthllggfimndklabRows
import Derived.Test.YthllggfimndklabQQuietTellsx2
import Derived.Test.YthllggfimndklabPureQuietTells
import Derived.WalkKit
import Derived.ProofKit
import Derived.OpenShut
import Derived.ShutString
import Derived.ChangeOld
import Derived.Below
import Derived.SizedLaws
namespace Go.Proofs.Ythllggfimndklab.quietTells
open Go.ChangeShapes Go.WideShapes Go.ChangeAt Go.RowKit
open Go.ChangeMaps (open_string shut_string)
open Go.Proofs.YthllggfimndklabW.HWords Go.Proofs.YthllggfimndklabW.PrintWords Go.Proofs.Ythllggfimndklab.QQuietTells
set_option linter.unusedVariables false
set_option linter.unusedSimpArgs false
theorem own : ownKnob Try.prog.godebug = none := by kernel_rfl
theorem laidOut : laidOutB Try.prog = true := by kernel_rfl
set_option maxRecDepth 100000 in
theorem lifted (os : Os) (started : os.Started) (H : Type) (enc : TypeId × Value → H) :
    ReturnsInHanded {} Try.checked os 3 .any (Rows.quietTellsSpec.pre6 enc Try.prog Try.f3 Rows.quietTellsRow.domain false) (Rows.quietTellsSpec.post enc Try.prog Try.f3 false true false false) := by
  refine returnsInHanded_of_change_sized (C := Try.checked) own started (by kernel_rfl) Try.func3
    (ChangeSpec.witness6 (enc := enc) (C := Try.checked) false ⟨#[], #[(.int .i64 0), (.int .i64 0), (.int .i64 0), (.slice none 0 0), (.slice none 0 0)], []⟩ 8 (by kernel_rfl) (by kernel_rfl) (by kernel_rfl) (by kernel_rfl)) ?_
  intro W base args ds gs before hval0 hW hcnd hsz0 _
  have hsz : (DataW.weightsEach Try.prog (Try.f3.params.toList ++ Rows.quietTellsSpec.plain.varTypes Try.prog) (ds ++ gs)).all (· ≤ reachBytes) = true := hsz0
  have hval : ∀ (j : Nat) t v, Try.f3.params[j]? = some t → args[j]? = some v → Value.okWide Try.prog W .any base t v := hval0
  have hW' := hW
  obtain ⟨p, q, hA0, hV, rfl, hfz, hnd⟩ := hW
  have hA : DataW.TrodAll enc Try.prog W 0 (fun _ => true) true Try.f3.params.toList args.toList ds p := hA0
  rw [Try.params3] at hA hval hsz
  obtain ⟨v0, vs0, d0, ds0, p0, q0, hargs, rfl, rfl, h0, r0⟩ := trodAll_cons hA
  obtain ⟨v1, vs1, d1, ds1, p1, q1, rfl, rfl, rfl, h1, r1⟩ := trodAll_cons r0
  obtain ⟨v2, vs2, d2, ds2, p2, q2, rfl, rfl, rfl, h2, r2⟩ := trodAll_cons r1
  obtain ⟨v3, vs3, d3, ds3, p3, q3, rfl, rfl, rfl, h3, r3⟩ := trodAll_cons r2
  obtain ⟨v4, vs4, d4, ds4, p4, q4, rfl, rfl, rfl, h4, r4⟩ := trodAll_cons r3
  obtain ⟨rfl, rfl, rfl⟩ := trodAll_nil r4
  obtain rfl : args = #[v0, v1, v2, v3, v4] := by cases args; simp_all
  obtain ⟨rfl, rfl⟩ := trodVars_none hV
  obtain ⟨y0, K0, g0⟩ := opened (Opens.int Try.underlying3 (by kernel_rfl)) hsz (j := 0) rfl rfl h0
  obtain ⟨b0, rfl, rfl, rfl, z0⟩ := open_int Try.underlying3 (hval 0 3 v0 rfl rfl) h0
  obtain rfl : b0 = y0 := by simpa [Value.cells, Kd.int, Kd.scalar] using K0
  obtain ⟨y1, K1, g1⟩ := opened (Opens.int Try.underlying3 (by kernel_rfl)) hsz (j := 1) rfl rfl h1
  obtain ⟨b1, rfl, rfl, rfl, z1⟩ := open_int Try.underlying3 (hval 1 3 v1 rfl rfl) h1
  obtain rfl : b1 = y1 := by simpa [Value.cells, Kd.int, Kd.scalar] using K1
  obtain ⟨y2, K2, g2⟩ := opened (Opens.int Try.underlying2 (by kernel_rfl)) hsz (j := 2) rfl rfl h2
  obtain ⟨b2, rfl, rfl, rfl, z2⟩ := open_int Try.underlying2 (hval 2 2 v2 rfl rfl) h2
  obtain rfl : b2 = y2 := by simpa [Value.cells, Kd.int, Kd.scalar] using K2
  obtain ⟨y3, K3, g3⟩ := opened (Opens.slice (B := 8) (Opens.int Try.underlying2 (by kernel_rfl)) Try.underlying22 (by kernel_rfl) (by kernel_rfl)) hsz (j := 3) rfl rfl h3
  have k3 := h3
  have lt3 : ∀ x ∈ p3, x.block < W.heap.size := by obtain ⟨m, hm⟩ := k3; exact DataW.trod_lt m _ _ _ hm
  obtain ⟨a3, len3, cap3, rfl⟩ := okWide_slice Try.underlying22 (hval 3 22 v3 rfl rfl)
  obtain ⟨A3, c3, E3, hc3, hr3⟩ := K3
  obtain ⟨rfl, rfl, rfl⟩ : a3 = A3 ∧ len3 = y3.length ∧ cap3 = c3 := by simpa [Value.cells] using E3
  obtain ⟨y4, K4, g4⟩ := opened (Opens.slice (B := 8) (Opens.int Try.underlying2 (by kernel_rfl)) Try.underlying22 (by kernel_rfl) (by kernel_rfl)) hsz (j := 4) rfl rfl h4
  have k4 := h4
  have lt4 : ∀ x ∈ p4, x.block < W.heap.size := by obtain ⟨m, hm⟩ := k4; exact DataW.trod_lt m _ _ _ hm
  obtain ⟨a4, len4, cap4, rfl⟩ := okWide_slice Try.underlying22 (hval 4 22 v4 rfl rfl)
  obtain ⟨A4, c4, E4, hc4, hr4⟩ := K4
  obtain ⟨rfl, rfl, rfl⟩ : a4 = A4 ∧ len4 = y4.length ∧ cap4 = c4 := by simpa [Value.cells] using E4
  clear hA0 hval0 hsz0 hsz
  refine (QQuietTells.warrenerlaw23_QuietTells.walk Pure.QuietTells b0 b1 b2 y3 y4 W a3 cap3 hr3 hc3 a4 cap4 hr4 hc4 g0 g1 g2 g3 g4).mono fun e W' ⟨he, bel⟩ => ?_
  subst he
  exact ⟨_, rfl, _, _, _, [], _, [], hW', trodAll_mk1 (shut_bool Try.underlying4 _), (trodAll_cons_mk (shut_int Try.underlying3 z0) (trodAll_cons_mk (shut_int Try.underlying3 z1) (trodAll_cons_mk (shut_int Try.underlying2 z2) (trodAll_cons_mk (Below.trod laidOut (by kernel_rfl) (of_decide_eq_true (by kernel_rfl)) k3 bel lt3) (trodAll_cons_mk (Below.trod laidOut (by kernel_rfl) (of_decide_eq_true (by kernel_rfl)) k4 bel lt4) trodAll_mk0))))), rfl, bel.frame _, fun h => by cases h⟩
theorem over : Rows.quietTellsRow.holds Try.pinned (OpenSpec.ofChange Rows.quietTellsSpec) :=
  OpenClaim.holds_of_wide 3 Try.f3 rfl rfl rfl rfl rfl rfl rfl ⟨rfl, rfl, rfl, rfl, rfl⟩ rfl rfl rfl rfl rfl (by kernel_rfl) Try.func3 (by kernel_rfl)
    (of_decide_eq_true (by kernel_rfl)) (by unfold Func.isWrapper; first | (rw [if_pos (by decide +kernel)]; kernel_rfl) | (rw [if_neg (by decide +kernel)]; exact ⟨rfl, rfl⟩))
    (fun os started H enc _ => lifted os started H enc)
theorem proved : Rows.QuietTellsSaid := over
end Go.Proofs.Ythllggfimndklab.quietTells
namespace Go.Proofs.Ythllggfimndklab
/-- The row, under a short name, for the claim. -/
theorem quietTells_holds : Rows.QuietTellsSaid := quietTells.proved
end Go.Proofs.Ythllggfimndklab
