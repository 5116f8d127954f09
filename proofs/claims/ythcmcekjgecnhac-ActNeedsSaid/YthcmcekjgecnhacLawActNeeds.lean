/- The row of the law ActNeeds: whatever the arguments are it answers true, and they read as they did. No condition. -/
import Derived.Test.YthcmcekjgecnhacRows
import Derived.Test.YthcmcekjgecnhacOpen
import Derived.Test.YthcmcekjgecnhacAcL
import Derived.WalkKit
import Derived.ProofKit
import Derived.OpenShut
import Derived.ShutString
import Derived.ChangeOld
import Derived.Below
import Derived.SizedLaws
namespace Go.Proofs.Ythcmcekjgecnhac.actNeeds
open Go.ChangeShapes Go.WideShapes Go.ChangeAt Go.RowKit
open Go.ChangeMaps (open_string shut_string)
open Go.Proofs.YthcmcekjgecnhacM.Mach Go.Proofs.YthcmcekjgecnhacM.Open Go.Proofs.Ythcmcekjgecnhac.Sr
set_option linter.unusedVariables false
set_option linter.unusedSimpArgs false
theorem opens3 : Opn Try.prog 3 1 (eI .i64) T1 := by
  have h := Opn.int1 Try.underlying3 (by kernel_rfl)
  exact h
theorem opens46 : Opn Try.prog 46 3 (eP (eI .i64) (eP (eI .i64) (eI .i64))) (gP T1 (gP T1 T1)) := by
  have h := Opn.struct Try.underlying46 (by kernel_rfl) (OpnAt.cons opens3 (OpnAt.cons opens3 (OpnAt.last opens3)))
  exact h
theorem opens2 : Opn Try.prog 2 1 (eI .i64) T1 := by
  have h := Opn.int1 Try.underlying2 (by kernel_rfl)
  exact h
theorem opens35 : Opn Try.prog 35 3 (eP (eI .i64) (eP (eI .i64) (eI .i64))) (gP T1 (gP T1 T1)) := by
  have h := Opn.struct Try.underlying35 (by kernel_rfl) (OpnAt.cons opens2 (OpnAt.cons opens3 (OpnAt.last opens3)))
  exact h
theorem opens48 : Opn Try.prog 48 14 (eP (eI .i64) (eP (eP (eI .i64) (eP (eI .i64) (eI .i64))) (eP (eP (eI .i64) (eP (eI .i64) (eI .i64))) (eP (eP (eI .i64) (eP (eI .i64) (eI .i64))) (eP (eP (eI .i64) (eP (eI .i64) (eI .i64))) (eI .i64)))))) (gP T1 (gP (gP T1 (gP T1 T1)) (gP (gP T1 (gP T1 T1)) (gP (gP T1 (gP T1 T1)) (gP (gP T1 (gP T1 T1)) T1))))) := by
  have h := Opn.struct Try.underlying48 (by kernel_rfl) (OpnAt.cons opens3 (OpnAt.cons opens46 (OpnAt.cons opens35 (OpnAt.cons opens35 (OpnAt.cons opens35 (OpnAt.last opens3))))))
  exact h
theorem opens60 : Opn Try.prog 60 8 (eP (eP (eI .i64) (eP (eI .i64) (eI .i64))) (eP (eP (eI .i64) (eP (eI .i64) (eI .i64))) (eP (eI .i64) (eI .i64)))) (gP (gP T1 (gP T1 T1)) (gP (gP T1 (gP T1 T1)) (gP T1 T1))) := by
  have h := Opn.struct Try.underlying60 (by kernel_rfl) (OpnAt.cons opens46 (OpnAt.cons opens35 (OpnAt.cons opens3 (OpnAt.last opens3))))
  exact h
theorem own : ownKnob Try.prog.godebug = none := by kernel_rfl
theorem laidOut : laidOutB Try.prog = true := by kernel_rfl
set_option maxRecDepth 100000 in
theorem lifted (os : Os) (started : os.Started) (H : Type) (enc : TypeId × Value → H) :
    ReturnsInHanded {} Try.checked os 8 .any (Rows.actNeedsSpec.pre6 enc Try.prog Try.f8 Rows.actNeedsRow.domain false) (Rows.actNeedsSpec.post enc Try.prog Try.f8 false true false false) := by
  refine returnsInHanded_of_change_sized (C := Try.checked) own started (by kernel_rfl) Try.func8
    (ChangeSpec.witness6 (enc := enc) (C := Try.checked) false ⟨#[], #[(.agg #[.int .i64 0, .int .i64 0, .int .i64 0, .int .i64 0, .int .i64 0, .int .i64 0, .int .i64 0, .int .i64 0, .int .i64 0, .int .i64 0, .int .i64 0, .int .i64 0, .int .i64 0, .int .i64 0]), (.agg #[.int .i64 0, .int .i64 0, .int .i64 0, .int .i64 0, .int .i64 0, .int .i64 0, .int .i64 0, .int .i64 0])], []⟩ 8 (by kernel_rfl) (by kernel_rfl) (by kernel_rfl) (by kernel_rfl)) ?_
  intro W base args ds gs before hval0 hW hcnd hsz0 _
  have hsz : (DataW.weightsEach Try.prog (Try.f8.params.toList ++ Rows.actNeedsSpec.plain.varTypes Try.prog) (ds ++ gs)).all (· ≤ reachBytes) = true := hsz0
  have hval : ∀ (j : Nat) t v, Try.f8.params[j]? = some t → args[j]? = some v → Value.okWide Try.prog W .any base t v := hval0
  have hW' := hW
  obtain ⟨p, q, hA0, hV, rfl, hfz, hnd⟩ := hW
  have hA : DataW.TrodAll enc Try.prog W 0 (fun _ => true) true Try.f8.params.toList args.toList ds p := hA0
  rw [Try.params8] at hA hval hsz
  obtain ⟨v0, vs0, d0, ds0, p0, q0, hargs, rfl, rfl, h0, r0⟩ := trodAll_cons hA
  obtain ⟨v1, vs1, d1, ds1, p1, q1, rfl, rfl, rfl, h1, r1⟩ := trodAll_cons r0
  obtain ⟨rfl, rfl, rfl⟩ := trodAll_nil r1
  obtain rfl : args = #[v0, v1] := by cases args; simp_all
  obtain ⟨rfl, rfl⟩ := trodVars_none hV
  obtain ⟨y0, K0, g0⟩ := opened opens48 hsz (j := 0) rfl rfl h0
  have k0 := h0
  have lt0 : ∀ x ∈ p0, x.block < W.heap.size := by obtain ⟨m, hm⟩ := k0; exact DataW.trod_lt m _ _ _ hm
  obtain ⟨cs0, rfl, _⟩ := okWide_struct Try.underlying48 (hval 0 48 v0 rfl rfl)
  obtain ⟨a0, ⟨a1, a2, a3⟩, ⟨a4, a5, a6⟩, ⟨a7, a8, a9⟩, ⟨a10, a11, a12⟩, a13⟩ := y0
  have c0 := agg_eq K0
  subst c0
  obtain ⟨y1, K1, g1⟩ := opened opens60 hsz (j := 1) rfl rfl h1
  have k1 := h1
  have lt1 : ∀ x ∈ p1, x.block < W.heap.size := by obtain ⟨m, hm⟩ := k1; exact DataW.trod_lt m _ _ _ hm
  obtain ⟨cs1, rfl, _⟩ := okWide_struct Try.underlying60 (hval 1 60 v1 rfl rfl)
  obtain ⟨⟨e0, e1, e2⟩, ⟨e3, e4, e5⟩, e6, e7⟩ := y1
  have c1 := agg_eq K1
  subst c1
  clear hA0 hval0 hsz0 hsz
  refine (law_needs a0 a1 a2 a3 a4 a5 a6 a7 a8 a9 a10 a11 a12 a13 e0 e1 e2 e3 e4 e5 e6 e7 W).mono fun e W' ⟨he, bel⟩ => ?_
  subst he
  exact ⟨_, rfl, _, _, _, [], _, [], hW', trodAll_mk1 (shut_bool Try.underlying4 _), (trodAll_cons_mk (Below.trod laidOut (by kernel_rfl) (of_decide_eq_true (by kernel_rfl)) k0 bel lt0) (trodAll_cons_mk (Below.trod laidOut (by kernel_rfl) (of_decide_eq_true (by kernel_rfl)) k1 bel lt1) trodAll_mk0)), rfl, bel.frame _, fun h => by cases h⟩
theorem over : Rows.actNeedsRow.holds Try.pinned (OpenSpec.ofChange Rows.actNeedsSpec) :=
  OpenClaim.holds_of_wide 8 Try.f8 rfl rfl rfl rfl rfl rfl rfl ⟨rfl, rfl, rfl, rfl, rfl⟩ rfl rfl rfl rfl rfl (by kernel_rfl) Try.func8 (by kernel_rfl)
    (of_decide_eq_true (by kernel_rfl)) (by unfold Func.isWrapper; first | (rw [if_pos (by decide +kernel)]; kernel_rfl) | (rw [if_neg (by decide +kernel)]; exact ⟨rfl, rfl⟩))
    (fun os started H enc _ => lifted os started H enc)
theorem proved : Rows.ActNeedsSaid := over
end Go.Proofs.Ythcmcekjgecnhac.actNeeds
namespace Go.Proofs.Ythcmcekjgecnhac
/-- The row, under a short name, for the claim. -/
theorem actNeeds_holds : Rows.ActNeedsSaid := actNeeds.proved
end Go.Proofs.Ythcmcekjgecnhac
