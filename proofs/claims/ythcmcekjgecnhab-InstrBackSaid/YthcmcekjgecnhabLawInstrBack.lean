/- The row of the law InstrBack: whatever the arguments are it answers true, and they read as they did. No condition. -/
import Derived.Test.YthcmcekjgecnhabRows
import Derived.Test.YthcmcekjgecnhabOpen
import Derived.Test.YthcmcekjgecnhabInM
import Derived.WalkKit
import Derived.ProofKit
import Derived.OpenShut
import Derived.ShutString
import Derived.ChangeOld
import Derived.Below
import Derived.SizedLaws
namespace Go.Proofs.Ythcmcekjgecnhab.instrBack
open Go.ChangeShapes Go.WideShapes Go.ChangeAt Go.RowKit
open Go.ChangeMaps (open_string shut_string)
open Go.Proofs.YthcmcekjgecnhabM.Mach Go.Proofs.YthcmcekjgecnhabM.Open Go.Proofs.Ythcmcekjgecnhab.Sr
set_option linter.unusedVariables false
set_option linter.unusedSimpArgs false
theorem opens3 : Opn Try.prog 3 1 (eI .i64) T1 := by
  have h := Opn.int1 Try.underlying3 (by kernel_rfl)
  exact h
theorem opens2 : Opn Try.prog 2 1 (eI .i64) (fun _ n => (Lit.int .i64 n).wf = true) := by
  have h := Opn.int Try.underlying2 (by kernel_rfl)
  exact h
theorem opens41 : Opn Try.prog 41 5 (eP (eI .i64) (eP (eI .i64) (eP (eI .i64) (eP (eI .i64) (eI .i64))))) (gP T1 (gP T1 (gP T1 (gP T1 (fun _ n => (Lit.int .i64 n).wf = true))))) := by
  have h := Opn.struct Try.underlying41 (by kernel_rfl) (OpnAt.cons opens3 (OpnAt.cons opens3 (OpnAt.cons opens3 (OpnAt.cons opens3 (OpnAt.last opens2)))))
  exact h
theorem opens5 : Opn Try.prog 5 1 (eI .u8) (fun _ n => (Lit.int .u8 n).wf = true) := by
  have h := Opn.int Try.underlying5 (by kernel_rfl)
  exact h
theorem wf8 {n : Int} (h : (Lit.int .u8 n).wf = true) : 0 ≤ n ∧ n < 256 := by
  simp [Lit.wf, IntKind.min, IntKind.max, IntKind.bits, IntKind.signed] at h
  omega
theorem wf64 {n : Int} (h : (Lit.int .i64 n).wf = true) : -9223372036854775808 ≤ n ∧ n < 9223372036854775808 := by
  simp [Lit.wf, IntKind.min, IntKind.max, IntKind.bits, IntKind.signed] at h
  omega
theorem law_is {o0 a0 b0 c0 n0 co : Int} (hn : (Lit.int .i64 n0).wf = true) (hc : (Lit.int .u8 co).wf = true) (w : World) : Calls Try.prog 7 #[.agg #[.int .i64 o0, .int .i64 a0, .int .i64 b0, .int .i64 c0, .int .i64 n0], .int .u8 co] w fun e w' => e = .returned (.bool true) ∧ Below w.heap.size w w' := by
  have h8 := wf8 hc
  have hm : Int.tmod co 17 = co % 17 := Int.tmod_eq_emod_of_nonneg h8.1
  have hr : 0 ≤ Int.tmod co 17 ∧ Int.tmod co 17 < 17 := by
    rw [hm]
    omega
  obtain ⟨x, hb, hck⟩ := check_is (o0 := o0) (a0 := a0) (b0 := b0) (c0 := c0) (wf64 hn) hr.2
  exact law_b rfl hr hck hb w
theorem own : ownKnob Try.prog.godebug = none := by kernel_rfl
theorem laidOut : laidOutB Try.prog = true := by kernel_rfl
set_option maxRecDepth 100000 in
theorem lifted (os : Os) (started : os.Started) (H : Type) (enc : TypeId × Value → H) :
    ReturnsInHanded {} Try.checked os 7 .any (Rows.instrBackSpec.pre6 enc Try.prog Try.f7 Rows.instrBackRow.domain false) (Rows.instrBackSpec.post enc Try.prog Try.f7 false true false false) := by
  refine returnsInHanded_of_change_sized (C := Try.checked) own started (by kernel_rfl) Try.func7
    (ChangeSpec.witness6 (enc := enc) (C := Try.checked) false ⟨#[], #[(.agg #[.int .i64 0, .int .i64 0, .int .i64 0, .int .i64 0, .int .i64 0]), (.int .u8 0)], []⟩ 8 (by kernel_rfl) (by kernel_rfl) (by kernel_rfl) (by kernel_rfl)) ?_
  intro W base args ds gs before hval0 hW hcnd hsz0 _
  have hsz : (DataW.weightsEach Try.prog (Try.f7.params.toList ++ Rows.instrBackSpec.plain.varTypes Try.prog) (ds ++ gs)).all (· ≤ reachBytes) = true := hsz0
  have hval : ∀ (j : Nat) t v, Try.f7.params[j]? = some t → args[j]? = some v → Value.okWide Try.prog W .any base t v := hval0
  have hW' := hW
  obtain ⟨p, q, hA0, hV, rfl, hfz, hnd⟩ := hW
  have hA : DataW.TrodAll enc Try.prog W 0 (fun _ => true) true Try.f7.params.toList args.toList ds p := hA0
  rw [Try.params7] at hA hval hsz
  obtain ⟨v0, vs0, d0, ds0, p0, q0, hargs, rfl, rfl, h0, r0⟩ := trodAll_cons hA
  obtain ⟨v1, vs1, d1, ds1, p1, q1, rfl, rfl, rfl, h1, r1⟩ := trodAll_cons r0
  obtain ⟨rfl, rfl, rfl⟩ := trodAll_nil r1
  obtain rfl : args = #[v0, v1] := by cases args; simp_all
  obtain ⟨rfl, rfl⟩ := trodVars_none hV
  obtain ⟨y0, K0, g0⟩ := opened opens41 hsz (j := 0) rfl rfl h0
  have k0 := h0
  have lt0 : ∀ x ∈ p0, x.block < W.heap.size := by obtain ⟨m, hm⟩ := k0; exact DataW.trod_lt m _ _ _ hm
  obtain ⟨cs0, rfl, _⟩ := okWide_struct Try.underlying41 (hval 0 41 v0 rfl rfl)
  obtain ⟨z0, z1, z2, z3, z4⟩ := y0
  have c0 := agg_eq K0
  subst c0
  obtain ⟨b1, rfl, rfl, rfl, z1⟩ := open_int Try.underlying5 (hval 1 5 v1 rfl rfl) h1
  clear hA0 hval0 hsz0 hsz
  refine (law_is g0.2.2.2.2 z1 W).mono fun e W' ⟨he, bel⟩ => ?_
  subst he
  exact ⟨_, rfl, _, _, _, [], _, [], hW', trodAll_mk1 (shut_bool Try.underlying4 _), (trodAll_cons_mk (Below.trod laidOut (by kernel_rfl) (of_decide_eq_true (by kernel_rfl)) k0 bel lt0) (trodAll_cons_mk (shut_int Try.underlying5 z1) trodAll_mk0)), rfl, bel.frame _, fun h => by cases h⟩
theorem over : Rows.instrBackRow.holds Try.pinned (OpenSpec.ofChange Rows.instrBackSpec) :=
  OpenClaim.holds_of_wide 7 Try.f7 rfl rfl rfl rfl rfl rfl rfl ⟨rfl, rfl, rfl, rfl, rfl⟩ rfl rfl rfl rfl rfl (by kernel_rfl) Try.func7 (by kernel_rfl)
    (of_decide_eq_true (by kernel_rfl)) (by unfold Func.isWrapper; first | (rw [if_pos (by decide +kernel)]; kernel_rfl) | (rw [if_neg (by decide +kernel)]; exact ⟨rfl, rfl⟩))
    (fun os started H enc _ => lifted os started H enc)
theorem proved : Rows.InstrBackSaid := over
end Go.Proofs.Ythcmcekjgecnhab.instrBack
namespace Go.Proofs.Ythcmcekjgecnhab
/-- The row, under a short name, for the claim. -/
theorem instrBack_holds : Rows.InstrBackSaid := instrBack.proved
end Go.Proofs.Ythcmcekjgecnhab
