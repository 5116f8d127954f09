/- The row of the law InstrOctets: whatever the arguments are it answers true, and they read as they did. No condition. -/
import Derived.Test.YthcmcekjgecnhabRows
import Derived.Test.YthcmcekjgecnhabOpen
import Derived.Test.YthcmcekjgecnhabInL
import Derived.WalkKit
import Derived.ProofKit
import Derived.OpenShut
import Derived.ShutString
import Derived.ChangeOld
import Derived.Below
import Derived.SizedLaws
namespace Go.Proofs.Ythcmcekjgecnhab.instrOctets
open Go.ChangeShapes Go.WideShapes Go.ChangeAt Go.RowKit
open Go.ChangeMaps (open_string shut_string)
open Go.Proofs.YthcmcekjgecnhabM.Mach Go.Proofs.YthcmcekjgecnhabM.Open Go.Proofs.Ythcmcekjgecnhab.Sr
set_option linter.unusedVariables false
set_option linter.unusedSimpArgs false
theorem opens3 : Opn Try.prog 3 1 (eI .i64) T1 := by
  have h := Opn.int1 Try.underlying3 (by kernel_rfl)
  exact h
theorem opens2 : Opn Try.prog 2 1 (eI .i64) T1 := by
  have h := Opn.int1 Try.underlying2 (by kernel_rfl)
  exact h
theorem opens41 : Opn Try.prog 41 5 (eP (eI .i64) (eP (eI .i64) (eP (eI .i64) (eP (eI .i64) (eI .i64))))) (gP T1 (gP T1 (gP T1 (gP T1 T1)))) := by
  have h := Opn.struct Try.underlying41 (by kernel_rfl) (OpnAt.cons opens3 (OpnAt.cons opens3 (OpnAt.cons opens3 (OpnAt.cons opens3 (OpnAt.last opens2)))))
  exact h
theorem opens5 : Opn Try.prog 5 1 (eI .u8) (fun _ n => (Lit.int .u8 n).wf = true) := by
  have h := Opn.int Try.underlying5 (by kernel_rfl)
  exact h
theorem opens42 : Opn Try.prog 42 1 eV (gV 1 1 (eI .u8) (fun _ n => (Lit.int .u8 n).wf = true)) := by
  have h := Opn.slice (B := 1) opens5 (by decide) Try.underlying42 (by kernel_rfl) (by kernel_rfl)
  exact h
theorem wf8 {n : Int} (h : (Lit.int .u8 n).wf = true) : 0 ≤ n ∧ n < 256 := by
  simp [Lit.wf, IntKind.min, IntKind.max, IntKind.bits, IntKind.signed] at h
  omega
theorem len12 : ∀ {l : List Int}, l.length = 12 → ∃ d0 d1 d2 d3 d4 d5 d6 d7 d8 d9 d10 d11, l = [d0, d1, d2, d3, d4, d5, d6, d7, d8, d9, d10, d11]
  | [d0, d1, d2, d3, d4, d5, d6, d7, d8, d9, d10, d11], _ => ⟨d0, d1, d2, d3, d4, d5, d6, d7, d8, d9, d10, d11, rfl⟩
theorem law_is (o0 a0 b0 c0 n0 : Int) {w : World} {A : Option Addr} {c : Nat} {l : List Int} (h : Rd w (.slice A l.length c) 1 (eI .u8) l) (hr : ∀ x ∈ l, (Lit.int .u8 x).wf = true) : Calls Try.prog 6 #[.agg #[.int .i64 o0, .int .i64 a0, .int .i64 b0, .int .i64 c0, .int .i64 n0], .slice A l.length c] w fun e w' => e = .returned (.bool true) ∧ Below w.heap.size w w' := by
  by_cases h12 : l.length = 12
  · obtain ⟨d0, d1, d2, d3, d4, d5, d6, d7, d8, d9, d10, d11, rfl⟩ := len12 h12
    exact law_12 o0 a0 b0 c0 n0 ⟨wf8 (hr _ (by simp)), wf8 (hr _ (by simp)), wf8 (hr _ (by simp)), wf8 (hr _ (by simp)), wf8 (hr _ (by simp)), wf8 (hr _ (by simp)), wf8 (hr _ (by simp)), wf8 (hr _ (by simp)), wf8 (hr _ (by simp)), wf8 (hr _ (by simp)), wf8 (hr _ (by simp)), wf8 (hr _ (by simp))⟩ h
  · exact law_no o0 a0 b0 c0 n0 h12 h.cap.2 w
theorem own : ownKnob Try.prog.godebug = none := by kernel_rfl
theorem laidOut : laidOutB Try.prog = true := by kernel_rfl
set_option maxRecDepth 100000 in
theorem lifted (os : Os) (started : os.Started) (H : Type) (enc : TypeId × Value → H) :
    ReturnsInHanded {} Try.checked os 6 .any (Rows.instrOctetsSpec.pre6 enc Try.prog Try.f6 Rows.instrOctetsRow.domain false) (Rows.instrOctetsSpec.post enc Try.prog Try.f6 false true false false) := by
  refine returnsInHanded_of_change_sized (C := Try.checked) own started (by kernel_rfl) Try.func6
    (ChangeSpec.witness6 (enc := enc) (C := Try.checked) false ⟨#[], #[(.agg #[.int .i64 0, .int .i64 0, .int .i64 0, .int .i64 0, .int .i64 0]), (.slice none 0 0)], []⟩ 8 (by kernel_rfl) (by kernel_rfl) (by kernel_rfl) (by kernel_rfl)) ?_
  intro W base args ds gs before hval0 hW hcnd hsz0 _
  have hsz : (DataW.weightsEach Try.prog (Try.f6.params.toList ++ Rows.instrOctetsSpec.plain.varTypes Try.prog) (ds ++ gs)).all (· ≤ reachBytes) = true := hsz0
  have hval : ∀ (j : Nat) t v, Try.f6.params[j]? = some t → args[j]? = some v → Value.okWide Try.prog W .any base t v := hval0
  have hW' := hW
  obtain ⟨p, q, hA0, hV, rfl, hfz, hnd⟩ := hW
  have hA : DataW.TrodAll enc Try.prog W 0 (fun _ => true) true Try.f6.params.toList args.toList ds p := hA0
  rw [Try.params6] at hA hval hsz
  obtain ⟨v0, vs0, d0, ds0, p0, q0, hargs, rfl, rfl, h0, r0⟩ := trodAll_cons hA
  obtain ⟨v1, vs1, d1, ds1, p1, q1, rfl, rfl, rfl, h1, r1⟩ := trodAll_cons r0
  obtain ⟨rfl, rfl, rfl⟩ := trodAll_nil r1
  obtain rfl : args = #[v0, v1] := by cases args; simp_all
  obtain ⟨rfl, rfl⟩ := trodVars_none hV
  obtain ⟨y0, K0, g0⟩ := opened opens41 hsz (j := 0) rfl rfl h0
  have k0 := h0
  have lt0 : ∀ x ∈ p0, x.block < W.heap.size := by obtain ⟨m, hm⟩ := k0; exact DataW.trod_lt m _ _ _ hm
  obtain ⟨cs0, rfl, _⟩ := okWide_struct Try.underlying41 (hval 0 41 v0 rfl rfl)
  obtain ⟨z0, z1, z2, z3, z4⟩ := y0
  have c0 := agg_eq K0
  subst c0
  obtain ⟨y1, K1, g1⟩ := opened opens42 hsz (j := 1) rfl rfl h1
  have k1 := h1
  have lt1 : ∀ x ∈ p1, x.block < W.heap.size := by obtain ⟨m, hm⟩ := k1; exact DataW.trod_lt m _ _ _ hm
  obtain ⟨a1, len1, cap1, rfl⟩ := okWide_slice Try.underlying42 (hval 1 42 v1 rfl rfl)
  obtain ⟨A9, n9, c9⟩ := y1
  obtain ⟨l9, e9, hs, hw9, _⟩ := g1
  simp only at e9
  subst e9
  obtain ⟨rfl, rfl, rfl⟩ : a1 = A9 ∧ len1 = l9.length ∧ cap1 = c9 := by simpa [Value.cells, eV] using K1
  clear hA0 hval0 hsz0 hsz
  refine (law_is z0 z1 z2 z3 z4 hs hw9).mono fun e W' ⟨he, bel⟩ => ?_
  subst he
  exact ⟨_, rfl, _, _, _, [], _, [], hW', trodAll_mk1 (shut_bool Try.underlying4 _), (trodAll_cons_mk (Below.trod laidOut (by kernel_rfl) (of_decide_eq_true (by kernel_rfl)) k0 bel lt0) (trodAll_cons_mk (Below.trod laidOut (by kernel_rfl) (of_decide_eq_true (by kernel_rfl)) k1 bel lt1) trodAll_mk0)), rfl, bel.frame _, fun h => by cases h⟩
theorem over : Rows.instrOctetsRow.holds Try.pinned (OpenSpec.ofChange Rows.instrOctetsSpec) :=
  OpenClaim.holds_of_wide 6 Try.f6 rfl rfl rfl rfl rfl rfl rfl ⟨rfl, rfl, rfl, rfl, rfl⟩ rfl rfl rfl rfl rfl (by kernel_rfl) Try.func6 (by kernel_rfl)
    (of_decide_eq_true (by kernel_rfl)) (by unfold Func.isWrapper; first | (rw [if_pos (by decide +kernel)]; kernel_rfl) | (rw [if_neg (by decide +kernel)]; exact ⟨rfl, rfl⟩))
    (fun os started H enc _ => lifted os started H enc)
theorem proved : Rows.InstrOctetsSaid := over
end Go.Proofs.Ythcmcekjgecnhab.instrOctets
namespace Go.Proofs.Ythcmcekjgecnhab
/-- The row, under a short name, for the claim. -/
theorem instrOctets_holds : Rows.InstrOctetsSaid := instrOctets.proved
end Go.Proofs.Ythcmcekjgecnhab
