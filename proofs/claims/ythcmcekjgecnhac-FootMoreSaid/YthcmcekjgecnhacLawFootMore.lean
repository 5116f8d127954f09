/- The row of the law FootMore: whatever the arguments are it answers true, and they read as they did. No condition. -/
import Derived.Test.YthcmcekjgecnhacRows
import Derived.Test.YthcmcekjgecnhacOpen
import Derived.Test.YthcmcekjgecnhacFtY
import Derived.WalkKit
import Derived.ProofKit
import Derived.OpenShut
import Derived.ShutString
import Derived.ChangeOld
import Derived.Below
import Derived.SizedLaws
namespace Go.Proofs.Ythcmcekjgecnhac.footMore
open Go.ChangeShapes Go.WideShapes Go.ChangeAt Go.RowKit
open Go.ChangeMaps (open_string shut_string)
open Go.Proofs.YthcmcekjgecnhacM.Mach Go.Proofs.YthcmcekjgecnhacM.Open Go.Proofs.Ythcmcekjgecnhac.Sr
set_option linter.unusedVariables false
set_option linter.unusedSimpArgs false
theorem opens3 : Opn Try.prog 3 1 (eI .i64) T1 := by
  have h := Opn.int1 Try.underlying3 (by kernel_rfl)
  exact h
theorem opens46 : Opn Try.prog 46 3 (eP (eI .i64) (eP (eI .i64) (eI .i64))) (gP T1 (gP T1 T1)) := by
  have h := Opn.struct Try.underlying46 (by kernel_rfl) (OpnAt.cons opens3 (OpnAt.cons opens3 (OpnAt.last opens3)))
  exact h
theorem opens22 : Opn Try.prog 22 1 eV (gV 24 3 (eP (eI .i64) (eP (eI .i64) (eI .i64))) (gP T1 (gP T1 T1))) := by
  have h := Opn.slice (B := 24) opens46 (by decide) Try.underlying22 (by kernel_rfl) (by kernel_rfl)
  exact h
theorem opens24 : Opn Try.prog 24 2 (eP eV eV) (gP (gV 24 3 (eP (eI .i64) (eP (eI .i64) (eI .i64))) (gP T1 (gP T1 T1))) (gV 24 3 (eP (eI .i64) (eP (eI .i64) (eI .i64))) (gP T1 (gP T1 T1)))) := by
  have h := Opn.struct Try.underlying24 (by kernel_rfl) (OpnAt.cons opens22 (OpnAt.last opens22))
  exact h
theorem cutlen {α : Type} (l : List α) : (l.take (min l.length 12)).length = min l.length 12 := by
  rw [List.length_take]
  omega
theorem cutrd {α : Type} {w : World} {A : Option Addr} {c sz : Nat} {enc : α → List Value} {l : List α} (h : Rd w (.slice A l.length c) sz enc l) : Rd w (.slice A (l.take (min l.length 12)).length c) sz enc (l.take (min l.length 12)) := by
  rw [cutlen]
  exact Rd.take h (Nat.min_le_left _ _)
theorem law_is {w : World} {Aa1 : Option Addr} {ca1 : Nat} {a1 : List P3} (ha1 : Rd w (.slice Aa1 a1.length ca1) 3 encT46 a1) {Aa2 : Option Addr} {ca2 : Nat} {a2 : List P3} (ha2 : Rd w (.slice Aa2 a2.length ca2) 3 encT46 a2) {Ab1 : Option Addr} {cb1 : Nat} {b1 : List P3} (hb1 : Rd w (.slice Ab1 b1.length cb1) 3 encT46 b1) {Ab2 : Option Addr} {cb2 : Nat} {b2 : List P3} (hb2 : Rd w (.slice Ab2 b2.length cb2) 3 encT46 b2) {Ac1 : Option Addr} {cc1 : Nat} {c1 : List P3} (hc1 : Rd w (.slice Ac1 c1.length cc1) 3 encT46 c1) {Ac2 : Option Addr} {cc2 : Nat} {c2 : List P3} (hc2 : Rd w (.slice Ac2 c2.length cc2) 3 encT46 c2) : Calls Try.prog 5 #[.agg #[.slice Aa1 a1.length ca1, .slice Aa2 a2.length ca2], .agg #[.slice Ab1 b1.length cb1, .slice Ab2 b2.length cb2], .agg #[.slice Ac1 c1.length cc1, .slice Ac2 c2.length cc2]] w fun e w' => e = .returned (.bool true) ∧ Below w.heap.size w w' :=
  law_more (cutrd ha1) (by rw [cutlen]; omega) (cutrd ha2) (by rw [cutlen]; omega) (cutrd hb1) (by rw [cutlen]; omega) (cutrd hb2) (by rw [cutlen]; omega) (cutrd hc1) (by rw [cutlen]; omega) (cutrd hc2) (by rw [cutlen]; omega) (fun W => by rw [cutlen, cutlen]; exact few_is ha1.cap.2 ha2.cap.2 W) (fun W => by rw [cutlen, cutlen]; exact few_is hb1.cap.2 hb2.cap.2 W) (fun W => by rw [cutlen, cutlen]; exact few_is hc1.cap.2 hc2.cap.2 W)
theorem own : ownKnob Try.prog.godebug = none := by kernel_rfl
theorem laidOut : laidOutB Try.prog = true := by kernel_rfl
set_option maxRecDepth 100000 in
theorem lifted (os : Os) (started : os.Started) (H : Type) (enc : TypeId × Value → H) :
    ReturnsInHanded {} Try.checked os 5 .any (Rows.footMoreSpec.pre6 enc Try.prog Try.f5 Rows.footMoreRow.domain false) (Rows.footMoreSpec.post enc Try.prog Try.f5 false true false false) := by
  refine returnsInHanded_of_change_sized (C := Try.checked) own started (by kernel_rfl) Try.func5
    (ChangeSpec.witness6 (enc := enc) (C := Try.checked) false ⟨#[], #[(.agg #[.slice none 0 0, .slice none 0 0]), (.agg #[.slice none 0 0, .slice none 0 0]), (.agg #[.slice none 0 0, .slice none 0 0])], []⟩ 8 (by kernel_rfl) (by kernel_rfl) (by kernel_rfl) (by kernel_rfl)) ?_
  intro W base args ds gs before hval0 hW hcnd hsz0 _
  have hsz : (DataW.weightsEach Try.prog (Try.f5.params.toList ++ Rows.footMoreSpec.plain.varTypes Try.prog) (ds ++ gs)).all (· ≤ reachBytes) = true := hsz0
  have hval : ∀ (j : Nat) t v, Try.f5.params[j]? = some t → args[j]? = some v → Value.okWide Try.prog W .any base t v := hval0
  have hW' := hW
  obtain ⟨p, q, hA0, hV, rfl, hfz, hnd⟩ := hW
  have hA : DataW.TrodAll enc Try.prog W 0 (fun _ => true) true Try.f5.params.toList args.toList ds p := hA0
  rw [Try.params5] at hA hval hsz
  obtain ⟨v0, vs0, d0, ds0, p0, q0, hargs, rfl, rfl, h0, r0⟩ := trodAll_cons hA
  obtain ⟨v1, vs1, d1, ds1, p1, q1, rfl, rfl, rfl, h1, r1⟩ := trodAll_cons r0
  obtain ⟨v2, vs2, d2, ds2, p2, q2, rfl, rfl, rfl, h2, r2⟩ := trodAll_cons r1
  obtain ⟨rfl, rfl, rfl⟩ := trodAll_nil r2
  obtain rfl : args = #[v0, v1, v2] := by cases args; simp_all
  obtain ⟨rfl, rfl⟩ := trodVars_none hV
  obtain ⟨y0, K0, g0⟩ := opened opens24 hsz (j := 0) rfl rfl h0
  have k0 := h0
  have lt0 : ∀ x ∈ p0, x.block < W.heap.size := by obtain ⟨m, hm⟩ := k0; exact DataW.trod_lt m _ _ _ hm
  obtain ⟨cs0, rfl, _⟩ := okWide_struct Try.underlying24 (hval 0 24 v0 rfl rfl)
  obtain ⟨⟨A01, n01, c01⟩, ⟨A02, n02, c02⟩⟩ := y0
  have c0 := agg_eq K0
  subst c0
  obtain ⟨⟨l01, e01, hs01, hw01, _⟩, ⟨l02, e02, hs02, hw02, _⟩⟩ := g0
  simp only at e01 e02
  subst e01 e02
  obtain ⟨y1, K1, g1⟩ := opened opens24 hsz (j := 1) rfl rfl h1
  have k1 := h1
  have lt1 : ∀ x ∈ p1, x.block < W.heap.size := by obtain ⟨m, hm⟩ := k1; exact DataW.trod_lt m _ _ _ hm
  obtain ⟨cs1, rfl, _⟩ := okWide_struct Try.underlying24 (hval 1 24 v1 rfl rfl)
  obtain ⟨⟨A11, n11, c11⟩, ⟨A12, n12, c12⟩⟩ := y1
  have c1 := agg_eq K1
  subst c1
  obtain ⟨⟨l11, e11, hs11, hw11, _⟩, ⟨l12, e12, hs12, hw12, _⟩⟩ := g1
  simp only at e11 e12
  subst e11 e12
  obtain ⟨y2, K2, g2⟩ := opened opens24 hsz (j := 2) rfl rfl h2
  have k2 := h2
  have lt2 : ∀ x ∈ p2, x.block < W.heap.size := by obtain ⟨m, hm⟩ := k2; exact DataW.trod_lt m _ _ _ hm
  obtain ⟨cs2, rfl, _⟩ := okWide_struct Try.underlying24 (hval 2 24 v2 rfl rfl)
  obtain ⟨⟨A21, n21, c21⟩, ⟨A22, n22, c22⟩⟩ := y2
  have c2 := agg_eq K2
  subst c2
  obtain ⟨⟨l21, e21, hs21, hw21, _⟩, ⟨l22, e22, hs22, hw22, _⟩⟩ := g2
  simp only at e21 e22
  subst e21 e22
  clear hA0 hval0 hsz0 hsz
  refine (law_is hs01 hs02 hs11 hs12 hs21 hs22).mono fun e W' ⟨he, bel⟩ => ?_
  subst he
  exact ⟨_, rfl, _, _, _, [], _, [], hW', trodAll_mk1 (shut_bool Try.underlying4 _), (trodAll_cons_mk (Below.trod laidOut (by kernel_rfl) (of_decide_eq_true (by kernel_rfl)) k0 bel lt0) (trodAll_cons_mk (Below.trod laidOut (by kernel_rfl) (of_decide_eq_true (by kernel_rfl)) k1 bel lt1) (trodAll_cons_mk (Below.trod laidOut (by kernel_rfl) (of_decide_eq_true (by kernel_rfl)) k2 bel lt2) trodAll_mk0))), rfl, bel.frame _, fun h => by cases h⟩
theorem over : Rows.footMoreRow.holds Try.pinned (OpenSpec.ofChange Rows.footMoreSpec) :=
  OpenClaim.holds_of_wide 5 Try.f5 rfl rfl rfl rfl rfl rfl rfl ⟨rfl, rfl, rfl, rfl, rfl⟩ rfl rfl rfl rfl rfl (by kernel_rfl) Try.func5 (by kernel_rfl)
    (of_decide_eq_true (by kernel_rfl)) (by unfold Func.isWrapper; first | (rw [if_pos (by decide +kernel)]; kernel_rfl) | (rw [if_neg (by decide +kernel)]; exact ⟨rfl, rfl⟩))
    (fun os started H enc _ => lifted os started H enc)
theorem proved : Rows.FootMoreSaid := over
end Go.Proofs.Ythcmcekjgecnhac.footMore
namespace Go.Proofs.Ythcmcekjgecnhac
/-- The row, under a short name, for the claim. -/
theorem footMore_holds : Rows.FootMoreSaid := footMore.proved
end Go.Proofs.Ythcmcekjgecnhac
