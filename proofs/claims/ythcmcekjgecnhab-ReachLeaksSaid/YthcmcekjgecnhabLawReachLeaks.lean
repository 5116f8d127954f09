/- The row of the law ReachLeaks: whatever the arguments are it answers true, and they read as they did. No condition. -/
import Derived.Test.YthcmcekjgecnhabRows
import Derived.Test.YthcmcekjgecnhabOpen
import Derived.Test.YthcmcekjgecnhabRkL
import Derived.WalkKit
import Derived.ProofKit
import Derived.OpenShut
import Derived.ShutString
import Derived.ChangeOld
import Derived.Below
import Derived.SizedLaws
namespace Go.Proofs.Ythcmcekjgecnhab.reachLeaks
open Go.ChangeShapes Go.WideShapes Go.ChangeAt Go.RowKit
open Go.ChangeMaps (open_string shut_string)
open Go.Proofs.YthcmcekjgecnhabM.Mach Go.Proofs.YthcmcekjgecnhabM.Open Go.Proofs.Ythcmcekjgecnhab.Sr
set_option linter.unusedVariables false
set_option linter.unusedSimpArgs false
theorem opens2 : Opn Try.prog 2 1 (eI .i64) T1 := by
  have h := Opn.int1 Try.underlying2 (by kernel_rfl)
  exact h
theorem opens3 : Opn Try.prog 3 1 (eI .i64) T1 := by
  have h := Opn.int1 Try.underlying3 (by kernel_rfl)
  exact h
theorem opens35 : Opn Try.prog 35 3 (eP (eI .i64) (eP (eI .i64) (eI .i64))) (gP T1 (gP T1 T1)) := by
  have h := Opn.struct Try.underlying35 (by kernel_rfl) (OpnAt.cons opens2 (OpnAt.cons opens3 (OpnAt.last opens3)))
  exact h
theorem opens22 : Opn Try.prog 22 1 eV (gV 24 3 (eP (eI .i64) (eP (eI .i64) (eI .i64))) (gP T1 (gP T1 T1))) := by
  have h := Opn.slice (B := 24) opens35 (by decide) Try.underlying22 (by kernel_rfl) (by kernel_rfl)
  exact h
theorem opens36 : Opn Try.prog 36 6 (eA 2 (eP (eI .i64) (eP (eI .i64) (eI .i64)))) (gA 2 (gP T1 (gP T1 T1))) := by
  have h := Opn.array opens35 Try.underlying36 (by kernel_rfl)
  exact h
theorem opens38 : Opn Try.prog 38 10 (eP (eI .i64) (eP (eI .i64) (eP (eI .i64) (eP (eI .i64) (eA 2 (eP (eI .i64) (eP (eI .i64) (eI .i64)))))))) (gP T1 (gP T1 (gP T1 (gP T1 (gA 2 (gP T1 (gP T1 T1))))))) := by
  have h := Opn.struct Try.underlying38 (by kernel_rfl) (OpnAt.cons opens3 (OpnAt.cons opens3 (OpnAt.cons opens3 (OpnAt.cons opens3 (OpnAt.last opens36)))))
  exact h
theorem opens23 : Opn Try.prog 23 1 eV (gV 80 10 (eP (eI .i64) (eP (eI .i64) (eP (eI .i64) (eP (eI .i64) (eA 2 (eP (eI .i64) (eP (eI .i64) (eI .i64)))))))) (gP T1 (gP T1 (gP T1 (gP T1 (gA 2 (gP T1 (gP T1 T1)))))))) := by
  have h := Opn.slice (B := 80) opens38 (by decide) Try.underlying23 (by kernel_rfl) (by kernel_rfl)
  exact h
def gC (x : Int × Int × Int × Int × (Nat → Int × Int × Int)) : C10 := (x.1, x.2.1, x.2.2.1, x.2.2.2.1, (x.2.2.2.2 0).1, (x.2.2.2.2 0).2.1, (x.2.2.2.2 0).2.2, (x.2.2.2.2 1).1, (x.2.2.2.2 1).2.1, (x.2.2.2.2 1).2.2)
theorem cutlen {α : Type} (l : List α) : (l.take (min l.length 8)).length = min l.length 8 := by
  rw [List.length_take]
  omega
theorem cutrd {α : Type} {w : World} {A : Option Addr} {c sz : Nat} {enc : α → List Value} {l : List α} (h : Rd w (.slice A l.length c) sz enc l) : Rd w (.slice A (l.take (min l.length 8)).length c) sz enc (l.take (min l.length 8)) := by
  rw [cutlen]
  exact Rd.few h
theorem law_is {w : World} {A : Option Addr} {c : Nat} {l : List W3} {A2 : Option Addr} {c2 : Nat} {l2 : List (Int × Int × Int × Int × (Nat → Int × Int × Int))} (h : Rd w (.slice A l.length c) 3 encT35 l) (h2 : Rd w (.slice A2 l2.length c2) 10 (eP (eI .i64) (eP (eI .i64) (eP (eI .i64) (eP (eI .i64) (eA 2 (eP (eI .i64) (eP (eI .i64) (eI .i64)))))))) l2) : Calls Try.prog 4 #[.slice A l.length c, .slice A2 l2.length c2] w fun e w' => e = .returned (.bool true) ∧ Below w.heap.size w w' := by
  have h3 : Rd w (.slice A2 (l2.map gC).length c2) 10 encT38 (l2.map gC) := by
    rw [List.length_map]
    exact Rd.map h2 gC (fun x => rfl)
  have e : l2.length = (l2.map gC).length := (List.length_map _).symm
  rw [e]
  exact law_leaks (lw := l.take (min l.length 8)) (cl := (l2.map gC).take (min (l2.map gC).length 8)) (fun W => by rw [cutlen]; exact few_is h.cap.2 W) (fun W => by rw [cutlen]; exact some_is h3.cap.2 W) (cutrd h) (by rw [cutlen]; omega) (cutrd h3) (by rw [cutlen]; omega)
theorem own : ownKnob Try.prog.godebug = none := by kernel_rfl
theorem laidOut : laidOutB Try.prog = true := by kernel_rfl
set_option maxRecDepth 100000 in
theorem lifted (os : Os) (started : os.Started) (H : Type) (enc : TypeId × Value → H) :
    ReturnsInHanded {} Try.checked os 4 .any (Rows.reachLeaksSpec.pre6 enc Try.prog Try.f4 Rows.reachLeaksRow.domain false) (Rows.reachLeaksSpec.post enc Try.prog Try.f4 false true false false) := by
  refine returnsInHanded_of_change_sized (C := Try.checked) own started (by kernel_rfl) Try.func4
    (ChangeSpec.witness6 (enc := enc) (C := Try.checked) false ⟨#[], #[(.slice none 0 0), (.slice none 0 0)], []⟩ 8 (by kernel_rfl) (by kernel_rfl) (by kernel_rfl) (by kernel_rfl)) ?_
  intro W base args ds gs before hval0 hW hcnd hsz0 _
  have hsz : (DataW.weightsEach Try.prog (Try.f4.params.toList ++ Rows.reachLeaksSpec.plain.varTypes Try.prog) (ds ++ gs)).all (· ≤ reachBytes) = true := hsz0
  have hval : ∀ (j : Nat) t v, Try.f4.params[j]? = some t → args[j]? = some v → Value.okWide Try.prog W .any base t v := hval0
  have hW' := hW
  obtain ⟨p, q, hA0, hV, rfl, hfz, hnd⟩ := hW
  have hA : DataW.TrodAll enc Try.prog W 0 (fun _ => true) true Try.f4.params.toList args.toList ds p := hA0
  rw [Try.params4] at hA hval hsz
  obtain ⟨v0, vs0, d0, ds0, p0, q0, hargs, rfl, rfl, h0, r0⟩ := trodAll_cons hA
  obtain ⟨v1, vs1, d1, ds1, p1, q1, rfl, rfl, rfl, h1, r1⟩ := trodAll_cons r0
  obtain ⟨rfl, rfl, rfl⟩ := trodAll_nil r1
  obtain rfl : args = #[v0, v1] := by cases args; simp_all
  obtain ⟨rfl, rfl⟩ := trodVars_none hV
  obtain ⟨y0, K0, g0⟩ := opened opens22 hsz (j := 0) rfl rfl h0
  have k0 := h0
  have lt0 : ∀ x ∈ p0, x.block < W.heap.size := by obtain ⟨m, hm⟩ := k0; exact DataW.trod_lt m _ _ _ hm
  obtain ⟨a0, len0, cap0, rfl⟩ := okWide_slice Try.underlying22 (hval 0 22 v0 rfl rfl)
  obtain ⟨A90, n90, c90⟩ := y0
  obtain ⟨l90, e90, hs0, hw90, _⟩ := g0
  simp only at e90
  subst e90
  obtain ⟨rfl, rfl, rfl⟩ : a0 = A90 ∧ len0 = l90.length ∧ cap0 = c90 := by simpa [Value.cells, eV] using K0
  obtain ⟨y1, K1, g1⟩ := opened opens23 hsz (j := 1) rfl rfl h1
  have k1 := h1
  have lt1 : ∀ x ∈ p1, x.block < W.heap.size := by obtain ⟨m, hm⟩ := k1; exact DataW.trod_lt m _ _ _ hm
  obtain ⟨a1, len1, cap1, rfl⟩ := okWide_slice Try.underlying23 (hval 1 23 v1 rfl rfl)
  obtain ⟨A91, n91, c91⟩ := y1
  obtain ⟨l91, e91, hs1, hw91, _⟩ := g1
  simp only at e91
  subst e91
  obtain ⟨rfl, rfl, rfl⟩ : a1 = A91 ∧ len1 = l91.length ∧ cap1 = c91 := by simpa [Value.cells, eV] using K1
  clear hA0 hval0 hsz0 hsz
  refine (law_is hs0 hs1).mono fun e W' ⟨he, bel⟩ => ?_
  subst he
  exact ⟨_, rfl, _, _, _, [], _, [], hW', trodAll_mk1 (shut_bool Try.underlying4 _), (trodAll_cons_mk (Below.trod laidOut (by kernel_rfl) (of_decide_eq_true (by kernel_rfl)) k0 bel lt0) (trodAll_cons_mk (Below.trod laidOut (by kernel_rfl) (of_decide_eq_true (by kernel_rfl)) k1 bel lt1) trodAll_mk0)), rfl, bel.frame _, fun h => by cases h⟩
theorem over : Rows.reachLeaksRow.holds Try.pinned (OpenSpec.ofChange Rows.reachLeaksSpec) :=
  OpenClaim.holds_of_wide 4 Try.f4 rfl rfl rfl rfl rfl rfl rfl ⟨rfl, rfl, rfl, rfl, rfl⟩ rfl rfl rfl rfl rfl (by kernel_rfl) Try.func4 (by kernel_rfl)
    (of_decide_eq_true (by kernel_rfl)) (by unfold Func.isWrapper; first | (rw [if_pos (by decide +kernel)]; kernel_rfl) | (rw [if_neg (by decide +kernel)]; exact ⟨rfl, rfl⟩))
    (fun os started H enc _ => lifted os started H enc)
theorem proved : Rows.ReachLeaksSaid := over
end Go.Proofs.Ythcmcekjgecnhab.reachLeaks
namespace Go.Proofs.Ythcmcekjgecnhab
/-- The row, under a short name, for the claim. -/
theorem reachLeaks_holds : Rows.ReachLeaksSaid := reachLeaks.proved
end Go.Proofs.Ythcmcekjgecnhab
