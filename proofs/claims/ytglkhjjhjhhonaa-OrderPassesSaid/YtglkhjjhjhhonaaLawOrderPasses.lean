/- The row of the law OrderPasses: whatever the arguments are it answers true, and they read as they did. No condition. -/
import Derived.Test.YtglkhjjhjhhonaaRows
import Derived.Test.YtglkhjjhjhhonaaOpen
import Derived.Test.YtglkhjjhjhhonaaOoL
import Derived.WalkKit
import Derived.ProofKit
import Derived.OpenShut
import Derived.ShutString
import Derived.ChangeOld
import Derived.Below
import Derived.SizedLaws
namespace Go.Proofs.Ytglkhjjhjhhonaa.orderPasses
open Go.ChangeShapes Go.WideShapes Go.ChangeAt Go.RowKit
open Go.ChangeMaps (open_string shut_string)
open Go.Proofs.YtglkhjjhjhhonaaM.Mach Go.Proofs.YtglkhjjhjhhonaaM.Open Go.Proofs.Ytglkhjjhjhhonaa.Sr
set_option linter.unusedVariables false
set_option linter.unusedSimpArgs false
theorem opens3 : Opn Try.prog 3 1 (eI .i64) T1 := by
  have h := Opn.int1 Try.underlying3 (by kernel_rfl)
  exact h
theorem opens67 : Opn Try.prog 67 3 (eP (eI .i64) (eP (eI .i64) (eI .i64))) (gP T1 (gP T1 T1)) := by
  have h := Opn.struct Try.underlying67 (by kernel_rfl) (OpnAt.cons opens3 (OpnAt.cons opens3 (OpnAt.last opens3)))
  exact h
theorem opens28 : Opn Try.prog 28 1 eV (gV 24 3 (eP (eI .i64) (eP (eI .i64) (eI .i64))) (gP T1 (gP T1 T1))) := by
  have h := Opn.slice (B := 24) opens67 (by decide) Try.underlying28 (by kernel_rfl) (by kernel_rfl)
  exact h
theorem opens30 : Opn Try.prog 30 2 (eP eV eV) (gP (gV 24 3 (eP (eI .i64) (eP (eI .i64) (eI .i64))) (gP T1 (gP T1 T1))) (gV 24 3 (eP (eI .i64) (eP (eI .i64) (eI .i64))) (gP T1 (gP T1 T1)))) := by
  have h := Opn.struct Try.underlying30 (by kernel_rfl) (OpnAt.cons opens28 (OpnAt.last opens28))
  exact h
theorem opens32 : Opn Try.prog 32 3 (eP (eI .i64) (eP eV eV)) (gP T1 (gP (gV 24 3 (eP (eI .i64) (eP (eI .i64) (eI .i64))) (gP T1 (gP T1 T1))) (gV 24 3 (eP (eI .i64) (eP (eI .i64) (eI .i64))) (gP T1 (gP T1 T1))))) := by
  have h := Opn.struct Try.underlying32 (by kernel_rfl) (OpnAt.cons opens3 (OpnAt.last opens30))
  exact h
theorem opens22 : Opn Try.prog 22 1 eV (gV 56 3 (eP (eI .i64) (eP eV eV)) (gP T1 (gP (gV 24 3 (eP (eI .i64) (eP (eI .i64) (eI .i64))) (gP T1 (gP T1 T1))) (gV 24 3 (eP (eI .i64) (eP (eI .i64) (eI .i64))) (gP T1 (gP T1 T1)))))) := by
  have h := Opn.slice (B := 56) opens32 (by decide) Try.underlying22 (by kernel_rfl) (by kernel_rfl)
  exact h
theorem inr_of {w : World} {l : List AC} (h : ∀ x ∈ l, (gP T1 (gP (gV 24 3 (eP (eI .i64) (eP (eI .i64) (eI .i64))) (gP T1 (gP T1 T1))) (gV 24 3 (eP (eI .i64) (eP (eI .i64) (eI .i64))) (gP T1 (gP T1 T1))))) w x) : ∃ fl gl : Nat → List P3, INR w l fl gl := by
  have h1 : ∀ k, ∃ p : List P3 × List P3, k < l.length → Rd w (slV (l[k]!).2.1) 3 encT67 p.1 ∧ Rd w (slV (l[k]!).2.2) 3 encT67 p.2 := by
    intro k
    by_cases hk : k < l.length
    · obtain ⟨_, ⟨l1, e1, r1, _⟩, ⟨l2, e2, r2, _⟩⟩ := h (l[k]!) (by rw [getElem!_pos l k hk]; exact List.getElem_mem hk)
      refine ⟨(l1, l2), fun _ => ⟨?_, ?_⟩⟩
      · unfold slV; rw [e1]; exact r1
      · unfold slV; rw [e2]; exact r2
    · exact ⟨([], []), fun h => absurd h hk⟩
  exact ⟨fun k => (h1 k).choose.1, fun k => (h1 k).choose.2, fun k hk => (h1 k).choose_spec hk⟩
theorem law_is (th iz kz az : Int) {w : World} {A : Option Addr} {c : Nat} {l : List AC} (h : Rd w (.slice A l.length c) 3 (eP (eI .i64) (eP eV eV)) l) (hg : ∀ x ∈ l, (gP T1 (gP (gV 24 3 (eP (eI .i64) (eP (eI .i64) (eI .i64))) (gP T1 (gP T1 T1))) (gV 24 3 (eP (eI .i64) (eP (eI .i64) (eI .i64))) (gP T1 (gP T1 T1))))) w x) : Calls Try.prog 3 #[.int .i64 th, .slice A l.length c, .int .i64 iz, .int .i64 kz, .int .i64 az] w fun e w' => e = .returned (.bool true) ∧ Below w.heap.size w w' := by
  have h2 : Rd w (.slice A l.length c) 3 encT32 l := h
  obtain ⟨fl, gl, hin⟩ := inr_of hg
  exact law_passes th iz kz az h2 hin
theorem own : ownKnob Try.prog.godebug = none := by kernel_rfl
theorem laidOut : laidOutB Try.prog = true := by kernel_rfl
set_option maxRecDepth 100000 in
theorem lifted (os : Os) (started : os.Started) (H : Type) (enc : TypeId × Value → H) :
    ReturnsInHanded {} Try.checked os 3 .any (Rows.orderPassesSpec.pre6 enc Try.prog Try.f3 Rows.orderPassesRow.domain false) (Rows.orderPassesSpec.post enc Try.prog Try.f3 false true false false) := by
  refine returnsInHanded_of_change_sized (C := Try.checked) own started (by kernel_rfl) Try.func3
    (ChangeSpec.witness6 (enc := enc) (C := Try.checked) false ⟨#[], #[(.int .i64 0), (.slice none 0 0), (.int .i64 0), (.int .i64 0), (.int .i64 0)], []⟩ 8 (by kernel_rfl) (by kernel_rfl) (by kernel_rfl) (by kernel_rfl)) ?_
  intro W base args ds gs before hval0 hW hcnd hsz0 _
  have hsz : (DataW.weightsEach Try.prog (Try.f3.params.toList ++ Rows.orderPassesSpec.plain.varTypes Try.prog) (ds ++ gs)).all (· ≤ reachBytes) = true := hsz0
  have hval : ∀ (j : Nat) t v, Try.f3.params[j]? = some t → args[j]? = some v → Value.okWide Try.prog W .any base t v := hval0
  have hW' := hW
  obtain ⟨p, q, hA0, hV, rfl, hfz, hnd⟩ := hW
  have hA : DataW.TrodAll enc Try.prog W 0 (fun _ => true) true Try.f3.params.toList args.toList ds p := hA0
  rw [Try.params3] at hA hval hsz
  obtain ⟨v0, vs0, d0, ds0, p0, q0, hargs, rfl, rfl, h0, r0⟩ := trodAll_cons hA
  obtain ⟨v1, vs1, d1, ds1, p1, q1, rfl, rfl, rfl, h1, r1⟩ := trodAll_cons r0
  obtain ⟨v2, vs2, d2, ds2, p2, q2, rfl, rfl, rfl, h2, r2⟩ := trodAll_cons r1
  obtain ⟨v3, vs3, d3, ds3, p3, q3, rfl, rfl, rfl, h3, r3⟩ := trodAll_cons r2
  obtain ⟨v4, vs4, d4, ds4, p4, q4, rfl, rfl, rfl, h4, r4⟩ := trodAll_cons r3
  obtain ⟨rfl, rfl, rfl⟩ := trodAll_nil r4
  obtain rfl : args = #[v0, v1, v2, v3, v4] := by cases args; simp_all
  obtain ⟨rfl, rfl⟩ := trodVars_none hV
  obtain ⟨b0, rfl, rfl, rfl, z0⟩ := open_int Try.underlying3 (hval 0 3 v0 rfl rfl) h0
  obtain ⟨y1, K1, g1⟩ := opened opens22 hsz (j := 1) rfl rfl h1
  have k1 := h1
  have lt1 : ∀ x ∈ p1, x.block < W.heap.size := by obtain ⟨m, hm⟩ := k1; exact DataW.trod_lt m _ _ _ hm
  obtain ⟨a1, len1, cap1, rfl⟩ := okWide_slice Try.underlying22 (hval 1 22 v1 rfl rfl)
  obtain ⟨A91, n91, c91⟩ := y1
  obtain ⟨l91, e91, hs1, hw91, _⟩ := g1
  simp only at e91
  subst e91
  obtain ⟨rfl, rfl, rfl⟩ : a1 = A91 ∧ len1 = l91.length ∧ cap1 = c91 := by simpa [Value.cells, eV] using K1
  obtain ⟨b2, rfl, rfl, rfl, z2⟩ := open_int Try.underlying3 (hval 2 3 v2 rfl rfl) h2
  obtain ⟨b3, rfl, rfl, rfl, z3⟩ := open_int Try.underlying3 (hval 3 3 v3 rfl rfl) h3
  obtain ⟨b4, rfl, rfl, rfl, z4⟩ := open_int Try.underlying3 (hval 4 3 v4 rfl rfl) h4
  clear hA0 hval0 hsz0 hsz
  refine (law_is _ _ _ _ hs1 hw91).mono fun e W' ⟨he, bel⟩ => ?_
  subst he
  exact ⟨_, rfl, _, _, _, [], _, [], hW', trodAll_mk1 (shut_bool Try.underlying4 _), (trodAll_cons_mk (shut_int Try.underlying3 z0) (trodAll_cons_mk (Below.trod laidOut (by kernel_rfl) (of_decide_eq_true (by kernel_rfl)) k1 bel lt1) (trodAll_cons_mk (shut_int Try.underlying3 z2) (trodAll_cons_mk (shut_int Try.underlying3 z3) (trodAll_cons_mk (shut_int Try.underlying3 z4) trodAll_mk0))))), rfl, bel.frame _, fun h => by cases h⟩
theorem over : Rows.orderPassesRow.holds Try.pinned (OpenSpec.ofChange Rows.orderPassesSpec) :=
  OpenClaim.holds_of_wide 3 Try.f3 rfl rfl rfl rfl rfl rfl rfl ⟨rfl, rfl, rfl, rfl, rfl⟩ rfl rfl rfl rfl rfl (by kernel_rfl) Try.func3 (by kernel_rfl)
    (of_decide_eq_true (by kernel_rfl)) (by unfold Func.isWrapper; first | (rw [if_pos (by decide +kernel)]; kernel_rfl) | (rw [if_neg (by decide +kernel)]; exact ⟨rfl, rfl⟩))
    (fun os started H enc _ => lifted os started H enc)
theorem proved : Rows.OrderPassesSaid := over
end Go.Proofs.Ytglkhjjhjhhonaa.orderPasses
namespace Go.Proofs.Ytglkhjjhjhhonaa
/-- The row, under a short name, for the claim. -/
theorem orderPasses_holds : Rows.OrderPassesSaid := orderPasses.proved
end Go.Proofs.Ytglkhjjhjhhonaa
