/- The row of the law SchemeBegins: whatever the arguments are it answers true, and they read as they did. No condition. -/
import Derived.Test.YthcmcekjgecnhabRows
import Derived.Test.YthcmcekjgecnhabOpen
import Derived.Test.YthcmcekjgecnhabSbL
import Derived.WalkKit
import Derived.ProofKit
import Derived.OpenShut
import Derived.ShutString
import Derived.ChangeOld
import Derived.Below
import Derived.SizedLaws
namespace Go.Proofs.Ythcmcekjgecnhab.schemeBegins
open Go.ChangeShapes Go.WideShapes Go.ChangeAt Go.RowKit
open Go.ChangeMaps (open_string shut_string)
open Go.Proofs.YthcmcekjgecnhabM.Mach Go.Proofs.YthcmcekjgecnhabM.Open Go.Proofs.Ythcmcekjgecnhab.Sr
set_option linter.unusedVariables false
set_option linter.unusedSimpArgs false
theorem opens3 : Opn Try.prog 3 1 (eI .i64) T1 := by
  have h := Opn.int1 Try.underlying3 (by kernel_rfl)
  exact h
theorem opens2 : Opn Try.prog 2 1 (eI .i64) T1 := by
  have h := Opn.int1 Try.underlying2 (by kernel_rfl)
  exact h
theorem opens41 : Opn Try.prog 41 5 (eP (eI .i64) (eP (eI .i64) (eP (eI .i64) (eP (eI .i64) (eI .i64))))) (gP T1 (gP T1 (gP T1 (gP T1 T1)))) := by
  have h := Opn.struct Try.underlying41 (by kernel_rfl) (OpnAt.cons opens3 (OpnAt.cons opens3 (OpnAt.cons opens3 (OpnAt.cons opens3 (OpnAt.last opens2)))))
  exact h
theorem opens125 : Opn Try.prog 125 1 eV (gV 40 5 (eP (eI .i64) (eP (eI .i64) (eP (eI .i64) (eP (eI .i64) (eI .i64))))) (gP T1 (gP T1 (gP T1 (gP T1 T1))))) := by
  have h := Opn.slice (B := 40) opens41 (by decide) Try.underlying125 (by kernel_rfl) (by kernel_rfl)
  exact h
theorem opens49 : Opn Try.prog 49 1 eV (gV 24 1 eV (gV 40 5 (eP (eI .i64) (eP (eI .i64) (eP (eI .i64) (eP (eI .i64) (eI .i64))))) (gP T1 (gP T1 (gP T1 (gP T1 T1)))))) := by
  have h := Opn.slice (B := 24) opens125 (by decide) Try.underlying49 (by kernel_rfl) (by kernel_rfl)
  exact h
theorem opens51 : Opn Try.prog 51 4 (eP (eI .i64) (eP (eI .i64) (eP (eI .i64) eV))) (gP T1 (gP T1 (gP T1 (gV 24 1 eV (gV 40 5 (eP (eI .i64) (eP (eI .i64) (eP (eI .i64) (eP (eI .i64) (eI .i64))))) (gP T1 (gP T1 (gP T1 (gP T1 T1))))))))) := by
  have h := Opn.struct Try.underlying51 (by kernel_rfl) (OpnAt.cons opens3 (OpnAt.cons opens3 (OpnAt.cons opens3 (OpnAt.last opens49))))
  exact h
theorem opens55 : Opn Try.prog 55 5 (eP (eI .i64) (eP (eI .i64) (eP (eI .i64) (eP (eI .i64) (eI .i64))))) (gP T1 (gP T1 (gP T1 (gP T1 T1)))) := by
  have h := Opn.struct Try.underlying55 (by kernel_rfl) (OpnAt.cons opens3 (OpnAt.cons opens3 (OpnAt.cons opens3 (OpnAt.cons opens3 (OpnAt.last opens3)))))
  exact h
theorem opens35 : Opn Try.prog 35 3 (eP (eI .i64) (eP (eI .i64) (eI .i64))) (gP T1 (gP T1 T1)) := by
  have h := Opn.struct Try.underlying35 (by kernel_rfl) (OpnAt.cons opens2 (OpnAt.cons opens3 (OpnAt.last opens3)))
  exact h
theorem opens56 : Opn Try.prog 56 12 (eA 4 (eP (eI .i64) (eP (eI .i64) (eI .i64)))) (gA 4 (gP T1 (gP T1 T1))) := by
  have h := Opn.array opens35 Try.underlying56 (by kernel_rfl)
  exact h
theorem opens57 : Opn Try.prog 57 1 eV (gV 8 1 (eI .i64) T1) := by
  have h := Opn.slice (B := 8) opens2 (by decide) Try.underlying57 (by kernel_rfl) (by kernel_rfl)
  exact h
theorem opens59 : Opn Try.prog 59 4 (eP (eI .i64) (eP (eI .i64) (eP (eI .i64) eV))) (gP T1 (gP T1 (gP T1 (gV 8 1 (eI .i64) T1)))) := by
  have h := Opn.struct Try.underlying59 (by kernel_rfl) (OpnAt.cons opens3 (OpnAt.cons opens3 (OpnAt.cons opens2 (OpnAt.last opens57))))
  exact h
theorem opens94 : Opn Try.prog 94 3 (eP (eI .i64) (eP (eI .i64) (eI .i64))) (gP T1 (gP T1 T1)) := by
  have h := Opn.struct Try.underlying94 (by kernel_rfl) (OpnAt.cons opens3 (OpnAt.cons opens3 (OpnAt.last opens2)))
  exact h
theorem opens60 : Opn Try.prog 60 1 eV (gV 24 3 (eP (eI .i64) (eP (eI .i64) (eI .i64))) (gP T1 (gP T1 T1))) := by
  have h := Opn.slice (B := 24) opens94 (by decide) Try.underlying60 (by kernel_rfl) (by kernel_rfl)
  exact h
theorem opens62 : Opn Try.prog 62 22 (eP (eI .i64) (eP (eI .i64) (eP (eI .i64) (eP (eA 4 (eP (eI .i64) (eP (eI .i64) (eI .i64)))) (eP (eP (eI .i64) (eP (eI .i64) (eP (eI .i64) eV))) (eP eV (eP eV (eI .i64)))))))) (gP T1 (gP T1 (gP T1 (gP (gA 4 (gP T1 (gP T1 T1))) (gP (gP T1 (gP T1 (gP T1 (gV 8 1 (eI .i64) T1)))) (gP (gV 24 3 (eP (eI .i64) (eP (eI .i64) (eI .i64))) (gP T1 (gP T1 T1))) (gP (gV 8 1 (eI .i64) T1) T1))))))) := by
  have h := Opn.struct Try.underlying62 (by kernel_rfl) (OpnAt.cons opens3 (OpnAt.cons opens3 (OpnAt.cons opens3 (OpnAt.cons opens56 (OpnAt.cons opens59 (OpnAt.cons opens60 (OpnAt.cons opens57 (OpnAt.last opens3))))))))
  exact h
theorem Rd.few {α : Type} {w : World} {A : Option Addr} {c sz : Nat} {enc : α → List Value} {l : List α} (h : Rd w (.slice A l.length c) sz enc l) (b : Nat) : Rd w (.slice A (l.take b).length c) sz enc (l.take b) := by
  rw [List.length_take]
  by_cases hb : b ≤ l.length
  · rw [Nat.min_eq_left hb]
    exact h.take hb
  · rw [Nat.min_eq_right (by omega), List.take_of_length_le (by omega)]
    exact h
theorem law_is {w : World} {t : Th} {xs : List Int} {bs : List (Int × Int × Int)} {ns : List Int} (h : ThRd w t xs bs ns) {pA : Option Addr} {pn pc : Nat} (hpc : pn ≤ pc) (p0 p1 sl : Int) (c0 c1 c2 c3 c4 : Int) : Calls Try.prog 8 #[.agg #[.int .i64 p0, .int .i64 p1, .int .i64 sl, .slice pA pn pc], .agg #[.int .i64 c0, .int .i64 c1, .int .i64 c2, .int .i64 c3, .int .i64 c4], .agg (t.cells xs.length bs.length ns.length)] w fun e w' => e = .returned (.bool true) ∧ Below w.heap.size w w' := by
  have hh : ThRd w t (xs.take 12) (bs.take 12) (ns.take 8) := ⟨Rd.few h.s 12, Rd.few h.b 12, Rd.few h.n 8⟩
  have hc : xs.length ≤ t.sv.2 ∧ bs.length ≤ t.bv.2 ∧ ns.length ≤ t.nv.2 := ⟨h.s.cap.2, h.b.cap.2, h.n.cap.2⟩
  have hx : min xs.length 12 = (xs.take 12).length ∧ min bs.length 12 = (bs.take 12).length ∧ min ns.length 8 = (ns.take 8).length := by
    simp only [List.length_take]
    exact ⟨Nat.min_comm _ _, Nat.min_comm _ _, Nat.min_comm _ _⟩
  have hl : (xs.take 12).length ≤ 1000 ∧ (bs.take 12).length ≤ 1000 ∧ (ns.take 8).length ≤ 1000 := by
    simp only [List.length_take]
    omega
  by_cases h1 : c0 = 3 ∧ 0 < (ns.take 8).length
  · exact law_yes hh hc hx hl hpc rfl c0 c1 c2 c3 c4 h1
  · exact law_no hh hc hx hl hpc rfl c0 c1 c2 c3 c4 h1
theorem own : ownKnob Try.prog.godebug = none := by kernel_rfl
theorem laidOut : laidOutB Try.prog = true := by kernel_rfl
set_option maxRecDepth 100000 in
theorem lifted (os : Os) (started : os.Started) (H : Type) (enc : TypeId × Value → H) :
    ReturnsInHanded {} Try.checked os 8 .any (Rows.schemeBeginsSpec.pre6 enc Try.prog Try.f8 Rows.schemeBeginsRow.domain false) (Rows.schemeBeginsSpec.post enc Try.prog Try.f8 false true false false) := by
  refine returnsInHanded_of_change_sized (C := Try.checked) own started (by kernel_rfl) Try.func8
    (ChangeSpec.witness6 (enc := enc) (C := Try.checked) false ⟨#[], #[(.agg #[.int .i64 0, .int .i64 0, .int .i64 0, .slice none 0 0]), (.agg #[.int .i64 0, .int .i64 0, .int .i64 0, .int .i64 0, .int .i64 0]), (.agg #[.int .i64 0, .int .i64 0, .int .i64 0, .int .i64 0, .int .i64 0, .int .i64 0, .int .i64 0, .int .i64 0, .int .i64 0, .int .i64 0, .int .i64 0, .int .i64 0, .int .i64 0, .int .i64 0, .int .i64 0, .int .i64 0, .int .i64 0, .int .i64 0, .slice none 0 0, .slice none 0 0, .slice none 0 0, .int .i64 0])], []⟩ 8 (by kernel_rfl) (by kernel_rfl) (by kernel_rfl) (by kernel_rfl)) ?_
  intro W base args ds gs before hval0 hW hcnd hsz0 _
  have hsz : (DataW.weightsEach Try.prog (Try.f8.params.toList ++ Rows.schemeBeginsSpec.plain.varTypes Try.prog) (ds ++ gs)).all (· ≤ reachBytes) = true := hsz0
  have hval : ∀ (j : Nat) t v, Try.f8.params[j]? = some t → args[j]? = some v → Value.okWide Try.prog W .any base t v := hval0
  have hW' := hW
  obtain ⟨p, q, hA0, hV, rfl, hfz, hnd⟩ := hW
  have hA : DataW.TrodAll enc Try.prog W 0 (fun _ => true) true Try.f8.params.toList args.toList ds p := hA0
  rw [Try.params8] at hA hval hsz
  obtain ⟨v0, vs0, d0, ds0, p0, q0, hargs, rfl, rfl, h0, r0⟩ := trodAll_cons hA
  obtain ⟨v1, vs1, d1, ds1, p1, q1, rfl, rfl, rfl, h1, r1⟩ := trodAll_cons r0
  obtain ⟨v2, vs2, d2, ds2, p2, q2, rfl, rfl, rfl, h2, r2⟩ := trodAll_cons r1
  obtain ⟨rfl, rfl, rfl⟩ := trodAll_nil r2
  obtain rfl : args = #[v0, v1, v2] := by cases args; simp_all
  obtain ⟨rfl, rfl⟩ := trodVars_none hV
  obtain ⟨y0, K0, g0⟩ := opened opens51 hsz (j := 0) rfl rfl h0
  have k0 := h0
  have lt0 : ∀ x ∈ p0, x.block < W.heap.size := by obtain ⟨m, hm⟩ := k0; exact DataW.trod_lt m _ _ _ hm
  obtain ⟨cs0, rfl, _⟩ := okWide_struct Try.underlying51 (hval 0 51 v0 rfl rfl)
  obtain ⟨q0, q1, q2, qA, qn, qc⟩ := y0
  obtain ⟨_, _, _, ql, e0, hq, _⟩ := g0
  simp only at e0
  subst e0
  have c0 := agg_eq K0
  subst c0
  obtain ⟨y1, K1, g1⟩ := opened opens55 hsz (j := 1) rfl rfl h1
  have k1 := h1
  have lt1 : ∀ x ∈ p1, x.block < W.heap.size := by obtain ⟨m, hm⟩ := k1; exact DataW.trod_lt m _ _ _ hm
  obtain ⟨cs1, rfl, _⟩ := okWide_struct Try.underlying55 (hval 1 55 v1 rfl rfl)
  obtain ⟨z0, z1, z2, z3, z4⟩ := y1
  have c1 := agg_eq K1
  subst c1
  obtain ⟨y2, K2, g2⟩ := opened opens62 hsz (j := 2) rfl rfl h2
  have k2 := h2
  have lt2 : ∀ x ∈ p2, x.block < W.heap.size := by obtain ⟨m, hm⟩ := k2; exact DataW.trod_lt m _ _ _ hm
  obtain ⟨cs2, rfl, _⟩ := okWide_struct Try.underlying62 (hval 2 62 v2 rfl rfl)
  obtain ⟨pc, fu, st, R, ⟨kd, mi, mn, sA, sn, sc⟩, ⟨bA, bn, bc⟩, ⟨nA, nn, nc⟩, old⟩ := y2
  obtain ⟨_, _, _, _, ⟨_, _, _, xs, e1, hs, _⟩, ⟨bs, e2, hb, _⟩, ⟨ns, e3, hn, _⟩, _⟩ := g2
  simp only at e1 e2 e3
  subst e1 e2 e3
  have c2 := agg_eq K2
  subst c2
  clear hA0 hval0 hsz0 hsz
  refine (law_is (t := ⟨pc, fu, st, fun j => [(R 0).1, (R 0).2.1, (R 0).2.2, (R 1).1, (R 1).2.1, (R 1).2.2, (R 2).1, (R 2).2.1, (R 2).2.2, (R 3).1, (R 3).2.1, (R 3).2.2].getD j 0, kd, mi, mn, (sA, sc), (bA, bc), (nA, nc), old⟩) ⟨hs, hb, hn⟩ (pA := qA) hq.cap.2 q0 q1 q2 z0 z1 z2 z3 z4).mono fun e W' ⟨he, bel⟩ => ?_
  subst he
  exact ⟨_, rfl, _, _, _, [], _, [], hW', trodAll_mk1 (shut_bool Try.underlying4 _), (trodAll_cons_mk (Below.trod laidOut (by kernel_rfl) (of_decide_eq_true (by kernel_rfl)) k0 bel lt0) (trodAll_cons_mk (Below.trod laidOut (by kernel_rfl) (of_decide_eq_true (by kernel_rfl)) k1 bel lt1) (trodAll_cons_mk (Below.trod laidOut (by kernel_rfl) (of_decide_eq_true (by kernel_rfl)) k2 bel lt2) trodAll_mk0))), rfl, bel.frame _, fun h => by cases h⟩
theorem over : Rows.schemeBeginsRow.holds Try.pinned (OpenSpec.ofChange Rows.schemeBeginsSpec) :=
  OpenClaim.holds_of_wide 8 Try.f8 rfl rfl rfl rfl rfl rfl rfl ⟨rfl, rfl, rfl, rfl, rfl⟩ rfl rfl rfl rfl rfl (by kernel_rfl) Try.func8 (by kernel_rfl)
    (of_decide_eq_true (by kernel_rfl)) (by unfold Func.isWrapper; first | (rw [if_pos (by decide +kernel)]; kernel_rfl) | (rw [if_neg (by decide +kernel)]; exact ⟨rfl, rfl⟩))
    (fun os started H enc _ => lifted os started H enc)
theorem proved : Rows.SchemeBeginsSaid := over
end Go.Proofs.Ythcmcekjgecnhab.schemeBegins
namespace Go.Proofs.Ythcmcekjgecnhab
/-- The row, under a short name, for the claim. -/
theorem schemeBegins_holds : Rows.SchemeBeginsSaid := schemeBegins.proved
end Go.Proofs.Ythcmcekjgecnhab
