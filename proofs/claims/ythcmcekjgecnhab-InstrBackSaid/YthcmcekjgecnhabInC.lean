/- What the plain Get answers. No condition beside those that each theorem names. -/
import Derived.Test.YthcmcekjgecnhabInB
import Derived.Lib.Strings
namespace Go.Proofs.Ythcmcekjgecnhab.Sr
open Go.RowKit Go.Proofs.YthcmcekjgecnhabM.Mach
set_option linter.unusedVariables false
set_option linter.unusedSimpArgs false
def getno_is_0_l0 (A : Option Addr) (n : Nat) (c : Nat) (γ1 : Nat → Nat) : List Value := [.slice A n c, zz, .pointer (some ⟨γ1 0, 0, none⟩), .int .i64 0, zz, zz, zz, .slice A n c, .int .i64 ((n : Nat) : Int), zz, zz, zz, zz, zz, zz, zz]
def getno_is_0_l1 : List Value := [zz, zz, zz, zz, zz, zz, zz, zz, zz, zz, zz, zz, zz, zz, zz, zz]
def getno_is_0_l2 : List Value := [zz, zz]
def getno_is_0_b3 (A : Option Addr) (n : Nat) (c : Nat) (γ1 : Nat → Nat) : List Value := (getno_is_0_l0 A n c γ1) ++ (getno_is_0_l1 ++ (getno_is_0_l2))
set_option maxHeartbeats 8000000 in
set_option maxRecDepth 100000 in
theorem getno_is {A : Option Addr} {n c : Nat} (hn : n ≠ 12) (w : World) : Calls Try.prog 21 #[.slice A n c] w fun e w' => e = .returned (.tuple #[.agg #[.int .i64 0, .int .i64 0, .int .i64 0, .int .i64 0, .int .i64 0], .int .i64 1]) ∧ Below w.heap.size w w' := by
  refine enter (args := [.slice A n c]) (fn := Try.f21) rfl (c := bdy Try.f21) (by kernel_rfl) ?_
  refine ck 4 [] [] fun γ1 => ⟨⟨kt (bdy Try.f21) [1, 0, 0, 2] [], (getno_is_0_b3 A n c γ1), [(γ1 0, 41, [.int .i64 0, .int .i64 0, .int .i64 0, .int .i64 0, .int .i64 0])]⟩, [], [], by kernel_rfl, .nil, ?_⟩
  refine cp (fun W hW => in_is ((n : Nat) : Int) 12 12 false (decide_eq_false (by omega)) W) ?_
  refine ck 4 [(5, 0)] [] fun γ2 => ⟨⟨kt (bdy Try.f21) [1, 0, 1, 0, 1] [], upv (getno_is_0_b3 A n c γ1) [(3, .int .i64 1), (9, .bool false), (10, .bool true), (11, .agg #[.int .i64 0, .int .i64 0, .int .i64 0, .int .i64 0, .int .i64 0])], [(γ1 0, 41, [.int .i64 0, .int .i64 0, .int .i64 0, .int .i64 0, .int .i64 0])]⟩, [(5, γ1 0)], [], by kernel_rfl, .nil, ?_⟩
  refine rt (.tuple #[.agg #[.int .i64 0, .int .i64 0, .int .i64 0, .int .i64 0, .int .i64 0], .int .i64 1]) [(5, 0)] [(5, γ1 0)] (fun W hW => ?_)
  exact ⟨rfl, (hW.old 0 rfl)⟩
theorem eq41 (a0 a1 a2 a3 a4 b0 b1 b2 b3 b4 : Int) (W : World) : (Op.equal 41 (.agg #[.int .i64 a0, .int .i64 a1, .int .i64 a2, .int .i64 a3, .int .i64 a4]) (.agg #[.int .i64 b0, .int .i64 b1, .int .i64 b2, .int .i64 b3, .int .i64 b4])).run Try.prog W = .ok (decide (a0 = b0 ∧ a1 = b1 ∧ a2 = b2 ∧ a3 = b3 ∧ a4 = b4)) W := by
  show (Op.equalIn (9998 + 2) 41 _ _).run Try.prog W = _
  by_cases h0 : a0 = b0 <;> by_cases h1 : a1 = b1 <;> by_cases h2 : a2 = b2 <;> by_cases h3 : a3 = b3 <;> by_cases h4 : a4 = b4 <;> go_simp
theorem eq41s (a0 a1 a2 a3 a4 : Int) (W : World) : (Op.equal 41 (.agg #[.int .i64 a0, .int .i64 a1, .int .i64 a2, .int .i64 a3, .int .i64 a4]) (.agg #[.int .i64 a0, .int .i64 a1, .int .i64 a2, .int .i64 a3, .int .i64 a4])).run Try.prog W = .ok true W := by
  rw [eq41, decide_eq_true ⟨rfl, rfl, rfl, rfl, rfl⟩]
theorem seF {a b : ByteArray} (h : a.data.toList ≠ b.data.toList) : Value.bool (a.toList == b.toList) = .bool false := by
  rw [Lib.toList_data, Lib.toList_data, beq_eq_false_iff_ne.2 h]
theorem put_back {d0 d1 d2 d3 d4 d5 d6 d7 d8 d9 d10 d11 : Int} (hr : (0 ≤ d0 ∧ d0 < 256) ∧ (0 ≤ d1 ∧ d1 < 256) ∧ (0 ≤ d2 ∧ d2 < 256) ∧ (0 ≤ d3 ∧ d3 < 256) ∧ (0 ≤ d4 ∧ d4 < 256) ∧ (0 ≤ d5 ∧ d5 < 256) ∧ (0 ≤ d6 ∧ d6 < 256) ∧ (0 ≤ d7 ∧ d7 < 256) ∧ (0 ≤ d8 ∧ d8 < 256) ∧ (0 ≤ d9 ∧ d9 < 256) ∧ (0 ≤ d10 ∧ d10 < 256) ∧ (0 ≤ d11 ∧ d11 < 256)) : ([dg d0 0, dg d1 0, dg d2 0, dg d3 0, dg (IntKind.wrap .i64 (be8 d4 d5 d6 d7 d8 d9 d10 d11)) 7, dg (IntKind.wrap .i64 (be8 d4 d5 d6 d7 d8 d9 d10 d11)) 6, dg (IntKind.wrap .i64 (be8 d4 d5 d6 d7 d8 d9 d10 d11)) 5, dg (IntKind.wrap .i64 (be8 d4 d5 d6 d7 d8 d9 d10 d11)) 4, dg (IntKind.wrap .i64 (be8 d4 d5 d6 d7 d8 d9 d10 d11)) 3, dg (IntKind.wrap .i64 (be8 d4 d5 d6 d7 d8 d9 d10 d11)) 2, dg (IntKind.wrap .i64 (be8 d4 d5 d6 d7 d8 d9 d10 d11)) 1, dg (IntKind.wrap .i64 (be8 d4 d5 d6 d7 d8 d9 d10 d11)) 0] : List Int) = ([d0, d1, d2, d3, d4, d5, d6, d7, d8, d9, d10, d11] : List Int) := by
  have h := dg_be8 hr.2.2.2.2.1 hr.2.2.2.2.2.1 hr.2.2.2.2.2.2.1 hr.2.2.2.2.2.2.2.1 hr.2.2.2.2.2.2.2.2.1 hr.2.2.2.2.2.2.2.2.2.1 hr.2.2.2.2.2.2.2.2.2.2.1 hr.2.2.2.2.2.2.2.2.2.2.2
  simp only at h
  obtain ⟨h7, h6, h5, h4, h3, h2, h1, h0⟩ := h
  rw [h7, h6, h5, h4, h3, h2, h1, h0, dg_byte hr.1, dg_byte hr.2.1, dg_byte hr.2.2.1, dg_byte hr.2.2.2.1]
def rg_l0 (c : Nat) (B : Nat) (o : Nat) (γ1 : Nat → Nat) : List Value := [.slice (some ⟨B, o, none⟩) 12 c, zz, .pointer (some ⟨γ1 0, 0, none⟩), zz, zz, zz, zz, zz, zz, zz, zz, zz, zz, zz, zz, zz]
def rg_l1 : List Value := [zz, zz, zz, zz, zz, zz, zz]
def rg_b2 (c : Nat) (B : Nat) (o : Nat) (γ1 : Nat → Nat) : List Value := (rg_l0 c B o γ1) ++ (rg_l1)
def rg_l3 (c : Nat) (d0 : Int) (d1 : Int) (d2 : Int) (B : Nat) (o : Nat) (γ1 : Nat → Nat) : List Value := [.slice (some ⟨B, o, none⟩) 12 c, zz, .pointer (some ⟨γ1 0, 0, none⟩), .slice (some ⟨B, o, none⟩) 12 c, .pointer (some ⟨B, o + 0 * 1, none⟩), .int .u8 d0, .int .i64 d0, .slice (some ⟨B, o, none⟩) 12 c, .pointer (some ⟨B, o + 1 * 1, none⟩), .int .u8 d1, .int .i64 d1, .slice (some ⟨B, o, none⟩) 12 c, .pointer (some ⟨B, o + 2 * 1, none⟩), .int .u8 d2, .int .i64 d2, .slice (some ⟨B, o, none⟩) 12 c]
def rg_l4 (c : Nat) (d0 : Int) (d1 : Int) (d2 : Int) (d3 : Int) (d4 : Int) (d5 : Int) (d6 : Int) (d7 : Int) (d8 : Int) (d9 : Int) (d10 : Int) (d11 : Int) (B : Nat) (o : Nat) : List Value := [.pointer (some ⟨B, o + 3 * 1, none⟩), .int .u8 d3, .int .i64 d3, .slice (some ⟨B, o, none⟩) 12 c, .slice (cutp (some ⟨B, o, none⟩) 4 c 1) 8 (c - 4), .int .i64 (IntKind.wrap .i64 (be8 d4 d5 d6 d7 d8 d9 d10 d11)), .agg #[.int .i64 d0, .int .i64 d1, .int .i64 d2, .int .i64 d3, .int .i64 (IntKind.wrap .i64 (be8 d4 d5 d6 d7 d8 d9 d10 d11))]]
def rg_b5 (c : Nat) (d0 : Int) (d1 : Int) (d2 : Int) (d3 : Int) (d4 : Int) (d5 : Int) (d6 : Int) (d7 : Int) (d8 : Int) (d9 : Int) (d10 : Int) (d11 : Int) (B : Nat) (o : Nat) (γ1 : Nat → Nat) : List Value := (rg_l3 c d0 d1 d2 B o γ1) ++ ((rg_l4 c d0 d1 d2 d3 d4 d5 d6 d7 d8 d9 d10 d11 B o))
set_option maxHeartbeats 8000000 in
set_option maxRecDepth 100000 in
theorem rget_is {w : World} {A : Option Addr} {c : Nat} {d0 d1 d2 d3 d4 d5 d6 d7 d8 d9 d10 d11 : Int} (hr : (0 ≤ d0 ∧ d0 < 256) ∧ (0 ≤ d1 ∧ d1 < 256) ∧ (0 ≤ d2 ∧ d2 < 256) ∧ (0 ≤ d3 ∧ d3 < 256) ∧ (0 ≤ d4 ∧ d4 < 256) ∧ (0 ≤ d5 ∧ d5 < 256) ∧ (0 ≤ d6 ∧ d6 < 256) ∧ (0 ≤ d7 ∧ d7 < 256) ∧ (0 ≤ d8 ∧ d8 < 256) ∧ (0 ≤ d9 ∧ d9 < 256) ∧ (0 ≤ d10 ∧ d10 < 256) ∧ (0 ≤ d11 ∧ d11 < 256)) (h : Rd w (.slice A 12 c) 1 encU8 ([d0, d1, d2, d3, d4, d5, d6, d7, d8, d9, d10, d11] : List Int)) : Calls Try.prog 22 #[.slice A 12 c] w fun e w' => e = .returned (.agg #[.int .i64 d0, .int .i64 d1, .int .i64 d2, .int .i64 d3, .int .i64 (IntKind.wrap .i64 (be8 d4 d5 d6 d7 d8 d9 d10 d11))]) ∧ Below w.heap.size w w' := by
  have hr8 := hr.2.2.2.2
  have hcap := h.cap.2
  simp only [List.length_cons, List.length_nil] at hcap
  have hcut : Rd w (.slice (cutp A 4 c 1) 8 (c - 4)) 1 encU8 ([d4, d5, d6, d7, d8, d9, d10, d11] : List Int) := Rd.cut (a := 4) (b := 12) (d := c) h (by decide) (by simp) (by omega)
  obtain ⟨B, o, hAe, hat⟩ := h.at (i := 0) (by simp)
  subst hAe
  refine enter (args := [.slice (some ⟨B, o, none⟩) 12 c]) (fn := Try.f22) rfl (c := bdy Try.f22) (by kernel_rfl) ?_
  refine ck 1 [] [] fun γ1 => ⟨⟨kt (bdy Try.f22) [1, 0] [], (rg_b2 c B o γ1), [(γ1 0, 41, [.int .i64 0, .int .i64 0, .int .i64 0, .int .i64 0, .int .i64 0])]⟩, [], [], by kernel_rfl, .nil, ?_⟩
  refine dr [] [] .nil ?_
  refine df [0, 1, 4, 5, 8, 9, 12, 13, 16] [] [] [] [(0 : Int) ≤ 0 ∧ 0 < ((12 : Nat) : Int), (0 : Int) ≤ 1 ∧ 1 < ((12 : Nat) : Int), (0 : Int) ≤ 2 ∧ 2 < ((12 : Nat) : Int), (0 : Int) ≤ 3 ∧ 3 < ((12 : Nat) : Int)] (.cons ⟨by omega, by omega⟩ (.cons ⟨by omega, by omega⟩ (.cons ⟨by omega, by omega⟩ (.cons ⟨by omega, by omega⟩ .nil)))) ?_
  refine dldr 2 (n := 1) (row := false) [.int .u8 d0] (fun W hW => ((hat.below (hW.old 0 rfl))).ld (i := 0) (by simp) 0 [.int .u8 d0] rfl) ?_
  refine df [3] [] [(3, .int .i64 d0)] [] [Value.int .i64 (IntKind.wrap .i64 d0) = .int .i64 d0] (.cons (congrArg (Value.int .i64) (wrap8in (by omega) _ (by simp))) .nil) ?_
  refine dldr 6 (n := 1) (row := false) [.int .u8 d1] (fun W hW => ((hat.below (hW.old 0 rfl))).ld (i := 1) (by simp) 0 [.int .u8 d1] rfl) ?_
  refine df [7] [] [(7, .int .i64 d1)] [] [Value.int .i64 (IntKind.wrap .i64 d1) = .int .i64 d1] (.cons (congrArg (Value.int .i64) (wrap8in (by omega) _ (by simp))) .nil) ?_
  refine dldr 10 (n := 1) (row := false) [.int .u8 d2] (fun W hW => ((hat.below (hW.old 0 rfl))).ld (i := 2) (by simp) 0 [.int .u8 d2] rfl) ?_
  refine df [11] [] [(11, .int .i64 d2)] [] [Value.int .i64 (IntKind.wrap .i64 d2) = .int .i64 d2] (.cons (congrArg (Value.int .i64) (wrap8in (by omega) _ (by simp))) .nil) ?_
  refine dldr 14 (n := 1) (row := false) [.int .u8 d3] (fun W hW => ((hat.below (hW.old 0 rfl))).ld (i := 3) (by simp) 0 [.int .u8 d3] rfl) ?_
  refine df [15] [] [(15, .int .i64 d3)] [] [Value.int .i64 (IntKind.wrap .i64 d3) = .int .i64 d3] (.cons (congrArg (Value.int .i64) (wrap8in (by omega) _ (by simp))) .nil) ?_
  refine dsl 17 (A := some ⟨B, o, none⟩) (n := 12) (c := c) (sz := 1) (some (.int .i64 4)) (some (.int .i64 12)) none 4 12 c rfl rfl rfl rfl (by omega) (by omega) (by omega) (.slice (cutp (some ⟨B, o, none⟩) 4 c 1) 8 (c - 4)) rfl ?_
  refine dp 18 (fun W hW => signed_is (A := (cutp (some ⟨B, o, none⟩) 4 c 1)) (c := (c - 4)) hr8 (hcut.below (hW.old 0 rfl))) ?_
  refine df [19] [] [] [] [] .nil ?_
  refine ds 20 [(5, 0)] [(5, γ1 0)] ?_
  refine de (fs := (kt (bdy Try.f22) [1, 0] []).tail) ?_
  refine st0 (fs := (kt (bdy Try.f22) [1, 0] []).tail) ((rg_b5 c d0 d1 d2 d3 d4 d5 d6 d7 d8 d9 d10 d11 B o γ1)) [(γ1 0, 41, [.int .i64 d0, .int .i64 d1, .int .i64 d2, .int .i64 d3, .int .i64 (IntKind.wrap .i64 (be8 d4 d5 d6 d7 d8 d9 d10 d11))])] ?_
  refine rt (.agg #[.int .i64 d0, .int .i64 d1, .int .i64 d2, .int .i64 d3, .int .i64 (IntKind.wrap .i64 (be8 d4 d5 d6 d7 d8 d9 d10 d11))]) [(5, 0)] [(5, γ1 0)] (fun W hW => ?_)
  exact ⟨rfl, (hW.old 0 rfl)⟩
end Go.Proofs.Ythcmcekjgecnhab.Sr
