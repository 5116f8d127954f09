/- What the plain round asks. No condition beside those that each theorem names. -/
import Derived.Test.YthcmcekjgecnhabReD
import Derived.Test.YthcmcekjgecnhabReA
namespace Go.Proofs.Ythcmcekjgecnhab.Sr
open Go.RowKit Go.Proofs.YthcmcekjgecnhabM.Mach
set_option linter.unusedVariables false
set_option linter.unusedSimpArgs false
def by0_l0 (n0 : Int) (x : Int) (g0 : Int) (cl : List C10) (Ac : Option Addr) (kc : Nat) (i : Nat) (γ1 : Nat → Nat) : List Value := [.agg #[.int .i64 n0, .int .i64 x, .int .i64 g0], .slice Ac cl.length kc, .int .i64 (i : Int), .pointer (some ⟨γ1 0, 0, none⟩), zz, zz, .bool false, zz, zz, zz, zz, zz, zz, zz, zz, zz]
def by0_l1 : List Value := [zz, zz, zz, zz, zz, zz, zz, zz, zz, zz, zz, zz, zz, zz]
def by0_b2 (n0 : Int) (x : Int) (g0 : Int) (cl : List C10) (Ac : Option Addr) (kc : Nat) (i : Nat) (γ1 : Nat → Nat) : List Value := (by0_l0 n0 x g0 cl Ac kc i γ1) ++ (by0_l1)
def by0_c3 (n0 : Int) (x : Int) (g0 : Int) : List Value := [.int .i64 n0, .int .i64 x, .int .i64 g0]
def by1_l0 (n0 : Int) (x : Int) (g0 : Int) (cl : List C10) (Ac : Option Addr) (kc : Nat) (i : Nat) (γ1 : Nat → Nat) : List Value := [.agg #[.int .i64 n0, .int .i64 x, .int .i64 g0], .slice Ac cl.length kc, .int .i64 (i : Int), .pointer (some ⟨γ1 0, 0, none⟩), zz, zz, .bool false, zz, zz, zz, zz, zz, zz, zz, zz, zz]
def by1_l1 : List Value := [zz, zz, zz, zz, zz, zz, zz, zz, zz, zz, zz, zz, zz, zz]
def by1_b2 (n0 : Int) (x : Int) (g0 : Int) (cl : List C10) (Ac : Option Addr) (kc : Nat) (i : Nat) (γ1 : Nat → Nat) : List Value := (by1_l0 n0 x g0 cl Ac kc i γ1) ++ (by1_l1)
def by1_c3 (n0 : Int) (x : Int) (g0 : Int) : List Value := [.int .i64 n0, .int .i64 x, .int .i64 g0]
def by1_l4 (n0 : Int) (x : Int) (g0 : Int) (cl : List C10) (Ac : Option Addr) (kc : Nat) (i : Nat) (B : Nat) (o : Nat) (γ1 : Nat → Nat) : List Value := [.agg #[.int .i64 n0, .int .i64 x, .int .i64 g0], .slice Ac cl.length kc, .int .i64 (i : Int), .pointer (some ⟨γ1 0, 0, none⟩), zz, zz, .bool false, .pointer (some ⟨γ1 0, 1, none⟩), .int .i64 x, .int .i64 (i : Int), .int .i64 ((i + 1 : Nat) : Int), .bool true, .bool true, .slice Ac cl.length kc, .int .i64 (i : Int), .pointer (some ⟨B, o + i * 10, none⟩)]
def by1_l5 (cl : List C10) (i : Nat) (B : Nat) (o : Nat) : List Value := [.pointer (some ⟨B, o + i * 10, none⟩), .int .i64 ((cl[i]!).1), .bool false, .bool false, .bool false, zz, zz, zz, zz, zz, zz, zz, zz, .bool false]
def by1_b6 (n0 : Int) (x : Int) (g0 : Int) (cl : List C10) (Ac : Option Addr) (kc : Nat) (i : Nat) (B : Nat) (o : Nat) (γ1 : Nat → Nat) : List Value := (by1_l4 n0 x g0 cl Ac kc i B o γ1) ++ ((by1_l5 cl i B o))
def by2_l0 (n0 : Int) (x : Int) (g0 : Int) (cl : List C10) (Ac : Option Addr) (kc : Nat) (i : Nat) (γ1 : Nat → Nat) : List Value := [.agg #[.int .i64 n0, .int .i64 x, .int .i64 g0], .slice Ac cl.length kc, .int .i64 (i : Int), .pointer (some ⟨γ1 0, 0, none⟩), zz, zz, .bool false, zz, zz, zz, zz, zz, zz, zz, zz, zz]
def by2_l1 : List Value := [zz, zz, zz, zz, zz, zz, zz, zz, zz, zz, zz, zz, zz, zz]
def by2_b2 (n0 : Int) (x : Int) (g0 : Int) (cl : List C10) (Ac : Option Addr) (kc : Nat) (i : Nat) (γ1 : Nat → Nat) : List Value := (by2_l0 n0 x g0 cl Ac kc i γ1) ++ (by2_l1)
def by2_c3 (n0 : Int) (x : Int) (g0 : Int) : List Value := [.int .i64 n0, .int .i64 x, .int .i64 g0]
def by2_l4 (n0 : Int) (x : Int) (g0 : Int) (cl : List C10) (Ac : Option Addr) (kc : Nat) (i : Nat) (B : Nat) (o : Nat) (γ1 : Nat → Nat) : List Value := [.agg #[.int .i64 n0, .int .i64 x, .int .i64 g0], .slice Ac cl.length kc, .int .i64 (i : Int), .pointer (some ⟨γ1 0, 0, none⟩), zz, zz, .bool false, .pointer (some ⟨γ1 0, 1, none⟩), .int .i64 x, .int .i64 (i : Int), .int .i64 ((i + 1 : Nat) : Int), .bool true, .bool true, .slice Ac cl.length kc, .int .i64 (i : Int), .pointer (some ⟨B, o + i * 10, none⟩)]
def by2_l5 (g0 : Int) (cl : List C10) (Ac : Option Addr) (kc : Nat) (i : Nat) (B : Nat) (o : Nat) (γ1 : Nat → Nat) : List Value := [.pointer (some ⟨B, o + i * 10, none⟩), .int .i64 ((cl[i]!).1), .bool true, .bool true, .bool true, .slice Ac cl.length kc, .int .i64 (i : Int), .pointer (some ⟨B, o + i * 10, none⟩), .pointer (some ⟨B, o + i * 10 + 1, none⟩), .int .i64 ((cl[i]!).2.1), .pointer (some ⟨γ1 0, 2, none⟩), .int .i64 g0, .bool false, .bool false]
def by2_b6 (n0 : Int) (x : Int) (g0 : Int) (cl : List C10) (Ac : Option Addr) (kc : Nat) (i : Nat) (B : Nat) (o : Nat) (γ1 : Nat → Nat) : List Value := (by2_l4 n0 x g0 cl Ac kc i B o γ1) ++ ((by2_l5 g0 cl Ac kc i B o γ1))
def by3_l0 (n0 : Int) (x : Int) (g0 : Int) (cl : List C10) (Ac : Option Addr) (kc : Nat) (i : Nat) (γ1 : Nat → Nat) : List Value := [.agg #[.int .i64 n0, .int .i64 x, .int .i64 g0], .slice Ac cl.length kc, .int .i64 (i : Int), .pointer (some ⟨γ1 0, 0, none⟩), zz, zz, .bool false, zz, zz, zz, zz, zz, zz, zz, zz, zz]
def by3_l1 : List Value := [zz, zz, zz, zz, zz, zz, zz, zz, zz, zz, zz, zz, zz, zz]
def by3_b2 (n0 : Int) (x : Int) (g0 : Int) (cl : List C10) (Ac : Option Addr) (kc : Nat) (i : Nat) (γ1 : Nat → Nat) : List Value := (by3_l0 n0 x g0 cl Ac kc i γ1) ++ (by3_l1)
def by3_c3 (n0 : Int) (x : Int) (g0 : Int) : List Value := [.int .i64 n0, .int .i64 x, .int .i64 g0]
def by3_l4 (n0 : Int) (x : Int) (g0 : Int) (cl : List C10) (Ac : Option Addr) (kc : Nat) (i : Nat) (B : Nat) (o : Nat) (γ1 : Nat → Nat) : List Value := [.agg #[.int .i64 n0, .int .i64 x, .int .i64 g0], .slice Ac cl.length kc, .int .i64 (i : Int), .pointer (some ⟨γ1 0, 0, none⟩), zz, zz, .bool true, .pointer (some ⟨γ1 0, 1, none⟩), .int .i64 x, .int .i64 (i : Int), .int .i64 ((i + 1 : Nat) : Int), .bool true, .bool true, .slice Ac cl.length kc, .int .i64 (i : Int), .pointer (some ⟨B, o + i * 10, none⟩)]
def by3_l5 (g0 : Int) (cl : List C10) (Ac : Option Addr) (kc : Nat) (i : Nat) (B : Nat) (o : Nat) (γ1 : Nat → Nat) : List Value := [.pointer (some ⟨B, o + i * 10, none⟩), .int .i64 ((cl[i]!).1), .bool true, .bool true, .bool true, .slice Ac cl.length kc, .int .i64 (i : Int), .pointer (some ⟨B, o + i * 10, none⟩), .pointer (some ⟨B, o + i * 10 + 1, none⟩), .int .i64 ((cl[i]!).2.1), .pointer (some ⟨γ1 0, 2, none⟩), .int .i64 g0, .bool true, .bool true]
def by3_b6 (n0 : Int) (x : Int) (g0 : Int) (cl : List C10) (Ac : Option Addr) (kc : Nat) (i : Nat) (B : Nat) (o : Nat) (γ1 : Nat → Nat) : List Value := (by3_l4 n0 x g0 cl Ac kc i B o γ1) ++ ((by3_l5 g0 cl Ac kc i B o γ1))
set_option maxHeartbeats 8000000 in
set_option maxRecDepth 100000 in
theorem by_is (n0 x g0 : Int) {w : World} {cl : List C10} {Ac : Option Addr} {kc i : Nat} (hc : Rd w (.slice Ac cl.length kc) 10 encT38 cl) (hcl : cl.length ≤ 1000) (hi : i < cl.length) : Calls Try.prog 66 #[.agg #[.int .i64 n0, .int .i64 x, .int .i64 g0], .slice Ac cl.length kc, .int .i64 (i : Int)] w fun e w' => e = .returned (.bool (byF (n0, x, g0) cl i)) ∧ Below w.heap.size w w' := by
  have hq : x ≠ (i : Int) + 1 ∨ (x = (i : Int) + 1 ∧ (cl[i]!).1 = 0) ∨ (x = (i : Int) + 1 ∧ (cl[i]!).1 ≠ 0 ∧ (cl[i]!).2.1 ≠ g0) ∨ (x = (i : Int) + 1 ∧ (cl[i]!).1 ≠ 0 ∧ (cl[i]!).2.1 = g0) := by omega
  rcases hq with hq | hq | hq | hq
  · skip
    obtain ⟨B, o, hAe, hat⟩ := hc.at (by omega)
    refine enter (args := [.agg #[.int .i64 n0, .int .i64 x, .int .i64 g0], .slice Ac cl.length kc, .int .i64 (i : Int)]) (fn := Try.f66) rfl (c := bdy Try.f66) (by kernel_rfl) ?_
    refine ck 2 [] [] fun γ1 => ⟨⟨kt (bdy Try.f66) [1, 0] [], (by0_b2 n0 x g0 cl Ac kc i γ1), [(γ1 0, 35, (by0_c3 n0 x g0))]⟩, [], [], by kernel_rfl, .nil, ?_⟩
    refine dr [] [] .nil ?_
    refine df [0, 1, 2, 3, 4, 5, 6, 7, 8, 9, 10, 11, 12, 13, 14, 15, 16, 17, 18, 19, 20, 21, 22, 23] [(1, 0)] [(3, .int .i64 ((i + 1 : Nat) : Int)), (4, .bool false)] [(1, γ1 0)] [Value.int .i64 (IntKind.wrap .i64 ((i : Int) + 1)) = .int .i64 ((i + 1 : Nat) : Int), Value.bool ((x : Int) == ((i + 1 : Nat) : Int)) = .bool false] (.cons (congrArg (Value.int .i64) (by rw [IntKind.wrap_i64]; omega)) (.cons (cbN (by omega)) .nil)) ?_
    refine de (fs := (kt (bdy Try.f66) [1, 0] []).tail) ?_
    refine st0 (fs := (kt (bdy Try.f66) [1, 0] []).tail) (upv (by0_b2 n0 x g0 cl Ac kc i γ1) [(7, .pointer (some ⟨γ1 0, 1, none⟩)), (8, .int .i64 x), (9, .int .i64 (i : Int)), (10, .int .i64 ((i + 1 : Nat) : Int)), (11, .bool false), (12, .bool false), (19, .bool false), (20, .bool false), (29, .bool false)]) [(γ1 0, 35, (by0_c3 n0 x g0))] ?_
    refine rt (.bool false) [] [] (fun W hW => ?_)
    refine ⟨?_, (hW.old 0 rfl)⟩
    have ht : byF (n0, x, g0) cl i = false := by
      unfold byF
      exact decide_eq_false (by first | omega | (simp only; omega) | (simp only [not_and]; omega))
    rw [ht]
  · skip
    obtain ⟨B, o, hAe, hat⟩ := hc.at (by omega)
    refine enter (args := [.agg #[.int .i64 n0, .int .i64 x, .int .i64 g0], .slice Ac cl.length kc, .int .i64 (i : Int)]) (fn := Try.f66) rfl (c := bdy Try.f66) (by kernel_rfl) ?_
    refine ck 2 [] [] fun γ1 => ⟨⟨kt (bdy Try.f66) [1, 0] [], (by1_b2 n0 x g0 cl Ac kc i γ1), [(γ1 0, 35, (by1_c3 n0 x g0))]⟩, [], [], by kernel_rfl, .nil, ?_⟩
    refine dr [] [] .nil ?_
    refine df [0, 1, 2, 3, 4, 5, 6, 7] [(1, 0)] [(3, .int .i64 ((i + 1 : Nat) : Int)), (4, .bool true)] [(1, γ1 0)] [Value.int .i64 (IntKind.wrap .i64 ((i : Int) + 1)) = .int .i64 ((i + 1 : Nat) : Int), Value.bool ((x : Int) == ((i + 1 : Nat) : Int)) = .bool true] (.cons (congrArg (Value.int .i64) (by rw [IntKind.wrap_i64]; omega)) (.cons (cbE (by omega)) .nil)) ?_
    refine dixr 8 (n := cl.length) (sz := 10) (j := (i : Int)) hAe i (by omega) ?_
    refine df [9] [] [] [] [] .nil ?_
    refine dldr 10 (n := 1) (row := false) [.int .i64 ((cl[i]!).1)] (fun W hW => (hat.below (hW.old 0 rfl)).ld (i := i) (by omega) 0 [.int .i64 ((cl[i]!).1)] rfl) ?_
    refine df [11, 12, 13, 14, 15, 16, 17, 18, 19, 20, 21, 22, 23] [] [(11, .bool false)] [] [Value.bool ((((cl[i]!).1) : Int) != 0) = .bool false] (.cons (cnF (by omega)) .nil) ?_
    refine de (fs := (kt (bdy Try.f66) [1, 0] []).tail) ?_
    refine st0 (fs := (kt (bdy Try.f66) [1, 0] []).tail) ((by1_b6 n0 x g0 cl Ac kc i B o γ1)) [(γ1 0, 35, (by1_c3 n0 x g0))] ?_
    refine rt (.bool false) [] [] (fun W hW => ?_)
    refine ⟨?_, (hW.old 0 rfl)⟩
    have ht : byF (n0, x, g0) cl i = false := by
      unfold byF
      exact decide_eq_false (by first | omega | (simp only; omega) | (simp only [not_and]; omega))
    rw [ht]
  · skip
    obtain ⟨B, o, hAe, hat⟩ := hc.at (by omega)
    refine enter (args := [.agg #[.int .i64 n0, .int .i64 x, .int .i64 g0], .slice Ac cl.length kc, .int .i64 (i : Int)]) (fn := Try.f66) rfl (c := bdy Try.f66) (by kernel_rfl) ?_
    refine ck 2 [] [] fun γ1 => ⟨⟨kt (bdy Try.f66) [1, 0] [], (by2_b2 n0 x g0 cl Ac kc i γ1), [(γ1 0, 35, (by2_c3 n0 x g0))]⟩, [], [], by kernel_rfl, .nil, ?_⟩
    refine dr [] [] .nil ?_
    refine df [0, 1, 2, 3, 4, 5, 6, 7] [(1, 0)] [(3, .int .i64 ((i + 1 : Nat) : Int)), (4, .bool true)] [(1, γ1 0)] [Value.int .i64 (IntKind.wrap .i64 ((i : Int) + 1)) = .int .i64 ((i + 1 : Nat) : Int), Value.bool ((x : Int) == ((i + 1 : Nat) : Int)) = .bool true] (.cons (congrArg (Value.int .i64) (by rw [IntKind.wrap_i64]; omega)) (.cons (cbE (by omega)) .nil)) ?_
    refine dixr 8 (n := cl.length) (sz := 10) (j := (i : Int)) hAe i (by omega) ?_
    refine df [9] [] [] [] [] .nil ?_
    refine dldr 10 (n := 1) (row := false) [.int .i64 ((cl[i]!).1)] (fun W hW => (hat.below (hW.old 0 rfl)).ld (i := i) (by omega) 0 [.int .i64 ((cl[i]!).1)] rfl) ?_
    refine df [11, 12, 13, 14, 15, 19, 20] [(1, 0)] [(11, .bool true)] [(1, γ1 0)] [Value.bool ((((cl[i]!).1) : Int) != 0) = .bool true] (.cons (cnT (by omega)) .nil) ?_
    refine dixr 16 (n := cl.length) (sz := 10) (j := (i : Int)) hAe i (by omega) ?_
    refine df [17] [] [] [] [] .nil ?_
    refine dldr 18 (n := 1) (row := false) [.int .i64 ((cl[i]!).2.1)] (fun W hW => (hat.below (hW.old 0 rfl)).ld (i := i) (by omega) 1 [.int .i64 ((cl[i]!).2.1)] rfl) ?_
    refine df [21, 22, 23] [] [(21, .bool false)] [] [Value.bool ((((cl[i]!).2.1) : Int) == g0) = .bool false] (.cons (cbN (by omega)) .nil) ?_
    refine de (fs := (kt (bdy Try.f66) [1, 0] []).tail) ?_
    refine st0 (fs := (kt (bdy Try.f66) [1, 0] []).tail) ((by2_b6 n0 x g0 cl Ac kc i B o γ1)) [(γ1 0, 35, (by2_c3 n0 x g0))] ?_
    refine rt (.bool false) [] [] (fun W hW => ?_)
    refine ⟨?_, (hW.old 0 rfl)⟩
    have ht : byF (n0, x, g0) cl i = false := by
      unfold byF
      exact decide_eq_false (by first | omega | (simp only; omega) | (simp only [not_and]; omega))
    rw [ht]
  · skip
    obtain ⟨B, o, hAe, hat⟩ := hc.at (by omega)
    refine enter (args := [.agg #[.int .i64 n0, .int .i64 x, .int .i64 g0], .slice Ac cl.length kc, .int .i64 (i : Int)]) (fn := Try.f66) rfl (c := bdy Try.f66) (by kernel_rfl) ?_
    refine ck 2 [] [] fun γ1 => ⟨⟨kt (bdy Try.f66) [1, 0] [], (by3_b2 n0 x g0 cl Ac kc i γ1), [(γ1 0, 35, (by3_c3 n0 x g0))]⟩, [], [], by kernel_rfl, .nil, ?_⟩
    refine dr [] [] .nil ?_
    refine df [0, 1, 2, 3, 4, 5, 6, 7] [(1, 0)] [(3, .int .i64 ((i + 1 : Nat) : Int)), (4, .bool true)] [(1, γ1 0)] [Value.int .i64 (IntKind.wrap .i64 ((i : Int) + 1)) = .int .i64 ((i + 1 : Nat) : Int), Value.bool ((x : Int) == ((i + 1 : Nat) : Int)) = .bool true] (.cons (congrArg (Value.int .i64) (by rw [IntKind.wrap_i64]; omega)) (.cons (cbE (by omega)) .nil)) ?_
    refine dixr 8 (n := cl.length) (sz := 10) (j := (i : Int)) hAe i (by omega) ?_
    refine df [9] [] [] [] [] .nil ?_
    refine dldr 10 (n := 1) (row := false) [.int .i64 ((cl[i]!).1)] (fun W hW => (hat.below (hW.old 0 rfl)).ld (i := i) (by omega) 0 [.int .i64 ((cl[i]!).1)] rfl) ?_
    refine df [11, 12, 13, 14, 15, 19, 20] [(1, 0)] [(11, .bool true)] [(1, γ1 0)] [Value.bool ((((cl[i]!).1) : Int) != 0) = .bool true] (.cons (cnT (by omega)) .nil) ?_
    refine dixr 16 (n := cl.length) (sz := 10) (j := (i : Int)) hAe i (by omega) ?_
    refine df [17] [] [] [] [] .nil ?_
    refine dldr 18 (n := 1) (row := false) [.int .i64 ((cl[i]!).2.1)] (fun W hW => (hat.below (hW.old 0 rfl)).ld (i := i) (by omega) 1 [.int .i64 ((cl[i]!).2.1)] rfl) ?_
    refine df [21, 22, 23] [] [(21, .bool true)] [] [Value.bool ((((cl[i]!).2.1) : Int) == g0) = .bool true] (.cons (cbE (by omega)) .nil) ?_
    refine de (fs := (kt (bdy Try.f66) [1, 0] []).tail) ?_
    refine st0 (fs := (kt (bdy Try.f66) [1, 0] []).tail) ((by3_b6 n0 x g0 cl Ac kc i B o γ1)) [(γ1 0, 35, (by3_c3 n0 x g0))] ?_
    refine rt (.bool true) [] [] (fun W hW => ?_)
    refine ⟨?_, (hW.old 0 rfl)⟩
    have ht : byF (n0, x, g0) cl i = true := by
      unfold byF
      exact decide_eq_true (by first | omega | (simp only; omega) | (simp only [not_and]; omega))
    rw [ht]
theorem by_b {n0 x g0 : Int} {b : Bool} {w : World} {cl : List C10} {Ac : Option Addr} {kc i : Nat} (hb : byF (n0, x, g0) cl i = b) (hc : Rd w (.slice Ac cl.length kc) 10 encT38 cl) (hcl : cl.length ≤ 1000) (hi : i < cl.length) : Calls Try.prog 66 #[.agg #[.int .i64 n0, .int .i64 x, .int .i64 g0], .slice Ac cl.length kc, .int .i64 (i : Int)] w fun e w' => e = .returned (.bool b) ∧ Below w.heap.size w w' := by
  subst hb
  exact by_is n0 x g0 hc hcl hi
def fr_l0 (lw : List W3) (Aw : Option Addr) (kw : Nat) (cl : List C10) (Ac : Option Addr) (kc : Nat) (Ag : Option Addr) (kg : Nat) (i : Nat) : List Value := [.slice Aw lw.length kw, .slice Ac cl.length kc, .slice Ag cl.length kg, .int .i64 (i : Int), zz, zz, zz, zz, .bool false, .int .i64 0, zz, zz, zz, zz, zz, zz]
def fr_l1 : List Value := [zz, zz, zz, zz, zz, zz, zz, zz, zz, zz, zz, zz, zz, zz, zz, zz]
def fr_l2 : List Value := [zz, zz, zz, zz, zz, zz, zz, zz]
def fr_b3 (lw : List W3) (Aw : Option Addr) (kw : Nat) (cl : List C10) (Ac : Option Addr) (kc : Nat) (Ag : Option Addr) (kg : Nat) (i : Nat) : List Value := (fr_l0 lw Aw kw cl Ac kc Ag kg i) ++ (fr_l1 ++ (fr_l1 ++ (fr_l2)))
def fr_l4 (lw : List W3) (Aw : Option Addr) (kw : Nat) (cl : List C10) (Ac : Option Addr) (kc : Nat) (Ag : Option Addr) (kg : Nat) (i : Nat) (z2 : Nat → Value) (k : Nat) : List Value := [.slice Aw lw.length kw, .slice Ac cl.length kc, .slice Ag cl.length kg, .int .i64 (i : Int), zz, zz, zz, zz, z2 8, .int .i64 (k : Int), zz, z2 11, z2 12, z2 13, z2 14, z2 15]
def fr_l5 (z2 : Nat → Value) : List Value := [z2 16, z2 17, z2 18, z2 19, z2 20, z2 21, z2 22, z2 23, zz, zz, zz, zz, zz, zz, zz, zz]
def fr_b6 (lw : List W3) (Aw : Option Addr) (kw : Nat) (cl : List C10) (Ac : Option Addr) (kc : Nat) (Ag : Option Addr) (kg : Nat) (i : Nat) (z2 : Nat → Value) (k : Nat) : List Value := (fr_l4 lw Aw kw cl Ac kc Ag kg i z2 k) ++ ((fr_l5 z2) ++ (fr_l1 ++ (fr_l2)))
abbrev fr_2X := (Nat → Value) × Nat
def fr_2s (lw : List W3) (Aw : Option Addr) (kw : Nat) (cl : List C10) (Ac : Option Addr) (kc : Nat) (Ag : Option Addr) (kg : Nat) (i : Nat) (x : fr_2X) : List Value × List Blk := ((fr_b6 lw Aw kw cl Ac kc Ag kg i (x.1) (x.2)), [])
def fr_2k (lw : List W3) (Aw : Option Addr) (kw : Nat) (cl : List C10) (Ac : Option Addr) (kc : Nat) (Ag : Option Addr) (kg : Nat) (i : Nat) (x : fr_2X) : Prop := (x.2) ≤ lw.length ∧ ∀ j, j < (x.2) → byF lw[j]! cl i = false
def fr_2m (lw : List W3) (Aw : Option Addr) (kw : Nat) (cl : List C10) (Ac : Option Addr) (kc : Nat) (Ag : Option Addr) (kg : Nat) (i : Nat) (x : fr_2X) : Nat := lw.length - (x.2)
def fr_2F (lw : List W3) (Aw : Option Addr) (kw : Nat) (cl : List C10) (Ac : Option Addr) (kc : Nat) (Ag : Option Addr) (kg : Nat) (i : Nat) (w : World) (x : fr_2X) : List Asrt := [old w]
abbrev fr_2I (lw : List W3) (Aw : Option Addr) (kw : Nat) (cl : List C10) (Ac : Option Addr) (kc : Nat) (Ag : Option Addr) (kg : Nat) (i : Nat) (w : World) (x : fr_2X) : Act → World → Prop := Inv (fr_2s lw Aw kw cl Ac kc Ag kg i) (fr_2F lw Aw kw cl Ac kc Ag kg i w) (fr_2k lw Aw kw cl Ac kc Ag kg i) (fr_2m lw Aw kw cl Ac kc Ag kg i) x
def fr_l13 (lw : List W3) (Aw : Option Addr) (kw : Nat) (cl : List C10) (Ac : Option Addr) (kc : Nat) (Ag : Option Addr) (kg : Nat) (i : Nat) (z2 : Nat → Value) (k : Nat) : List Value := [.slice Aw lw.length kw, .slice Ac cl.length kc, .slice Ag cl.length kg, .int .i64 (i : Int), zz, zz, zz, zz, z2 8, .int .i64 ((k + 1 : Nat) : Int), zz, .int .i64 (k : Int), .slice Aw lw.length kw, .int .i64 ((lw.length : Nat) : Int), .bool true, .int .i64 (k : Int)]
def fr_l14 (lw : List W3) (Aw : Option Addr) (kw : Nat) (cl : List C10) (Ac : Option Addr) (kc : Nat) (i : Nat) (k : Nat) (B4 : Nat) (o5 : Nat) : List Value := [.int .i64 ((k + 1 : Nat) : Int), .slice Aw lw.length kw, .int .i64 (k : Int), .pointer (some ⟨B4, o5 + k * 3, none⟩), .agg #[.int .i64 ((lw[k]!).1), .int .i64 ((lw[k]!).2.1), .int .i64 ((lw[k]!).2.2)], .slice Ac cl.length kc, .int .i64 (i : Int), .bool false, zz, zz, zz, zz, zz, zz, zz, zz]
def fr_b15 (lw : List W3) (Aw : Option Addr) (kw : Nat) (cl : List C10) (Ac : Option Addr) (kc : Nat) (Ag : Option Addr) (kg : Nat) (i : Nat) (z2 : Nat → Value) (k : Nat) (B4 : Nat) (o5 : Nat) : List Value := (fr_l13 lw Aw kw cl Ac kc Ag kg i z2 k) ++ ((fr_l14 lw Aw kw cl Ac kc i k B4 o5) ++ (fr_l1 ++ (fr_l2)))
def fr_l16 (lw : List W3) (Aw : Option Addr) (kw : Nat) (cl : List C10) (Ac : Option Addr) (kc : Nat) (Ag : Option Addr) (kg : Nat) (i : Nat) (z2 : Nat → Value) (k : Nat) (z10 : Nat → Value) (q : Nat) : List Value := [.slice Aw lw.length kw, .slice Ac cl.length kc, .slice Ag cl.length kg, .int .i64 (i : Int), zz, zz, zz, zz, z10 8, .int .i64 (k : Int), .int .i64 (q : Int), .int .i64 (k : Int), .slice Aw lw.length kw, .int .i64 ((lw.length : Nat) : Int), .bool false, z2 15]
def fr_l17 (z2 : Nat → Value) (z10 : Nat → Value) : List Value := [z2 16, z2 17, z2 18, z2 19, z2 20, z2 21, z2 22, z2 23, z10 24, z10 25, z10 26, z10 27, z10 28, z10 29, z10 30, z10 31]
def fr_l18 (z10 : Nat → Value) : List Value := [z10 32, z10 33, z10 34, z10 35, z10 36, z10 37, z10 38, z10 39, z10 40, z10 41, z10 42, z10 43, z10 44, z10 45, z10 46, z10 47]
def fr_l19 (z10 : Nat → Value) : List Value := [z10 48, z10 49, z10 50, z10 51, z10 52, z10 53, z10 54, z10 55]
def fr_b20 (lw : List W3) (Aw : Option Addr) (kw : Nat) (cl : List C10) (Ac : Option Addr) (kc : Nat) (Ag : Option Addr) (kg : Nat) (i : Nat) (z2 : Nat → Value) (k : Nat) (z10 : Nat → Value) (q : Nat) : List Value := (fr_l16 lw Aw kw cl Ac kc Ag kg i z2 k z10 q) ++ ((fr_l17 z2 z10) ++ ((fr_l18 z10) ++ ((fr_l19 z10))))
abbrev fr_10X := (Nat → Value) × Nat
def fr_10s (lw : List W3) (Aw : Option Addr) (kw : Nat) (cl : List C10) (Ac : Option Addr) (kc : Nat) (Ag : Option Addr) (kg : Nat) (bs : List Bool) (i : Nat) (z2 : Nat → Value) (k : Nat) (x : fr_10X) : List Value × List Blk := ((fr_b20 lw Aw kw cl Ac kc Ag kg i z2 k (x.1) (x.2)), [])
def fr_10k (lw : List W3) (Aw : Option Addr) (kw : Nat) (cl : List C10) (Ac : Option Addr) (kc : Nat) (Ag : Option Addr) (kg : Nat) (bs : List Bool) (i : Nat) (z2 : Nat → Value) (k : Nat) (x : fr_10X) : Prop := (x.2) ≤ cl.length ∧ ∀ j, j < (x.2) → ¬ (bs[j]! = true ∧ (byF (f0 cl[j]!) cl i = true ∨ byF (f1 cl[j]!) cl i = true))
def fr_10m (lw : List W3) (Aw : Option Addr) (kw : Nat) (cl : List C10) (Ac : Option Addr) (kc : Nat) (Ag : Option Addr) (kg : Nat) (bs : List Bool) (i : Nat) (z2 : Nat → Value) (k : Nat) (x : fr_10X) : Nat := cl.length - (x.2)
def fr_10F (lw : List W3) (Aw : Option Addr) (kw : Nat) (cl : List C10) (Ac : Option Addr) (kc : Nat) (Ag : Option Addr) (kg : Nat) (bs : List Bool) (i : Nat) (z2 : Nat → Value) (k : Nat) (w : World) (x : fr_10X) : List Asrt := [old w]
abbrev fr_10I (lw : List W3) (Aw : Option Addr) (kw : Nat) (cl : List C10) (Ac : Option Addr) (kc : Nat) (Ag : Option Addr) (kg : Nat) (bs : List Bool) (i : Nat) (z2 : Nat → Value) (k : Nat) (w : World) (x : fr_10X) : Act → World → Prop := Inv (fr_10s lw Aw kw cl Ac kc Ag kg bs i z2 k) (fr_10F lw Aw kw cl Ac kc Ag kg bs i z2 k w) (fr_10k lw Aw kw cl Ac kc Ag kg bs i z2 k) (fr_10m lw Aw kw cl Ac kc Ag kg bs i z2 k) x
def fr_l27 (lw : List W3) (Aw : Option Addr) (kw : Nat) (cl : List C10) (Ac : Option Addr) (kc : Nat) (Ag : Option Addr) (kg : Nat) (i : Nat) (z2 : Nat → Value) (k : Nat) : List Value := [.slice Aw lw.length kw, .slice Ac cl.length kc, .slice Ag cl.length kg, .int .i64 (i : Int), zz, zz, zz, zz, z2 8, .int .i64 (k : Int), .int .i64 0, .int .i64 (k : Int), .slice Aw lw.length kw, .int .i64 ((lw.length : Nat) : Int), .bool false, z2 15]
def fr_b28 (lw : List W3) (Aw : Option Addr) (kw : Nat) (cl : List C10) (Ac : Option Addr) (kc : Nat) (Ag : Option Addr) (kg : Nat) (i : Nat) (z2 : Nat → Value) (k : Nat) : List Value := (fr_l27 lw Aw kw cl Ac kc Ag kg i z2 k) ++ ((fr_l5 z2) ++ (fr_l1 ++ (fr_l2)))
def fr_l29 (lw : List W3) (Aw : Option Addr) (kw : Nat) (cl : List C10) (Ac : Option Addr) (kc : Nat) (Ag : Option Addr) (kg : Nat) (i : Nat) (z2 : Nat → Value) (k : Nat) (z10 : Nat → Value) (q : Nat) : List Value := [.slice Aw lw.length kw, .slice Ac cl.length kc, .slice Ag cl.length kg, .int .i64 (i : Int), zz, zz, zz, zz, z10 8, .int .i64 (k : Int), .int .i64 ((q + 1 : Nat) : Int), .int .i64 (k : Int), .slice Aw lw.length kw, .int .i64 ((lw.length : Nat) : Int), .bool false, z2 15]
def fr_l30 (cl : List C10) (Ac : Option Addr) (kc : Nat) (Ag : Option Addr) (kg : Nat) (z2 : Nat → Value) (q : Nat) : List Value := [z2 16, z2 17, z2 18, z2 19, z2 20, z2 21, z2 22, z2 23, .int .i64 (q : Int), .slice Ac cl.length kc, .int .i64 ((cl.length : Nat) : Int), .bool true, .int .i64 (q : Int), .int .i64 ((q + 1 : Nat) : Int), .slice Ag cl.length kg, .int .i64 (q : Int)]
def fr_l31 (q : Nat) (B13 : Nat) (o14 : Nat) : List Value := [.pointer (some ⟨B13, o14 + q * 1, none⟩), .bool false, .bool false, zz, zz, zz, zz, zz, zz, zz, zz, zz, zz, zz, zz, zz]
def fr_l32 : List Value := [zz, zz, zz, zz, zz, zz, zz, .bool false]
def fr_b33 (lw : List W3) (Aw : Option Addr) (kw : Nat) (cl : List C10) (Ac : Option Addr) (kc : Nat) (Ag : Option Addr) (kg : Nat) (i : Nat) (z2 : Nat → Value) (k : Nat) (z10 : Nat → Value) (q : Nat) (B13 : Nat) (o14 : Nat) : List Value := (fr_l29 lw Aw kw cl Ac kc Ag kg i z2 k z10 q) ++ ((fr_l30 cl Ac kc Ag kg z2 q) ++ ((fr_l31 q B13 o14) ++ (fr_l32)))
def fr_l34 (cl : List C10) (Ac : Option Addr) (kc : Nat) (Ag : Option Addr) (kg : Nat) (z2 : Nat → Value) (z10 : Nat → Value) (q : Nat) : List Value := [z2 16, z2 17, z2 18, z2 19, z2 20, z2 21, z2 22, z2 23, .int .i64 (q : Int), .slice Ac cl.length kc, .int .i64 ((cl.length : Nat) : Int), .bool true, z10 28, z10 29, .slice Ag cl.length kg, .int .i64 (q : Int)]
def fr_l35 (cl : List C10) (Ac : Option Addr) (kc : Nat) (z10 : Nat → Value) (q : Nat) (B17 : Nat) (o18 : Nat) (B20 : Nat) (o21 : Nat) : List Value := [.pointer (some ⟨B17, o18 + q * 1, none⟩), .bool true, .bool true, .slice Ac cl.length kc, .int .i64 (q : Int), .pointer (some ⟨B20, o21 + q * 10, none⟩), .pointer (some ⟨B20, o21 + q * 10 + 4, none⟩), .pointer (some ⟨B20, o21 + q * 10 + 4, none⟩), z10 40, z10 41, z10 42, z10 43, z10 44, z10 45, z10 46, z10 47]
def fr_b36 (lw : List W3) (Aw : Option Addr) (kw : Nat) (cl : List C10) (Ac : Option Addr) (kc : Nat) (Ag : Option Addr) (kg : Nat) (i : Nat) (z2 : Nat → Value) (k : Nat) (z10 : Nat → Value) (q : Nat) (B17 : Nat) (o18 : Nat) (B20 : Nat) (o21 : Nat) : List Value := (fr_l16 lw Aw kw cl Ac kc Ag kg i z2 k z10 q) ++ ((fr_l34 cl Ac kc Ag kg z2 z10 q) ++ ((fr_l35 cl Ac kc z10 q B17 o18 B20 o21) ++ ((fr_l19 z10))))
def fr_l37 (lw : List W3) (Aw : Option Addr) (kw : Nat) (cl : List C10) (Ac : Option Addr) (kc : Nat) (Ag : Option Addr) (kg : Nat) (i : Nat) (z2 : Nat → Value) (k : Nat) (q : Nat) : List Value := [.slice Aw lw.length kw, .slice Ac cl.length kc, .slice Ag cl.length kg, .int .i64 (i : Int), zz, zz, zz, zz, .bool true, .int .i64 (k : Int), .int .i64 (q : Int), .int .i64 (k : Int), .slice Aw lw.length kw, .int .i64 ((lw.length : Nat) : Int), .bool false, z2 15]
def fr_l38 (cl : List C10) (Ac : Option Addr) (kc : Nat) (i : Nat) (q : Nat) (B17 : Nat) (o18 : Nat) (B20 : Nat) (o21 : Nat) : List Value := [.pointer (some ⟨B17, o18 + q * 1, none⟩), .bool true, .bool true, .slice Ac cl.length kc, .int .i64 (q : Int), .pointer (some ⟨B20, o21 + q * 10, none⟩), .pointer (some ⟨B20, o21 + q * 10 + 4, none⟩), .pointer (some ⟨B20, o21 + q * 10 + 4, none⟩), .agg #[.int .i64 ((cl[q]!).2.2.2.2.1), .int .i64 ((cl[q]!).2.2.2.2.2.1), .int .i64 ((cl[q]!).2.2.2.2.2.2.1)], .slice Ac cl.length kc, .int .i64 (i : Int), .bool true, .bool true, zz, zz, zz]
def fr_l39 : List Value := [zz, zz, zz, zz, zz, zz, .bool true, .bool true]
def fr_b40 (lw : List W3) (Aw : Option Addr) (kw : Nat) (cl : List C10) (Ac : Option Addr) (kc : Nat) (Ag : Option Addr) (kg : Nat) (i : Nat) (z2 : Nat → Value) (k : Nat) (z10 : Nat → Value) (q : Nat) (B17 : Nat) (o18 : Nat) (B20 : Nat) (o21 : Nat) : List Value := (fr_l37 lw Aw kw cl Ac kc Ag kg i z2 k q) ++ ((fr_l34 cl Ac kc Ag kg z2 z10 q) ++ ((fr_l38 cl Ac kc i q B17 o18 B20 o21) ++ (fr_l39)))
def fr_l41 (cl : List C10) (Ac : Option Addr) (kc : Nat) (z10 : Nat → Value) (q : Nat) (B26 : Nat) (o27 : Nat) (B29 : Nat) (o30 : Nat) : List Value := [.pointer (some ⟨B26, o27 + q * 1, none⟩), .bool true, .bool true, .slice Ac cl.length kc, .int .i64 (q : Int), .pointer (some ⟨B29, o30 + q * 10, none⟩), .pointer (some ⟨B29, o30 + q * 10 + 4, none⟩), .pointer (some ⟨B29, o30 + q * 10 + 4, none⟩), z10 40, z10 41, z10 42, z10 43, z10 44, z10 45, z10 46, z10 47]
def fr_b42 (lw : List W3) (Aw : Option Addr) (kw : Nat) (cl : List C10) (Ac : Option Addr) (kc : Nat) (Ag : Option Addr) (kg : Nat) (i : Nat) (z2 : Nat → Value) (k : Nat) (z10 : Nat → Value) (q : Nat) (B26 : Nat) (o27 : Nat) (B29 : Nat) (o30 : Nat) : List Value := (fr_l16 lw Aw kw cl Ac kc Ag kg i z2 k z10 q) ++ ((fr_l34 cl Ac kc Ag kg z2 z10 q) ++ ((fr_l41 cl Ac kc z10 q B26 o27 B29 o30) ++ ((fr_l19 z10))))
def fr_l43 (cl : List C10) (Ac : Option Addr) (kc : Nat) (i : Nat) (q : Nat) (B26 : Nat) (o27 : Nat) (B29 : Nat) (o30 : Nat) (B34 : Nat) (o35 : Nat) : List Value := [.pointer (some ⟨B26, o27 + q * 1, none⟩), .bool true, .bool true, .slice Ac cl.length kc, .int .i64 (q : Int), .pointer (some ⟨B29, o30 + q * 10, none⟩), .pointer (some ⟨B29, o30 + q * 10 + 4, none⟩), .pointer (some ⟨B29, o30 + q * 10 + 4, none⟩), .agg #[.int .i64 ((cl[q]!).2.2.2.2.1), .int .i64 ((cl[q]!).2.2.2.2.2.1), .int .i64 ((cl[q]!).2.2.2.2.2.2.1)], .slice Ac cl.length kc, .int .i64 (i : Int), .bool false, .bool false, .slice Ac cl.length kc, .int .i64 (q : Int), .pointer (some ⟨B34, o35 + q * 10, none⟩)]
def fr_l44 (cl : List C10) (Ac : Option Addr) (kc : Nat) (i : Nat) (z10 : Nat → Value) (q : Nat) (B34 : Nat) (o35 : Nat) : List Value := [.pointer (some ⟨B34, o35 + q * 10 + 4, none⟩), .pointer (some ⟨B34, o35 + q * 10 + 7, none⟩), .agg #[.int .i64 ((cl[q]!).2.2.2.2.2.2.2.1), .int .i64 ((cl[q]!).2.2.2.2.2.2.2.2.1), .int .i64 ((cl[q]!).2.2.2.2.2.2.2.2.2)], .slice Ac cl.length kc, .int .i64 (i : Int), z10 53, z10 54, z10 55]
def fr_b45 (lw : List W3) (Aw : Option Addr) (kw : Nat) (cl : List C10) (Ac : Option Addr) (kc : Nat) (Ag : Option Addr) (kg : Nat) (i : Nat) (z2 : Nat → Value) (k : Nat) (z10 : Nat → Value) (q : Nat) (B26 : Nat) (o27 : Nat) (B29 : Nat) (o30 : Nat) (B34 : Nat) (o35 : Nat) : List Value := (fr_l16 lw Aw kw cl Ac kc Ag kg i z2 k z10 q) ++ ((fr_l34 cl Ac kc Ag kg z2 z10 q) ++ ((fr_l43 cl Ac kc i q B26 o27 B29 o30 B34 o35) ++ ((fr_l44 cl Ac kc i z10 q B34 o35))))
def fr_l46 (cl : List C10) (Ac : Option Addr) (kc : Nat) (z10 : Nat → Value) (q : Nat) (B40 : Nat) (o41 : Nat) (B43 : Nat) (o44 : Nat) : List Value := [.pointer (some ⟨B40, o41 + q * 1, none⟩), .bool true, .bool true, .slice Ac cl.length kc, .int .i64 (q : Int), .pointer (some ⟨B43, o44 + q * 10, none⟩), .pointer (some ⟨B43, o44 + q * 10 + 4, none⟩), .pointer (some ⟨B43, o44 + q * 10 + 4, none⟩), z10 40, z10 41, z10 42, z10 43, z10 44, z10 45, z10 46, z10 47]
def fr_b47 (lw : List W3) (Aw : Option Addr) (kw : Nat) (cl : List C10) (Ac : Option Addr) (kc : Nat) (Ag : Option Addr) (kg : Nat) (i : Nat) (z2 : Nat → Value) (k : Nat) (z10 : Nat → Value) (q : Nat) (B40 : Nat) (o41 : Nat) (B43 : Nat) (o44 : Nat) : List Value := (fr_l16 lw Aw kw cl Ac kc Ag kg i z2 k z10 q) ++ ((fr_l34 cl Ac kc Ag kg z2 z10 q) ++ ((fr_l46 cl Ac kc z10 q B40 o41 B43 o44) ++ ((fr_l19 z10))))
def fr_l48 (cl : List C10) (Ac : Option Addr) (kc : Nat) (i : Nat) (q : Nat) (B40 : Nat) (o41 : Nat) (B43 : Nat) (o44 : Nat) (B48 : Nat) (o49 : Nat) : List Value := [.pointer (some ⟨B40, o41 + q * 1, none⟩), .bool true, .bool true, .slice Ac cl.length kc, .int .i64 (q : Int), .pointer (some ⟨B43, o44 + q * 10, none⟩), .pointer (some ⟨B43, o44 + q * 10 + 4, none⟩), .pointer (some ⟨B43, o44 + q * 10 + 4, none⟩), .agg #[.int .i64 ((cl[q]!).2.2.2.2.1), .int .i64 ((cl[q]!).2.2.2.2.2.1), .int .i64 ((cl[q]!).2.2.2.2.2.2.1)], .slice Ac cl.length kc, .int .i64 (i : Int), .bool false, .bool false, .slice Ac cl.length kc, .int .i64 (q : Int), .pointer (some ⟨B48, o49 + q * 10, none⟩)]
def fr_l49 (cl : List C10) (Ac : Option Addr) (kc : Nat) (i : Nat) (z10 : Nat → Value) (q : Nat) (B48 : Nat) (o49 : Nat) : List Value := [.pointer (some ⟨B48, o49 + q * 10 + 4, none⟩), .pointer (some ⟨B48, o49 + q * 10 + 7, none⟩), .agg #[.int .i64 ((cl[q]!).2.2.2.2.2.2.2.1), .int .i64 ((cl[q]!).2.2.2.2.2.2.2.2.1), .int .i64 ((cl[q]!).2.2.2.2.2.2.2.2.2)], .slice Ac cl.length kc, .int .i64 (i : Int), z10 53, z10 54, z10 55]
def fr_b50 (lw : List W3) (Aw : Option Addr) (kw : Nat) (cl : List C10) (Ac : Option Addr) (kc : Nat) (Ag : Option Addr) (kg : Nat) (i : Nat) (z2 : Nat → Value) (k : Nat) (z10 : Nat → Value) (q : Nat) (B40 : Nat) (o41 : Nat) (B43 : Nat) (o44 : Nat) (B48 : Nat) (o49 : Nat) : List Value := (fr_l16 lw Aw kw cl Ac kc Ag kg i z2 k z10 q) ++ ((fr_l34 cl Ac kc Ag kg z2 z10 q) ++ ((fr_l48 cl Ac kc i q B40 o41 B43 o44 B48 o49) ++ ((fr_l49 cl Ac kc i z10 q B48 o49))))
set_option maxHeartbeats 8000000 in
set_option maxRecDepth 100000 in
theorem from_is {w : World} {lw : List W3} {Aw : Option Addr} {kw : Nat} (hw : Rd w (.slice Aw lw.length kw) 3 encT35 lw) (hlw : lw.length ≤ 1000) {cl : List C10} {Ac : Option Addr} {kc : Nat} (hc : Rd w (.slice Ac cl.length kc) 10 encT38 cl) (hcl : cl.length ≤ 1000) {bs : List Bool} {Ag : Option Addr} {kg : Nat} (hg : Rd w (.slice Ag cl.length kg) 1 encT4 bs) (hbl : bs.length = cl.length) {i : Nat} (hi : i < cl.length) : Calls Try.prog 35 #[.slice Aw lw.length kw, .slice Ac cl.length kc, .slice Ag cl.length kg, .int .i64 (i : Int)] w fun e w' => e = .returned (.bool (fromB lw cl bs i)) ∧ Below w.heap.size w w' := by
  refine enter (args := [.slice Aw lw.length kw, .slice Ac cl.length kc, .slice Ag cl.length kg, .int .i64 (i : Int)]) (fn := Try.f35) rfl (c := bdy Try.f35) (by kernel_rfl) ?_
  refine ck 2 [] [] fun γ1 => ⟨⟨kt (bdy Try.f35) [1, 0, 1, 0] [], (fr_b3 lw Aw kw cl Ac kc Ag kg i), []⟩, [], [], by kernel_rfl, .nil, ?_⟩
  refine lp (fr_2s lw Aw kw cl Ac kc Ag kg i) (fr_2F lw Aw kw cl Ac kc Ag kg i w) (fr_2k lw Aw kw cl Ac kc Ag kg i) (fr_2m lw Aw kw cl Ac kc Ag kg i) ((fun mm => ((fr_b3 lw Aw kw cl Ac kc Ag kg i)).getD mm zz, 0)) (kt (bdy Try.f35) [1, 0, 1, 0] []) ⟨Nat.zero_le _, fun j hj => absurd hj (Nat.not_lt_zero j)⟩ rfl ?_
  rintro ⟨z2, k⟩ hok
  obtain ⟨hk, hno⟩ : k ≤ lw.length ∧ ∀ j, j < k → byF lw[j]! cl i = false := hok
  refine st1 (ktl [] (fr_2I lw Aw kw cl Ac kc Ag kg i w (z2, k)) (kt (bdy Try.f35) [1, 0, 1, 0] [])) ((fr_b6 lw Aw kw cl Ac kc Ag kg i z2 k)) [] ?_
  by_cases hin : k < lw.length
  · skip
    refine ck 6 [] [(3, .bool true)] fun γ3 => ⟨⟨ktl [1, 0, 0, 0, 2] (fr_2I lw Aw kw cl Ac kc Ag kg i w (z2, k)) (kt (bdy Try.f35) [1, 0, 1, 0] []), upv (fr_b6 lw Aw kw cl Ac kc Ag kg i z2 k) [(11, .int .i64 (k : Int)), (12, .slice Aw lw.length kw), (13, .int .i64 ((lw.length : Nat) : Int)), (14, .bool true), (17, .slice Aw lw.length kw), (18, .int .i64 (k : Int))], []⟩, [], [Value.bool (decide (((k : Int) : Int) < ((lw.length : Nat) : Int))) = .bool true], by kernel_rfl, (.cons (cbT (by omega)) .nil), ?_⟩
    refine ixs (fun W hW => (hw.below (hW.old 0 rfl))) k (by first | omega | decide) (fun B4 o5 hB4 => ?_)
    refine ldr (n := 3) (row := true) [.int .i64 ((lw[k]!).1), .int .i64 ((lw[k]!).2.1), .int .i64 ((lw[k]!).2.2)] (fun W hW => ((Rd.atE (hw.below (hW.old 0 rfl)) hB4 (by first | omega | simp))).ld (i := k) (by first | omega | simp) 0 [.int .i64 ((lw[k]!).1), .int .i64 ((lw[k]!).2.1), .int .i64 ((lw[k]!).2.2)] rfl) ?_
    refine ck 2 [] [] fun γ6 => ⟨⟨ktl [1, 0, 0, 0, 6] (fr_2I lw Aw kw cl Ac kc Ag kg i w (z2, k)) (kt (bdy Try.f35) [1, 0, 1, 0] []), upv (fr_b6 lw Aw kw cl Ac kc Ag kg i z2 k) [(11, .int .i64 (k : Int)), (12, .slice Aw lw.length kw), (13, .int .i64 ((lw.length : Nat) : Int)), (14, .bool true), (17, .slice Aw lw.length kw), (18, .int .i64 (k : Int)), (19, .pointer (some ⟨B4, o5 + k * 3, none⟩)), (20, .agg #[.int .i64 ((lw[k]!).1), .int .i64 ((lw[k]!).2.1), .int .i64 ((lw[k]!).2.2)]), (21, .slice Ac cl.length kc), (22, .int .i64 (i : Int))], []⟩, [], [], by kernel_rfl, .nil, ?_⟩
    cases hby : byF lw[k]! cl i
    · skip
      refine cp (fun W hW => by_b (b := false) hby (hc.below (hW.old 0 rfl)) hcl hi) ?_
      refine ck 3 [] [(1, .int .i64 ((k + 1 : Nat) : Int))] fun γ7 => ⟨⟨ktp (fr_2I lw Aw kw cl Ac kc Ag kg i w (z2, k)) (kt (bdy Try.f35) [1, 0, 1, 0] []), (fr_b15 lw Aw kw cl Ac kc Ag kg i z2 k B4 o5), []⟩, [], [Value.int .i64 (IntKind.wrap .i64 ((k : Int) + 1)) = .int .i64 ((k + 1 : Nat) : Int)], by kernel_rfl, (.cons (congrArg (Value.int .i64) (by rw [IntKind.wrap_i64]; omega)) .nil), ?_⟩
      exact nx (st := fr_2s lw Aw kw cl Ac kc Ag kg i) (F' := fr_2F lw Aw kw cl Ac kc Ag kg i w) (ok := fr_2k lw Aw kw cl Ac kc Ag kg i) (μ := fr_2m lw Aw kw cl Ac kc Ag kg i) (x := (z2, k)) (fun mm => ((fr_b15 lw Aw kw cl Ac kc Ag kg i z2 k B4 o5)).getD mm zz, (k + 1)) (show (k + 1) ≤ lw.length ∧ ∀ j, j < (k + 1) → byF lw[j]! cl i = false from ⟨by omega, fun j hj => by rcases Nat.lt_succ_iff_lt_or_eq.1 hj with h | h; exact hno j h; subst h; exact hby⟩) (by show _ < _; simp only [fr_2m]; omega) 0 0 rfl
    · skip
      refine cp (fun W hW => by_b (b := true) hby (hc.below (hW.old 0 rfl)) hcl hi) ?_
      refine ck 1 [] [] fun γ8 => ⟨⟨ktl [1, 0, 0, 1, 0, 1] (fr_2I lw Aw kw cl Ac kc Ag kg i w (z2, k)) (kt (bdy Try.f35) [1, 0, 1, 0] []), upv (fr_b6 lw Aw kw cl Ac kc Ag kg i z2 k) [(8, .bool true), (11, .int .i64 (k : Int)), (12, .slice Aw lw.length kw), (13, .int .i64 ((lw.length : Nat) : Int)), (14, .bool true), (17, .slice Aw lw.length kw), (18, .int .i64 (k : Int)), (19, .pointer (some ⟨B4, o5 + k * 3, none⟩)), (20, .agg #[.int .i64 ((lw[k]!).1), .int .i64 ((lw[k]!).2.1), .int .i64 ((lw[k]!).2.2)]), (21, .slice Ac cl.length kc), (22, .int .i64 (i : Int)), (23, .bool true)], []⟩, [], [], by kernel_rfl, .nil, ?_⟩
      refine rt (.bool true) [] [] (fun W hW => ?_)
      have hyes : FromP lw cl bs i := .inl ⟨k, hin, hby⟩
      rw [from_t hyes]
      exact ⟨rfl, (hW.old 0 rfl)⟩
  · skip
    refine ck 5 [] [(3, .bool false)] fun γ9 => ⟨⟨kt (bdy Try.f35) [1, 1, 0, 1, 0] [], upv (fr_b6 lw Aw kw cl Ac kc Ag kg i z2 k) [(10, .int .i64 0), (11, .int .i64 (k : Int)), (12, .slice Aw lw.length kw), (13, .int .i64 ((lw.length : Nat) : Int)), (14, .bool false)], []⟩, [], [Value.bool (decide (((k : Int) : Int) < ((lw.length : Nat) : Int))) = .bool false], by kernel_rfl, (.cons (cbF (by omega)) .nil), ?_⟩
    refine lp (fr_10s lw Aw kw cl Ac kc Ag kg bs i z2 k) (fr_10F lw Aw kw cl Ac kc Ag kg bs i z2 k w) (fr_10k lw Aw kw cl Ac kc Ag kg bs i z2 k) (fr_10m lw Aw kw cl Ac kc Ag kg bs i z2 k) ((fun mm => ((fr_b28 lw Aw kw cl Ac kc Ag kg i z2 k)).getD mm zz, 0)) (kt (bdy Try.f35) [1, 1, 0, 1, 0] []) ⟨Nat.zero_le _, fun j hj => absurd hj (Nat.not_lt_zero j)⟩ rfl ?_
    rintro ⟨z10, q⟩ hok
    obtain ⟨hk2, hno2⟩ : q ≤ cl.length ∧ ∀ j, j < q → ¬ (bs[j]! = true ∧ (byF (f0 cl[j]!) cl i = true ∨ byF (f1 cl[j]!) cl i = true)) := hok
    refine st1 (ktl [] (fr_10I lw Aw kw cl Ac kc Ag kg bs i z2 k w (z10, q)) (kt (bdy Try.f35) [1, 1, 0, 1, 0] [])) ((fr_b20 lw Aw kw cl Ac kc Ag kg i z2 k z10 q)) [] ?_
    by_cases hin2 : q < cl.length
    · skip
      refine ck 4 [] [(3, .bool true)] fun γ11 => ⟨⟨ktl [1, 0, 0, 0, 0] (fr_10I lw Aw kw cl Ac kc Ag kg bs i z2 k w (z10, q)) (kt (bdy Try.f35) [1, 1, 0, 1, 0] []), upv (fr_b20 lw Aw kw cl Ac kc Ag kg i z2 k z10 q) [(24, .int .i64 (q : Int)), (25, .slice Ac cl.length kc), (26, .int .i64 ((cl.length : Nat) : Int)), (27, .bool true)], []⟩, [], [Value.bool (decide (((q : Int) : Int) < ((cl.length : Nat) : Int))) = .bool true], by kernel_rfl, (.cons (cbT (by omega)) .nil), ?_⟩
      have hq : bs[q]! = false ∨ (bs[q]! = true ∧ byF (f0 cl[q]!) cl i = true) ∨ (bs[q]! = true ∧ byF (f0 cl[q]!) cl i = false ∧ byF (f1 cl[q]!) cl i = true) ∨ (bs[q]! = true ∧ byF (f0 cl[q]!) cl i = false ∧ byF (f1 cl[q]!) cl i = false) := by
        cases bs[q]! <;> cases byF (f0 cl[q]!) cl i <;> cases byF (f1 cl[q]!) cl i <;> simp
      rcases hq with hq | hq | hq | hq
      · skip
        have hq2 : ¬ (bs[q]! = true ∧ (byF (f0 cl[q]!) cl i = true ∨ byF (f1 cl[q]!) cl i = true)) := fun h => by rw [hq] at h; cases h.1
        refine ck 2 [] [] fun γ12 => ⟨⟨ktl [1, 0, 0, 0, 2] (fr_10I lw Aw kw cl Ac kc Ag kg bs i z2 k w (z10, q)) (kt (bdy Try.f35) [1, 1, 0, 1, 0] []), upv (fr_b20 lw Aw kw cl Ac kc Ag kg i z2 k z10 q) [(24, .int .i64 (q : Int)), (25, .slice Ac cl.length kc), (26, .int .i64 ((cl.length : Nat) : Int)), (27, .bool true), (30, .slice Ag cl.length kg), (31, .int .i64 (q : Int))], []⟩, [], [], by kernel_rfl, .nil, ?_⟩
        refine ixs (fun W hW => (hg.below (hW.old 0 rfl))) q (by first | omega | decide) (fun B13 o14 hB13 => ?_)
        refine ldr (n := 1) (row := false) [.bool false] (fun W hW => ((Rd.atE (hg.below (hW.old 0 rfl)) hB13 (by first | omega | simp))).ld (i := q) (by first | omega | simp) 0 [.bool false] (by rw [hq]; rfl)) ?_
        refine ck 25 [] [(23, .int .i64 ((q + 1 : Nat) : Int))] fun γ15 => ⟨⟨ktp (fr_10I lw Aw kw cl Ac kc Ag kg bs i z2 k w (z10, q)) (kt (bdy Try.f35) [1, 1, 0, 1, 0] []), (fr_b33 lw Aw kw cl Ac kc Ag kg i z2 k z10 q B13 o14), []⟩, [], [Value.int .i64 (IntKind.wrap .i64 ((q : Int) + 1)) = .int .i64 ((q + 1 : Nat) : Int)], by kernel_rfl, (.cons (congrArg (Value.int .i64) (by rw [IntKind.wrap_i64]; omega)) .nil), ?_⟩
        exact nx (st := fr_10s lw Aw kw cl Ac kc Ag kg bs i z2 k) (F' := fr_10F lw Aw kw cl Ac kc Ag kg bs i z2 k w) (ok := fr_10k lw Aw kw cl Ac kc Ag kg bs i z2 k) (μ := fr_10m lw Aw kw cl Ac kc Ag kg bs i z2 k) (x := (z10, q)) (fun mm => ((fr_b33 lw Aw kw cl Ac kc Ag kg i z2 k z10 q B13 o14)).getD mm zz, (q + 1)) (show (q + 1) ≤ cl.length ∧ ∀ j, j < (q + 1) → ¬ (bs[j]! = true ∧ (byF (f0 cl[j]!) cl i = true ∨ byF (f1 cl[j]!) cl i = true)) from ⟨by omega, fun j hj => by rcases Nat.lt_succ_iff_lt_or_eq.1 hj with h | h; exact hno2 j h; subst h; exact hq2⟩) (by show _ < _; simp only [fr_10m]; omega) 0 0 rfl
      · skip
        have hyes : FromP lw cl bs i := .inr ⟨q, hin2, hq.1, .inl hq.2⟩
        refine ck 2 [] [] fun γ16 => ⟨⟨ktl [1, 0, 0, 0, 2] (fr_10I lw Aw kw cl Ac kc Ag kg bs i z2 k w (z10, q)) (kt (bdy Try.f35) [1, 1, 0, 1, 0] []), upv (fr_b20 lw Aw kw cl Ac kc Ag kg i z2 k z10 q) [(24, .int .i64 (q : Int)), (25, .slice Ac cl.length kc), (26, .int .i64 ((cl.length : Nat) : Int)), (27, .bool true), (30, .slice Ag cl.length kg), (31, .int .i64 (q : Int))], []⟩, [], [], by kernel_rfl, .nil, ?_⟩
        refine ixs (fun W hW => (hg.below (hW.old 0 rfl))) q (by first | omega | decide) (fun B17 o18 hB17 => ?_)
        refine ldr (n := 1) (row := false) [.bool true] (fun W hW => ((Rd.atE (hg.below (hW.old 0 rfl)) hB17 (by first | omega | simp))).ld (i := q) (by first | omega | simp) 0 [.bool true] (by rw [hq.1]; rfl)) ?_
        refine ck 3 [] [] fun γ19 => ⟨⟨ktl [1, 0, 0, 0, 7] (fr_10I lw Aw kw cl Ac kc Ag kg bs i z2 k w (z10, q)) (kt (bdy Try.f35) [1, 1, 0, 1, 0] []), upv (fr_b20 lw Aw kw cl Ac kc Ag kg i z2 k z10 q) [(24, .int .i64 (q : Int)), (25, .slice Ac cl.length kc), (26, .int .i64 ((cl.length : Nat) : Int)), (27, .bool true), (30, .slice Ag cl.length kg), (31, .int .i64 (q : Int)), (32, .pointer (some ⟨B17, o18 + q * 1, none⟩)), (33, .bool true), (34, .bool true), (35, .slice Ac cl.length kc), (36, .int .i64 (q : Int))], []⟩, [], [], by kernel_rfl, .nil, ?_⟩
        refine ixs (fun W hW => (hc.below (hW.old 0 rfl))) q (by first | omega | decide) (fun B20 o21 hB20 => ?_)
        refine ck 2 [] [] fun γ22 => ⟨⟨ktl [1, 0, 0, 0, 10] (fr_10I lw Aw kw cl Ac kc Ag kg bs i z2 k w (z10, q)) (kt (bdy Try.f35) [1, 1, 0, 1, 0] []), (fr_b36 lw Aw kw cl Ac kc Ag kg i z2 k z10 q B17 o18 B20 o21), []⟩, [], [], by kernel_rfl, .nil, ?_⟩
        refine ldr (n := 3) (row := true) [.int .i64 ((cl[q]!).2.2.2.2.1), .int .i64 ((cl[q]!).2.2.2.2.2.1), .int .i64 ((cl[q]!).2.2.2.2.2.2.1)] (fun W hW => ((Rd.atE (hc.below (hW.old 0 rfl)) hB20 (by first | omega | simp))).ld (i := q) (by first | omega | simp) 4 [.int .i64 ((cl[q]!).2.2.2.2.1), .int .i64 ((cl[q]!).2.2.2.2.2.1), .int .i64 ((cl[q]!).2.2.2.2.2.2.1)] rfl) ?_
        refine ck 2 [] [] fun γ23 => ⟨⟨ktl [1, 0, 0, 0, 13] (fr_10I lw Aw kw cl Ac kc Ag kg bs i z2 k w (z10, q)) (kt (bdy Try.f35) [1, 1, 0, 1, 0] []), upv (fr_b36 lw Aw kw cl Ac kc Ag kg i z2 k z10 q B17 o18 B20 o21) [(40, .agg #[.int .i64 ((cl[q]!).2.2.2.2.1), .int .i64 ((cl[q]!).2.2.2.2.2.1), .int .i64 ((cl[q]!).2.2.2.2.2.2.1)]), (41, .slice Ac cl.length kc), (42, .int .i64 (i : Int))], []⟩, [], [], by kernel_rfl, .nil, ?_⟩
        refine cp (fun W hW => by_b (b := true) hq.2 (hc.below (hW.old 0 rfl)) hcl hi) ?_
        refine ck 13 [] [] fun γ24 => ⟨⟨ktl [1, 0, 0, 1, 0, 1] (fr_10I lw Aw kw cl Ac kc Ag kg bs i z2 k w (z10, q)) (kt (bdy Try.f35) [1, 1, 0, 1, 0] []), (fr_b40 lw Aw kw cl Ac kc Ag kg i z2 k z10 q B17 o18 B20 o21), []⟩, [], [], by kernel_rfl, .nil, ?_⟩
        refine rt (.bool true) [] [] (fun W hW => ?_)
        have hyes : FromP lw cl bs i := hyes
        rw [from_t hyes]
        exact ⟨rfl, (hW.old 0 rfl)⟩
      · skip
        have hyes : FromP lw cl bs i := .inr ⟨q, hin2, hq.1, .inr hq.2.2⟩
        refine ck 2 [] [] fun γ25 => ⟨⟨ktl [1, 0, 0, 0, 2] (fr_10I lw Aw kw cl Ac kc Ag kg bs i z2 k w (z10, q)) (kt (bdy Try.f35) [1, 1, 0, 1, 0] []), upv (fr_b20 lw Aw kw cl Ac kc Ag kg i z2 k z10 q) [(24, .int .i64 (q : Int)), (25, .slice Ac cl.length kc), (26, .int .i64 ((cl.length : Nat) : Int)), (27, .bool true), (30, .slice Ag cl.length kg), (31, .int .i64 (q : Int))], []⟩, [], [], by kernel_rfl, .nil, ?_⟩
        refine ixs (fun W hW => (hg.below (hW.old 0 rfl))) q (by first | omega | decide) (fun B26 o27 hB26 => ?_)
        refine ldr (n := 1) (row := false) [.bool true] (fun W hW => ((Rd.atE (hg.below (hW.old 0 rfl)) hB26 (by first | omega | simp))).ld (i := q) (by first | omega | simp) 0 [.bool true] (by rw [hq.1]; rfl)) ?_
        refine ck 3 [] [] fun γ28 => ⟨⟨ktl [1, 0, 0, 0, 7] (fr_10I lw Aw kw cl Ac kc Ag kg bs i z2 k w (z10, q)) (kt (bdy Try.f35) [1, 1, 0, 1, 0] []), upv (fr_b20 lw Aw kw cl Ac kc Ag kg i z2 k z10 q) [(24, .int .i64 (q : Int)), (25, .slice Ac cl.length kc), (26, .int .i64 ((cl.length : Nat) : Int)), (27, .bool true), (30, .slice Ag cl.length kg), (31, .int .i64 (q : Int)), (32, .pointer (some ⟨B26, o27 + q * 1, none⟩)), (33, .bool true), (34, .bool true), (35, .slice Ac cl.length kc), (36, .int .i64 (q : Int))], []⟩, [], [], by kernel_rfl, .nil, ?_⟩
        refine ixs (fun W hW => (hc.below (hW.old 0 rfl))) q (by first | omega | decide) (fun B29 o30 hB29 => ?_)
        refine ck 2 [] [] fun γ31 => ⟨⟨ktl [1, 0, 0, 0, 10] (fr_10I lw Aw kw cl Ac kc Ag kg bs i z2 k w (z10, q)) (kt (bdy Try.f35) [1, 1, 0, 1, 0] []), (fr_b42 lw Aw kw cl Ac kc Ag kg i z2 k z10 q B26 o27 B29 o30), []⟩, [], [], by kernel_rfl, .nil, ?_⟩
        refine ldr (n := 3) (row := true) [.int .i64 ((cl[q]!).2.2.2.2.1), .int .i64 ((cl[q]!).2.2.2.2.2.1), .int .i64 ((cl[q]!).2.2.2.2.2.2.1)] (fun W hW => ((Rd.atE (hc.below (hW.old 0 rfl)) hB29 (by first | omega | simp))).ld (i := q) (by first | omega | simp) 4 [.int .i64 ((cl[q]!).2.2.2.2.1), .int .i64 ((cl[q]!).2.2.2.2.2.1), .int .i64 ((cl[q]!).2.2.2.2.2.2.1)] rfl) ?_
        refine ck 2 [] [] fun γ32 => ⟨⟨ktl [1, 0, 0, 0, 13] (fr_10I lw Aw kw cl Ac kc Ag kg bs i z2 k w (z10, q)) (kt (bdy Try.f35) [1, 1, 0, 1, 0] []), upv (fr_b42 lw Aw kw cl Ac kc Ag kg i z2 k z10 q B26 o27 B29 o30) [(40, .agg #[.int .i64 ((cl[q]!).2.2.2.2.1), .int .i64 ((cl[q]!).2.2.2.2.2.1), .int .i64 ((cl[q]!).2.2.2.2.2.2.1)]), (41, .slice Ac cl.length kc), (42, .int .i64 (i : Int))], []⟩, [], [], by kernel_rfl, .nil, ?_⟩
        refine cp (fun W hW => by_b (b := false) hq.2.1 (hc.below (hW.old 0 rfl)) hcl hi) ?_
        refine ck 3 [] [] fun γ33 => ⟨⟨ktl [1, 0, 0, 0, 17] (fr_10I lw Aw kw cl Ac kc Ag kg bs i z2 k w (z10, q)) (kt (bdy Try.f35) [1, 1, 0, 1, 0] []), upv (fr_b42 lw Aw kw cl Ac kc Ag kg i z2 k z10 q B26 o27 B29 o30) [(40, .agg #[.int .i64 ((cl[q]!).2.2.2.2.1), .int .i64 ((cl[q]!).2.2.2.2.2.1), .int .i64 ((cl[q]!).2.2.2.2.2.2.1)]), (41, .slice Ac cl.length kc), (42, .int .i64 (i : Int)), (43, .bool false), (44, .bool false), (45, .slice Ac cl.length kc), (46, .int .i64 (q : Int))], []⟩, [], [], by kernel_rfl, .nil, ?_⟩
        refine ixs (fun W hW => (hc.below (hW.old 0 rfl))) q (by first | omega | decide) (fun B34 o35 hB34 => ?_)
        refine ck 2 [] [] fun γ36 => ⟨⟨ktl [1, 0, 0, 0, 20] (fr_10I lw Aw kw cl Ac kc Ag kg bs i z2 k w (z10, q)) (kt (bdy Try.f35) [1, 1, 0, 1, 0] []), upv (fr_b42 lw Aw kw cl Ac kc Ag kg i z2 k z10 q B26 o27 B29 o30) [(40, .agg #[.int .i64 ((cl[q]!).2.2.2.2.1), .int .i64 ((cl[q]!).2.2.2.2.2.1), .int .i64 ((cl[q]!).2.2.2.2.2.2.1)]), (41, .slice Ac cl.length kc), (42, .int .i64 (i : Int)), (43, .bool false), (44, .bool false), (45, .slice Ac cl.length kc), (46, .int .i64 (q : Int)), (47, .pointer (some ⟨B34, o35 + q * 10, none⟩)), (48, .pointer (some ⟨B34, o35 + q * 10 + 4, none⟩)), (49, .pointer (some ⟨B34, o35 + q * 10 + 7, none⟩))], []⟩, [], [], by kernel_rfl, .nil, ?_⟩
        refine ldr (n := 3) (row := true) [.int .i64 ((cl[q]!).2.2.2.2.2.2.2.1), .int .i64 ((cl[q]!).2.2.2.2.2.2.2.2.1), .int .i64 ((cl[q]!).2.2.2.2.2.2.2.2.2)] (fun W hW => ((Rd.atE (hc.below (hW.old 0 rfl)) hB34 (by first | omega | simp))).ld (i := q) (by first | omega | simp) 7 [.int .i64 ((cl[q]!).2.2.2.2.2.2.2.1), .int .i64 ((cl[q]!).2.2.2.2.2.2.2.2.1), .int .i64 ((cl[q]!).2.2.2.2.2.2.2.2.2)] rfl) ?_
        refine ck 2 [] [] fun γ37 => ⟨⟨ktl [1, 0, 0, 0, 23] (fr_10I lw Aw kw cl Ac kc Ag kg bs i z2 k w (z10, q)) (kt (bdy Try.f35) [1, 1, 0, 1, 0] []), (fr_b45 lw Aw kw cl Ac kc Ag kg i z2 k z10 q B26 o27 B29 o30 B34 o35), []⟩, [], [], by kernel_rfl, .nil, ?_⟩
        refine cp (fun W hW => by_b (b := true) hq.2.2 (hc.below (hW.old 0 rfl)) hcl hi) ?_
        refine ck 3 [] [] fun γ38 => ⟨⟨ktl [1, 0, 0, 1, 0, 1] (fr_10I lw Aw kw cl Ac kc Ag kg bs i z2 k w (z10, q)) (kt (bdy Try.f35) [1, 1, 0, 1, 0] []), upv (fr_b45 lw Aw kw cl Ac kc Ag kg i z2 k z10 q B26 o27 B29 o30 B34 o35) [(8, .bool true), (53, .bool true), (54, .bool true), (55, .bool true)], []⟩, [], [], by kernel_rfl, .nil, ?_⟩
        refine rt (.bool true) [] [] (fun W hW => ?_)
        have hyes : FromP lw cl bs i := hyes
        rw [from_t hyes]
        exact ⟨rfl, (hW.old 0 rfl)⟩
      · skip
        have hq2 : ¬ (bs[q]! = true ∧ (byF (f0 cl[q]!) cl i = true ∨ byF (f1 cl[q]!) cl i = true)) := fun h => by rcases h.2 with h | h; rw [hq.2.1] at h; cases h; rw [hq.2.2] at h; cases h
        refine ck 2 [] [] fun γ39 => ⟨⟨ktl [1, 0, 0, 0, 2] (fr_10I lw Aw kw cl Ac kc Ag kg bs i z2 k w (z10, q)) (kt (bdy Try.f35) [1, 1, 0, 1, 0] []), upv (fr_b20 lw Aw kw cl Ac kc Ag kg i z2 k z10 q) [(24, .int .i64 (q : Int)), (25, .slice Ac cl.length kc), (26, .int .i64 ((cl.length : Nat) : Int)), (27, .bool true), (30, .slice Ag cl.length kg), (31, .int .i64 (q : Int))], []⟩, [], [], by kernel_rfl, .nil, ?_⟩
        refine ixs (fun W hW => (hg.below (hW.old 0 rfl))) q (by first | omega | decide) (fun B40 o41 hB40 => ?_)
        refine ldr (n := 1) (row := false) [.bool true] (fun W hW => ((Rd.atE (hg.below (hW.old 0 rfl)) hB40 (by first | omega | simp))).ld (i := q) (by first | omega | simp) 0 [.bool true] (by rw [hq.1]; rfl)) ?_
        refine ck 3 [] [] fun γ42 => ⟨⟨ktl [1, 0, 0, 0, 7] (fr_10I lw Aw kw cl Ac kc Ag kg bs i z2 k w (z10, q)) (kt (bdy Try.f35) [1, 1, 0, 1, 0] []), upv (fr_b20 lw Aw kw cl Ac kc Ag kg i z2 k z10 q) [(24, .int .i64 (q : Int)), (25, .slice Ac cl.length kc), (26, .int .i64 ((cl.length : Nat) : Int)), (27, .bool true), (30, .slice Ag cl.length kg), (31, .int .i64 (q : Int)), (32, .pointer (some ⟨B40, o41 + q * 1, none⟩)), (33, .bool true), (34, .bool true), (35, .slice Ac cl.length kc), (36, .int .i64 (q : Int))], []⟩, [], [], by kernel_rfl, .nil, ?_⟩
        refine ixs (fun W hW => (hc.below (hW.old 0 rfl))) q (by first | omega | decide) (fun B43 o44 hB43 => ?_)
        refine ck 2 [] [] fun γ45 => ⟨⟨ktl [1, 0, 0, 0, 10] (fr_10I lw Aw kw cl Ac kc Ag kg bs i z2 k w (z10, q)) (kt (bdy Try.f35) [1, 1, 0, 1, 0] []), (fr_b47 lw Aw kw cl Ac kc Ag kg i z2 k z10 q B40 o41 B43 o44), []⟩, [], [], by kernel_rfl, .nil, ?_⟩
        refine ldr (n := 3) (row := true) [.int .i64 ((cl[q]!).2.2.2.2.1), .int .i64 ((cl[q]!).2.2.2.2.2.1), .int .i64 ((cl[q]!).2.2.2.2.2.2.1)] (fun W hW => ((Rd.atE (hc.below (hW.old 0 rfl)) hB43 (by first | omega | simp))).ld (i := q) (by first | omega | simp) 4 [.int .i64 ((cl[q]!).2.2.2.2.1), .int .i64 ((cl[q]!).2.2.2.2.2.1), .int .i64 ((cl[q]!).2.2.2.2.2.2.1)] rfl) ?_
        refine ck 2 [] [] fun γ46 => ⟨⟨ktl [1, 0, 0, 0, 13] (fr_10I lw Aw kw cl Ac kc Ag kg bs i z2 k w (z10, q)) (kt (bdy Try.f35) [1, 1, 0, 1, 0] []), upv (fr_b47 lw Aw kw cl Ac kc Ag kg i z2 k z10 q B40 o41 B43 o44) [(40, .agg #[.int .i64 ((cl[q]!).2.2.2.2.1), .int .i64 ((cl[q]!).2.2.2.2.2.1), .int .i64 ((cl[q]!).2.2.2.2.2.2.1)]), (41, .slice Ac cl.length kc), (42, .int .i64 (i : Int))], []⟩, [], [], by kernel_rfl, .nil, ?_⟩
        refine cp (fun W hW => by_b (b := false) hq.2.1 (hc.below (hW.old 0 rfl)) hcl hi) ?_
        refine ck 3 [] [] fun γ47 => ⟨⟨ktl [1, 0, 0, 0, 17] (fr_10I lw Aw kw cl Ac kc Ag kg bs i z2 k w (z10, q)) (kt (bdy Try.f35) [1, 1, 0, 1, 0] []), upv (fr_b47 lw Aw kw cl Ac kc Ag kg i z2 k z10 q B40 o41 B43 o44) [(40, .agg #[.int .i64 ((cl[q]!).2.2.2.2.1), .int .i64 ((cl[q]!).2.2.2.2.2.1), .int .i64 ((cl[q]!).2.2.2.2.2.2.1)]), (41, .slice Ac cl.length kc), (42, .int .i64 (i : Int)), (43, .bool false), (44, .bool false), (45, .slice Ac cl.length kc), (46, .int .i64 (q : Int))], []⟩, [], [], by kernel_rfl, .nil, ?_⟩
        refine ixs (fun W hW => (hc.below (hW.old 0 rfl))) q (by first | omega | decide) (fun B48 o49 hB48 => ?_)
        refine ck 2 [] [] fun γ50 => ⟨⟨ktl [1, 0, 0, 0, 20] (fr_10I lw Aw kw cl Ac kc Ag kg bs i z2 k w (z10, q)) (kt (bdy Try.f35) [1, 1, 0, 1, 0] []), upv (fr_b47 lw Aw kw cl Ac kc Ag kg i z2 k z10 q B40 o41 B43 o44) [(40, .agg #[.int .i64 ((cl[q]!).2.2.2.2.1), .int .i64 ((cl[q]!).2.2.2.2.2.1), .int .i64 ((cl[q]!).2.2.2.2.2.2.1)]), (41, .slice Ac cl.length kc), (42, .int .i64 (i : Int)), (43, .bool false), (44, .bool false), (45, .slice Ac cl.length kc), (46, .int .i64 (q : Int)), (47, .pointer (some ⟨B48, o49 + q * 10, none⟩)), (48, .pointer (some ⟨B48, o49 + q * 10 + 4, none⟩)), (49, .pointer (some ⟨B48, o49 + q * 10 + 7, none⟩))], []⟩, [], [], by kernel_rfl, .nil, ?_⟩
        refine ldr (n := 3) (row := true) [.int .i64 ((cl[q]!).2.2.2.2.2.2.2.1), .int .i64 ((cl[q]!).2.2.2.2.2.2.2.2.1), .int .i64 ((cl[q]!).2.2.2.2.2.2.2.2.2)] (fun W hW => ((Rd.atE (hc.below (hW.old 0 rfl)) hB48 (by first | omega | simp))).ld (i := q) (by first | omega | simp) 7 [.int .i64 ((cl[q]!).2.2.2.2.2.2.2.1), .int .i64 ((cl[q]!).2.2.2.2.2.2.2.2.1), .int .i64 ((cl[q]!).2.2.2.2.2.2.2.2.2)] rfl) ?_
        refine ck 2 [] [] fun γ51 => ⟨⟨ktl [1, 0, 0, 0, 23] (fr_10I lw Aw kw cl Ac kc Ag kg bs i z2 k w (z10, q)) (kt (bdy Try.f35) [1, 1, 0, 1, 0] []), (fr_b50 lw Aw kw cl Ac kc Ag kg i z2 k z10 q B40 o41 B43 o44 B48 o49), []⟩, [], [], by kernel_rfl, .nil, ?_⟩
        refine cp (fun W hW => by_b (b := false) hq.2.2 (hc.below (hW.old 0 rfl)) hcl hi) ?_
        refine ck 5 [] [(3, .int .i64 ((q + 1 : Nat) : Int))] fun γ52 => ⟨⟨ktp (fr_10I lw Aw kw cl Ac kc Ag kg bs i z2 k w (z10, q)) (kt (bdy Try.f35) [1, 1, 0, 1, 0] []), upv (fr_b50 lw Aw kw cl Ac kc Ag kg i z2 k z10 q B40 o41 B43 o44 B48 o49) [(10, .int .i64 ((q + 1 : Nat) : Int)), (28, .int .i64 (q : Int)), (29, .int .i64 ((q + 1 : Nat) : Int)), (53, .bool false), (54, .bool false), (55, .bool false)], []⟩, [], [Value.int .i64 (IntKind.wrap .i64 ((q : Int) + 1)) = .int .i64 ((q + 1 : Nat) : Int)], by kernel_rfl, (.cons (congrArg (Value.int .i64) (by rw [IntKind.wrap_i64]; omega)) .nil), ?_⟩
        exact nx (st := fr_10s lw Aw kw cl Ac kc Ag kg bs i z2 k) (F' := fr_10F lw Aw kw cl Ac kc Ag kg bs i z2 k w) (ok := fr_10k lw Aw kw cl Ac kc Ag kg bs i z2 k) (μ := fr_10m lw Aw kw cl Ac kc Ag kg bs i z2 k) (x := (z10, q)) (fun mm => (upv (fr_b50 lw Aw kw cl Ac kc Ag kg i z2 k z10 q B40 o41 B43 o44 B48 o49) [(10, .int .i64 ((q + 1 : Nat) : Int)), (28, .int .i64 (q : Int)), (29, .int .i64 ((q + 1 : Nat) : Int)), (53, .bool false), (54, .bool false), (55, .bool false)]).getD mm zz, (q + 1)) (show (q + 1) ≤ cl.length ∧ ∀ j, j < (q + 1) → ¬ (bs[j]! = true ∧ (byF (f0 cl[j]!) cl i = true ∨ byF (f1 cl[j]!) cl i = true)) from ⟨by omega, fun j hj => by rcases Nat.lt_succ_iff_lt_or_eq.1 hj with h | h; exact hno2 j h; subst h; exact hq2⟩) (by show _ < _; simp only [fr_10m]; omega) 0 0 rfl
    · skip
      refine ck 5 [] [(3, .bool false)] fun γ53 => ⟨⟨kt (bdy Try.f35) [1, 1, 1, 1] [], upv (fr_b20 lw Aw kw cl Ac kc Ag kg i z2 k z10 q) [(8, .bool false), (24, .int .i64 (q : Int)), (25, .slice Ac cl.length kc), (26, .int .i64 ((cl.length : Nat) : Int)), (27, .bool false)], []⟩, [], [Value.bool (decide (((q : Int) : Int) < ((cl.length : Nat) : Int))) = .bool false], by kernel_rfl, (.cons (cbF (by omega)) .nil), ?_⟩
      refine rt (.bool false) [] [] (fun W hW => ?_)
      have hnone : ¬ FromP lw cl bs i := by
        rintro (⟨j, hj, hb⟩ | ⟨j, hj, hb⟩)
        · rw [hno j (by omega)] at hb
          cases hb
        · exact hno2 j (by omega) hb
      rw [from_f hnone]
      exact ⟨rfl, (hW.old 0 rfl)⟩
end Go.Proofs.Ythcmcekjgecnhab.Sr
