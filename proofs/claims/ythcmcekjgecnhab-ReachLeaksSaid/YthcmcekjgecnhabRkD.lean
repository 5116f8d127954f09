/- The plain Less and Add; keys held against each other. No condition beside those that each theorem names. -/
import Derived.Test.YthcmcekjgecnhabRkA
import Derived.Test.YthcmcekjgecnhabMachC
namespace Go.Proofs.Ythcmcekjgecnhab.Sr
open Go.RowKit Go.Proofs.YthcmcekjgecnhabM.Mach
set_option linter.unusedVariables false
set_option linter.unusedSimpArgs false
def rless_raw_0_l0 (x1 : Int) (x2 : Int) (y1 : Int) (y2 : Int) (γ1 : Nat → Nat) : List Value := [.agg #[.int .i64 6, .int .i64 x1, .int .i64 x2], .agg #[.int .i64 6, .int .i64 y1, .int .i64 y2], .pointer (some ⟨γ1 0, 0, none⟩), .pointer (some ⟨γ1 1, 0, none⟩), .bool true, .pointer (some ⟨γ1 0, 0, none⟩), .int .i64 6, .pointer (some ⟨γ1 1, 0, none⟩), .int .i64 6, .bool false, zz, zz, zz, zz, zz, .pointer (some ⟨γ1 0, 1, none⟩)]
def rless_raw_0_l1 (x1 : Int) (y1 : Int) (γ1 : Nat → Nat) : List Value := [.int .i64 x1, .pointer (some ⟨γ1 1, 1, none⟩), .int .i64 y1, .bool true, .pointer (some ⟨γ1 0, 1, none⟩), .int .i64 x1, .pointer (some ⟨γ1 1, 1, none⟩), .int .i64 y1, .bool true, zz, zz, zz, zz, zz]
def rless_raw_0_b2 (x1 : Int) (x2 : Int) (y1 : Int) (y2 : Int) (γ1 : Nat → Nat) : List Value := (rless_raw_0_l0 x1 x2 y1 y2 γ1) ++ ((rless_raw_0_l1 x1 y1 γ1))
def rless_raw_0_c3 (y1 : Int) (y2 : Int) : List Value := [.int .i64 6, .int .i64 y1, .int .i64 y2]
def rless_raw_0_c4 (x1 : Int) (x2 : Int) : List Value := [.int .i64 6, .int .i64 x1, .int .i64 x2]
def rless_raw_1_l0 (x1 : Int) (x2 : Int) (y1 : Int) (y2 : Int) (γ1 : Nat → Nat) : List Value := [.agg #[.int .i64 6, .int .i64 x1, .int .i64 x2], .agg #[.int .i64 6, .int .i64 y1, .int .i64 y2], .pointer (some ⟨γ1 0, 0, none⟩), .pointer (some ⟨γ1 1, 0, none⟩), .bool false, .pointer (some ⟨γ1 0, 0, none⟩), .int .i64 6, .pointer (some ⟨γ1 1, 0, none⟩), .int .i64 6, .bool false, zz, zz, zz, zz, zz, .pointer (some ⟨γ1 0, 1, none⟩)]
def rless_raw_1_l1 (x1 : Int) (y1 : Int) (γ1 : Nat → Nat) : List Value := [.int .i64 x1, .pointer (some ⟨γ1 1, 1, none⟩), .int .i64 y1, .bool true, .pointer (some ⟨γ1 0, 1, none⟩), .int .i64 x1, .pointer (some ⟨γ1 1, 1, none⟩), .int .i64 y1, .bool false, zz, zz, zz, zz, zz]
def rless_raw_1_b2 (x1 : Int) (x2 : Int) (y1 : Int) (y2 : Int) (γ1 : Nat → Nat) : List Value := (rless_raw_1_l0 x1 x2 y1 y2 γ1) ++ ((rless_raw_1_l1 x1 y1 γ1))
def rless_raw_1_c3 (y1 : Int) (y2 : Int) : List Value := [.int .i64 6, .int .i64 y1, .int .i64 y2]
def rless_raw_1_c4 (x1 : Int) (x2 : Int) : List Value := [.int .i64 6, .int .i64 x1, .int .i64 x2]
def rless_raw_2_l0 (x1 : Int) (x2 : Int) (y1 : Int) (y2 : Int) (γ1 : Nat → Nat) : List Value := [.agg #[.int .i64 6, .int .i64 x1, .int .i64 x2], .agg #[.int .i64 6, .int .i64 y1, .int .i64 y2], .pointer (some ⟨γ1 0, 0, none⟩), .pointer (some ⟨γ1 1, 0, none⟩), .bool true, .pointer (some ⟨γ1 0, 0, none⟩), .int .i64 6, .pointer (some ⟨γ1 1, 0, none⟩), .int .i64 6, .bool false, zz, zz, zz, zz, zz, .pointer (some ⟨γ1 0, 1, none⟩)]
def rless_raw_2_l1 (x1 : Int) (x2 : Int) (y1 : Int) (y2 : Int) (γ1 : Nat → Nat) : List Value := [.int .i64 x1, .pointer (some ⟨γ1 1, 1, none⟩), .int .i64 y1, .bool false, zz, zz, zz, zz, zz, .pointer (some ⟨γ1 0, 2, none⟩), .int .i64 x2, .pointer (some ⟨γ1 1, 2, none⟩), .int .i64 y2, .bool true]
def rless_raw_2_b2 (x1 : Int) (x2 : Int) (y1 : Int) (y2 : Int) (γ1 : Nat → Nat) : List Value := (rless_raw_2_l0 x1 x2 y1 y2 γ1) ++ ((rless_raw_2_l1 x1 x2 y1 y2 γ1))
def rless_raw_2_c3 (y1 : Int) (y2 : Int) : List Value := [.int .i64 6, .int .i64 y1, .int .i64 y2]
def rless_raw_2_c4 (x1 : Int) (x2 : Int) : List Value := [.int .i64 6, .int .i64 x1, .int .i64 x2]
def rless_raw_3_l0 (x1 : Int) (x2 : Int) (y1 : Int) (y2 : Int) (γ1 : Nat → Nat) : List Value := [.agg #[.int .i64 6, .int .i64 x1, .int .i64 x2], .agg #[.int .i64 6, .int .i64 y1, .int .i64 y2], .pointer (some ⟨γ1 0, 0, none⟩), .pointer (some ⟨γ1 1, 0, none⟩), .bool false, .pointer (some ⟨γ1 0, 0, none⟩), .int .i64 6, .pointer (some ⟨γ1 1, 0, none⟩), .int .i64 6, .bool false, zz, zz, zz, zz, zz, .pointer (some ⟨γ1 0, 1, none⟩)]
def rless_raw_3_l1 (x1 : Int) (x2 : Int) (y1 : Int) (y2 : Int) (γ1 : Nat → Nat) : List Value := [.int .i64 x1, .pointer (some ⟨γ1 1, 1, none⟩), .int .i64 y1, .bool false, zz, zz, zz, zz, zz, .pointer (some ⟨γ1 0, 2, none⟩), .int .i64 x2, .pointer (some ⟨γ1 1, 2, none⟩), .int .i64 y2, .bool false]
def rless_raw_3_b2 (x1 : Int) (x2 : Int) (y1 : Int) (y2 : Int) (γ1 : Nat → Nat) : List Value := (rless_raw_3_l0 x1 x2 y1 y2 γ1) ++ ((rless_raw_3_l1 x1 x2 y1 y2 γ1))
def rless_raw_3_c3 (y1 : Int) (y2 : Int) : List Value := [.int .i64 6, .int .i64 y1, .int .i64 y2]
def rless_raw_3_c4 (x1 : Int) (x2 : Int) : List Value := [.int .i64 6, .int .i64 x1, .int .i64 x2]
set_option maxHeartbeats 8000000 in
set_option maxRecDepth 100000 in
theorem rless_raw (x1 x2 y1 y2 : Int) (w : World) : Calls Try.prog 70 #[.agg #[.int .i64 6, .int .i64 x1, .int .i64 x2], .agg #[.int .i64 6, .int .i64 y1, .int .i64 y2]] w fun e w' => e = .returned (.bool (ltP (6, x1, x2) (6, y1, y2))) ∧ Below w.heap.size w w' := by
  have hc : (x1 < y1) ∨ (y1 < x1) ∨ (x1 = y1 ∧ x2 < y2) ∨ (x1 = y1 ∧ ¬ x2 < y2) := by omega
  rcases hc with hc | hc | hc | hc
  · skip
    refine enter (args := [.agg #[.int .i64 6, .int .i64 x1, .int .i64 x2], .agg #[.int .i64 6, .int .i64 y1, .int .i64 y2]]) (fn := Try.f70) rfl (c := bdy Try.f70) (by kernel_rfl) ?_
    refine ck 19 [(1, 1), (1, 0), (1, 1), (1, 0), (1, 1), (1, 0)] [(12, .bool true), (17, .bool true)] fun γ1 => ⟨⟨kt (bdy Try.f70) [1, 1, 0, 1, 0, 1] [], (rless_raw_0_b2 x1 x2 y1 y2 γ1), [(γ1 1, 71, (rless_raw_0_c3 y1 y2)), (γ1 0, 71, (rless_raw_0_c4 x1 x2))]⟩, [(1, γ1 0), (1, γ1 1), (1, γ1 0), (1, γ1 1), (1, γ1 0), (1, γ1 1)], [Value.bool ((x1 : Int) != y1) = .bool true, Value.bool (decide ((x1 : Int) < y1)) = .bool true], by kernel_rfl, (.cons (cnT (by omega)) (.cons (cbT (by omega)) .nil)), ?_⟩
    refine rt (.bool true) [] [] (fun W hW => ?_)
    have hg : ltP (6, x1, x2) (6, y1, y2) = true := by
      unfold ltP
      exact decide_eq_true (by simp only; omega)
    rw [hg]
    exact ⟨rfl, (hW.old 0 rfl)⟩
  · skip
    refine enter (args := [.agg #[.int .i64 6, .int .i64 x1, .int .i64 x2], .agg #[.int .i64 6, .int .i64 y1, .int .i64 y2]]) (fn := Try.f70) rfl (c := bdy Try.f70) (by kernel_rfl) ?_
    refine ck 19 [(1, 1), (1, 0), (1, 1), (1, 0), (1, 1), (1, 0)] [(12, .bool true), (17, .bool false)] fun γ1 => ⟨⟨kt (bdy Try.f70) [1, 1, 0, 1, 0, 1] [], (rless_raw_1_b2 x1 x2 y1 y2 γ1), [(γ1 1, 71, (rless_raw_1_c3 y1 y2)), (γ1 0, 71, (rless_raw_1_c4 x1 x2))]⟩, [(1, γ1 0), (1, γ1 1), (1, γ1 0), (1, γ1 1), (1, γ1 0), (1, γ1 1)], [Value.bool ((x1 : Int) != y1) = .bool true, Value.bool (decide ((x1 : Int) < y1)) = .bool false], by kernel_rfl, (.cons (cnT (by omega)) (.cons (cbF (by omega)) .nil)), ?_⟩
    refine rt (.bool false) [] [] (fun W hW => ?_)
    have hg : ltP (6, x1, x2) (6, y1, y2) = false := by
      unfold ltP
      exact decide_eq_false (by simp only; omega)
    rw [hg]
    exact ⟨rfl, (hW.old 0 rfl)⟩
  · skip
    refine enter (args := [.agg #[.int .i64 6, .int .i64 x1, .int .i64 x2], .agg #[.int .i64 6, .int .i64 y1, .int .i64 y2]]) (fn := Try.f70) rfl (c := bdy Try.f70) (by kernel_rfl) ?_
    refine ck 19 [(1, 1), (1, 0), (1, 1), (1, 0), (1, 1), (1, 0)] [(12, .bool false), (17, .bool true)] fun γ1 => ⟨⟨kt (bdy Try.f70) [1, 1, 1, 1] [], (rless_raw_2_b2 x1 x2 y1 y2 γ1), [(γ1 1, 71, (rless_raw_2_c3 y1 y2)), (γ1 0, 71, (rless_raw_2_c4 x1 x2))]⟩, [(1, γ1 0), (1, γ1 1), (1, γ1 0), (1, γ1 1), (1, γ1 0), (1, γ1 1)], [Value.bool ((x1 : Int) != y1) = .bool false, Value.bool (decide ((x2 : Int) < y2)) = .bool true], by kernel_rfl, (.cons (cnF (by omega)) (.cons (cbT (by omega)) .nil)), ?_⟩
    refine rt (.bool true) [] [] (fun W hW => ?_)
    have hg : ltP (6, x1, x2) (6, y1, y2) = true := by
      unfold ltP
      exact decide_eq_true (by simp only; omega)
    rw [hg]
    exact ⟨rfl, (hW.old 0 rfl)⟩
  · skip
    refine enter (args := [.agg #[.int .i64 6, .int .i64 x1, .int .i64 x2], .agg #[.int .i64 6, .int .i64 y1, .int .i64 y2]]) (fn := Try.f70) rfl (c := bdy Try.f70) (by kernel_rfl) ?_
    refine ck 19 [(1, 1), (1, 0), (1, 1), (1, 0), (1, 1), (1, 0)] [(12, .bool false), (17, .bool false)] fun γ1 => ⟨⟨kt (bdy Try.f70) [1, 1, 1, 1] [], (rless_raw_3_b2 x1 x2 y1 y2 γ1), [(γ1 1, 71, (rless_raw_3_c3 y1 y2)), (γ1 0, 71, (rless_raw_3_c4 x1 x2))]⟩, [(1, γ1 0), (1, γ1 1), (1, γ1 0), (1, γ1 1), (1, γ1 0), (1, γ1 1)], [Value.bool ((x1 : Int) != y1) = .bool false, Value.bool (decide ((x2 : Int) < y2)) = .bool false], by kernel_rfl, (.cons (cnF (by omega)) (.cons (cbF (by omega)) .nil)), ?_⟩
    refine rt (.bool false) [] [] (fun W hW => ?_)
    have hg : ltP (6, x1, x2) (6, y1, y2) = false := by
      unfold ltP
      exact decide_eq_false (by simp only; omega)
    rw [hg]
    exact ⟨rfl, (hW.old 0 rfl)⟩
theorem rless_b {x0 x1 x2 y0 y1 y2 : Int} {b : Bool} (h6 : x0 = 6) (h7 : y0 = 6) (h : ltP (x0, x1, x2) (y0, y1, y2) = b) (w : World) : Calls Try.prog 70 #[.agg #[.int .i64 x0, .int .i64 x1, .int .i64 x2], .agg #[.int .i64 y0, .int .i64 y1, .int .i64 y2]] w fun e w' => e = .returned (.bool b) ∧ Below w.heap.size w w' := by
  subst h6 h7 h
  exact rless_raw x1 x2 y1 y2 w
def adk_l0 (A : Option Addr) (c : Nat) (o : List P3) (x0 : Int) (x1 : Int) (x2 : Int) (γ1 : Nat → Nat) : List Value := [.slice A o.length c, .agg #[.int .i64 x0, .int .i64 x1, .int .i64 x2], zz, .pointer (some ⟨γ1 0, 0, none⟩), .slice none 0 0, .slice none 0 0, .bool false, .int .i64 0, zz, zz, zz, zz, zz, zz, zz, zz]
def adk_l1 : List Value := [zz, zz, zz, zz, zz, zz, zz, zz, zz, zz, zz, zz, zz, zz, zz, zz]
def adk_l2 : List Value := [zz, zz, zz]
def adk_b3 (A : Option Addr) (c : Nat) (o : List P3) (x0 : Int) (x1 : Int) (x2 : Int) (γ1 : Nat → Nat) : List Value := (adk_l0 A c o x0 x1 x2 γ1) ++ (adk_l1 ++ (adk_l1 ++ (adk_l2)))
def adk_c4 (x0 : Int) (x1 : Int) (x2 : Int) : List Value := [.int .i64 x0, .int .i64 x1, .int .i64 x2]
def adk_l5 (A : Option Addr) (c : Nat) (o : List P3) (x0 : Int) (x1 : Int) (x2 : Int) (γ1 : Nat → Nat) (z2 : Nat → Value) (k : Nat) (ys : List P3) (A4 : Option Addr) (c4 : Nat) (put : Bool) : List Value := [.slice A o.length c, .agg #[.int .i64 x0, .int .i64 x1, .int .i64 x2], zz, .pointer (some ⟨γ1 0, 0, none⟩), .slice none 0 0, .slice A4 ys.length c4, .bool put, .int .i64 (k : Int), z2 8, z2 9, z2 10, z2 11, z2 12, z2 13, z2 14, z2 15]
def adk_l6 (z2 : Nat → Value) : List Value := [z2 16, z2 17, z2 18, z2 19, z2 20, z2 21, z2 22, z2 23, z2 24, z2 25, z2 26, z2 27, z2 28, z2 29, z2 30, z2 31]
def adk_l7 (z2 : Nat → Value) : List Value := [z2 32, z2 33, z2 34, z2 35, z2 36, z2 37, z2 38, z2 39, z2 40, z2 41, z2 42, z2 43, zz, zz, zz, zz]
def adk_b8 (A : Option Addr) (c : Nat) (o : List P3) (x0 : Int) (x1 : Int) (x2 : Int) (γ1 : Nat → Nat) (z2 : Nat → Value) (k : Nat) (ys : List P3) (A4 : Option Addr) (c4 : Nat) (put : Bool) : List Value := (adk_l5 A c o x0 x1 x2 γ1 z2 k ys A4 c4 put) ++ ((adk_l6 z2) ++ ((adk_l7 z2) ++ (adk_l2)))
abbrev adk_2X := (Nat → Value) × Nat × (List P3) × (Option Addr) × Nat × Bool
def adk_2s (A : Option Addr) (c : Nat) (o : List P3) (x0 : Int) (x1 : Int) (x2 : Int) (γ1 : Nat → Nat) (x : adk_2X) : List Value × List Blk := ((adk_b8 A c o x0 x1 x2 γ1 (x.1) (x.2.1) (x.2.2.1) (x.2.2.2.1) (x.2.2.2.2.1) (x.2.2.2.2.2)), [(γ1 0, 71, (adk_c4 x0 x1 x2))])
def adk_2k (A : Option Addr) (c : Nat) (o : List P3) (x0 : Int) (x1 : Int) (x2 : Int) (γ1 : Nat → Nat) (x : adk_2X) : Prop := IK (x0, x1, x2) o (x.2.2.1) (x.2.1) (x.2.2.2.2.2) ∧ (x.2.1) ≤ o.length
def adk_2m (A : Option Addr) (c : Nat) (o : List P3) (x0 : Int) (x1 : Int) (x2 : Int) (γ1 : Nat → Nat) (x : adk_2X) : Nat := o.length - (x.2.1)
def adk_2F (A : Option Addr) (c : Nat) (o : List P3) (x0 : Int) (x1 : Int) (x2 : Int) (γ1 : Nat → Nat) (w : World) (x : adk_2X) : List Asrt := [rowA 71 3 (.slice (x.2.2.2.1) (x.2.2.1).length (x.2.2.2.2.1)) (x.2.2.1).length ((x.2.2.1).flatMap encT71), old w]
abbrev adk_2I (A : Option Addr) (c : Nat) (o : List P3) (x0 : Int) (x1 : Int) (x2 : Int) (γ1 : Nat → Nat) (w : World) (x : adk_2X) : Act → World → Prop := Inv (adk_2s A c o x0 x1 x2 γ1) (adk_2F A c o x0 x1 x2 γ1 w) (adk_2k A c o x0 x1 x2 γ1) (adk_2m A c o x0 x1 x2 γ1) x
def adk_l15 (A : Option Addr) (c : Nat) (o : List P3) (x0 : Int) (x1 : Int) (x2 : Int) (γ1 : Nat → Nat) (z2 : Nat → Value) (k : Nat) (ys : List P3) (A4 : Option Addr) (c4 : Nat) : List Value := [.slice A o.length c, .agg #[.int .i64 x0, .int .i64 x1, .int .i64 x2], zz, .pointer (some ⟨γ1 0, 0, none⟩), .slice none 0 0, .slice A4 ys.length c4, .bool true, .int .i64 (k : Int), .int .i64 (k : Int), .slice A o.length c, .int .i64 ((o.length : Nat) : Int), .bool true, z2 12, z2 13, .bool true, .bool false]
def adk_l16 (z2 : Nat → Value) : List Value := [.bool false, zz, zz, zz, zz, zz, zz, .bool false, z2 24, z2 25, z2 26, z2 27, z2 28, z2 29, z2 30, z2 31]
def adk_b17 (A : Option Addr) (c : Nat) (o : List P3) (x0 : Int) (x1 : Int) (x2 : Int) (γ1 : Nat → Nat) (z2 : Nat → Value) (k : Nat) (ys : List P3) (A4 : Option Addr) (c4 : Nat) : List Value := (adk_l15 A c o x0 x1 x2 γ1 z2 k ys A4 c4) ++ ((adk_l16 z2) ++ ((adk_l7 z2) ++ (adk_l2)))
def adk_l18 (z2 : Nat → Value) : List Value := [.bool false, zz, zz, zz, zz, zz, zz, .bool false, z2 24, z2 25, z2 26, z2 27, .bool true, .bool true, zz, zz]
def adk_l19 (A : Option Addr) (c : Nat) (o : List P3) (z2 : Nat → Value) (k : Nat) (ys : List P3) (A4 : Option Addr) (c4 : Nat) (B : Nat) (o1 : Nat) (γ5 : Nat → Nat) : List Value := [zz, zz, zz, zz, .bool true, .slice A4 ys.length c4, .slice A o.length c, .int .i64 (k : Int), .pointer (some ⟨B, o1 + k * 3, none⟩), .agg #[.int .i64 ((o[k]!).1), .int .i64 ((o[k]!).2.1), .int .i64 ((o[k]!).2.2)], .slice (some ⟨γ5 0, 0, none⟩) 1 1, z2 43, zz, zz, zz, zz]
def adk_b20 (A : Option Addr) (c : Nat) (o : List P3) (x0 : Int) (x1 : Int) (x2 : Int) (γ1 : Nat → Nat) (z2 : Nat → Value) (k : Nat) (ys : List P3) (A4 : Option Addr) (c4 : Nat) (B : Nat) (o1 : Nat) (γ5 : Nat → Nat) : List Value := (adk_l15 A c o x0 x1 x2 γ1 z2 k ys A4 c4) ++ ((adk_l18 z2) ++ ((adk_l19 A c o z2 k ys A4 c4 B o1 γ5) ++ (adk_l2)))
def adk_c21 (o : List P3) (k : Nat) : List Value := [.int .i64 ((o[k]!).1), .int .i64 ((o[k]!).2.1), .int .i64 ((o[k]!).2.2)]
def adk_l22 (A : Option Addr) (c : Nat) (o : List P3) (x0 : Int) (x1 : Int) (x2 : Int) (γ1 : Nat → Nat) (z2 : Nat → Value) (k : Nat) (ys : List P3) (A4 : Option Addr) (c4 : Nat) : List Value := [.slice A o.length c, .agg #[.int .i64 x0, .int .i64 x1, .int .i64 x2], zz, .pointer (some ⟨γ1 0, 0, none⟩), .slice none 0 0, .slice A4 ys.length c4, .bool false, .int .i64 (k : Int), .int .i64 (k : Int), .slice A o.length c, .int .i64 ((o.length : Nat) : Int), .bool true, z2 12, z2 13, .bool false, .bool true]
def adk_l23 (A : Option Addr) (c : Nat) (o : List P3) (x0 : Int) (x1 : Int) (x2 : Int) (z2 : Nat → Value) (k : Nat) (B : Nat) (o1 : Nat) : List Value := [.bool true, .agg #[.int .i64 x0, .int .i64 x1, .int .i64 x2], .slice A o.length c, .int .i64 (k : Int), .pointer (some ⟨B, o1 + k * 3, none⟩), .agg #[.int .i64 ((o[k]!).1), .int .i64 ((o[k]!).2.1), .int .i64 ((o[k]!).2.2)], .bool true, .bool true, z2 24, z2 25, z2 26, z2 27, z2 28, z2 29, z2 30, z2 31]
def adk_b24 (A : Option Addr) (c : Nat) (o : List P3) (x0 : Int) (x1 : Int) (x2 : Int) (γ1 : Nat → Nat) (z2 : Nat → Value) (k : Nat) (ys : List P3) (A4 : Option Addr) (c4 : Nat) (B : Nat) (o1 : Nat) : List Value := (adk_l22 A c o x0 x1 x2 γ1 z2 k ys A4 c4) ++ ((adk_l23 A c o x0 x1 x2 z2 k B o1) ++ ((adk_l7 z2) ++ (adk_l2)))
def adk_l25 (A : Option Addr) (c : Nat) (o : List P3) (x0 : Int) (x1 : Int) (x2 : Int) (γ1 : Nat → Nat) (z2 : Nat → Value) (k : Nat) (ys : List P3) (A9 : Option Addr) (c9 : Nat) : List Value := [.slice A o.length c, .agg #[.int .i64 x0, .int .i64 x1, .int .i64 x2], zz, .pointer (some ⟨γ1 0, 0, none⟩), .slice none 0 0, .slice A9 ((ys ++ [(x0, x1, x2)]).length) c9, .bool true, .int .i64 (k : Int), .int .i64 (k : Int), .slice A o.length c, .int .i64 ((o.length : Nat) : Int), .bool true, z2 12, z2 13, .bool false, .bool true]
def adk_l26 (A : Option Addr) (c : Nat) (o : List P3) (x0 : Int) (x1 : Int) (x2 : Int) (k : Nat) (ys : List P3) (A4 : Option Addr) (c4 : Nat) (B : Nat) (o1 : Nat) (γ8 : Nat → Nat) (A9 : Option Addr) (c9 : Nat) : List Value := [.bool true, .agg #[.int .i64 x0, .int .i64 x1, .int .i64 x2], .slice A o.length c, .int .i64 (k : Int), .pointer (some ⟨B, o1 + k * 3, none⟩), .agg #[.int .i64 ((o[k]!).1), .int .i64 ((o[k]!).2.1), .int .i64 ((o[k]!).2.2)], .bool true, .bool true, .slice A4 ys.length c4, .agg #[.int .i64 x0, .int .i64 x1, .int .i64 x2], .slice (some ⟨γ8 2, 0, none⟩) 1 1, .slice A9 ((ys ++ [(x0, x1, x2)]).length) c9, .bool true, .bool true, zz, zz]
def adk_l27 (z2 : Nat → Value) : List Value := [zz, zz, zz, zz, .bool true, z2 37, z2 38, z2 39, z2 40, z2 41, z2 42, z2 43, zz, zz, zz, zz]
def adk_b28 (A : Option Addr) (c : Nat) (o : List P3) (x0 : Int) (x1 : Int) (x2 : Int) (γ1 : Nat → Nat) (z2 : Nat → Value) (k : Nat) (ys : List P3) (A4 : Option Addr) (c4 : Nat) (B : Nat) (o1 : Nat) (γ8 : Nat → Nat) (A9 : Option Addr) (c9 : Nat) : List Value := (adk_l25 A c o x0 x1 x2 γ1 z2 k ys A9 c9) ++ ((adk_l26 A c o x0 x1 x2 k ys A4 c4 B o1 γ8 A9 c9) ++ ((adk_l27 z2) ++ (adk_l2)))
def adk_l29 (A : Option Addr) (c : Nat) (o : List P3) (x0 : Int) (x1 : Int) (x2 : Int) (z2 : Nat → Value) (k : Nat) (B : Nat) (o1 : Nat) : List Value := [.bool true, .agg #[.int .i64 x0, .int .i64 x1, .int .i64 x2], .slice A o.length c, .int .i64 (k : Int), .pointer (some ⟨B, o1 + k * 3, none⟩), .agg #[.int .i64 ((o[k]!).1), .int .i64 ((o[k]!).2.1), .int .i64 ((o[k]!).2.2)], .bool false, .bool false, z2 24, z2 25, z2 26, z2 27, z2 28, z2 29, z2 30, z2 31]
def adk_b30 (A : Option Addr) (c : Nat) (o : List P3) (x0 : Int) (x1 : Int) (x2 : Int) (γ1 : Nat → Nat) (z2 : Nat → Value) (k : Nat) (ys : List P3) (A4 : Option Addr) (c4 : Nat) (B : Nat) (o1 : Nat) : List Value := (adk_l22 A c o x0 x1 x2 γ1 z2 k ys A4 c4) ++ ((adk_l29 A c o x0 x1 x2 z2 k B o1) ++ ((adk_l7 z2) ++ (adk_l2)))
def adk_l31 (A : Option Addr) (c : Nat) (o : List P3) (x0 : Int) (x1 : Int) (x2 : Int) (γ1 : Nat → Nat) (z2 : Nat → Value) (k : Nat) (ys : List P3) (A4 : Option Addr) (c4 : Nat) : List Value := [.slice A o.length c, .agg #[.int .i64 x0, .int .i64 x1, .int .i64 x2], zz, .pointer (some ⟨γ1 0, 0, none⟩), .slice none 0 0, .slice A4 ys.length c4, .bool true, .int .i64 (k : Int), .int .i64 (k : Int), .slice A o.length c, .int .i64 ((o.length : Nat) : Int), .bool true, z2 12, z2 13, .bool false, .bool true]
def adk_l32 (A : Option Addr) (c : Nat) (o : List P3) (x0 : Int) (x1 : Int) (x2 : Int) (z2 : Nat → Value) (k : Nat) (B : Nat) (o1 : Nat) : List Value := [.bool true, .agg #[.int .i64 x0, .int .i64 x1, .int .i64 x2], .slice A o.length c, .int .i64 (k : Int), .pointer (some ⟨B, o1 + k * 3, none⟩), .agg #[.int .i64 ((o[k]!).1), .int .i64 ((o[k]!).2.1), .int .i64 ((o[k]!).2.2)], .bool false, .bool false, z2 24, z2 25, z2 26, z2 27, .bool false, .bool false, .slice A o.length c, .int .i64 (k : Int)]
def adk_l33 (A : Option Addr) (c : Nat) (o : List P3) (x0 : Int) (x1 : Int) (x2 : Int) (z2 : Nat → Value) (k : Nat) (ys : List P3) (A4 : Option Addr) (c4 : Nat) (B : Nat) (o1 : Nat) : List Value := [.pointer (some ⟨B, o1 + k * 3, none⟩), .agg #[.int .i64 ((o[k]!).1), .int .i64 ((o[k]!).2.1), .int .i64 ((o[k]!).2.2)], .agg #[.int .i64 x0, .int .i64 x1, .int .i64 x2], .bool true, .bool true, .slice A4 ys.length c4, .slice A o.length c, .int .i64 (k : Int), z2 40, z2 41, z2 42, z2 43, zz, zz, zz, zz]
def adk_b34 (A : Option Addr) (c : Nat) (o : List P3) (x0 : Int) (x1 : Int) (x2 : Int) (γ1 : Nat → Nat) (z2 : Nat → Value) (k : Nat) (ys : List P3) (A4 : Option Addr) (c4 : Nat) (B : Nat) (o1 : Nat) : List Value := (adk_l31 A c o x0 x1 x2 γ1 z2 k ys A4 c4) ++ ((adk_l32 A c o x0 x1 x2 z2 k B o1) ++ ((adk_l33 A c o x0 x1 x2 z2 k ys A4 c4 B o1) ++ (adk_l2)))
def adk_l35 (A : Option Addr) (c : Nat) (o : List P3) (x0 : Int) (x1 : Int) (x2 : Int) (z2 : Nat → Value) (k : Nat) (ys : List P3) (A4 : Option Addr) (c4 : Nat) (B : Nat) (o1 : Nat) (γ20 : Nat → Nat) : List Value := [.pointer (some ⟨B, o1 + k * 3, none⟩), .agg #[.int .i64 ((o[k]!).1), .int .i64 ((o[k]!).2.1), .int .i64 ((o[k]!).2.2)], .agg #[.int .i64 x0, .int .i64 x1, .int .i64 x2], .bool false, .bool false, .slice A4 ys.length c4, .slice A o.length c, .int .i64 (k : Int), .pointer (some ⟨B, o1 + k * 3, none⟩), .agg #[.int .i64 ((o[k]!).1), .int .i64 ((o[k]!).2.1), .int .i64 ((o[k]!).2.2)], .slice (some ⟨γ20 0, 0, none⟩) 1 1, z2 43, zz, zz, zz, zz]
def adk_b36 (A : Option Addr) (c : Nat) (o : List P3) (x0 : Int) (x1 : Int) (x2 : Int) (γ1 : Nat → Nat) (z2 : Nat → Value) (k : Nat) (ys : List P3) (A4 : Option Addr) (c4 : Nat) (B : Nat) (o1 : Nat) (γ20 : Nat → Nat) : List Value := (adk_l22 A c o x0 x1 x2 γ1 z2 k ys A4 c4) ++ ((adk_l32 A c o x0 x1 x2 z2 k B o1) ++ ((adk_l35 A c o x0 x1 x2 z2 k ys A4 c4 B o1 γ20) ++ (adk_l2)))
def adk_l37 (A : Option Addr) (c : Nat) (o : List P3) (x0 : Int) (x1 : Int) (x2 : Int) (γ1 : Nat → Nat) (z2 : Nat → Value) (k : Nat) (ys : List P3) (A4 : Option Addr) (c4 : Nat) : List Value := [.slice A o.length c, .agg #[.int .i64 x0, .int .i64 x1, .int .i64 x2], zz, .pointer (some ⟨γ1 0, 0, none⟩), .slice A4 ys.length c4, .slice A4 ys.length c4, .bool true, .int .i64 (k : Int), .int .i64 (k : Int), .slice A o.length c, .int .i64 ((o.length : Nat) : Int), .bool false, z2 12, z2 13, z2 14, z2 15]
def adk_l38 (z2 : Nat → Value) : List Value := [z2 32, z2 33, z2 34, z2 35, z2 36, z2 37, z2 38, z2 39, z2 40, z2 41, z2 42, z2 43, .bool true, .bool false, zz, zz]
def adk_l39 (ys : List P3) (A4 : Option Addr) (c4 : Nat) : List Value := [zz, zz, .slice A4 ys.length c4]
def adk_b40 (A : Option Addr) (c : Nat) (o : List P3) (x0 : Int) (x1 : Int) (x2 : Int) (γ1 : Nat → Nat) (z2 : Nat → Value) (k : Nat) (ys : List P3) (A4 : Option Addr) (c4 : Nat) : List Value := (adk_l37 A c o x0 x1 x2 γ1 z2 k ys A4 c4) ++ ((adk_l6 z2) ++ ((adk_l38 z2) ++ ((adk_l39 ys A4 c4))))
def adk_l41 (A : Option Addr) (c : Nat) (o : List P3) (x0 : Int) (x1 : Int) (x2 : Int) (γ1 : Nat → Nat) (z2 : Nat → Value) (k : Nat) (ys : List P3) (A4 : Option Addr) (c4 : Nat) : List Value := [.slice A o.length c, .agg #[.int .i64 x0, .int .i64 x1, .int .i64 x2], zz, .pointer (some ⟨γ1 0, 0, none⟩), .slice none 0 0, .slice A4 ys.length c4, .bool false, .int .i64 (k : Int), .int .i64 (k : Int), .slice A o.length c, .int .i64 ((o.length : Nat) : Int), .bool false, z2 12, z2 13, z2 14, z2 15]
def adk_l42 (x0 : Int) (x1 : Int) (x2 : Int) (z2 : Nat → Value) (ys : List P3) (A4 : Option Addr) (c4 : Nat) : List Value := [z2 32, z2 33, z2 34, z2 35, z2 36, z2 37, z2 38, z2 39, z2 40, z2 41, z2 42, z2 43, .bool false, .bool true, .slice A4 ys.length c4, .agg #[.int .i64 x0, .int .i64 x1, .int .i64 x2]]
def adk_l43 (γ25 : Nat → Nat) : List Value := [.slice (some ⟨γ25 4, 0, none⟩) 1 1, zz, zz]
def adk_b44 (A : Option Addr) (c : Nat) (o : List P3) (x0 : Int) (x1 : Int) (x2 : Int) (γ1 : Nat → Nat) (z2 : Nat → Value) (k : Nat) (ys : List P3) (A4 : Option Addr) (c4 : Nat) (γ25 : Nat → Nat) : List Value := (adk_l41 A c o x0 x1 x2 γ1 z2 k ys A4 c4) ++ ((adk_l6 z2) ++ ((adk_l42 x0 x1 x2 z2 ys A4 c4) ++ ((adk_l43 γ25))))
set_option maxHeartbeats 8000000 in
set_option maxRecDepth 100000 in
theorem add_is {w : World} {A : Option Addr} {c : Nat} {o : List P3} (h : Rd w (.slice A o.length c) 3 encT71 o) (hl : o.length ≤ 900) (hr : Ris o) (h6 : ∀ z ∈ o, z.1 = 6) (x0 x1 x2 : Int) (hx6 : x0 = 6) : Calls Try.prog 41 #[.slice A o.length c, .agg #[.int .i64 x0, .int .i64 x1, .int .i64 x2]] w fun e w' => ∃ x : Option Addr × Nat, e = .returned (.slice x.1 (adK (x0, x1, x2) o).length x.2) ∧ Fresh w w' [rowA 71 3 (.slice x.1 (adK (x0, x1, x2) o).length x.2) (adK (x0, x1, x2) o).length ((adK (x0, x1, x2) o).flatMap encT71)] := by
  refine enter (args := [.slice A o.length c, .agg #[.int .i64 x0, .int .i64 x1, .int .i64 x2]]) (fn := Try.f41) rfl (c := bdy Try.f41) (by kernel_rfl) ?_
  refine ck 5 [] [] fun γ1 => ⟨⟨kt (bdy Try.f41) [1, 1, 1, 0, 1, 0] [], (adk_b3 A c o x0 x1 x2 γ1), [(γ1 0, 71, (adk_c4 x0 x1 x2))]⟩, [], [], by kernel_rfl, .nil, ?_⟩
  refine nilrow 71 3 ?_
  refine lp (adk_2s A c o x0 x1 x2 γ1) (adk_2F A c o x0 x1 x2 γ1 w) (adk_2k A c o x0 x1 x2 γ1) (adk_2m A c o x0 x1 x2 γ1) ((fun mm => ((adk_b3 A c o x0 x1 x2 γ1)).getD mm zz, 0, ([] : List (P3)), none, 0, false)) (kt (bdy Try.f41) [1, 1, 1, 0, 1, 0] []) ⟨ik_start _ _, Nat.zero_le _⟩ rfl ?_
  rintro ⟨z2, k, ys, A4, c4, put⟩ hok
  obtain ⟨hI, hkb⟩ : IK (x0, x1, x2) o ys k put ∧ k ≤ o.length := hok
  refine st1 (ktl [] (adk_2I A c o x0 x1 x2 γ1 w (z2, k, ys, A4, c4, put)) (kt (bdy Try.f41) [1, 1, 1, 0, 1, 0] [])) ((adk_b8 A c o x0 x1 x2 γ1 z2 k ys A4 c4 put)) [(γ1 0, 71, (adk_c4 x0 x1 x2))] ?_
  have hnl := ik_len hI
  by_cases hin : k < o.length
  · skip
    obtain ⟨B, o1, hAe, hat⟩ := h.at (i := k) (by omega)
    have h6k : (o[k]!).1 = 6 := h6 _ (get_mem hin)
    refine ck 4 [] [(3, .bool true)] fun γ3 => ⟨⟨ktl [1, 0, 0, 0, 0] (adk_2I A c o x0 x1 x2 γ1 w (z2, k, ys, A4, c4, put)) (kt (bdy Try.f41) [1, 1, 1, 0, 1, 0] []), upv (adk_b8 A c o x0 x1 x2 γ1 z2 k ys A4 c4 put) [(8, .int .i64 (k : Int)), (9, .slice A o.length c), (10, .int .i64 ((o.length : Nat) : Int)), (11, .bool true)], [(γ1 0, 71, (adk_c4 x0 x1 x2))]⟩, [], [Value.bool (decide (((k : Int) : Int) < ((o.length : Nat) : Int))) = .bool true], by kernel_rfl, (.cons (cbT (by omega)) .nil), ?_⟩
    have hq : put = true ∨ (put = false ∧ ltP (x0, x1, x2) o[k]! = true) ∨ (put = false ∧ ltP (x0, x1, x2) o[k]! = false ∧ o[k]! = (x0, x1, x2)) ∨ (put = false ∧ ltP (x0, x1, x2) o[k]! = false ∧ ¬ o[k]! = (x0, x1, x2)) := by
      cases put
      · cases h8 : ltP (x0, x1, x2) o[k]!
        · by_cases h9 : o[k]! = (x0, x1, x2)
          · exact .inr (.inr (.inl ⟨rfl, rfl, h9⟩))
          · exact .inr (.inr (.inr ⟨rfl, rfl, h9⟩))
        · exact .inr (.inl ⟨rfl, rfl⟩)
      · exact .inl rfl
    rcases hq with rfl | ⟨rfl, hlt⟩ | ⟨rfl, hlt, hne⟩ | ⟨rfl, hlt, hne⟩
    · skip
      refine dr [] [] .nil ?_
      refine df [0, 1, 2, 3, 4, 5, 6, 7, 8, 9] [] [] [] [] .nil ?_
      refine de (fs := (ktl [1, 0, 0, 0, 0] (adk_2I A c o x0 x1 x2 γ1 w (z2, k, ys, A4, c4, true)) (kt (bdy Try.f41) [1, 1, 1, 0, 1, 0] [])).tail) ?_
      refine st0 (fs := (ktl [1, 0, 0, 0, 0] (adk_2I A c o x0 x1 x2 γ1 w (z2, k, ys, A4, c4, true)) (kt (bdy Try.f41) [1, 1, 1, 0, 1, 0] [])).tail) ((adk_b17 A c o x0 x1 x2 γ1 z2 k ys A4 c4)) [(γ1 0, 71, (adk_c4 x0 x1 x2))] ?_
      refine lxr ?_
      refine lxf [0, 1, 2, 3, 4, 5, 6, 7, 8, 9] [] [] [] [] .nil ?_
      refine lxd (fs := (ktl [1, 0, 0, 1, 0] (adk_2I A c o x0 x1 x2 γ1 w (z2, k, ys, A4, c4, true)) (kt (bdy Try.f41) [1, 1, 1, 0, 1, 0] [])).tail) ?_
      refine st0 (fs := (ktl [1, 0, 0, 1, 0] (adk_2I A c o x0 x1 x2 γ1 w (z2, k, ys, A4, c4, true)) (kt (bdy Try.f41) [1, 1, 1, 0, 1, 0] [])).tail) (upv (adk_b17 A c o x0 x1 x2 γ1 z2 k ys A4 c4) [(28, .bool true), (29, .bool true), (30, zz), (31, zz), (32, zz), (33, zz), (34, zz), (35, zz), (36, .bool true)]) [(γ1 0, 71, (adk_c4 x0 x1 x2))] ?_
      refine ck 3 [] [] fun γ4 => ⟨⟨ktl [1, 0, 0, 1, 1, 3] (adk_2I A c o x0 x1 x2 γ1 w (z2, k, ys, A4, c4, true)) (kt (bdy Try.f41) [1, 1, 1, 0, 1, 0] []), upv (adk_b17 A c o x0 x1 x2 γ1 z2 k ys A4 c4) [(28, .bool true), (29, .bool true), (30, zz), (31, zz), (32, zz), (33, zz), (34, zz), (35, zz), (36, .bool true), (37, .slice A4 ys.length c4), (38, .slice A o.length c), (39, .int .i64 (k : Int))], [(γ1 0, 71, (adk_c4 x0 x1 x2))]⟩, [], [], by kernel_rfl, .nil, ?_⟩
      refine ixr (n := o.length) (sz := 3) (j := (k : Int)) hAe k (by omega) ?_
      refine ldr (n := 3) (row := true) [.int .i64 ((o[k]!).1), .int .i64 ((o[k]!).2.1), .int .i64 ((o[k]!).2.2)] (fun W hW => (hat.below (hW.old 1 rfl)).ld (i := k) (by omega) 0 [.int .i64 ((o[k]!).1), .int .i64 ((o[k]!).2.1), .int .i64 ((o[k]!).2.2)] rfl) ?_
      refine ck 1 [] [] fun γ5 => ⟨⟨ktl [1, 0, 0, 1, 1, 6] (adk_2I A c o x0 x1 x2 γ1 w (z2, k, ys, A4, c4, true)) (kt (bdy Try.f41) [1, 1, 1, 0, 1, 0] []), (adk_b20 A c o x0 x1 x2 γ1 z2 k ys A4 c4 B o1 γ5), [(γ5 0, 71, (adk_c21 o k)), (γ1 0, 71, (adk_c4 x0 x1 x2))]⟩, [], [], by kernel_rfl, .nil, ?_⟩
      refine ap (m := 1) (c := 1) (g := (γ5 0)) (T := 71) (cs := [.int .i64 ((o[k]!).1), .int .i64 ((o[k]!).2.1), .int .i64 ((o[k]!).2.2)]) 0 0 24 rfl (by first | omega | (simp only [List.length_append, List.length_cons, List.length_nil]; omega)) (by simp only [maxLen]; first | omega | (simp only [List.length_append, List.length_cons, List.length_nil]; omega)) ((ys ++ [((o[k]!).1, (o[k]!).2.1, (o[k]!).2.2)]).length) ((ys ++ [((o[k]!).1, (o[k]!).2.1, (o[k]!).2.2)]).flatMap encT71) (by simp) (by simp [encT71]) fun A6 c6 => ?_
      refine ck 4 [] [(2, .int .i64 ((k + 1 : Nat) : Int))] fun γ7 => ⟨⟨ktp (adk_2I A c o x0 x1 x2 γ1 w (z2, k, ys, A4, c4, true)) (kt (bdy Try.f41) [1, 1, 1, 0, 1, 0] []), upv (adk_b20 A c o x0 x1 x2 γ1 z2 k ys A4 c4 B o1 γ5) [(5, .slice A6 ((ys ++ [((o[k]!).1, (o[k]!).2.1, (o[k]!).2.2)]).length) c6), (7, .int .i64 ((k + 1 : Nat) : Int)), (12, .int .i64 (k : Int)), (13, .int .i64 ((k + 1 : Nat) : Int)), (43, .slice A6 ((ys ++ [((o[k]!).1, (o[k]!).2.1, (o[k]!).2.2)]).length) c6)], [(γ5 0, 71, (adk_c21 o k)), (γ1 0, 71, (adk_c4 x0 x1 x2))]⟩, [], [Value.int .i64 (IntKind.wrap .i64 ((k : Int) + 1)) = .int .i64 ((k + 1 : Nat) : Int)], by kernel_rfl, (.cons (congrArg (Value.int .i64) (by rw [IntKind.wrap_i64]; omega)) .nil), ?_⟩
      exact nx (st := adk_2s A c o x0 x1 x2 γ1) (F' := adk_2F A c o x0 x1 x2 γ1 w) (ok := adk_2k A c o x0 x1 x2 γ1) (μ := adk_2m A c o x0 x1 x2 γ1) (x := (z2, k, ys, A4, c4, true)) (fun mm => (upv (adk_b20 A c o x0 x1 x2 γ1 z2 k ys A4 c4 B o1 γ5) [(5, .slice A6 ((ys ++ [((o[k]!).1, (o[k]!).2.1, (o[k]!).2.2)]).length) c6), (7, .int .i64 ((k + 1 : Nat) : Int)), (12, .int .i64 (k : Int)), (13, .int .i64 ((k + 1 : Nat) : Int)), (43, .slice A6 ((ys ++ [((o[k]!).1, (o[k]!).2.1, (o[k]!).2.2)]).length) c6)]).getD mm zz, (k + 1), ys ++ [((o[k]!).1, (o[k]!).2.1, (o[k]!).2.2)], A6, c6, true) (show IK (x0, x1, x2) o (ys ++ [((o[k]!).1, (o[k]!).2.1, (o[k]!).2.2)]) (k + 1) true ∧ (k + 1) ≤ o.length from ⟨ik_put hI hin, hin⟩) (by show _ < _; simp only [adk_2m]; omega) 1 0 rfl
    · skip
      refine dr [] [] .nil ?_
      refine df [0, 1, 2, 3, 4, 5] [(3, 0)] [] [(3, γ1 0)] [] .nil ?_
      refine dixr 6 (n := o.length) (sz := 3) (j := (k : Int)) hAe k (by omega) ?_
      refine dldr 7 (n := 3) (row := true) [.int .i64 ((o[k]!).1), .int .i64 ((o[k]!).2.1), .int .i64 ((o[k]!).2.2)] (fun W hW => (hat.below (hW.old 1 rfl)).ld (i := k) (by omega) 0 [.int .i64 ((o[k]!).1), .int .i64 ((o[k]!).2.1), .int .i64 ((o[k]!).2.2)] rfl) ?_
      refine dp 8 (fun W hW => rless_b (b := true) hx6 h6k hlt W) ?_
      refine df [9] [] [] [] [] .nil ?_
      refine de (fs := (ktl [1, 0, 0, 0, 0] (adk_2I A c o x0 x1 x2 γ1 w (z2, k, ys, A4, c4, false)) (kt (bdy Try.f41) [1, 1, 1, 0, 1, 0] [])).tail) ?_
      refine st0 (fs := (ktl [1, 0, 0, 0, 0] (adk_2I A c o x0 x1 x2 γ1 w (z2, k, ys, A4, c4, false)) (kt (bdy Try.f41) [1, 1, 1, 0, 1, 0] [])).tail) ((adk_b24 A c o x0 x1 x2 γ1 z2 k ys A4 c4 B o1)) [(γ1 0, 71, (adk_c4 x0 x1 x2))] ?_
      refine ck 3 [(3, 0)] [] fun γ8 => ⟨⟨ktl [1, 0, 0, 0, 1, 0, 0, 3] (adk_2I A c o x0 x1 x2 γ1 w (z2, k, ys, A4, c4, false)) (kt (bdy Try.f41) [1, 1, 1, 0, 1, 0] []), upv (adk_b24 A c o x0 x1 x2 γ1 z2 k ys A4 c4 B o1) [(24, .slice A4 ys.length c4), (25, .agg #[.int .i64 x0, .int .i64 x1, .int .i64 x2]), (26, .slice (some ⟨γ8 2, 0, none⟩) 1 1)], [(γ8 2, 71, (adk_c4 x0 x1 x2)), (γ1 0, 71, (adk_c4 x0 x1 x2))]⟩, [(3, γ1 0)], [], by kernel_rfl, .nil, ?_⟩
      refine ap (m := 1) (c := 1) (g := (γ8 2)) (T := 71) (cs := [.int .i64 x0, .int .i64 x1, .int .i64 x2]) 0 0 24 rfl (by first | omega | (simp only [List.length_append, List.length_cons, List.length_nil]; omega)) (by simp only [maxLen]; first | omega | (simp only [List.length_append, List.length_cons, List.length_nil]; omega)) ((ys ++ [(x0, x1, x2)]).length) ((ys ++ [(x0, x1, x2)]).flatMap encT71) (by simp) (by simp [encT71]) fun A9 c9 => ?_
      refine ck 2 [] [] fun γ10 => ⟨⟨ktl [1, 0, 0, 1, 0] (adk_2I A c o x0 x1 x2 γ1 w (z2, k, ys, A4, c4, false)) (kt (bdy Try.f41) [1, 1, 1, 0, 1, 0] []), upv (adk_b24 A c o x0 x1 x2 γ1 z2 k ys A4 c4 B o1) [(5, .slice A9 ((ys ++ [(x0, x1, x2)]).length) c9), (6, .bool true), (24, .slice A4 ys.length c4), (25, .agg #[.int .i64 x0, .int .i64 x1, .int .i64 x2]), (26, .slice (some ⟨γ8 2, 0, none⟩) 1 1), (27, .slice A9 ((ys ++ [(x0, x1, x2)]).length) c9)], [(γ8 2, 71, (adk_c4 x0 x1 x2)), (γ1 0, 71, (adk_c4 x0 x1 x2))]⟩, [], [], by kernel_rfl, .nil, ?_⟩
      refine lxr ?_
      refine lxf [0, 1, 2, 3, 4, 5, 6, 7, 8, 9] [] [] [] [] .nil ?_
      refine lxd (fs := (ktl [1, 0, 0, 1, 0] (adk_2I A c o x0 x1 x2 γ1 w (z2, k, ys, A4, c4, false)) (kt (bdy Try.f41) [1, 1, 1, 0, 1, 0] [])).tail) ?_
      refine st0 (fs := (ktl [1, 0, 0, 1, 0] (adk_2I A c o x0 x1 x2 γ1 w (z2, k, ys, A4, c4, false)) (kt (bdy Try.f41) [1, 1, 1, 0, 1, 0] [])).tail) ((adk_b28 A c o x0 x1 x2 γ1 z2 k ys A4 c4 B o1 γ8 A9 c9)) [(γ8 2, 71, (adk_c4 x0 x1 x2)), (γ1 0, 71, (adk_c4 x0 x1 x2))] ?_
      refine ck 3 [] [] fun γ11 => ⟨⟨ktl [1, 0, 0, 1, 1, 3] (adk_2I A c o x0 x1 x2 γ1 w (z2, k, ys, A4, c4, false)) (kt (bdy Try.f41) [1, 1, 1, 0, 1, 0] []), upv (adk_b28 A c o x0 x1 x2 γ1 z2 k ys A4 c4 B o1 γ8 A9 c9) [(37, .slice A9 ((ys ++ [(x0, x1, x2)]).length) c9), (38, .slice A o.length c), (39, .int .i64 (k : Int))], [(γ8 2, 71, (adk_c4 x0 x1 x2)), (γ1 0, 71, (adk_c4 x0 x1 x2))]⟩, [], [], by kernel_rfl, .nil, ?_⟩
      refine ixr (n := o.length) (sz := 3) (j := (k : Int)) hAe k (by omega) ?_
      refine ldr (n := 3) (row := true) [.int .i64 ((o[k]!).1), .int .i64 ((o[k]!).2.1), .int .i64 ((o[k]!).2.2)] (fun W hW => (hat.below (hW.old 1 rfl)).ld (i := k) (by omega) 0 [.int .i64 ((o[k]!).1), .int .i64 ((o[k]!).2.1), .int .i64 ((o[k]!).2.2)] rfl) ?_
      refine ck 1 [] [] fun γ12 => ⟨⟨ktl [1, 0, 0, 1, 1, 6] (adk_2I A c o x0 x1 x2 γ1 w (z2, k, ys, A4, c4, false)) (kt (bdy Try.f41) [1, 1, 1, 0, 1, 0] []), upv (adk_b28 A c o x0 x1 x2 γ1 z2 k ys A4 c4 B o1 γ8 A9 c9) [(37, .slice A9 ((ys ++ [(x0, x1, x2)]).length) c9), (38, .slice A o.length c), (39, .int .i64 (k : Int)), (40, .pointer (some ⟨B, o1 + k * 3, none⟩)), (41, .agg #[.int .i64 ((o[k]!).1), .int .i64 ((o[k]!).2.1), .int .i64 ((o[k]!).2.2)]), (42, .slice (some ⟨γ12 0, 0, none⟩) 1 1)], [(γ12 0, 71, (adk_c21 o k)), (γ8 2, 71, (adk_c4 x0 x1 x2)), (γ1 0, 71, (adk_c4 x0 x1 x2))]⟩, [], [], by kernel_rfl, .nil, ?_⟩
      refine ap (m := 1) (c := 1) (g := (γ12 0)) (T := 71) (cs := [.int .i64 ((o[k]!).1), .int .i64 ((o[k]!).2.1), .int .i64 ((o[k]!).2.2)]) 0 0 24 rfl (by first | omega | (simp only [List.length_append, List.length_cons, List.length_nil]; omega)) (by simp only [maxLen]; first | omega | (simp only [List.length_append, List.length_cons, List.length_nil]; omega)) ((ys ++ [(x0, x1, x2)] ++ [((o[k]!).1, (o[k]!).2.1, (o[k]!).2.2)]).length) ((ys ++ [(x0, x1, x2)] ++ [((o[k]!).1, (o[k]!).2.1, (o[k]!).2.2)]).flatMap encT71) (by simp) (by simp [encT71]) fun A13 c13 => ?_
      refine ck 4 [] [(2, .int .i64 ((k + 1 : Nat) : Int))] fun γ14 => ⟨⟨ktp (adk_2I A c o x0 x1 x2 γ1 w (z2, k, ys, A4, c4, false)) (kt (bdy Try.f41) [1, 1, 1, 0, 1, 0] []), upv (adk_b28 A c o x0 x1 x2 γ1 z2 k ys A4 c4 B o1 γ8 A9 c9) [(5, .slice A13 ((ys ++ [(x0, x1, x2)] ++ [((o[k]!).1, (o[k]!).2.1, (o[k]!).2.2)]).length) c13), (7, .int .i64 ((k + 1 : Nat) : Int)), (12, .int .i64 (k : Int)), (13, .int .i64 ((k + 1 : Nat) : Int)), (37, .slice A9 ((ys ++ [(x0, x1, x2)]).length) c9), (38, .slice A o.length c), (39, .int .i64 (k : Int)), (40, .pointer (some ⟨B, o1 + k * 3, none⟩)), (41, .agg #[.int .i64 ((o[k]!).1), .int .i64 ((o[k]!).2.1), .int .i64 ((o[k]!).2.2)]), (42, .slice (some ⟨γ12 0, 0, none⟩) 1 1), (43, .slice A13 ((ys ++ [(x0, x1, x2)] ++ [((o[k]!).1, (o[k]!).2.1, (o[k]!).2.2)]).length) c13)], [(γ12 0, 71, (adk_c21 o k)), (γ8 2, 71, (adk_c4 x0 x1 x2)), (γ1 0, 71, (adk_c4 x0 x1 x2))]⟩, [], [Value.int .i64 (IntKind.wrap .i64 ((k : Int) + 1)) = .int .i64 ((k + 1 : Nat) : Int)], by kernel_rfl, (.cons (congrArg (Value.int .i64) (by rw [IntKind.wrap_i64]; omega)) .nil), ?_⟩
      exact nx (st := adk_2s A c o x0 x1 x2 γ1) (F' := adk_2F A c o x0 x1 x2 γ1 w) (ok := adk_2k A c o x0 x1 x2 γ1) (μ := adk_2m A c o x0 x1 x2 γ1) (x := (z2, k, ys, A4, c4, false)) (fun mm => (upv (adk_b28 A c o x0 x1 x2 γ1 z2 k ys A4 c4 B o1 γ8 A9 c9) [(5, .slice A13 ((ys ++ [(x0, x1, x2)] ++ [((o[k]!).1, (o[k]!).2.1, (o[k]!).2.2)]).length) c13), (7, .int .i64 ((k + 1 : Nat) : Int)), (12, .int .i64 (k : Int)), (13, .int .i64 ((k + 1 : Nat) : Int)), (37, .slice A9 ((ys ++ [(x0, x1, x2)]).length) c9), (38, .slice A o.length c), (39, .int .i64 (k : Int)), (40, .pointer (some ⟨B, o1 + k * 3, none⟩)), (41, .agg #[.int .i64 ((o[k]!).1), .int .i64 ((o[k]!).2.1), .int .i64 ((o[k]!).2.2)]), (42, .slice (some ⟨γ12 0, 0, none⟩) 1 1), (43, .slice A13 ((ys ++ [(x0, x1, x2)] ++ [((o[k]!).1, (o[k]!).2.1, (o[k]!).2.2)]).length) c13)]).getD mm zz, (k + 1), ys ++ [(x0, x1, x2)] ++ [((o[k]!).1, (o[k]!).2.1, (o[k]!).2.2)], A13, c13, true) (show IK (x0, x1, x2) o (ys ++ [(x0, x1, x2)] ++ [((o[k]!).1, (o[k]!).2.1, (o[k]!).2.2)]) (k + 1) true ∧ (k + 1) ≤ o.length from ⟨ik_now hr hI hin hlt, hin⟩) (by show _ < _; simp only [adk_2m]; omega) 2 0 rfl
    · skip
      refine dr [] [] .nil ?_
      refine df [0, 1, 2, 3, 4, 5] [(3, 0)] [] [(3, γ1 0)] [] .nil ?_
      refine dixr 6 (n := o.length) (sz := 3) (j := (k : Int)) hAe k (by omega) ?_
      refine dldr 7 (n := 3) (row := true) [.int .i64 ((o[k]!).1), .int .i64 ((o[k]!).2.1), .int .i64 ((o[k]!).2.2)] (fun W hW => (hat.below (hW.old 1 rfl)).ld (i := k) (by omega) 0 [.int .i64 ((o[k]!).1), .int .i64 ((o[k]!).2.1), .int .i64 ((o[k]!).2.2)] rfl) ?_
      refine dp 8 (fun W hW => rless_b (b := false) hx6 h6k hlt W) ?_
      refine df [9] [] [] [] [] .nil ?_
      refine de (fs := (ktl [1, 0, 0, 0, 0] (adk_2I A c o x0 x1 x2 γ1 w (z2, k, ys, A4, c4, false)) (kt (bdy Try.f41) [1, 1, 1, 0, 1, 0] [])).tail) ?_
      refine st0 (fs := (ktl [1, 0, 0, 0, 0] (adk_2I A c o x0 x1 x2 γ1 w (z2, k, ys, A4, c4, false)) (kt (bdy Try.f41) [1, 1, 1, 0, 1, 0] [])).tail) ((adk_b30 A c o x0 x1 x2 γ1 z2 k ys A4 c4 B o1)) [(γ1 0, 71, (adk_c4 x0 x1 x2))] ?_
      refine lxr ?_
      refine lxf [0, 1, 2, 3] [] [] [] [] .nil ?_
      refine lxi (n := o.length) (sz := 3) (j := (k : Int)) hAe k (by omega) ?_
      refine lxl (n := 3) (row := true) [.int .i64 ((o[k]!).1), .int .i64 ((o[k]!).2.1), .int .i64 ((o[k]!).2.2)] (fun W hW => (hat.below (hW.old 1 rfl)).ld (i := k) (by omega) 0 [.int .i64 ((o[k]!).1), .int .i64 ((o[k]!).2.1), .int .i64 ((o[k]!).2.2)] rfl) ?_
      refine lxf [6] [(3, 0)] [] [(3, γ1 0)] [] .nil ?_
      refine lxe (pos := true) (r := true) true (fun W => (eq71 ((o[k]!).1) ((o[k]!).2.1) ((o[k]!).2.2) x0 x1 x2 W).trans (by rw [decide_eq_true (by rw [hne]; exact ⟨rfl, rfl, rfl⟩)])) rfl ?_
      refine lxf [8, 9] [] [] [] [] .nil ?_
      refine lxd (fs := (ktl [1, 0, 0, 1, 0] (adk_2I A c o x0 x1 x2 γ1 w (z2, k, ys, A4, c4, false)) (kt (bdy Try.f41) [1, 1, 1, 0, 1, 0] [])).tail) ?_
      refine st0 (fs := (ktl [1, 0, 0, 1, 0] (adk_2I A c o x0 x1 x2 γ1 w (z2, k, ys, A4, c4, false)) (kt (bdy Try.f41) [1, 1, 1, 0, 1, 0] [])).tail) (upv (adk_b30 A c o x0 x1 x2 γ1 z2 k ys A4 c4 B o1) [(6, .bool true), (28, .bool false), (29, .bool false), (30, .slice A o.length c), (31, .int .i64 (k : Int)), (32, .pointer (some ⟨B, o1 + k * 3, none⟩)), (33, .agg #[.int .i64 ((o[k]!).1), .int .i64 ((o[k]!).2.1), .int .i64 ((o[k]!).2.2)]), (34, .agg #[.int .i64 x0, .int .i64 x1, .int .i64 x2]), (35, .bool true), (36, .bool true)]) [(γ1 0, 71, (adk_c4 x0 x1 x2))] ?_
      refine ck 3 [] [] fun γ15 => ⟨⟨ktl [1, 0, 0, 1, 1, 3] (adk_2I A c o x0 x1 x2 γ1 w (z2, k, ys, A4, c4, false)) (kt (bdy Try.f41) [1, 1, 1, 0, 1, 0] []), (adk_b34 A c o x0 x1 x2 γ1 z2 k ys A4 c4 B o1), [(γ1 0, 71, (adk_c4 x0 x1 x2))]⟩, [], [], by kernel_rfl, .nil, ?_⟩
      refine ixr (n := o.length) (sz := 3) (j := (k : Int)) hAe k (by omega) ?_
      refine ldr (n := 3) (row := true) [.int .i64 ((o[k]!).1), .int .i64 ((o[k]!).2.1), .int .i64 ((o[k]!).2.2)] (fun W hW => (hat.below (hW.old 1 rfl)).ld (i := k) (by omega) 0 [.int .i64 ((o[k]!).1), .int .i64 ((o[k]!).2.1), .int .i64 ((o[k]!).2.2)] rfl) ?_
      refine ck 1 [] [] fun γ16 => ⟨⟨ktl [1, 0, 0, 1, 1, 6] (adk_2I A c o x0 x1 x2 γ1 w (z2, k, ys, A4, c4, false)) (kt (bdy Try.f41) [1, 1, 1, 0, 1, 0] []), upv (adk_b34 A c o x0 x1 x2 γ1 z2 k ys A4 c4 B o1) [(40, .pointer (some ⟨B, o1 + k * 3, none⟩)), (41, .agg #[.int .i64 ((o[k]!).1), .int .i64 ((o[k]!).2.1), .int .i64 ((o[k]!).2.2)]), (42, .slice (some ⟨γ16 0, 0, none⟩) 1 1)], [(γ16 0, 71, (adk_c21 o k)), (γ1 0, 71, (adk_c4 x0 x1 x2))]⟩, [], [], by kernel_rfl, .nil, ?_⟩
      refine ap (m := 1) (c := 1) (g := (γ16 0)) (T := 71) (cs := [.int .i64 ((o[k]!).1), .int .i64 ((o[k]!).2.1), .int .i64 ((o[k]!).2.2)]) 0 0 24 rfl (by first | omega | (simp only [List.length_append, List.length_cons, List.length_nil]; omega)) (by simp only [maxLen]; first | omega | (simp only [List.length_append, List.length_cons, List.length_nil]; omega)) ((ys ++ [((o[k]!).1, (o[k]!).2.1, (o[k]!).2.2)]).length) ((ys ++ [((o[k]!).1, (o[k]!).2.1, (o[k]!).2.2)]).flatMap encT71) (by simp) (by simp [encT71]) fun A17 c17 => ?_
      refine ck 4 [] [(2, .int .i64 ((k + 1 : Nat) : Int))] fun γ18 => ⟨⟨ktp (adk_2I A c o x0 x1 x2 γ1 w (z2, k, ys, A4, c4, false)) (kt (bdy Try.f41) [1, 1, 1, 0, 1, 0] []), upv (adk_b34 A c o x0 x1 x2 γ1 z2 k ys A4 c4 B o1) [(5, .slice A17 ((ys ++ [((o[k]!).1, (o[k]!).2.1, (o[k]!).2.2)]).length) c17), (7, .int .i64 ((k + 1 : Nat) : Int)), (12, .int .i64 (k : Int)), (13, .int .i64 ((k + 1 : Nat) : Int)), (40, .pointer (some ⟨B, o1 + k * 3, none⟩)), (41, .agg #[.int .i64 ((o[k]!).1), .int .i64 ((o[k]!).2.1), .int .i64 ((o[k]!).2.2)]), (42, .slice (some ⟨γ16 0, 0, none⟩) 1 1), (43, .slice A17 ((ys ++ [((o[k]!).1, (o[k]!).2.1, (o[k]!).2.2)]).length) c17)], [(γ16 0, 71, (adk_c21 o k)), (γ1 0, 71, (adk_c4 x0 x1 x2))]⟩, [], [Value.int .i64 (IntKind.wrap .i64 ((k : Int) + 1)) = .int .i64 ((k + 1 : Nat) : Int)], by kernel_rfl, (.cons (congrArg (Value.int .i64) (by rw [IntKind.wrap_i64]; omega)) .nil), ?_⟩
      exact nx (st := adk_2s A c o x0 x1 x2 γ1) (F' := adk_2F A c o x0 x1 x2 γ1 w) (ok := adk_2k A c o x0 x1 x2 γ1) (μ := adk_2m A c o x0 x1 x2 γ1) (x := (z2, k, ys, A4, c4, false)) (fun mm => (upv (adk_b34 A c o x0 x1 x2 γ1 z2 k ys A4 c4 B o1) [(5, .slice A17 ((ys ++ [((o[k]!).1, (o[k]!).2.1, (o[k]!).2.2)]).length) c17), (7, .int .i64 ((k + 1 : Nat) : Int)), (12, .int .i64 (k : Int)), (13, .int .i64 ((k + 1 : Nat) : Int)), (40, .pointer (some ⟨B, o1 + k * 3, none⟩)), (41, .agg #[.int .i64 ((o[k]!).1), .int .i64 ((o[k]!).2.1), .int .i64 ((o[k]!).2.2)]), (42, .slice (some ⟨γ16 0, 0, none⟩) 1 1), (43, .slice A17 ((ys ++ [((o[k]!).1, (o[k]!).2.1, (o[k]!).2.2)]).length) c17)]).getD mm zz, (k + 1), ys ++ [((o[k]!).1, (o[k]!).2.1, (o[k]!).2.2)], A17, c17, true) (show IK (x0, x1, x2) o (ys ++ [((o[k]!).1, (o[k]!).2.1, (o[k]!).2.2)]) (k + 1) true ∧ (k + 1) ≤ o.length from ⟨ik_eq hI hin hne, hin⟩) (by show _ < _; simp only [adk_2m]; omega) 1 0 rfl
    · skip
      refine dr [] [] .nil ?_
      refine df [0, 1, 2, 3, 4, 5] [(3, 0)] [] [(3, γ1 0)] [] .nil ?_
      refine dixr 6 (n := o.length) (sz := 3) (j := (k : Int)) hAe k (by omega) ?_
      refine dldr 7 (n := 3) (row := true) [.int .i64 ((o[k]!).1), .int .i64 ((o[k]!).2.1), .int .i64 ((o[k]!).2.2)] (fun W hW => (hat.below (hW.old 1 rfl)).ld (i := k) (by omega) 0 [.int .i64 ((o[k]!).1), .int .i64 ((o[k]!).2.1), .int .i64 ((o[k]!).2.2)] rfl) ?_
      refine dp 8 (fun W hW => rless_b (b := false) hx6 h6k hlt W) ?_
      refine df [9] [] [] [] [] .nil ?_
      refine de (fs := (ktl [1, 0, 0, 0, 0] (adk_2I A c o x0 x1 x2 γ1 w (z2, k, ys, A4, c4, false)) (kt (bdy Try.f41) [1, 1, 1, 0, 1, 0] [])).tail) ?_
      refine st0 (fs := (ktl [1, 0, 0, 0, 0] (adk_2I A c o x0 x1 x2 γ1 w (z2, k, ys, A4, c4, false)) (kt (bdy Try.f41) [1, 1, 1, 0, 1, 0] [])).tail) ((adk_b30 A c o x0 x1 x2 γ1 z2 k ys A4 c4 B o1)) [(γ1 0, 71, (adk_c4 x0 x1 x2))] ?_
      refine lxr ?_
      refine lxf [0, 1, 2, 3] [] [] [] [] .nil ?_
      refine lxi (n := o.length) (sz := 3) (j := (k : Int)) hAe k (by omega) ?_
      refine lxl (n := 3) (row := true) [.int .i64 ((o[k]!).1), .int .i64 ((o[k]!).2.1), .int .i64 ((o[k]!).2.2)] (fun W hW => (hat.below (hW.old 1 rfl)).ld (i := k) (by omega) 0 [.int .i64 ((o[k]!).1), .int .i64 ((o[k]!).2.1), .int .i64 ((o[k]!).2.2)] rfl) ?_
      refine lxf [6] [(3, 0)] [] [(3, γ1 0)] [] .nil ?_
      refine lxe (pos := true) (r := false) false (fun W => (eq71 ((o[k]!).1) ((o[k]!).2.1) ((o[k]!).2.2) x0 x1 x2 W).trans (by rw [decide_eq_false (fun h9 => hne (Prod.ext h9.1 (Prod.ext h9.2.1 h9.2.2)))])) rfl ?_
      refine lxf [8, 9] [] [] [] [] .nil ?_
      refine lxd (fs := (ktl [1, 0, 0, 1, 0] (adk_2I A c o x0 x1 x2 γ1 w (z2, k, ys, A4, c4, false)) (kt (bdy Try.f41) [1, 1, 1, 0, 1, 0] [])).tail) ?_
      refine st0 (fs := (ktl [1, 0, 0, 1, 0] (adk_2I A c o x0 x1 x2 γ1 w (z2, k, ys, A4, c4, false)) (kt (bdy Try.f41) [1, 1, 1, 0, 1, 0] [])).tail) (upv (adk_b30 A c o x0 x1 x2 γ1 z2 k ys A4 c4 B o1) [(28, .bool false), (29, .bool false), (30, .slice A o.length c), (31, .int .i64 (k : Int)), (32, .pointer (some ⟨B, o1 + k * 3, none⟩)), (33, .agg #[.int .i64 ((o[k]!).1), .int .i64 ((o[k]!).2.1), .int .i64 ((o[k]!).2.2)]), (34, .agg #[.int .i64 x0, .int .i64 x1, .int .i64 x2]), (35, .bool false), (36, .bool false)]) [(γ1 0, 71, (adk_c4 x0 x1 x2))] ?_
      refine ck 3 [] [] fun γ19 => ⟨⟨ktl [1, 0, 0, 1, 1, 3] (adk_2I A c o x0 x1 x2 γ1 w (z2, k, ys, A4, c4, false)) (kt (bdy Try.f41) [1, 1, 1, 0, 1, 0] []), upv (adk_b30 A c o x0 x1 x2 γ1 z2 k ys A4 c4 B o1) [(28, .bool false), (29, .bool false), (30, .slice A o.length c), (31, .int .i64 (k : Int)), (32, .pointer (some ⟨B, o1 + k * 3, none⟩)), (33, .agg #[.int .i64 ((o[k]!).1), .int .i64 ((o[k]!).2.1), .int .i64 ((o[k]!).2.2)]), (34, .agg #[.int .i64 x0, .int .i64 x1, .int .i64 x2]), (35, .bool false), (36, .bool false), (37, .slice A4 ys.length c4), (38, .slice A o.length c), (39, .int .i64 (k : Int))], [(γ1 0, 71, (adk_c4 x0 x1 x2))]⟩, [], [], by kernel_rfl, .nil, ?_⟩
      refine ixr (n := o.length) (sz := 3) (j := (k : Int)) hAe k (by omega) ?_
      refine ldr (n := 3) (row := true) [.int .i64 ((o[k]!).1), .int .i64 ((o[k]!).2.1), .int .i64 ((o[k]!).2.2)] (fun W hW => (hat.below (hW.old 1 rfl)).ld (i := k) (by omega) 0 [.int .i64 ((o[k]!).1), .int .i64 ((o[k]!).2.1), .int .i64 ((o[k]!).2.2)] rfl) ?_
      refine ck 1 [] [] fun γ20 => ⟨⟨ktl [1, 0, 0, 1, 1, 6] (adk_2I A c o x0 x1 x2 γ1 w (z2, k, ys, A4, c4, false)) (kt (bdy Try.f41) [1, 1, 1, 0, 1, 0] []), (adk_b36 A c o x0 x1 x2 γ1 z2 k ys A4 c4 B o1 γ20), [(γ20 0, 71, (adk_c21 o k)), (γ1 0, 71, (adk_c4 x0 x1 x2))]⟩, [], [], by kernel_rfl, .nil, ?_⟩
      refine ap (m := 1) (c := 1) (g := (γ20 0)) (T := 71) (cs := [.int .i64 ((o[k]!).1), .int .i64 ((o[k]!).2.1), .int .i64 ((o[k]!).2.2)]) 0 0 24 rfl (by first | omega | (simp only [List.length_append, List.length_cons, List.length_nil]; omega)) (by simp only [maxLen]; first | omega | (simp only [List.length_append, List.length_cons, List.length_nil]; omega)) ((ys ++ [((o[k]!).1, (o[k]!).2.1, (o[k]!).2.2)]).length) ((ys ++ [((o[k]!).1, (o[k]!).2.1, (o[k]!).2.2)]).flatMap encT71) (by simp) (by simp [encT71]) fun A21 c21 => ?_
      refine ck 4 [] [(2, .int .i64 ((k + 1 : Nat) : Int))] fun γ22 => ⟨⟨ktp (adk_2I A c o x0 x1 x2 γ1 w (z2, k, ys, A4, c4, false)) (kt (bdy Try.f41) [1, 1, 1, 0, 1, 0] []), upv (adk_b36 A c o x0 x1 x2 γ1 z2 k ys A4 c4 B o1 γ20) [(5, .slice A21 ((ys ++ [((o[k]!).1, (o[k]!).2.1, (o[k]!).2.2)]).length) c21), (7, .int .i64 ((k + 1 : Nat) : Int)), (12, .int .i64 (k : Int)), (13, .int .i64 ((k + 1 : Nat) : Int)), (43, .slice A21 ((ys ++ [((o[k]!).1, (o[k]!).2.1, (o[k]!).2.2)]).length) c21)], [(γ20 0, 71, (adk_c21 o k)), (γ1 0, 71, (adk_c4 x0 x1 x2))]⟩, [], [Value.int .i64 (IntKind.wrap .i64 ((k : Int) + 1)) = .int .i64 ((k + 1 : Nat) : Int)], by kernel_rfl, (.cons (congrArg (Value.int .i64) (by rw [IntKind.wrap_i64]; omega)) .nil), ?_⟩
      exact nx (st := adk_2s A c o x0 x1 x2 γ1) (F' := adk_2F A c o x0 x1 x2 γ1 w) (ok := adk_2k A c o x0 x1 x2 γ1) (μ := adk_2m A c o x0 x1 x2 γ1) (x := (z2, k, ys, A4, c4, false)) (fun mm => (upv (adk_b36 A c o x0 x1 x2 γ1 z2 k ys A4 c4 B o1 γ20) [(5, .slice A21 ((ys ++ [((o[k]!).1, (o[k]!).2.1, (o[k]!).2.2)]).length) c21), (7, .int .i64 ((k + 1 : Nat) : Int)), (12, .int .i64 (k : Int)), (13, .int .i64 ((k + 1 : Nat) : Int)), (43, .slice A21 ((ys ++ [((o[k]!).1, (o[k]!).2.1, (o[k]!).2.2)]).length) c21)]).getD mm zz, (k + 1), ys ++ [((o[k]!).1, (o[k]!).2.1, (o[k]!).2.2)], A21, c21, false) (show IK (x0, x1, x2) o (ys ++ [((o[k]!).1, (o[k]!).2.1, (o[k]!).2.2)]) (k + 1) false ∧ (k + 1) ≤ o.length from ⟨ik_not hI hin hlt hne, hin⟩) (by show _ < _; simp only [adk_2m]; omega) 1 0 rfl
  · skip
    refine ck 4 [] [(3, .bool false)] fun γ23 => ⟨⟨kt (bdy Try.f41) [1, 1, 1, 1, 0, 0, 0] [], upv (adk_b8 A c o x0 x1 x2 γ1 z2 k ys A4 c4 put) [(8, .int .i64 (k : Int)), (9, .slice A o.length c), (10, .int .i64 ((o.length : Nat) : Int)), (11, .bool false)], [(γ1 0, 71, (adk_c4 x0 x1 x2))]⟩, [], [Value.bool (decide (((k : Int) : Int) < ((o.length : Nat) : Int))) = .bool false], by kernel_rfl, (.cons (cbF (by omega)) .nil), ?_⟩
    have hen := ik_end hI (by omega)
    have hq : put = true ∨ put = false := by cases put <;> simp
    rcases hq with rfl | rfl
    · skip
      refine ck 4 [] [] fun γ24 => ⟨⟨kt (bdy Try.f41) [1, 1, 1, 1, 1, 1] [], (adk_b40 A c o x0 x1 x2 γ1 z2 k ys A4 c4), [(γ1 0, 71, (adk_c4 x0 x1 x2))]⟩, [], [], by kernel_rfl, .nil, ?_⟩
      refine rt (.slice A4 ys.length c4) [] [] (fun W hW => ?_)
      have hen2 : ys = adK (x0, x1, x2) o := hen.2 rfl
      rw [← hen2]
      exact ⟨(A4, c4), rfl, Fresh.of (R := [rowA 71 3 (.slice A4 ys.length c4) ys.length (ys.flatMap encT71)]) (hW.perm (List.Perm.refl _)) (.cons_cons _ (.cons_cons _ (.slnil)))⟩
    · skip
      refine ck 5 [(3, 0)] [] fun γ25 => ⟨⟨kt (bdy Try.f41) [1, 1, 1, 1, 0, 1, 0, 3] [], (adk_b44 A c o x0 x1 x2 γ1 z2 k ys A4 c4 γ25), [(γ25 4, 71, (adk_c4 x0 x1 x2)), (γ1 0, 71, (adk_c4 x0 x1 x2))]⟩, [(3, γ1 0)], [], by kernel_rfl, .nil, ?_⟩
      refine ap (m := 1) (c := 1) (g := (γ25 4)) (T := 71) (cs := [.int .i64 x0, .int .i64 x1, .int .i64 x2]) 0 0 24 rfl (by first | omega | (simp only [List.length_append, List.length_cons, List.length_nil]; omega)) (by simp only [maxLen]; first | omega | (simp only [List.length_append, List.length_cons, List.length_nil]; omega)) ((ys ++ [(x0, x1, x2)]).length) ((ys ++ [(x0, x1, x2)]).flatMap encT71) (by simp) (by simp [encT71]) fun A26 c26 => ?_
      refine ck 3 [] [] fun γ27 => ⟨⟨kt (bdy Try.f41) [1, 1, 1, 1, 1, 1] [], upv (adk_b44 A c o x0 x1 x2 γ1 z2 k ys A4 c4 γ25) [(4, .slice A26 ((ys ++ [(x0, x1, x2)]).length) c26), (5, .slice A26 ((ys ++ [(x0, x1, x2)]).length) c26), (49, .slice A26 ((ys ++ [(x0, x1, x2)]).length) c26), (50, .slice A26 ((ys ++ [(x0, x1, x2)]).length) c26)], [(γ25 4, 71, (adk_c4 x0 x1 x2)), (γ1 0, 71, (adk_c4 x0 x1 x2))]⟩, [], [], by kernel_rfl, .nil, ?_⟩
      refine rt (.slice A26 ((ys ++ [(x0, x1, x2)]).length) c26) [] [] (fun W hW => ?_)
      have hen2 : ys ++ [(x0, x1, x2)] = adK (x0, x1, x2) o := hen.1 rfl
      rw [← hen2]
      exact ⟨(A26, c26), rfl, Fresh.of (R := [rowA 71 3 (.slice A26 ((ys ++ [(x0, x1, x2)]).length) c26) (ys ++ [(x0, x1, x2)]).length ((ys ++ [(x0, x1, x2)]).flatMap encT71)]) (hW.perm (List.Perm.refl _)) (.cons_cons _ (.cons_cons _ (.slnil)))⟩
theorem eq_of_get {xs ys : List P3} (hl : xs.length = ys.length) (h : ∀ j, j < xs.length → xs[j]! = ys[j]!) : xs = ys := by
  refine List.ext_getElem hl fun i h1 h2 => ?_
  have h3 := h i h1
  rw [getElem!_pos xs i h1, getElem!_pos ys i h2] at h3
  exact h3
def key_l0 (A : Option Addr) (c : Nat) (xs : List P3) (A1 : Option Addr) (c1 : Nat) (ys : List P3) : List Value := [.slice A xs.length c, .slice A1 ys.length c1, zz, zz, .bool false, zz, zz, zz, zz, zz, zz, zz, zz, zz, zz, zz]
def key_l1 : List Value := [zz, zz, zz, zz, zz, zz, zz, zz, zz, zz]
def key_b2 (A : Option Addr) (c : Nat) (xs : List P3) (A1 : Option Addr) (c1 : Nat) (ys : List P3) : List Value := (key_l0 A c xs A1 c1 ys) ++ (key_l1)
def key_l3 (A : Option Addr) (c : Nat) (xs : List P3) (A1 : Option Addr) (c1 : Nat) (ys : List P3) (z3 : Nat → Value) (i : Nat) : List Value := [.slice A xs.length c, .slice A1 ys.length c1, zz, zz, z3 4, .int .i64 (i : Int), .slice A xs.length c, .int .i64 ((xs.length : Nat) : Int), .slice A1 ys.length c1, .int .i64 ((ys.length : Nat) : Int), .bool false, z3 11, z3 12, z3 13, z3 14, z3 15]
def key_l4 (z3 : Nat → Value) : List Value := [z3 16, z3 17, z3 18, z3 19, z3 20, z3 21, z3 22, z3 23, z3 24, z3 25]
def key_b5 (A : Option Addr) (c : Nat) (xs : List P3) (A1 : Option Addr) (c1 : Nat) (ys : List P3) (z3 : Nat → Value) (i : Nat) : List Value := (key_l3 A c xs A1 c1 ys z3 i) ++ ((key_l4 z3))
abbrev key_3X := (Nat → Value) × Nat
def key_3s (A : Option Addr) (c : Nat) (xs : List P3) (A1 : Option Addr) (c1 : Nat) (ys : List P3) (x : key_3X) : List Value × List Blk := ((key_b5 A c xs A1 c1 ys (x.1) (x.2)), [])
def key_3k (A : Option Addr) (c : Nat) (xs : List P3) (A1 : Option Addr) (c1 : Nat) (ys : List P3) (x : key_3X) : Prop := (x.2) ≤ xs.length ∧ ∀ j, j < (x.2) → xs[j]! = ys[j]!
def key_3m (A : Option Addr) (c : Nat) (xs : List P3) (A1 : Option Addr) (c1 : Nat) (ys : List P3) (x : key_3X) : Nat := xs.length - (x.2)
def key_3F (A : Option Addr) (c : Nat) (xs : List P3) (A1 : Option Addr) (c1 : Nat) (ys : List P3) (w : World) (x : key_3X) : List Asrt := [old w]
abbrev key_3I (A : Option Addr) (c : Nat) (xs : List P3) (A1 : Option Addr) (c1 : Nat) (ys : List P3) (w : World) (x : key_3X) : Act → World → Prop := Inv (key_3s A c xs A1 c1 ys) (key_3F A c xs A1 c1 ys w) (key_3k A c xs A1 c1 ys) (key_3m A c xs A1 c1 ys) x
def key_l12 (A : Option Addr) (c : Nat) (xs : List P3) (A1 : Option Addr) (c1 : Nat) (ys : List P3) : List Value := [.slice A xs.length c, .slice A1 ys.length c1, zz, zz, .bool false, .int .i64 0, .slice A xs.length c, .int .i64 ((xs.length : Nat) : Int), .slice A1 ys.length c1, .int .i64 ((ys.length : Nat) : Int), .bool false, zz, zz, zz, zz, zz]
def key_b13 (A : Option Addr) (c : Nat) (xs : List P3) (A1 : Option Addr) (c1 : Nat) (ys : List P3) : List Value := (key_l12 A c xs A1 c1 ys) ++ (key_l1)
def key_l14 (A : Option Addr) (c : Nat) (xs : List P3) (A1 : Option Addr) (c1 : Nat) (ys : List P3) (z3 : Nat → Value) (i : Nat) : List Value := [.slice A xs.length c, .slice A1 ys.length c1, zz, zz, z3 4, .int .i64 (i : Int), .slice A xs.length c, .int .i64 ((xs.length : Nat) : Int), .slice A1 ys.length c1, .int .i64 ((ys.length : Nat) : Int), .bool false, .int .i64 (i : Int), .slice A xs.length c, .int .i64 ((xs.length : Nat) : Int), .bool true, z3 15]
def key_l15 (A : Option Addr) (c : Nat) (xs : List P3) (A1 : Option Addr) (c1 : Nat) (ys : List P3) (z3 : Nat → Value) (i : Nat) (B : Nat) (o : Nat) (B1 : Nat) (o1 : Nat) : List Value := [z3 16, .slice A xs.length c, .int .i64 (i : Int), .pointer (some ⟨B, o + i * 3, none⟩), .agg #[.int .i64 ((xs[i]!).1), .int .i64 ((xs[i]!).2.1), .int .i64 ((xs[i]!).2.2)], .slice A1 ys.length c1, .int .i64 (i : Int), .pointer (some ⟨B1, o1 + i * 3, none⟩), .agg #[.int .i64 ((ys[i]!).1), .int .i64 ((ys[i]!).2.1), .int .i64 ((ys[i]!).2.2)], .bool false]
def key_b16 (A : Option Addr) (c : Nat) (xs : List P3) (A1 : Option Addr) (c1 : Nat) (ys : List P3) (z3 : Nat → Value) (i : Nat) (B : Nat) (o : Nat) (B1 : Nat) (o1 : Nat) : List Value := (key_l14 A c xs A1 c1 ys z3 i) ++ ((key_l15 A c xs A1 c1 ys z3 i B o B1 o1))
def key_l17 (A : Option Addr) (c : Nat) (xs : List P3) (A1 : Option Addr) (c1 : Nat) (ys : List P3) (z3 : Nat → Value) (i : Nat) (B : Nat) (o : Nat) (B1 : Nat) (o1 : Nat) : List Value := [z3 16, .slice A xs.length c, .int .i64 (i : Int), .pointer (some ⟨B, o + i * 3, none⟩), .agg #[.int .i64 ((xs[i]!).1), .int .i64 ((xs[i]!).2.1), .int .i64 ((xs[i]!).2.2)], .slice A1 ys.length c1, .int .i64 (i : Int), .pointer (some ⟨B1, o1 + i * 3, none⟩), .agg #[.int .i64 ((ys[i]!).1), .int .i64 ((ys[i]!).2.1), .int .i64 ((ys[i]!).2.2)], .bool true]
def key_b18 (A : Option Addr) (c : Nat) (xs : List P3) (A1 : Option Addr) (c1 : Nat) (ys : List P3) (z3 : Nat → Value) (i : Nat) (B : Nat) (o : Nat) (B1 : Nat) (o1 : Nat) : List Value := (key_l14 A c xs A1 c1 ys z3 i) ++ ((key_l17 A c xs A1 c1 ys z3 i B o B1 o1))
set_option maxHeartbeats 8000000 in
set_option maxRecDepth 100000 in
theorem keys_is {w : World} {A A1 : Option Addr} {c c1 : Nat} {xs ys : List P3} (h : Rd w (.slice A xs.length c) 3 encT71 xs) (h1 : Rd w (.slice A1 ys.length c1) 3 encT71 ys) (hl : xs.length ≤ 1000) (hl1 : ys.length ≤ 1000) : Calls Try.prog 15 #[.slice A xs.length c, .slice A1 ys.length c1] w fun e w' => e = .returned (.bool (decide (xs = ys))) ∧ Below w.heap.size w w' := by
  refine enter (args := [.slice A xs.length c, .slice A1 ys.length c1]) (fn := Try.f15) rfl (c := bdy Try.f15) (by kernel_rfl) ?_
  refine ck 1 [] [] fun γ1 => ⟨⟨kt (bdy Try.f15) [1, 0, 0, 0] [], (key_b2 A c xs A1 c1 ys), []⟩, [], [], by kernel_rfl, .nil, ?_⟩
  by_cases hlen : xs.length = ys.length
  · skip
    refine ck 6 [] [(4, .bool false)] fun γ2 => ⟨⟨kt (bdy Try.f15) [1, 1, 0, 1, 0] [], upv (key_b2 A c xs A1 c1 ys) [(5, .int .i64 0), (6, .slice A xs.length c), (7, .int .i64 ((xs.length : Nat) : Int)), (8, .slice A1 ys.length c1), (9, .int .i64 ((ys.length : Nat) : Int)), (10, .bool false)], []⟩, [], [Value.bool ((((xs.length : Nat) : Int) : Int) != ((ys.length : Nat) : Int)) = .bool false], by kernel_rfl, (.cons (cnF (by omega)) .nil), ?_⟩
    refine lp (key_3s A c xs A1 c1 ys) (key_3F A c xs A1 c1 ys w) (key_3k A c xs A1 c1 ys) (key_3m A c xs A1 c1 ys) ((fun mm => ((key_b13 A c xs A1 c1 ys)).getD mm zz, 0)) (kt (bdy Try.f15) [1, 1, 0, 1, 0] []) ⟨Nat.zero_le _, fun j hj => absurd hj (Nat.not_lt_zero j)⟩ rfl ?_
    rintro ⟨z3, i⟩ hok
    obtain ⟨hi, hx⟩ : i ≤ xs.length ∧ ∀ j, j < i → xs[j]! = ys[j]! := hok
    refine st1 (ktl [] (key_3I A c xs A1 c1 ys w (z3, i)) (kt (bdy Try.f15) [1, 1, 0, 1, 0] [])) ((key_b5 A c xs A1 c1 ys z3 i)) [] ?_
    by_cases hin : i < xs.length
    · skip
      obtain ⟨B, o, hAe, hat⟩ := h.at (i := i) (by omega)
      obtain ⟨B1, o1, hAe1, hat1⟩ := h1.at (i := i) (by omega)
      refine ck 4 [] [(3, .bool true)] fun γ4 => ⟨⟨ktl [1, 0, 0, 0] (key_3I A c xs A1 c1 ys w (z3, i)) (kt (bdy Try.f15) [1, 1, 0, 1, 0] []), upv (key_b5 A c xs A1 c1 ys z3 i) [(11, .int .i64 (i : Int)), (12, .slice A xs.length c), (13, .int .i64 ((xs.length : Nat) : Int)), (14, .bool true)], []⟩, [], [Value.bool (decide (((i : Int) : Int) < ((xs.length : Nat) : Int))) = .bool true], by kernel_rfl, (.cons (cbT (by omega)) .nil), ?_⟩
      by_cases heq : xs[i]! = ys[i]!
      · skip
        refine dr [] [] .nil ?_
        refine df [0, 1, 4, 5] [] [] [] [] .nil ?_
        refine dixr 2 (n := xs.length) (sz := 3) (j := (i : Int)) hAe i (by omega) ?_
        refine dldr 3 (n := 3) (row := true) [.int .i64 ((xs[i]!).1), .int .i64 ((xs[i]!).2.1), .int .i64 ((xs[i]!).2.2)] (fun W hW => (hat.below (hW.old 0 rfl)).ld (i := i) (by omega) 0 [.int .i64 ((xs[i]!).1), .int .i64 ((xs[i]!).2.1), .int .i64 ((xs[i]!).2.2)] rfl) ?_
        refine dixr 6 (n := ys.length) (sz := 3) (j := (i : Int)) hAe1 i (by omega) ?_
        refine dldr 7 (n := 3) (row := true) [.int .i64 ((ys[i]!).1), .int .i64 ((ys[i]!).2.1), .int .i64 ((ys[i]!).2.2)] (fun W hW => (hat1.below (hW.old 0 rfl)).ld (i := i) (by omega) 0 [.int .i64 ((ys[i]!).1), .int .i64 ((ys[i]!).2.1), .int .i64 ((ys[i]!).2.2)] rfl) ?_
        refine deqr 8 (pos := false) (r := true) false (fun W => (eq71 ((xs[i]!).1) ((xs[i]!).2.1) ((xs[i]!).2.2) ((ys[i]!).1) ((ys[i]!).2.1) ((ys[i]!).2.2) W).trans (by rw [decide_eq_true (by rw [heq]; exact ⟨rfl, rfl, rfl⟩)])) rfl ?_
        refine de (fs := (ktl [1, 0, 0, 0] (key_3I A c xs A1 c1 ys w (z3, i)) (kt (bdy Try.f15) [1, 1, 0, 1, 0] [])).tail) ?_
        refine st0 (fs := (ktl [1, 0, 0, 0] (key_3I A c xs A1 c1 ys w (z3, i)) (kt (bdy Try.f15) [1, 1, 0, 1, 0] [])).tail) ((key_b16 A c xs A1 c1 ys z3 i B o B1 o1)) [] ?_
        refine ck 3 [] [(1, .int .i64 ((i + 1 : Nat) : Int))] fun γ5 => ⟨⟨ktp (key_3I A c xs A1 c1 ys w (z3, i)) (kt (bdy Try.f15) [1, 1, 0, 1, 0] []), upv (key_b16 A c xs A1 c1 ys z3 i B o B1 o1) [(5, .int .i64 ((i + 1 : Nat) : Int)), (15, .int .i64 (i : Int)), (16, .int .i64 ((i + 1 : Nat) : Int))], []⟩, [], [Value.int .i64 (IntKind.wrap .i64 ((i : Int) + 1)) = .int .i64 ((i + 1 : Nat) : Int)], by kernel_rfl, (.cons (congrArg (Value.int .i64) (by rw [IntKind.wrap_i64]; omega)) .nil), ?_⟩
        exact nx (st := key_3s A c xs A1 c1 ys) (F' := key_3F A c xs A1 c1 ys w) (ok := key_3k A c xs A1 c1 ys) (μ := key_3m A c xs A1 c1 ys) (x := (z3, i)) (fun mm => (upv (key_b16 A c xs A1 c1 ys z3 i B o B1 o1) [(5, .int .i64 ((i + 1 : Nat) : Int)), (15, .int .i64 (i : Int)), (16, .int .i64 ((i + 1 : Nat) : Int))]).getD mm zz, (i + 1)) (show (i + 1) ≤ xs.length ∧ ∀ j, j < (i + 1) → xs[j]! = ys[j]! from ⟨by omega, fun j hj => by rcases Nat.lt_succ_iff_lt_or_eq.1 hj with h9 | h9; exact hx j h9; subst h9; exact heq⟩) (by show _ < _; simp only [key_3m]; omega) 0 0 rfl
      · skip
        refine dr [] [] .nil ?_
        refine df [0, 1, 4, 5] [] [] [] [] .nil ?_
        refine dixr 2 (n := xs.length) (sz := 3) (j := (i : Int)) hAe i (by omega) ?_
        refine dldr 3 (n := 3) (row := true) [.int .i64 ((xs[i]!).1), .int .i64 ((xs[i]!).2.1), .int .i64 ((xs[i]!).2.2)] (fun W hW => (hat.below (hW.old 0 rfl)).ld (i := i) (by omega) 0 [.int .i64 ((xs[i]!).1), .int .i64 ((xs[i]!).2.1), .int .i64 ((xs[i]!).2.2)] rfl) ?_
        refine dixr 6 (n := ys.length) (sz := 3) (j := (i : Int)) hAe1 i (by omega) ?_
        refine dldr 7 (n := 3) (row := true) [.int .i64 ((ys[i]!).1), .int .i64 ((ys[i]!).2.1), .int .i64 ((ys[i]!).2.2)] (fun W hW => (hat1.below (hW.old 0 rfl)).ld (i := i) (by omega) 0 [.int .i64 ((ys[i]!).1), .int .i64 ((ys[i]!).2.1), .int .i64 ((ys[i]!).2.2)] rfl) ?_
        refine deqr 8 (pos := false) (r := false) true (fun W => (eq71 ((xs[i]!).1) ((xs[i]!).2.1) ((xs[i]!).2.2) ((ys[i]!).1) ((ys[i]!).2.1) ((ys[i]!).2.2) W).trans (by rw [decide_eq_false (fun h9 => heq (Prod.ext h9.1 (Prod.ext h9.2.1 h9.2.2)))])) rfl ?_
        refine de (fs := (ktl [1, 0, 0, 0] (key_3I A c xs A1 c1 ys w (z3, i)) (kt (bdy Try.f15) [1, 1, 0, 1, 0] [])).tail) ?_
        refine st0 (fs := (ktl [1, 0, 0, 0] (key_3I A c xs A1 c1 ys w (z3, i)) (kt (bdy Try.f15) [1, 1, 0, 1, 0] [])).tail) ((key_b18 A c xs A1 c1 ys z3 i B o B1 o1)) [] ?_
        refine ck 1 [] [] fun γ6 => ⟨⟨ktl [1, 0, 0, 1, 0, 1] (key_3I A c xs A1 c1 ys w (z3, i)) (kt (bdy Try.f15) [1, 1, 0, 1, 0] []), upv (key_b18 A c xs A1 c1 ys z3 i B o B1 o1) [(4, .bool false)], []⟩, [], [], by kernel_rfl, .nil, ?_⟩
        refine rt (.bool false) [] [] (fun W hW => ?_)
        rw [decide_eq_false (fun h9 => by first | exact heq (by rw [h9]) | exact hlen (by rw [h9]))]
        exact ⟨rfl, (hW.old 0 rfl)⟩
    · skip
      refine ck 5 [] [(3, .bool false)] fun γ7 => ⟨⟨kt (bdy Try.f15) [1, 1, 1, 1] [], upv (key_b5 A c xs A1 c1 ys z3 i) [(4, .bool true), (11, .int .i64 (i : Int)), (12, .slice A xs.length c), (13, .int .i64 ((xs.length : Nat) : Int)), (14, .bool false)], []⟩, [], [Value.bool (decide (((i : Int) : Int) < ((xs.length : Nat) : Int))) = .bool false], by kernel_rfl, (.cons (cbF (by omega)) .nil), ?_⟩
      refine rt (.bool true) [] [] (fun W hW => ?_)
      rw [decide_eq_true (eq_of_get hlen fun j hj => hx j (by omega))]
      exact ⟨rfl, (hW.old 0 rfl)⟩
  · skip
    refine ck 6 [] [(4, .bool true)] fun γ8 => ⟨⟨kt (bdy Try.f15) [1, 0, 1, 0, 1] [], upv (key_b2 A c xs A1 c1 ys) [(6, .slice A xs.length c), (7, .int .i64 ((xs.length : Nat) : Int)), (8, .slice A1 ys.length c1), (9, .int .i64 ((ys.length : Nat) : Int)), (10, .bool true)], []⟩, [], [Value.bool ((((xs.length : Nat) : Int) : Int) != ((ys.length : Nat) : Int)) = .bool true], by kernel_rfl, (.cons (cnT (by omega)) .nil), ?_⟩
    refine rt (.bool false) [] [] (fun W hW => ?_)
    rw [decide_eq_false (fun h9 => by first | exact heq (by rw [h9]) | exact hlen (by rw [h9]))]
    exact ⟨rfl, (hW.old 0 rfl)⟩
end Go.Proofs.Ythcmcekjgecnhab.Sr
