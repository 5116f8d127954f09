/- The plain Less. No condition beside those that each theorem names. -/
import Derived.Test.YthcmcekjgecnhacFtG
namespace Go.Proofs.Ythcmcekjgecnhac.Sr
open Go.RowKit Go.Proofs.YthcmcekjgecnhacM.Mach
set_option linter.unusedVariables false
set_option linter.unusedSimpArgs false
def rless_raw_0_l0 (x0 : Int) (x1 : Int) (x2 : Int) (y0 : Int) (y1 : Int) (y2 : Int) (γ1 : Nat → Nat) : List Value := [.agg #[.int .i64 x0, .int .i64 x1, .int .i64 x2], .agg #[.int .i64 y0, .int .i64 y1, .int .i64 y2], .pointer (some ⟨γ1 0, 0, none⟩), .pointer (some ⟨γ1 1, 0, none⟩), .bool true, .pointer (some ⟨γ1 0, 0, none⟩), .int .i64 x0, .pointer (some ⟨γ1 1, 0, none⟩), .int .i64 y0, .bool true, .pointer (some ⟨γ1 0, 0, none⟩), .int .i64 x0, .pointer (some ⟨γ1 1, 0, none⟩), .int .i64 y0, .bool true, zz]
def rless_raw_0_l1 : List Value := [zz, zz, zz, zz, zz, zz, zz, zz, zz, zz, zz, zz, zz, zz]
def rless_raw_0_b2 (x0 : Int) (x1 : Int) (x2 : Int) (y0 : Int) (y1 : Int) (y2 : Int) (γ1 : Nat → Nat) : List Value := (rless_raw_0_l0 x0 x1 x2 y0 y1 y2 γ1) ++ (rless_raw_0_l1)
def rless_raw_0_c3 (y0 : Int) (y1 : Int) (y2 : Int) : List Value := [.int .i64 y0, .int .i64 y1, .int .i64 y2]
def rless_raw_0_c4 (x0 : Int) (x1 : Int) (x2 : Int) : List Value := [.int .i64 x0, .int .i64 x1, .int .i64 x2]
def rless_raw_1_l0 (x0 : Int) (x1 : Int) (x2 : Int) (y0 : Int) (y1 : Int) (y2 : Int) (γ1 : Nat → Nat) : List Value := [.agg #[.int .i64 x0, .int .i64 x1, .int .i64 x2], .agg #[.int .i64 y0, .int .i64 y1, .int .i64 y2], .pointer (some ⟨γ1 0, 0, none⟩), .pointer (some ⟨γ1 1, 0, none⟩), .bool false, .pointer (some ⟨γ1 0, 0, none⟩), .int .i64 x0, .pointer (some ⟨γ1 1, 0, none⟩), .int .i64 y0, .bool true, .pointer (some ⟨γ1 0, 0, none⟩), .int .i64 x0, .pointer (some ⟨γ1 1, 0, none⟩), .int .i64 y0, .bool false, zz]
def rless_raw_1_l1 : List Value := [zz, zz, zz, zz, zz, zz, zz, zz, zz, zz, zz, zz, zz, zz]
def rless_raw_1_b2 (x0 : Int) (x1 : Int) (x2 : Int) (y0 : Int) (y1 : Int) (y2 : Int) (γ1 : Nat → Nat) : List Value := (rless_raw_1_l0 x0 x1 x2 y0 y1 y2 γ1) ++ (rless_raw_1_l1)
def rless_raw_1_c3 (y0 : Int) (y1 : Int) (y2 : Int) : List Value := [.int .i64 y0, .int .i64 y1, .int .i64 y2]
def rless_raw_1_c4 (x0 : Int) (x1 : Int) (x2 : Int) : List Value := [.int .i64 x0, .int .i64 x1, .int .i64 x2]
def rless_raw_2_l0 (x0 : Int) (x1 : Int) (x2 : Int) (y0 : Int) (y1 : Int) (y2 : Int) (γ1 : Nat → Nat) : List Value := [.agg #[.int .i64 x0, .int .i64 x1, .int .i64 x2], .agg #[.int .i64 y0, .int .i64 y1, .int .i64 y2], .pointer (some ⟨γ1 0, 0, none⟩), .pointer (some ⟨γ1 1, 0, none⟩), .bool true, .pointer (some ⟨γ1 0, 0, none⟩), .int .i64 x0, .pointer (some ⟨γ1 1, 0, none⟩), .int .i64 y0, .bool false, zz, zz, zz, zz, zz, .pointer (some ⟨γ1 0, 1, none⟩)]
def rless_raw_2_l1 (x1 : Int) (y1 : Int) (γ1 : Nat → Nat) : List Value := [.int .i64 x1, .pointer (some ⟨γ1 1, 1, none⟩), .int .i64 y1, .bool true, .pointer (some ⟨γ1 0, 1, none⟩), .int .i64 x1, .pointer (some ⟨γ1 1, 1, none⟩), .int .i64 y1, .bool true, zz, zz, zz, zz, zz]
def rless_raw_2_b2 (x0 : Int) (x1 : Int) (x2 : Int) (y0 : Int) (y1 : Int) (y2 : Int) (γ1 : Nat → Nat) : List Value := (rless_raw_2_l0 x0 x1 x2 y0 y1 y2 γ1) ++ ((rless_raw_2_l1 x1 y1 γ1))
def rless_raw_2_c3 (y0 : Int) (y1 : Int) (y2 : Int) : List Value := [.int .i64 y0, .int .i64 y1, .int .i64 y2]
def rless_raw_2_c4 (x0 : Int) (x1 : Int) (x2 : Int) : List Value := [.int .i64 x0, .int .i64 x1, .int .i64 x2]
def rless_raw_3_l0 (x0 : Int) (x1 : Int) (x2 : Int) (y0 : Int) (y1 : Int) (y2 : Int) (γ1 : Nat → Nat) : List Value := [.agg #[.int .i64 x0, .int .i64 x1, .int .i64 x2], .agg #[.int .i64 y0, .int .i64 y1, .int .i64 y2], .pointer (some ⟨γ1 0, 0, none⟩), .pointer (some ⟨γ1 1, 0, none⟩), .bool false, .pointer (some ⟨γ1 0, 0, none⟩), .int .i64 x0, .pointer (some ⟨γ1 1, 0, none⟩), .int .i64 y0, .bool false, zz, zz, zz, zz, zz, .pointer (some ⟨γ1 0, 1, none⟩)]
def rless_raw_3_l1 (x1 : Int) (y1 : Int) (γ1 : Nat → Nat) : List Value := [.int .i64 x1, .pointer (some ⟨γ1 1, 1, none⟩), .int .i64 y1, .bool true, .pointer (some ⟨γ1 0, 1, none⟩), .int .i64 x1, .pointer (some ⟨γ1 1, 1, none⟩), .int .i64 y1, .bool false, zz, zz, zz, zz, zz]
def rless_raw_3_b2 (x0 : Int) (x1 : Int) (x2 : Int) (y0 : Int) (y1 : Int) (y2 : Int) (γ1 : Nat → Nat) : List Value := (rless_raw_3_l0 x0 x1 x2 y0 y1 y2 γ1) ++ ((rless_raw_3_l1 x1 y1 γ1))
def rless_raw_3_c3 (y0 : Int) (y1 : Int) (y2 : Int) : List Value := [.int .i64 y0, .int .i64 y1, .int .i64 y2]
def rless_raw_3_c4 (x0 : Int) (x1 : Int) (x2 : Int) : List Value := [.int .i64 x0, .int .i64 x1, .int .i64 x2]
def rless_raw_4_l0 (x0 : Int) (x1 : Int) (x2 : Int) (y0 : Int) (y1 : Int) (y2 : Int) (γ1 : Nat → Nat) : List Value := [.agg #[.int .i64 x0, .int .i64 x1, .int .i64 x2], .agg #[.int .i64 y0, .int .i64 y1, .int .i64 y2], .pointer (some ⟨γ1 0, 0, none⟩), .pointer (some ⟨γ1 1, 0, none⟩), .bool true, .pointer (some ⟨γ1 0, 0, none⟩), .int .i64 x0, .pointer (some ⟨γ1 1, 0, none⟩), .int .i64 y0, .bool false, zz, zz, zz, zz, zz, .pointer (some ⟨γ1 0, 1, none⟩)]
def rless_raw_4_l1 (x1 : Int) (x2 : Int) (y1 : Int) (y2 : Int) (γ1 : Nat → Nat) : List Value := [.int .i64 x1, .pointer (some ⟨γ1 1, 1, none⟩), .int .i64 y1, .bool false, zz, zz, zz, zz, zz, .pointer (some ⟨γ1 0, 2, none⟩), .int .i64 x2, .pointer (some ⟨γ1 1, 2, none⟩), .int .i64 y2, .bool true]
def rless_raw_4_b2 (x0 : Int) (x1 : Int) (x2 : Int) (y0 : Int) (y1 : Int) (y2 : Int) (γ1 : Nat → Nat) : List Value := (rless_raw_4_l0 x0 x1 x2 y0 y1 y2 γ1) ++ ((rless_raw_4_l1 x1 x2 y1 y2 γ1))
def rless_raw_4_c3 (y0 : Int) (y1 : Int) (y2 : Int) : List Value := [.int .i64 y0, .int .i64 y1, .int .i64 y2]
def rless_raw_4_c4 (x0 : Int) (x1 : Int) (x2 : Int) : List Value := [.int .i64 x0, .int .i64 x1, .int .i64 x2]
def rless_raw_5_l0 (x0 : Int) (x1 : Int) (x2 : Int) (y0 : Int) (y1 : Int) (y2 : Int) (γ1 : Nat → Nat) : List Value := [.agg #[.int .i64 x0, .int .i64 x1, .int .i64 x2], .agg #[.int .i64 y0, .int .i64 y1, .int .i64 y2], .pointer (some ⟨γ1 0, 0, none⟩), .pointer (some ⟨γ1 1, 0, none⟩), .bool false, .pointer (some ⟨γ1 0, 0, none⟩), .int .i64 x0, .pointer (some ⟨γ1 1, 0, none⟩), .int .i64 y0, .bool false, zz, zz, zz, zz, zz, .pointer (some ⟨γ1 0, 1, none⟩)]
def rless_raw_5_l1 (x1 : Int) (x2 : Int) (y1 : Int) (y2 : Int) (γ1 : Nat → Nat) : List Value := [.int .i64 x1, .pointer (some ⟨γ1 1, 1, none⟩), .int .i64 y1, .bool false, zz, zz, zz, zz, zz, .pointer (some ⟨γ1 0, 2, none⟩), .int .i64 x2, .pointer (some ⟨γ1 1, 2, none⟩), .int .i64 y2, .bool false]
def rless_raw_5_b2 (x0 : Int) (x1 : Int) (x2 : Int) (y0 : Int) (y1 : Int) (y2 : Int) (γ1 : Nat → Nat) : List Value := (rless_raw_5_l0 x0 x1 x2 y0 y1 y2 γ1) ++ ((rless_raw_5_l1 x1 x2 y1 y2 γ1))
def rless_raw_5_c3 (y0 : Int) (y1 : Int) (y2 : Int) : List Value := [.int .i64 y0, .int .i64 y1, .int .i64 y2]
def rless_raw_5_c4 (x0 : Int) (x1 : Int) (x2 : Int) : List Value := [.int .i64 x0, .int .i64 x1, .int .i64 x2]
set_option maxHeartbeats 8000000 in
set_option maxRecDepth 100000 in
theorem rless_raw (x0 x1 x2 y0 y1 y2 : Int) (w : World) : Calls Try.prog 56 #[.agg #[.int .i64 x0, .int .i64 x1, .int .i64 x2], .agg #[.int .i64 y0, .int .i64 y1, .int .i64 y2]] w fun e w' => e = .returned (.bool (ltP (x0, x1, x2) (y0, y1, y2))) ∧ Below w.heap.size w w' := by
  have hc : (x0 < y0) ∨ (y0 < x0) ∨ (x0 = y0 ∧ x1 < y1) ∨ (x0 = y0 ∧ y1 < x1) ∨ (x0 = y0 ∧ x1 = y1 ∧ x2 < y2) ∨ (x0 = y0 ∧ x1 = y1 ∧ ¬ x2 < y2) := by omega
  rcases hc with hc | hc | hc | hc | hc | hc
  · skip
    refine enter (args := [.agg #[.int .i64 x0, .int .i64 x1, .int .i64 x2], .agg #[.int .i64 y0, .int .i64 y1, .int .i64 y2]]) (fn := Try.f56) rfl (c := bdy Try.f56) (by kernel_rfl) ?_
    refine ck 14 [(1, 1), (1, 0), (1, 1), (1, 0)] [(7, .bool true), (12, .bool true)] fun γ1 => ⟨⟨kt (bdy Try.f56) [1, 0, 1, 0, 1] [], (rless_raw_0_b2 x0 x1 x2 y0 y1 y2 γ1), [(γ1 1, 46, (rless_raw_0_c3 y0 y1 y2)), (γ1 0, 46, (rless_raw_0_c4 x0 x1 x2))]⟩, [(1, γ1 0), (1, γ1 1), (1, γ1 0), (1, γ1 1)], [Value.bool ((x0 : Int) != y0) = .bool true, Value.bool (decide ((x0 : Int) < y0)) = .bool true], by kernel_rfl, (.cons (cnT (by omega)) (.cons (cbT (by omega)) .nil)), ?_⟩
    refine rt (.bool true) [] [] (fun W hW => ?_)
    have hg : ltP (x0, x1, x2) (y0, y1, y2) = true := by
      unfold ltP
      exact decide_eq_true (by simp only; omega)
    rw [hg]
    exact ⟨rfl, (hW.old 0 rfl)⟩
  · skip
    refine enter (args := [.agg #[.int .i64 x0, .int .i64 x1, .int .i64 x2], .agg #[.int .i64 y0, .int .i64 y1, .int .i64 y2]]) (fn := Try.f56) rfl (c := bdy Try.f56) (by kernel_rfl) ?_
    refine ck 14 [(1, 1), (1, 0), (1, 1), (1, 0)] [(7, .bool true), (12, .bool false)] fun γ1 => ⟨⟨kt (bdy Try.f56) [1, 0, 1, 0, 1] [], (rless_raw_1_b2 x0 x1 x2 y0 y1 y2 γ1), [(γ1 1, 46, (rless_raw_1_c3 y0 y1 y2)), (γ1 0, 46, (rless_raw_1_c4 x0 x1 x2))]⟩, [(1, γ1 0), (1, γ1 1), (1, γ1 0), (1, γ1 1)], [Value.bool ((x0 : Int) != y0) = .bool true, Value.bool (decide ((x0 : Int) < y0)) = .bool false], by kernel_rfl, (.cons (cnT (by omega)) (.cons (cbF (by omega)) .nil)), ?_⟩
    refine rt (.bool false) [] [] (fun W hW => ?_)
    have hg : ltP (x0, x1, x2) (y0, y1, y2) = false := by
      unfold ltP
      exact decide_eq_false (by simp only; omega)
    rw [hg]
    exact ⟨rfl, (hW.old 0 rfl)⟩
  · skip
    refine enter (args := [.agg #[.int .i64 x0, .int .i64 x1, .int .i64 x2], .agg #[.int .i64 y0, .int .i64 y1, .int .i64 y2]]) (fn := Try.f56) rfl (c := bdy Try.f56) (by kernel_rfl) ?_
    refine ck 19 [(1, 1), (1, 0), (1, 1), (1, 0), (1, 1), (1, 0)] [(7, .bool false), (12, .bool true), (17, .bool true)] fun γ1 => ⟨⟨kt (bdy Try.f56) [1, 1, 0, 1, 0, 1] [], (rless_raw_2_b2 x0 x1 x2 y0 y1 y2 γ1), [(γ1 1, 46, (rless_raw_2_c3 y0 y1 y2)), (γ1 0, 46, (rless_raw_2_c4 x0 x1 x2))]⟩, [(1, γ1 0), (1, γ1 1), (1, γ1 0), (1, γ1 1), (1, γ1 0), (1, γ1 1)], [Value.bool ((x0 : Int) != y0) = .bool false, Value.bool ((x1 : Int) != y1) = .bool true, Value.bool (decide ((x1 : Int) < y1)) = .bool true], by kernel_rfl, (.cons (cnF (by omega)) (.cons (cnT (by omega)) (.cons (cbT (by omega)) .nil))), ?_⟩
    refine rt (.bool true) [] [] (fun W hW => ?_)
    have hg : ltP (x0, x1, x2) (y0, y1, y2) = true := by
      unfold ltP
      exact decide_eq_true (by simp only; omega)
    rw [hg]
    exact ⟨rfl, (hW.old 0 rfl)⟩
  · skip
    refine enter (args := [.agg #[.int .i64 x0, .int .i64 x1, .int .i64 x2], .agg #[.int .i64 y0, .int .i64 y1, .int .i64 y2]]) (fn := Try.f56) rfl (c := bdy Try.f56) (by kernel_rfl) ?_
    refine ck 19 [(1, 1), (1, 0), (1, 1), (1, 0), (1, 1), (1, 0)] [(7, .bool false), (12, .bool true), (17, .bool false)] fun γ1 => ⟨⟨kt (bdy Try.f56) [1, 1, 0, 1, 0, 1] [], (rless_raw_3_b2 x0 x1 x2 y0 y1 y2 γ1), [(γ1 1, 46, (rless_raw_3_c3 y0 y1 y2)), (γ1 0, 46, (rless_raw_3_c4 x0 x1 x2))]⟩, [(1, γ1 0), (1, γ1 1), (1, γ1 0), (1, γ1 1), (1, γ1 0), (1, γ1 1)], [Value.bool ((x0 : Int) != y0) = .bool false, Value.bool ((x1 : Int) != y1) = .bool true, Value.bool (decide ((x1 : Int) < y1)) = .bool false], by kernel_rfl, (.cons (cnF (by omega)) (.cons (cnT (by omega)) (.cons (cbF (by omega)) .nil))), ?_⟩
    refine rt (.bool false) [] [] (fun W hW => ?_)
    have hg : ltP (x0, x1, x2) (y0, y1, y2) = false := by
      unfold ltP
      exact decide_eq_false (by simp only; omega)
    rw [hg]
    exact ⟨rfl, (hW.old 0 rfl)⟩
  · skip
    refine enter (args := [.agg #[.int .i64 x0, .int .i64 x1, .int .i64 x2], .agg #[.int .i64 y0, .int .i64 y1, .int .i64 y2]]) (fn := Try.f56) rfl (c := bdy Try.f56) (by kernel_rfl) ?_
    refine ck 19 [(1, 1), (1, 0), (1, 1), (1, 0), (1, 1), (1, 0)] [(7, .bool false), (12, .bool false), (17, .bool true)] fun γ1 => ⟨⟨kt (bdy Try.f56) [1, 1, 1, 1] [], (rless_raw_4_b2 x0 x1 x2 y0 y1 y2 γ1), [(γ1 1, 46, (rless_raw_4_c3 y0 y1 y2)), (γ1 0, 46, (rless_raw_4_c4 x0 x1 x2))]⟩, [(1, γ1 0), (1, γ1 1), (1, γ1 0), (1, γ1 1), (1, γ1 0), (1, γ1 1)], [Value.bool ((x0 : Int) != y0) = .bool false, Value.bool ((x1 : Int) != y1) = .bool false, Value.bool (decide ((x2 : Int) < y2)) = .bool true], by kernel_rfl, (.cons (cnF (by omega)) (.cons (cnF (by omega)) (.cons (cbT (by omega)) .nil))), ?_⟩
    refine rt (.bool true) [] [] (fun W hW => ?_)
    have hg : ltP (x0, x1, x2) (y0, y1, y2) = true := by
      unfold ltP
      exact decide_eq_true (by simp only; omega)
    rw [hg]
    exact ⟨rfl, (hW.old 0 rfl)⟩
  · skip
    refine enter (args := [.agg #[.int .i64 x0, .int .i64 x1, .int .i64 x2], .agg #[.int .i64 y0, .int .i64 y1, .int .i64 y2]]) (fn := Try.f56) rfl (c := bdy Try.f56) (by kernel_rfl) ?_
    refine ck 19 [(1, 1), (1, 0), (1, 1), (1, 0), (1, 1), (1, 0)] [(7, .bool false), (12, .bool false), (17, .bool false)] fun γ1 => ⟨⟨kt (bdy Try.f56) [1, 1, 1, 1] [], (rless_raw_5_b2 x0 x1 x2 y0 y1 y2 γ1), [(γ1 1, 46, (rless_raw_5_c3 y0 y1 y2)), (γ1 0, 46, (rless_raw_5_c4 x0 x1 x2))]⟩, [(1, γ1 0), (1, γ1 1), (1, γ1 0), (1, γ1 1), (1, γ1 0), (1, γ1 1)], [Value.bool ((x0 : Int) != y0) = .bool false, Value.bool ((x1 : Int) != y1) = .bool false, Value.bool (decide ((x2 : Int) < y2)) = .bool false], by kernel_rfl, (.cons (cnF (by omega)) (.cons (cnF (by omega)) (.cons (cbF (by omega)) .nil))), ?_⟩
    refine rt (.bool false) [] [] (fun W hW => ?_)
    have hg : ltP (x0, x1, x2) (y0, y1, y2) = false := by
      unfold ltP
      exact decide_eq_false (by simp only; omega)
    rw [hg]
    exact ⟨rfl, (hW.old 0 rfl)⟩
theorem rless_b {x0 x1 x2 y0 y1 y2 : Int} {b : Bool} (h : ltP (x0, x1, x2) (y0, y1, y2) = b) (w : World) : Calls Try.prog 56 #[.agg #[.int .i64 x0, .int .i64 x1, .int .i64 x2], .agg #[.int .i64 y0, .int .i64 y1, .int .i64 y2]] w fun e w' => e = .returned (.bool b) ∧ Below w.heap.size w w' := by
  subst h
  exact rless_raw x0 x1 x2 y0 y1 y2 w
end Go.Proofs.Ythcmcekjgecnhac.Sr
